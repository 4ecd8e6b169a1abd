/- The layer of abstract values, joined. -/
import Derived.Test.YtdngdjbgmojcoaaGreatZPR
import Derived.Test.YtdngdjbgmojcoaaGreatZQM
import Derived.Test.YtdngdjbgmojcoaaGreatZK28
import Derived.Test.YtdngdjbgmojcoaaGreatZQ8
namespace Go.Proofs.YtdngdjbgmojcoaaGreat.Pln
set_option linter.all false
set_option maxHeartbeats 16000000
set_option maxRecDepth 8000
open Go Go.VS Tab
attribute [local irreducible] AWp Xp0 Pg X5c Qy Lt Tp FdT Eb
theorem Ydt {α β:Type} (f:Nat->α->β) {l:List α} {i:Nat} (h:i<l.length):(l.take (i+1)).mapIdx f=(l.take i).mapIdx f++[f i l[i]]:=by
 rw[aj h,List.mapIdx_append];simp [Nat.min_eq_left (Nat.le_of_lt h)]
theorem Yfd {u:List UInt8} {q:Pl} (h:Wr u=some q):Sm q:=by
 unfold Wr at h;split at h
 ·cases h;exact Xob
 ·split at h
  ·rename_i h2;cases h;exact X20 (Yej h2).1
  ·cases h
theorem Yfe (b:List UInt8) (hb:b.length<=5000):Xr Tryz.prog 34 [.sl 1 (Xo b) .sh] [] (.tup [hsA ((rqH b).getD Xtd),bool (Ye6 b)]) []:=by
 obtain⟨RA,hRA⟩:∃RA,RA=AV.tup [hsA ((rqH b).getD Xtd),bool (Ye6 b)]:=⟨_,rfl⟩
 rw[<- hRA];obtain⟨Z0,hZ0⟩:∃Z0:List AV,Z0=[.sl 0 [] .nil,i64 0,i64 0,.sl 0 [] .nil,.sl 0 [] .nil,.sl 0 [] .nil,.sl 0 [] .nil,i64 0,i64 0,.sl 0 [] .nil,.sl 0 [] .nil,.sl 0 [] .nil,.sl 0 [] .nil,i64 0,.sl 0 [] .nil,.sl 0 [] .nil,.sl 0 [] .nil,.sl 0 [] .nil,i64 0,i64 0,.sl 0 [] .nil,.sl 0 [] .nil,.sl 0 [] .nil,.sl 0 [] .nil,bool false]:=⟨_,rfl⟩
 have noL:rqH b=none->AV.le (.tup [.agg [.sl 0 [] .nil,i64 0,i64 0,.sl 0 [] .nil,.sl 0 [] .nil,.sl 0 [] .nil,.sl 0 [] .nil,i64 0,i64 0,.sl 0 [] .nil,.sl 0 [] .nil,.sl 0 [] .nil,.sl 0 [] .nil,i64 0,.sl 0 [] .nil,.sl 0 [] .nil,.sl 0 [] .nil,.sl 0 [] .nil,i64 0,i64 0,.sl 0 [] .nil,.sl 0 [] .nil,.sl 0 [] .nil,.sl 0 [] .nil,bool false],bool false]) RA:=fun h=>by
  have e:Ye6 b=false:=by unfold Ye6;rw[h]
  rw[hRA,h,e];exact(Fg _ _).2 ⟨Xrk,.rfl _,trivial⟩
 have hb2:b.length<=1000000:=by omega
 obtain⟨T,y,c1,e1⟩:=Yem b hb2 0 (br _);cases h1:ruW b 0 with
 |none=>
  have eR:rqH b=none:=by unfold rqH;rw[h1]
  rw[h1] at c1;refine Xc 7 Tryz.func34 rfl fun n out _ _=> ?_;simp only[sn,Tryz.ntmps34,simprocAttr];repeat' (first|refine Vk fun K hK=> ?_|apply V0|((first|apply gE|apply gR);simp only[zA,simprocAttr,X0])|(apply Vz;(try refine Or.inr ⟨(by intro h;cases h),?_⟩);(first|refine Xp (.inr rfl) rfl rfl rfl (fun _ _=>rfl) ok35 (k:=n+0) (off:=0) rfl (Xb _ (by simp)) (X6 _ (Nat.le_refl _) 0) rfl rfl ?_|refine Xp (.inr rfl) rfl rfl rfl (fun _ _=>rfl) ok35 (k:=m+0) (off:=0) rfl (Xb _ (by simp)) (X6 _ hm 0) rfl rfl ?_)<;>first|rfl|exact AV.le.rfl _|(simp only[sL];done)|rfl|skip)|(refine X3 (c1) ?_)|(refine hK _ ?_;clear hK K)|refine Vt rfl ?_|clear hK K)
  exact noL eR
 |some t=>
  obtain⟨t,a1⟩:=t;obtain⟨e3,e4⟩:=e1 _ h1;rw[e3,e4] at c1;clear e1 e3 e4;dsimp only at*;obtain⟨i1,i2,i3⟩:=Ydy h1 (br _);have ht:t.length<=5000:=by
   have:=congrArg List.length i1;rw[iz,Xoh,ac,ac] at this;omega
  have cT:=Jw t ht;obtain⟨U,y2,c2,e2⟩:=Yem b hb2 a1 i2;rw[h1] at c1;by_cases hbad:Ei t=false∨ruW b a1=none
  ·have eR:rqH b=none:=by
    unfold rqH;rw[h1];dsimp only;rcases hbad with h|h
    ·rw[if_pos h]
    ·by_cases h':Ei t=false
     ·rw[if_pos h']
     ·rw[if_neg h',h]
   have hbad2:Ei t=false∨(ruW b a1).isSome=false:=by
    rcases hbad with h|h
    ·exact .inl h
    ·exact .inr (by rw[h];rfl)
   clear hbad e2;generalize (ruW b a1).isSome=B2 at*;cases hr:Ei t with
   |false=>
    simp only[hr,bl,if_false,plA] at cT;refine Xc 7 Tryz.func34 rfl fun n out _ _=> ?_;simp only[sn,Tryz.ntmps34,simprocAttr];repeat' (first|refine Vk fun K hK=> ?_|apply V0|apply Vs|((first|apply gE|apply gR);simp only[zA,simprocAttr,plC,X0])|(apply Vz;(try refine Or.inr ⟨(by intro h;cases h),?_⟩);(first|refine Xp (.inr rfl) rfl rfl rfl (fun _ _=>rfl) ok35 (k:=n+0) (off:=0) rfl (Xb _ (by simp)) (X6 _ (Nat.le_refl _) 0) rfl rfl ?_|refine Xp (.inr rfl) rfl rfl rfl (fun _ _=>rfl) ok35 (k:=m+0) (off:=0) rfl (Xb _ (by simp)) (X6 _ hm 0) rfl rfl ?_)<;>first|rfl|exact AV.le.rfl _|(simp only[sL];done)|rfl|skip)|(refine X3 (c1) ?_)|(refine X3 (cT) ?_)|(refine X3 (c2) ?_)|(refine hK _ ?_;clear hK K)|refine Vt rfl ?_|refine Vf rfl ?_|clear hK K)
    all_goals exact noL eR
   |true=>
    simp only[hr,if_true,plA] at cT;obtain rfl:B2=false:=by rcases hbad2 with h|h;rw[hr] at h;cases h;exact h
    refine Xc 7 Tryz.func34 rfl fun n out _ _=> ?_;simp only[sn,Tryz.ntmps34,simprocAttr];repeat' (first|refine Vk fun K hK=> ?_|apply V0|apply Vs|((first|apply gE|apply gR);simp only[zA,simprocAttr,plC,X0])|(apply Vz;(try refine Or.inr ⟨(by intro h;cases h),?_⟩);(first|refine Xp (.inr rfl) rfl rfl rfl (fun _ _=>rfl) ok35 (k:=n+0) (off:=0) rfl (Xb _ (by simp)) (X6 _ (Nat.le_refl _) 0) rfl rfl ?_|refine Xp (.inr rfl) rfl rfl rfl (fun _ _=>rfl) ok35 (k:=m+0) (off:=0) rfl (Xb _ (by simp)) (X6 _ hm 0) rfl rfl ?_)<;>first|rfl|exact AV.le.rfl _|(simp only[sL];done)|rfl|skip)|(refine X3 (c1) ?_)|(refine X3 (cT) ?_)|(refine X3 (c2) ?_)|(refine hK _ ?_;clear hK K)|refine Vt rfl ?_|refine Vf rfl ?_|clear hK K)
    all_goals exact noL eR
  ·obtain⟨hr,hu⟩:=not_or.1 hbad;have hr:Ei t=true:=by simpa using hr
   obtain⟨⟨u,a2⟩,h2⟩:=Option.ne_none_iff_exists'.1 hu;obtain⟨e3,e4⟩:=e2 _ h2;rw[e3,e4] at c2;clear e2 e3 e4;dsimp only at*;obtain⟨j1,j2,j3⟩:=Ydy h2 i2;have hul:u.length<=5000:=by
    have:=congrArg List.length j1;rw[bt,Xoh,ac,ac] at this;omega
   have cU:=Jw u hul;rw[h2] at c2;rw[hr] at cT;simp only[if_true] at cT;have hm:=(Yej hr).1;have sp:=X20 hm;obtain⟨p,hp⟩:∃p,p=rqP t:=⟨_,rfl⟩
   rw[<- hp] at cT hm sp;have eH:rqH b=match Wr u with
    |none=>none
    |some q=>match nmS b a2 (1+p.pts.length+2*p.rts.length) with
     |none=>none
     |some e=>if e.1=b.length then some (mkH p q e.2) else none:=by
    unfold rqH;rw[h1];dsimp only;rw[hr,if_neg (by decide),h2];dsimp only;rw[hp];rfl
   clear hbad hu hp i1 j1;simp only[plA,plC] at cT;cases h3:Wr u with
   |none=>
    rw[h3] at eH;have hu0:u≠[]:=fun h=>by rw[h] at h3;cases h3
    have hur:Ei u=false:=by
     unfold Wr at h3;rw[if_neg hu0] at h3;cases hq:Ei u with
     |false=>rfl
     |true=>rw[hq,if_pos rfl] at h3;cases h3
    have hpos:(0:Int)<(u.length:Int):=by have:=eh.2 hu0;omega
    have hposN:0<u.length:=by omega
    simp only[hur,bl,if_false,plA] at cU;refine Xc 7 Tryz.func34 rfl fun n out _ _=> ?_;simp only[sn,Tryz.ntmps34,simprocAttr];repeat' (first|refine Vk fun K hK=> ?_|apply V0|apply Vs|((first|apply gE|apply gR);simp only[zA,simprocAttr,X0,X5,gt_iff_lt,hpos,plC])|(apply Vz;(try refine Or.inr ⟨(by intro h;cases h),?_⟩);(first|refine Xp (.inr rfl) rfl rfl rfl (fun _ _=>rfl) ok35 (k:=n+0) (off:=0) rfl (Xb _ (by simp)) (X6 _ (Nat.le_refl _) 0) rfl rfl ?_|refine Xp (.inr rfl) rfl rfl rfl (fun _ _=>rfl) ok35 (k:=m+0) (off:=0) rfl (Xb _ (by simp)) (X6 _ hm 0) rfl rfl ?_)<;>first|rfl|exact AV.le.rfl _|(simp only[sL];done)|rfl|skip)|(refine X3 (c1) ?_)|(refine X3 (cT) ?_)|(refine X3 (c2) ?_)|(refine X3 (cU) ?_)|(refine hK _ ?_;clear hK K)|refine Vt rfl ?_|refine Vf rfl ?_|clear hK K)
    all_goals exact noL eH
   |some q=>
    have sq:=Yfd h3;rw[h3] at eH;dsimp only at eH;have hpl:=sp.pts;have hrl:=sp.rts;have hsl:=sp.secs;have w1:IntKind.i64.wrap (1+(p.pts.length:Int))=((1+p.pts.length:Nat):Int):=by rw[wrap_i64]<;>omega
    have w2:IntKind.i64.wrap (2*(p.rts.length:Int))=((2*p.rts.length:Nat):Int):=by rw[wrap_i64]<;>omega
    have w3:IntKind.i64.wrap (((1+p.pts.length:Nat):Int)+((2*p.rts.length:Nat):Int))=((1+p.pts.length+2*p.rts.length:Nat):Int):=by rw[wrap_i64]<;>omega
    have cN:=Yef b hb2 a2 (1+p.pts.length+2*p.rts.length) j2 (by omega);refine Xc 7 Tryz.func34 rfl fun n out _ _=> ?_;simp only[sn,Tryz.ntmps34,simprocAttr];repeat' (first|refine Vk fun K hK=> ?_|apply V0|apply Vs|((first|apply gE|apply gR);simp only[zA,simprocAttr,X0])|(refine X3 (c1) ?_)|(refine X3 (cT) ?_)|(refine hK _ ?_;clear hK K)|refine Vf rfl ?_)
    refine X3 c2 ?_;simp only[zA,simprocAttr]
    (refine hK _ ?_;clear hK K)
    refine Vk fun KB hKB=> ?_;repeat' (first|refine Vk fun K hK=> ?_|apply V0|apply Vs|((first|apply gE);simp only[zA,simprocAttr])|(refine hK _ ?_;clear hK K)|refine Vf rfl ?_)
    refine hKB _ ?_;clear hKB KB;refine Vy fun K hK=> ?_;simp only[zA,simprocAttr,X0]
    (refine hK _ ?_;clear hK K)
    refine Xr9 [some (.box 35 Z0),some (.box 28 (plC p)),some (.box 35 [.sl 0 [] .nil,i64 p.ver,i64 p.par,.sl 3 (p.secs.map Y6) .sh,.sl 2 (p.pts.map jnC) .sh,.sl 3 (p.sgs.map sgC) .sh,.sl 7 (p.rts.map rtC) .sh,i64 0,i64 0,.sl 0 [] .nil,.sl 0 [] .nil,.sl 0 [] .nil,.sl 0 [] .nil,i64 0,.sl 0 [] .nil,.sl 0 [] .nil,.sl 0 [] .nil,.sl 0 [] .nil,i64 0,i64 0,.sl 0 [] .nil,.sl 0 [] .nil,.sl 0 [] .nil,.sl 0 [] .nil,bool false]),none,none,none,none] (by rw[hZ0];rfl) ?_;refine Qf [(8,i64 0),(3,.top),(51,.top),(52,.top),(53,.top),(54,.top),(55,.top),(56,.top),(57,.top),(58,.top),(59,.top),(60,.top),(61,.top),(62,.top)] [some (.box 35 Z0),some (.box 28 (plC p)),some (.box 35 [.sl 0 [] .nil,i64 p.ver,i64 p.par,.sl 3 (p.secs.map Y6) .sh,.sl 2 (p.pts.map jnC) .sh,.sl 3 (p.sgs.map sgC) .sh,.sl 7 (p.rts.map rtC) .sh,i64 q.ver,i64 q.par,.sl 3 (q.secs.map Y6) .sh,.sl 2 (q.pts.map jnC) .sh,.sl 3 (q.sgs.map sgC) .sh,.sl 7 (q.rts.map rtC) .sh,i64 0,.sl 0 [] .nil,.sl 0 [] .nil,.sl 0 [] .nil,.sl 0 [] .nil,i64 0,i64 0,.sl 0 [] .nil,.sl 0 [] .nil,.sl 0 [] .nil,.sl 0 [] .nil,bool false]),none,none,none,none] out (id ?_) ?_;rotate_left
    ·by_cases hu0:u=[]
     ·have e:q=Aq:=by
       unfold Wr at h3;rw[if_pos hu0] at h3;cases h3;rfl
      rw[hu0,e];have bn:Xo []=[]:=rfl;repeat' (first|refine Vk fun K hK=> ?_|apply V0|apply Vs|with_reducible apply ab|((first|apply gE);simp only[zA,simprocAttr,bn,gt_iff_lt])|(refine hK _ ?_;clear hK K)|refine Vf rfl ?_|(refine Or.inl ⟨rfl,?_⟩;refine La rfl ?_ ?_<;>simp only[sL,bn]))
      all_goals (first|exact .rfl _|simp only[Aq,ag,sL])
     ·unfold Wr at h3;rw[if_neg hu0] at h3;have hpos:(0:Int)<(u.length:Int):=by have:=eh.2 hu0;omega
      have hposN:0<u.length:=by omega
      cases hq:Ei u with
      |false=>rw[hq] at h3;simp at h3
      |true=>
       rw[hq,if_pos rfl] at h3;injection h3 with h3
       simp only[hq,if_true,h3,plA,plC] at cU;repeat' (first|refine Vk fun K hK=> ?_|apply V0|apply Vs|((first|apply gE|apply gR);simp only[zA,simprocAttr,X5,gt_iff_lt,hpos])|(refine X3 (cU) ?_)|(refine hK _ ?_;clear hK K)|refine Vt rfl ?_|refine Vf rfl ?_|(refine Or.inl ⟨rfl,?_⟩;refine La rfl ?_ ?_<;>simp only[sL]))
    simp only[pt];refine Yy (Q9 (i:=3) 77 2 rfl) ?_;refine Yy (Q9 (i:=4) 63 3 rfl) ?_;refine Yy (Q9 (i:=5) 65 4 rfl) ?_;simp only[s_0,s_s];clear c1 cT c2 cU h1 h2 h3;cases h4:nmS b a2 (1+p.pts.length+2*p.rts.length) with
    |none=>
     rw[h4] at cN eH;simp only[Option.getD_none,Option.isSome_none,ag] at cN;repeat' (first|refine Vk fun K hK=> ?_|apply V0|((first|apply gE|apply gR);simp only[zA,simprocAttr,plC,X0,hZ0,w1,w2,w3])|(apply Vz;(try refine Or.inr ⟨(by intro h;cases h),?_⟩);(first|refine Xp (.inr rfl) rfl rfl rfl (fun _ _=>rfl) ok35 (k:=n+0) (off:=0) rfl (Xb _ (by simp)) (X6 _ (Nat.le_refl _) 0) rfl rfl ?_|refine Xp (.inr rfl) rfl rfl rfl (fun _ _=>rfl) ok35 (k:=m+0) (off:=0) rfl (Xb _ (by simp)) (X6 _ hm 0) rfl rfl ?_)<;>first|rfl|exact AV.le.rfl _|(simp only[sL];done)|rfl|skip)|(refine X3 (cN) ?_)|(refine hK _ ?_;clear hK K)|refine Vt rfl ?_|clear hK K)
     exact noL eH
    |some e=>
     obtain⟨a3,l⟩:=e;obtain⟨k1,k2,k3,k4⟩:=Ydz j2 h4;rw[h4] at cN eH;simp only[Option.getD_some,Option.isSome_some] at cN;dsimp only at eH;by_cases h5:a3=b.length
     case neg=>
      rw[if_neg h5] at eH;have hne:((a3:Int) !=(b.length:Int))=true:=by simp;omega
      repeat' (first|refine Vk fun K hK=> ?_|apply V0|((first|apply gE|apply gR);simp only[zA,simprocAttr,plC,X0,X5,hZ0,w1,w2,w3,hne])|(apply Vz;(try refine Or.inr ⟨(by intro h;cases h),?_⟩);(first|refine Xp (.inr rfl) rfl rfl rfl (fun _ _=>rfl) ok35 (k:=n+0) (off:=0) rfl (Xb _ (by simp)) (X6 _ (Nat.le_refl _) 0) rfl rfl ?_|refine Xp (.inr rfl) rfl rfl rfl (fun _ _=>rfl) ok35 (k:=m+0) (off:=0) rfl (Xb _ (by simp)) (X6 _ hm 0) rfl rfl ?_)<;>first|rfl|exact AV.le.rfl _|(simp only[sL];done)|rfl|skip)|(refine X3 (cN) ?_)|(refine hK _ ?_;clear hK K)|refine Vt rfl ?_|clear hK K)
      exact noL eH
     subst h5;rw[if_pos rfl] at eH;have hne:((b.length:Int) !=(b.length:Int))=false:=by simp
     have gd:∀k,k<l.length->(l.map Ym).getD k []=[i64 (l.getD k 0)]:=fun k hk=>by
      rw[Xg Ym l k [] hk,af,ah hk];rfl
     have l0:0<l.length:=by omega
     have g0:=gd 0 l0;repeat' (first|refine Vk fun K hK=> ?_|apply V0|apply Vs|((first|apply gE|apply gR);simp only[zA,simprocAttr,plC,X5,w1,w2,w3,hne,g0,l0])|(refine X3 (cN) ?_)|(refine hK _ ?_;clear hK K)|refine Vf rfl ?_)
     refine Xr9 [some (.box 35 Z0),some (.box 28 (plC p)),some (.box 35 [.sl 0 [] .nil,i64 p.ver,i64 p.par,.sl 3 (p.secs.map Y6) .sh,.sl 2 (p.pts.map jnC) .sh,.sl 3 (p.sgs.map sgC) .sh,.sl 7 (p.rts.map rtC) .sh,i64 q.ver,i64 q.par,.sl 3 (q.secs.map Y6) .sh,.sl 2 (q.pts.map jnC) .sh,.sl 3 (q.sgs.map sgC) .sh,.sl 7 (q.rts.map rtC) .sh,i64 (l.getD 0 0),.sl 0 [] .nil,.sl 0 [] .nil,.sl 0 [] .nil,.sl 0 [] .nil,i64 0,i64 0,.sl 0 [] .nil,.sl 0 [] .nil,.sl 0 [] .nil,.sl 0 [] .nil,bool false]),some (.row 77 2 0),some (.row 63 3 0),some (.row 65 4 0),none] rfl ?_;apply V5;refine Xrd (p.secs.length) (fun m i=>tr 92 21 [(16,i64 (i:Int)),(2,.ptr (m+0) 0),(7,.ptr (m+1) 0),(12,.ptr (m+2) 0)]) (fun m i=>[some (.box 35 Z0),some (.box 28 (plC p)),some (.box 35 [.sl 0 [] .nil,i64 p.ver,i64 p.par,.sl 3 (p.secs.map Y6) .sh,.sl 2 (p.pts.map jnC) .sh,.sl 3 (p.sgs.map sgC) .sh,.sl 7 (p.rts.map rtC) .sh,i64 q.ver,i64 q.par,.sl 3 (q.secs.map Y6) .sh,.sl 2 (q.pts.map jnC) .sh,.sl 3 (q.sgs.map sgC) .sh,.sl 7 (q.rts.map rtC) .sh,i64 (l.getD 0 0),.sl 2 ((p.secs.take i).map fun x=>tkC (atT x)) (.own (m+3)),.sl 0 [] .nil,.sl 0 [] .nil,.sl 0 [] .nil,i64 0,i64 0,.sl 0 [] .nil,.sl 0 [] .nil,.sl 0 [] .nil,.sl 0 [] .nil,bool false]),some (.row 77 2 i),some (.row 63 3 0),some (.row 65 4 0),none]) ?_ fun m i hm hi=> ?_
     ·refine X2 ?_ ?_ (by first|rfl|(simp only[plC,List.take_zero,ag];rfl)|simp only[plC,List.take_zero,ag]) rfl rfl rfl<;>simp only[sL,plC,ag]
     simp only[pt];have hw:=Yl (n:=i) 1 1 rfl (by omega);by_cases hlt:i<p.secs.length
     ·have gi:=Xg Y6 p.secs i [] hlt;have hsw:=Xoi (fun x=>tkC (atT x)) hlt;have lit:∀(σ:AState) (K:AV->List (Nat×Res)->Prop),X1 tab σ K none 29 1 [(0,.agg [i64 p.secs[i].id,.val (.int .u8 2)])]=K (.sl 2 [tkC (atT p.secs[i])] .full) []:=fun σ K=>Yk (T:=tab) (ti:=ti29) (te:=ti77) rfl rfl rfl (by decide) (by decide) rfl rfl;have z1:(i+1)*16<=140737488355328:=by omega
      have z3:i<=9223372036854775806:=by omega
      repeat' (first|refine Vk fun K hK=> ?_|apply V0|apply Vr|apply Vs|refine Vd 20 [] [[],[],[2],[],[1],[],[],[],[],[],[],[3],[],[],[2]] [[],[],[],[],[],[],[],[],[],[],[],[3],[],[],[2]] (by kernel_rfl) (by decide) (by decide) (by kernel_rfl) ?_|((first|apply gE|apply gD);simp only[zB,simprocAttr,lit,Xi hm,plC,Y6,ba,Nat.min_eq_left hi,hlt,gi,X0,hw,z1,z3])|(refine hK _ ?_;clear hK K)|refine Vt rfl ?_|clear hK K)
      rw[hsw];refine⟨i+1,by omega,by omega,?_⟩;refine Xx [true,true,true,true,true,true,false] ?_ ?_<;>intro n_<;>simp only[sM]
     obtain rfl:i=p.secs.length:=by omega
     rw[bi];clear hw hi hlt;repeat' (first|refine Vk fun K hK=> ?_|apply V0|((first|apply gE);simp only[zA,simprocAttr,Xi hm,plC,Nat.lt_irrefl])|(apply Vx;simp only[sb])|(refine hK _ ?_;clear hK K)|refine Vf rfl ?_|clear hK K)
     obtain⟨SW,hSW⟩:∃SW:Nat->List (Int×Int×Int),SW=fun i=>(p.pts.take i).mapIdx (swZ l):=⟨_,rfl⟩
     have SW0:(SW 0).map sgC=[]:=by rw[hSW];rfl
     have SWl:∀i,i<=p.pts.length->(SW i).length=i:=fun i hi=>by rw[hSW];simp;omega
     have SWs:∀i (hi:i<p.pts.length),(SW i).map sgC++[[i64 p.pts[i].1,i64 0,i64 (l.getD (1+i) 0)]]=(SW (i+1)).map sgC:=fun i hi=>by
      rw[hSW];dsimp only;rw[Ydt _ hi,aw];rfl
     have SWn:SW p.pts.length=p.pts.mapIdx (swZ l):=by rw[hSW];dsimp only;rw[List.take_length]
     clear hSW;apply V5;refine Xrd (p.pts.length) (fun m i=>tr 113 26 [(17,i64 (i:Int)),(2,.ptr (m+0) 0),(7,.ptr (m+1) 0),(12,.ptr (m+2) 0)]) (fun m i=>[some (.box 35 Z0),some (.box 28 (plC p)),some (.box 35 [.sl 0 [] .nil,i64 p.ver,i64 p.par,.sl 3 (p.secs.map Y6) .sh,.sl 2 (p.pts.map jnC) .sh,.sl 3 (p.sgs.map sgC) .sh,.sl 7 (p.rts.map rtC) .sh,i64 q.ver,i64 q.par,.sl 3 (q.secs.map Y6) .sh,.sl 2 (q.pts.map jnC) .sh,.sl 3 (q.sgs.map sgC) .sh,.sl 7 (q.rts.map rtC) .sh,i64 (l.getD 0 0),.sl 2 (p.secs.map fun x=>tkC (atT x)) (.own (m+3)),.sl 3 ((SW i).map sgC) (.own (m+4)),.sl 0 [] .nil,.sl 0 [] .nil,i64 0,i64 0,.sl 0 [] .nil,.sl 0 [] .nil,.sl 0 [] .nil,.sl 0 [] .nil,bool false]),some (.row 77 2 p.secs.length),some (.row 63 3 i),some (.row 65 4 0),none]) ?_ fun m i hm hi=> ?_
     ·refine X2 ?_ ?_ (by first|rfl|(simp only[plC,SW0];rfl)|simp only[plC,SW0]) rfl rfl rfl<;>simp only[sL,plC,SW0]
     simp only[pt];have hw:=Yl (n:=i) 1 1 rfl (by omega);by_cases hlt:i<p.pts.length
     ·have gi:=Xg jnC p.pts i [] hlt;have hsw:=SWs i hlt;have wl:=SWl i hi;have w4:IntKind.i64.wrap (1+(i:Int))=((1+i:Nat):Int):=by rw[wrap_i64]<;>omega
      have hl1:1+i<l.length:=by omega
      have hl1':((1+i:Nat):Int)<(l.length:Int):=by omega
      have gl:=gd (1+i) hl1;have lit:∀(σ:AState) (K:AV->List (Nat×Res)->Prop),X1 tab σ K none 30 1 [(0,.agg [i64 p.pts[i].1,.val (.int .i64 0),i64 (l.getD (1+i) 0)])]=K (.sl 3 [[i64 p.pts[i].1,i64 0,i64 (l.getD (1+i) 0)]] .full) []:=fun σ K=>Yk (T:=tab) (ti:=ti30) (te:=ti63) rfl rfl rfl (by decide) (by decide) rfl rfl;have z1:(i+1)*24<=140737488355328:=by omega
      have z3:i<=9223372036854775806:=by omega
      repeat' (first|refine Vk fun K hK=> ?_|apply V0|apply Vr|apply Vs|refine Vd 24 [] [[],[],[2],[],[1],[],[],[],[],[],[],[],[],[],[],[],[4],[],[],[2]] [[],[],[],[],[],[],[],[],[],[],[],[],[],[],[],[],[4],[],[],[2]] (by kernel_rfl) (by decide) (by decide) (by kernel_rfl) ?_|((first|apply gE|apply gD);simp only[zB,simprocAttr,lit,Xi hm,plC,jnC,wl,hlt,gi,gl,hl1,w4,X0,hw,z1,z3])|(refine hK _ ?_;clear hK K)|refine Vt rfl ?_|clear hK K)
      rw[hsw];refine⟨i+1,by omega,by omega,?_⟩;refine Xx [true,true,true,true,true,true,false] ?_ ?_<;>intro n_<;>simp only[sM]
     obtain rfl:i=p.pts.length:=by omega
     clear hw hi hlt;repeat' (first|refine Vk fun K hK=> ?_|apply V0|((first|apply gE);simp only[zA,simprocAttr,Xi hm,plC,Nat.lt_irrefl])|(apply Vx;simp only[sb])|(refine hK _ ?_;clear hK K)|refine Vf rfl ?_|clear hK K)
     obtain⟨LK,hLK⟩:∃LK:Nat->List (Int×UInt8×Int×Int),LK=fun i=>(p.rts.take i).mapIdx (lkZ l p.pts.length):=⟨_,rfl⟩
     have LK0:(LK 0).map lkC=[]:=by rw[hLK];rfl
     have LKl:∀i,i<=p.rts.length->(LK i).length=i:=fun i hi=>by rw[hLK];simp;omega
     have LKs:∀i (hi:i<p.rts.length),(LK i).map lkC++[lkC (lkZ l p.pts.length i p.rts[i])]=(LK (i+1)).map lkC:=fun i hi=>by
      rw[hLK];dsimp only;rw[Ydt _ hi,aw];rfl
     have LKn:LK p.rts.length=p.rts.mapIdx (lkZ l p.pts.length):=by rw[hLK];dsimp only;rw[List.take_length]
     clear hLK;apply V5;refine Xrd (p.rts.length) (fun m i=>tp [19,20] (tr 139 58 [(18,i64 (i:Int)),(2,.ptr (m+0) 0),(7,.ptr (m+1) 0),(12,.ptr (m+2) 0)])) (fun m i=>[some (.box 35 Z0),some (.box 28 (plC p)),some (.box 35 [.sl 0 [] .nil,i64 p.ver,i64 p.par,.sl 3 (p.secs.map Y6) .sh,.sl 2 (p.pts.map jnC) .sh,.sl 3 (p.sgs.map sgC) .sh,.sl 7 (p.rts.map rtC) .sh,i64 q.ver,i64 q.par,.sl 3 (q.secs.map Y6) .sh,.sl 2 (q.pts.map jnC) .sh,.sl 3 (q.sgs.map sgC) .sh,.sl 7 (q.rts.map rtC) .sh,i64 (l.getD 0 0),.sl 2 (p.secs.map fun x=>tkC (atT x)) (.own (m+3)),.sl 3 ((SW p.pts.length).map sgC) (.own (m+4)),.sl 4 ((LK i).map lkC) (.own (m+5)),.sl 0 [] .nil,i64 0,i64 0,.sl 0 [] .nil,.sl 0 [] .nil,.sl 0 [] .nil,.sl 0 [] .nil,bool false]),some (.row 77 2 p.secs.length),some (.row 63 3 p.pts.length),some (.row 65 4 i),none]) ?_ fun m i hm hi=> ?_
     ·refine X2 ?_ ?_ (by first|rfl|(simp only[plC,LK0];rfl)|simp only[plC,LK0]) rfl rfl rfl<;>simp only[sL,plC,LK0]
     simp only[pt];have hw:=Yl (n:=i) 1 1 rfl (by omega);by_cases hlt:i<p.rts.length
     ·have gi:=Xg rtC p.rts i [] hlt;have hsl:=LKs i hlt;have ll:=LKl i hi;have w4:IntKind.i64.wrap (2*(i:Int))=((2*i:Nat):Int):=by rw[wrap_i64]<;>omega
      have w5:IntKind.i64.wrap (((1+p.pts.length:Nat):Int)+((2*i:Nat):Int))=((1+p.pts.length+2*i:Nat):Int):=by rw[wrap_i64]<;>omega
      have w6:IntKind.i64.wrap (2+(p.pts.length:Int))=((2+p.pts.length:Nat):Int):=by rw[wrap_i64]<;>omega
      have w7:IntKind.i64.wrap (((2+p.pts.length:Nat):Int)+((2*i:Nat):Int))=((2+p.pts.length+2*i:Nat):Int):=by rw[wrap_i64]<;>omega
      have hl1:1+p.pts.length+2*i<l.length:=by omega
      have hl2:2+p.pts.length+2*i<l.length:=by omega
      have hl1':((1+p.pts.length+2*i:Nat):Int)<(l.length:Int):=by omega
      have hl2':((2+p.pts.length+2*i:Nat):Int)<(l.length:Int):=by omega
      have gl1:=gd _ hl1;have gl2:=gd _ hl2;have hz:nOk (l.getD (1+p.pts.length+2*i) 0):=k4 _ (by
       rw[af,ah hl1];exact a8 hl1)
      unfold lkZ at hsl;generalize l.getD (1+p.pts.length+2*i) 0=z at*;generalize l.getD (2+p.pts.length+2*i) 0=g at*;have w8:IntKind.u8.wrap (min z 9)=((UInt8.ofNat (min z 9).toNat).toNat:Int):=by
       have:=hz.1;rw[de,Se (by omega) (by omega)];omega
      have w9:(if (9:Int)<z then(9:Int) else z)=min z 9:=by split<;>omega
      generalize UInt8.ofNat (min z 9).toNat=ph at*;have lit:∀(σ:AState) (K:AV->List (Nat×Res)->Prop) (J:Int×UInt8×Int×Int),X1 tab σ K none 31 1 [(0,.agg [i64 J.1,b8 J.2.1,i64 J.2.2.1,i64 J.2.2.2])]=K (.sl 4 [[i64 J.1,b8 J.2.1,i64 J.2.2.1,i64 J.2.2.2]] .full) []:=fun σ K J=>Yk (T:=tab) (ti:=ti31) (te:=ti65) rfl rfl rfl (by decide) (by decide) rfl rfl;have z1:(i+1)*32<=140737488355328:=by omega
      have z3:i<=9223372036854775806:=by omega
      obtain⟨J,hJ⟩:∃J,J=(p.rts[i].id,ph,g,if z=3∨z=4 then p.rts[i].timer else 0):=⟨_,rfl⟩
      rw[<- hJ] at hsl;by_cases h34:z=3∨z=4
      ·rw[if_pos h34] at hJ;have lt:=fun σ K=>lit σ K (p.rts[i].id,ph,g,p.rts[i].timer);dsimp only at lt;rw[hJ] at hsl;simp only[lkC] at hsl;by_cases h3:z=3
       ·have e3:(z==3)=true:=by simpa using h3
        repeat' (first|refine Vk fun K hK=> ?_|apply V0|apply Vb|apply Vs|refine Vd 29 [] [[],[1],[],[],[],[],[],[],[],[],[],[1],[],[],[],[],[],[],[],[],[6],[6]] [[],[],[],[],[],[],[],[],[],[],[],[],[],[],[],[],[],[],[],[],[6],[6]] (by kernel_rfl) (by decide) (by decide) (by kernel_rfl) ?_|((first|apply gE|apply gD);simp only[zB,simprocAttr,lt,Xi hm,plC,rtC,ll,hlt,gi,gl1,gl2,hl1,hl2,w1,w4,w5,w6,w7,w8,w9,e3,X0,hw,z1,z3])|(refine hK _ ?_;clear hK K)|refine Vt rfl ?_|clear hK K)
        rw[hsl];refine⟨i+1,by omega,by omega,?_⟩;refine Xx [true,true,true,true,true,true,false] ?_ ?_<;>intro n_<;>simp only[sM]
       ·have e3:(z==3)=false:=by simpa using h3
        have e4:(z==4)=true:=by simpa using h34.resolve_left h3
        repeat' (first|refine Vk fun K hK=> ?_|apply V0|apply Vb|apply Vs|refine Vd 29 [] [[],[1],[],[],[],[],[],[],[],[],[],[1],[],[],[],[],[],[],[],[],[6],[6]] [[],[],[],[],[],[],[],[],[],[],[],[],[],[],[],[],[],[],[],[],[6],[6]] (by kernel_rfl) (by decide) (by decide) (by kernel_rfl) ?_|((first|apply gE|apply gD);simp only[zB,simprocAttr,lt,Xi hm,plC,rtC,ll,hlt,gi,gl1,gl2,hl1,hl2,w1,w4,w5,w6,w7,w8,w9,e3,e4,X0,hw,z1,z3])|(refine hK _ ?_;clear hK K)|refine Vt rfl ?_|clear hK K)
        rw[hsl];refine⟨i+1,by omega,by omega,?_⟩;refine Xx [true,true,true,true,true,true,false] ?_ ?_<;>intro n_<;>simp only[sM]
      ·rw[if_neg h34] at hJ;obtain⟨h3,h4⟩:=not_or.1 h34;have e3:(z==3)=false:=by simpa using h3
       have e4:(z==4)=false:=by simpa using h4
       have lt:=fun σ K=>lit σ K (p.rts[i].id,ph,g,0);dsimp only at lt;rw[hJ] at hsl;simp only[lkC] at hsl;repeat' (first|refine Vk fun K hK=> ?_|apply V0|apply Vb|apply Vs|refine Vd 29 [] [[],[1],[],[],[],[],[],[],[],[],[],[1],[],[],[],[],[],[],[],[],[6],[6]] [[],[],[],[],[],[],[],[],[],[],[],[],[],[],[],[],[],[],[],[],[6],[6]] (by kernel_rfl) (by decide) (by decide) (by kernel_rfl) ?_|((first|apply gE|apply gD);simp only[zB,simprocAttr,lt,Xi hm,plC,rtC,ll,hlt,gi,gl1,gl2,hl1,hl2,w1,w4,w5,w6,w7,w8,w9,e3,e4,X0,hw,z1,z3])|(refine hK _ ?_;clear hK K)|refine Vt rfl ?_|refine Vf rfl ?_|clear hK K)
       rw[hsl];refine⟨i+1,by omega,by omega,?_⟩;refine Xx [true,true,true,true,true,true,false] ?_ ?_<;>intro n_<;>simp only[sM]
     obtain rfl:i=p.rts.length:=by omega
     clear hw hi hlt;obtain⟨X,hX⟩:∃X:Hs,X=mkH p q l:=⟨_,rfl⟩
     have sX:SmH X:=by
      rw[hX];exact⟨sp,sq,Xob,⟨by show(List.map _ _).length<= _;simp;omega,by show(List.mapIdx _ _).length<= _;simp;omega,by show(List.mapIdx _ _).length<= _;simp;omega⟩,br _,br _⟩
     have eX:hsA X= .agg [.sl 1 [] .sh,i64 p.ver,i64 p.par,.sl 3 (p.secs.map Y6) .sh,.sl 2 (p.pts.map jnC) .sh,.sl 3 (p.sgs.map sgC) .sh,.sl 7 (p.rts.map rtC) .sh,i64 q.ver,i64 q.par,.sl 3 (q.secs.map Y6) .sh,.sl 2 (q.pts.map jnC) .sh,.sl 3 (q.sgs.map sgC) .sh,.sl 7 (q.rts.map rtC) .sh,i64 (l.getD 0 0),.sl 2 (p.secs.map fun x=>tkC (atT x)) .sh,.sl 3 ((SW p.pts.length).map sgC) .sh,.sl 4 ((LK p.rts.length).map lkC) .sh,.sl 1 [] .sh,i64 0,i64 0,.sl 3 [] .sh,.sl 2 [] .sh,.sl 3 [] .sh,.sl 7 [] .sh,bool false]:=by
      rw[hX,SWn,LKn];simp only[mkH,hsA,hsC,Wb,gr,Aq,ag];rfl
     have lx:AV.le (.agg [.sl 0 [] .nil,i64 p.ver,i64 p.par,.sl 3 (p.secs.map Y6) .sh,.sl 2 (p.pts.map jnC) .sh,.sl 3 (p.sgs.map sgC) .sh,.sl 7 (p.rts.map rtC) .sh,i64 q.ver,i64 q.par,.sl 3 (q.secs.map Y6) .sh,.sl 2 (q.pts.map jnC) .sh,.sl 3 (q.sgs.map sgC) .sh,.sl 7 (q.rts.map rtC) .sh,i64 (l.getD 0 0),.sl 2 (p.secs.map fun x=>tkC (atT x)) (.own (m+3)),.sl 3 ((SW p.pts.length).map sgC) (.own (m+4)),.sl 4 ((LK p.rts.length).map lkC) (.own (m+5)),.sl 0 [] .nil,i64 0,i64 0,.sl 0 [] .nil,.sl 0 [] .nil,.sl 0 [] .nil,.sl 0 [] .nil,bool false]) (hsA X):=by rw[eX];simp only[sL]
     have cM:=Xdb (args':=[.agg [.sl 0 [] .nil,i64 p.ver,i64 p.par,.sl 3 (p.secs.map Y6) .sh,.sl 2 (p.pts.map jnC) .sh,.sl 3 (p.sgs.map sgC) .sh,.sl 7 (p.rts.map rtC) .sh,i64 q.ver,i64 q.par,.sl 3 (q.secs.map Y6) .sh,.sl 2 (q.pts.map jnC) .sh,.sl 3 (q.sgs.map sgC) .sh,.sl 7 (q.rts.map rtC) .sh,i64 (l.getD 0 0),.sl 2 (p.secs.map fun x=>tkC (atT x)) (.own (m+3)),.sl 3 ((SW p.pts.length).map sgC) (.own (m+4)),.sl 4 ((LK p.rts.length).map lkC) (.own (m+5)),.sl 0 [] .nil,i64 0,i64 0,.sl 0 [] .nil,.sl 0 [] .nil,.sl 0 [] .nil,.sl 0 [] .nil,bool false]]) (Yfc X sX) ⟨lx,trivial⟩;have eRA:RA= .tup [hsA X,bool (Xo9 X)]:=by
      rw[hRA];unfold Ye6;rw[eH,<- hX];rfl
     clear hRA noL eH eX;generalize Xo9 X=D at*;repeat' (first|refine Vk fun K hK=> ?_|apply V0|refine Vd 33 [] [[2],[2],[],[0],[]] [[],[],[],[0],[]] (by kernel_rfl) (by decide) (by decide) (by kernel_rfl) ?_|((first|apply gE|apply gD|apply gF);simp only[zA,simprocAttr,Xi hm,plC,Nat.lt_irrefl,X0,hZ0,Y1g])|(apply Vz;(try refine Or.inr ⟨(by intro h;cases h),?_⟩);(first|refine Xp (.inr rfl) rfl rfl rfl (fun _ _=>rfl) ok35 (k:=n+0) (off:=0) rfl (Xb _ (by simp)) (X6 _ (Nat.le_refl _) 0) rfl rfl ?_|refine Xp (.inr rfl) rfl rfl rfl (fun _ _=>rfl) ok35 (k:=m+0) (off:=0) rfl (Xb _ (by simp)) (X6 _ hm 0) rfl rfl ?_)<;>first|rfl|exact AV.le.rfl _|(simp only[sL];done)|rfl|skip)|(refine X3 (cM) ?_)|(apply Vx;simp only[sb])|(refine hK _ ?_;clear hK K)|refine Vf rfl ?_|clear hK K)
     rw[eRA];exact(Fg _ _).2 ⟨lx,.rfl _,trivial⟩
theorem Yhs (b:List UInt8) (hb:b.length<=5000):Xr Tryz.prog 12 [.sl 1 (Xo b) .sh] [] (.tup [hsA (Ygh b),i64 (if Ye6 b then 0 else 8)]) []:=by
 have c:=Yfe b hb;have e:Ygh b=if Ye6 b then(rqH b).getD Xtd else Xtd:=by
  unfold Ygh Ye6;cases rqH b with
  |none=>rfl
  |some h=>rfl
 rw[e];clear e;generalize (rqH b).getD Xtd=H at*;simp only[hsA,hsC] at c;cases ht:Ye6 b with
 |false=>
  rw[ht] at c;rw[if_neg ew,if_neg ew];obtain⟨RA,hRA⟩:∃RA,RA=AV.tup [hsA Xtd,i64 8]:=⟨_,rfl⟩
  rw[<- hRA];refine Xc 3 Tryz.func12 rfl fun n out _ _=> ?_;simp only[sn,Tryz.ntmps12,simprocAttr];repeat' (first|refine Vk fun K hK=> ?_|apply V0|((first|apply gE|apply gR);simp only[zA,simprocAttr,X0])|(apply Vz;(first|refine Xp (.inr rfl) rfl rfl rfl (fun _ _=>rfl) ok35 (k:=n+0) (off:=0) rfl (Xb _ (by simp)) (X6 _ (Nat.le_refl _) 0) rfl rfl ?_|refine Xp (.inr rfl) rfl rfl rfl (fun _ _=>rfl) ok35 (k:=m+0) (off:=0) rfl (Xb _ (by simp)) (X6 _ hm 0) rfl rfl ?_)<;>first|rfl|exact AV.le.rfl _|(simp only[sL];done)|rfl|skip)|(refine X3 (c) ?_)|(refine hK _ ?_;clear hK K)|refine Vt rfl ?_|clear hK K)
  rw[hRA];exact(Fg _ _).2 ⟨Xrk,.rfl _,trivial⟩
 |true=>
  rw[ht] at c;rw[if_pos rfl,if_pos rfl];obtain⟨RA,hRA⟩:∃RA,RA=AV.tup [hsA H,i64 0]:=⟨_,rfl⟩
  rw[<- hRA];refine Xc 3 Tryz.func12 rfl fun n out _ _=> ?_;simp only[sn,Tryz.ntmps12,simprocAttr];repeat' (first|refine Vk fun K hK=> ?_|apply V0|apply Vs|((first|apply gE|apply gR);simp only[zA,simprocAttr,X0,Y1g])|(apply Vz;(first|refine Xp (.inr rfl) rfl rfl rfl (fun _ _=>rfl) ok35 (k:=n+0) (off:=0) rfl (Xb _ (by simp)) (X6 _ (Nat.le_refl _) 0) rfl rfl ?_|refine Xp (.inr rfl) rfl rfl rfl (fun _ _=>rfl) ok35 (k:=m+0) (off:=0) rfl (Xb _ (by simp)) (X6 _ hm 0) rfl rfl ?_)<;>first|rfl|exact AV.le.rfl _|(simp only[sL];done)|rfl|skip)|(refine X3 (c) ?_)|(refine hK _ ?_;clear hK K)|refine Vf rfl ?_)
  rw[hRA];exact(Fg _ _).2 ⟨.rfl _,.rfl _,trivial⟩
theorem Yhp (b:List UInt8):Xwz (Xof b) (Xof b)=true:=by
 obtain⟨h1,h2,h3,h4⟩:(Xof b).key=[]∧(Xof b).buf=[]∧(Xof b).next=Aq∧(Xof b).halt=false:=by
  unfold Xof;split<;>exact⟨rfl,rfl,rfl,rfl⟩
 unfold Xwz Xzb Xqz;rw[h1,h2,h3,h4,Pq,Pq,show Xp3 Aq=true from Pq _];simp
theorem Yho (h:Hs) (b:List UInt8):Xr Tryz.prog 3 [hsA h,.sl 1 (Xo b) .sh] [] (bool true) []:=by
 have g1:=Xvm h;cases hG:Xs8 h with
 |true=>
  rw[hG] at g1;simp only[hsA,hsC] at g1;refine Xc 6 Tryz.func3 rfl fun n out _ _=> ?_;simp only[sn,Tryz.ntmps3,simprocAttr];repeat' (first|refine Vk fun K hK=> ?_|apply V0|((first|apply gE|apply gR);simp only[zA,simprocAttr,hsA,hsC])|(apply Vz;refine Vo rfl rfl rfl (fun _ _=>rfl) ?_<;>first|rfl|skip)|(refine X3 (g1) ?_)|(refine hK _ ?_;clear hK K)|refine Vt rfl ?_)
 |false=>
  rw[hG] at g1;have hs:=Xza hG;by_cases hb:b.length<=5000
  ·have d1:((b.length:Int)>5000)=False:=ef (by omega);have w1:=Xp9 h hs;have w2:=Yhr h hs;have r1:=Xst b (by omega);have r2:=Yhs b hb;obtain⟨t1,t2⟩:=Yf4 b;rw[t1,t2] at r2;have k1:=Xqb h hs;have k2:=Yhq h hs;have ss:=Xtl _ _ (Xyd b) (Xyd b);rw[Yhp] at ss;clear t1 t2 hG;generalize (if Xod b=true then(0:Int) else 8)=F at*;generalize Xof b=Y at*;generalize Xlr h=E1 at*;generalize Xoc h=E2 at*;simp only[hsA,hsC] at g1 w1 w2 r1 r2 k1 k2 ss;refine Xc 6 Tryz.func3 rfl fun n out _ _=> ?_;simp only[sn,Tryz.ntmps3,simprocAttr];repeat' (first|refine Vk fun K hK=> ?_|apply V0|apply Vs|refine Vq (by kernel_rfl) ?_|((first|apply gE|apply gR);simp only[zA,simprocAttr,hsA,hsC,X0,X5,d1,Ya,Z5])|(apply Vz;refine Vo rfl rfl rfl (fun _ _=>rfl) ?_<;>first|rfl|skip)|(refine X3 (g1) ?_)|(refine X3 (w1) ?_)|(refine X3 (w2) ?_)|(refine X3 (r1) ?_)|(refine X3 (r2) ?_)|(refine X3 (k1) ?_)|(refine X3 (k2) ?_)|(refine X3 (ss) ?_)|(refine hK _ ?_;clear hK K)|refine Vf rfl ?_)
  ·have d1:((b.length:Int)>5000)=True:=eq_true (by omega);simp only[hsA,hsC] at g1;refine Xc 6 Tryz.func3 rfl fun n out _ _=> ?_;simp only[sn,Tryz.ntmps3,simprocAttr];repeat' (first|refine Vk fun K hK=> ?_|apply V0|((first|apply gE|apply gR);simp only[zA,simprocAttr,hsA,hsC,X5,d1])|(apply Vz;refine Vo rfl rfl rfl (fun _ _=>rfl) ?_<;>first|rfl|skip)|(refine X3 (g1) ?_)|(refine hK _ ?_;clear hK K)|refine Vt rfl ?_)
end Go.Proofs.YtdngdjbgmojcoaaGreat.Pln
