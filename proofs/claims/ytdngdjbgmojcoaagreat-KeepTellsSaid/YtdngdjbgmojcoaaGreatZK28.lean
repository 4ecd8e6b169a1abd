/- The layer of abstract values, joined. -/
import Derived.Test.YtdngdjbgmojcoaaGreatZPR
import Derived.Test.YtdngdjbgmojcoaaGreatZKH
import Derived.Test.YtdngdjbgmojcoaaGreatZQ3
import Derived.Test.YtdngdjbgmojcoaaGreatZK32
namespace Go.Proofs.YtdngdjbgmojcoaaGreat.Pln
set_option linter.all false
open Go Go.VS Tab
attribute [local irreducible] AWp Xp0 Pg X5c Qy Lt Tp FdT Eb
set_option maxHeartbeats 16000000
set_option maxRecDepth 4000
def jE (l:List Int) (p k:Nat):List (Int×Int):=(List.range k).map fun j=>(l.getD (p+2+2*j) 0,l.getD (p+2+2*j+1) 0)
theorem G0 (l:List Int) (p k:Nat):jE l p (k+1)=jE l p k++[(l.getD (p+2+2*k) 0,l.getD (p+2+2*k+1) 0)]:=by
 unfold jE;rw[List.range_succ,aw];rfl
theorem X1q (l:List Int) (p k:Nat):(jE l p k).length=k:=by simp [jE]
theorem X5f (l:List Int) (p:Nat):rfS l p=(⟨l.getD p 0,l.getD (p+1) 0,jE l p (if 0<l.getD (p+1) 0 then 3 else 2)⟩,p+2+2*(if 0<l.getD (p+1) 0 then 3 else 2)):=by
 by_cases h:0<l.getD (p+1) 0
 ·rw[if_pos h]
  show(if 0<l.getD (p+1) 0 then _ else _:Rf Sec) l _= _
  rw[if_pos h];rfl
 ·rw[if_neg h]
  show(if 0<l.getD (p+1) 0 then _ else _:Rf Sec) l _= _
  rw[if_neg h];rfl
theorem Yez (a q:Int) (E:AV) (σ:AState) (K:AV->List (Nat×Res)->Prop):X1 tab σ K none 23 1 [(0,.agg [i64 a,i64 q,E])]=K (.sl 3 [[i64 a,i64 q,E]] .full) []:=Yk (T:=tab) (ti:=ti23) (te:=ti75) rfl rfl rfl (by decide) (by decide) rfl rfl
theorem Yh0 (x y:Int) (σ:AState) (K:AV->List (Nat×Res)->Prop):X1 tab σ K none 24 1 [(0,.agg [i64 x,i64 y])]=K (.sl 2 [[i64 x,i64 y]] .full) []:=Yk (T:=tab) (ti:=ti24) (te:=ti79) rfl rfl rfl (by decide) (by decide) rfl rfl
theorem D3 (x y z:Int) (σ:AState) (K:AV->List (Nat×Res)->Prop):X1 tab σ K none 25 1 [(0,.agg [i64 x,i64 y,i64 z])]=K (.sl 3 [[i64 x,i64 y,i64 z]] .full) []:=Yk (T:=tab) (ti:=ti25) (te:=ti92) rfl rfl rfl (by decide) (by decide) rfl rfl
theorem X5g (r:Rt) (σ:AState) (K:AV->List (Nat×Res)->Prop):X1 tab σ K none 26 1 [(0,.agg (rtC r))]=K (.sl 7 [rtC r] .full) []:=Yk (T:=tab) (ti:=ti26) (te:=ti82) rfl rfl rfl (by decide) (by decide) rfl rfl
theorem Lu (x y:Int) (σ:AState) (K:AV->List (Nat×Res)->Prop):X1 tab σ K none 73 1 [(0,.agg [i64 x,i64 y])]=K (.sl 2 [[i64 x,i64 y]] .full) []:=Yk (T:=tab) (ti:=ti73) (te:=ti138) rfl rfl rfl (by decide) (by decide) rfl rfl
theorem Jw (b:List UInt8) (hb:b.length<=5000):Xr Tryz.prog 65 [.sl 1 (Xo b) .sh] [] (.tup [plA (if Ei b then rqP b else Aq),i64 (if Ei b then 0 else 8)]) []:=by
 have cg:=Ar b (by omega);have eN:plA Aq= .agg [i64 0,i64 0,.sl 3 [] .sh,.sl 2 [] .sh,.sl 3 [] .sh,.sl 7 [] .sh]:=rfl;cases hg:Bh b with
 |none=>
  have e1:Ei b=false:=by unfold Ei;rw[hg];rfl
  rw[hg] at cg;rw[e1];simp only[bl,if_false,eN];simp only[Option.getD_none,ag,Option.isSome_none] at cg;refine Xc 8 Tryz.func65 rfl fun n out _ _=> ?_;simp only[sn,Tryz.ntmps65,simprocAttr];repeat' (first|refine Vk fun K hK=> ?_|apply V0|((first|apply gE|apply gR);simp only[zA,simprocAttr,X0])|(apply Vz;(try refine Or.inr ⟨(by intro h;cases h),?_⟩);(first|refine Xp (.inr rfl) rfl rfl rfl (fun _ _=>rfl) ok28 (k:=n+0) (off:=0) rfl (Xb _ (by simp)) (X6 _ (Nat.le_refl _) 0) rfl rfl ?_|refine Xp (.inr rfl) rfl rfl rfl (fun _ _=>rfl) ok28 (k:=m+0) (off:=0) rfl (Xb _ (by simp)) (X6 _ hm 0) rfl rfl ?_)<;>first|rfl|exact AV.le.rfl _|(simp only[sL];done)|(exact AV.le.rfl _)|(simp only[sL,X0];done)|rfl|skip)|(refine X3 (cg) ?_)|(refine hK _ ?_;clear hK K)|refine Vt rfl ?_)
 |some l=>
  have hgl:=A9 hg;have hl:l.length<=5000:=by omega
  have hok:=hgl.2;rw[hg] at cg;simp only[Option.getD_some,Option.isSome_some] at cg;have eQ:rqP b=(X1s l 0).1:=by unfold rqP;rw[hg];rfl
  have eO:Ei b=(Uf (X1s l 0).1&&(Wg (X1s l 0).1==b)):=by unfold Ei;rw[eQ,hg];simp
  have hsm:=X2r hl 0;rw[eQ,eO];clear eQ eO hg hgl;obtain⟨lS,a3,h3⟩:∃L p,rfL rfS l 2=(L,p):=⟨_,_,rfl⟩
  obtain⟨lP,a4,h4⟩:∃L p,rfL rfJ l a3=(L,p):=⟨_,_,rfl⟩
  obtain⟨lG,a5,h5⟩:∃L p,rfL rfG l a4=(L,p):=⟨_,_,rfl⟩
  obtain⟨lR,a6,h6⟩:∃L p,rfL rfR l a5=(L,p):=⟨_,_,rfl⟩
  have e:(X1s l 0).1=⟨l.getD 0 0,l.getD 1 0,lS,lP,lG,lR⟩:=by
   show(match rfL rfS l 2 with|v=>rfB (rfL rfJ) (fun pts=>rfB (rfL rfG) fun sgs=>rfB (rfL rfR) fun rts=>rfP (⟨l.getD 0 0,l.getD 1 0,v.1,pts,sgs,rts⟩:Pl)) l v.2).1= _
   rw[h3]
   show(match rfL rfJ l a3 with|v=>rfB (rfL rfG) (fun sgs=>rfB (rfL rfR) fun rts=>rfP (⟨l.getD 0 0,l.getD 1 0,lS,v.1,sgs,rts⟩:Pl)) l v.2).1= _
   rw[h4]
   show(match rfL rfG l a4 with|v=>rfB (rfL rfR) (fun rts=>rfP (⟨l.getD 0 0,l.getD 1 0,lS,lP,v.1,rts⟩:Pl)) l v.2).1= _
   rw[h5]
   show(match rfL rfR l a5 with|v=>((⟨l.getD 0 0,l.getD 1 0,lS,lP,lG,v.1⟩:Pl),v.2)).1= _
   rw[h6]
  rw[e] at hsm⊢;clear e;have u3:=Lv rfS l 8 (X22 l) 2;have u4:=Lv rfJ l 2 (Dg l) a3;have u5:=Lv rfG l 3 (X21 l) a4;rw[h3] at u3;rw[h4] at u4;rw[h5] at u5;dsimp only at u3 u4 u5;have k3:rfK rfS (l.getD 2 0).toNat l 3=(lS,a3):=h3;have k4:rfK rfJ (l.getD a3 0).toNat l (a3+1)=(lP,a4):=h4;have k5:rfK rfG (l.getD a4 0).toNat l (a4+1)=(lG,a5):=h5;have k6:rfK rfR (l.getD a5 0).toNat l (a5+1)=(lR,a6):=h6;clear h3 h4 h5 h6;obtain⟨Q,hQ⟩:∃Q:Pl,Q=⟨l.getD 0 0,l.getD 1 0,lS,lP,lG,lR⟩:=⟨_,rfl⟩
  rw[<- hQ] at hsm⊢;have eA:plA Q= .agg [i64 (l.getD 0 0),i64 (l.getD 1 0),.sl 3 (lS.map Y6) .sh,.sl 2 (lP.map jnC) .sh,.sl 3 (lG.map sgC) .sh,.sl 7 (lR.map rtC) .sh]:=by rw[hQ];rfl
  have cm:=Hd Q hsm;have cw:Uf Q=true->Xr Tryz.prog 59 [plA Q] [] (.sl 1 (Xo (Wg Q)) .sh) []:=fun h=>Pi Q h;rw[eA] at cm cw;clear hQ hsm;obtain⟨ob,hob⟩:∃ob:Bool,ob=(Uf Q&&(Wg Q==b)):=⟨_,rfl⟩
  rw[<- hob];have n0':Xr Tryz.prog 129 [.sl 1 (l.map Ym) .sh,i64 0] [] (i64 (l.getD 0 0)) []:=Y4 l .sh 0 (by omega);have n1':Xr Tryz.prog 129 [.sl 1 (l.map Ym) .sh,i64 1] [] (i64 (l.getD 1 0)) []:=Y4 l .sh 1 (by omega);have n2':Xr Tryz.prog 129 [.sl 1 (l.map Ym) .sh,i64 2] [] (i64 (l.getD 2 0)) []:=Y4 l .sh 2 (by omega);have hq3:QK rfS l 3 0:=QK.zero _ _ _;have hq4:QK rfJ l (a3+1) 0:=QK.zero _ _ _;have hq5:QK rfG l (a4+1) 0:=QK.zero _ _ _;have hq6:QK rfR l (a5+1) 0:=QK.zero _ _ _;have w3:=Yl (n:=a3) 1 1 rfl (by omega);have w4:=Yl (n:=a4) 1 1 rfl (by omega);have w5:=Yl (n:=a5) 1 1 rfl (by omega);refine Xc 8 Tryz.func65 rfl fun n out _ _=> ?_;simp only[sn,Tryz.ntmps65,simprocAttr];repeat' (first|refine Vk fun K hK=> ?_|apply V0|apply Vs|((first|apply gE|apply gR);simp only[zA,simprocAttr,X0])|(refine X3 (cg) ?_)|(refine X3 (n0') ?_)|(refine X3 (n1') ?_)|(refine hK _ ?_;clear hK K)|refine Vf rfl ?_)
  refine Yy (Q9 (i:=2) 75 3 rfl) ?_;simp only[s_0,s_s];refine Yy (Q9 (i:=3) 79 2 rfl) ?_;simp only[s_0,s_s];refine Yy (Q9 (i:=4) 92 3 rfl) ?_;simp only[s_0,s_s];refine Yy (Q9 (i:=5) 82 7 rfl) ?_;simp only[s_0,s_s];refine Lb [] [some (.box 28 [i64 0,i64 0,.sl 0 [] .nil,.sl 0 [] .nil,.sl 0 [] .nil,.sl 0 [] .nil]),some (.box 28 [i64 (l.getD 0 0),i64 (l.getD 1 0),.sl 3 ([]) (.own (n+2)),.sl 2 ([]) (.own (n+3)),.sl 3 ([]) (.own (n+4)),.sl 7 ([]) (.own (n+5))]),some (.row 75 3 0),some (.row 79 2 0),some (.row 92 3 0),some (.row 82 7 0),none,none] ?_ ?_
  ·refine La rfl ?_ ?_<;>simp only[sL]
  simp only[pt];apply V5;refine Xpw ((l.getD 2 0).toNat) (fun i=>QK rfS l 3 i) (fun m i=>tp [9,10,11] (tr 31 51 [(8,i64 (i:Int)),(7,i64 ((rfK rfS i l 3).2:Nat)),(2,.ptr (m+0) 0),(6,.ptr (m+1) 0)])) (fun m i=>[some (.box 28 [i64 0,i64 0,.sl 0 [] .nil,.sl 0 [] .nil,.sl 0 [] .nil,.sl 0 [] .nil]),some (.box 28 [i64 (l.getD 0 0),i64 (l.getD 1 0),.sl 3 ((rfK rfS i l 3).1.map Y6) (.own (m+2)),.sl 2 ([]) (.own (m+3)),.sl 3 ([]) (.own (m+4)),.sl 7 ([]) (.own (m+5))]),some (.row 75 3 (rfK rfS i l 3).1.length),some (.row 79 2 0),some (.row 92 3 0),some (.row 82 7 0),none,none]) (by assumption) ?_ fun m i hm hi=> ?_
  ·refine X2 ?_ ?_ (by first|rfl|(simp only[show rfK rfS 0 l 3=([],3) from rfl,ag,List.length_nil];rfl)|simp only[show rfK rfS 0 l 3=([],3) from rfl,ag,List.length_nil]) rfl rfl rfl<;>simp only[sL,show rfK rfS 0 l 3=([],3) from rfl,ag,List.length_nil]
  obtain⟨hi,hq⟩:=hi;simp only[pt];obtain⟨L,p,hLp⟩:∃L p,rfK rfS i l 3=(L,p):=⟨_,_,rfl⟩
  have hat:=hq.at hLp;have hlen:=hat.len;have hmost:=hat.most (fun a=>Nat.le_trans (by omega) (X1v l a));have hup:=Yds rfS l 8 (X22 l) i 3;rw[hLp] at hup⊢;dsimp only at hup⊢;have hw:=Yl (n:=i) 1 1 rfl (by omega);obtain⟨g,hgd⟩:∃g:Bool,g=decide ((i:Int)<(l.getD 2 0)∧p<l.length):=⟨_,rfl⟩
  refine Vk fun K hK=> ?_;refine Qf [(40,bool g),(31,.top),(32,.top),(33,.top),(34,.top),(35,.top),(36,.top),(37,.top),(38,.top),(39,.top)] [some (.box 28 [i64 0,i64 0,.sl 0 [] .nil,.sl 0 [] .nil,.sl 0 [] .nil,.sl 0 [] .nil]),some (.box 28 [i64 (l.getD 0 0),i64 (l.getD 1 0),.sl 3 (L.map Y6) (.own (m+2)),.sl 2 ([]) (.own (m+3)),.sl 3 ([]) (.own (m+4)),.sl 7 ([]) (.own (m+5))]),some (.row 75 3 L.length),some (.row 79 2 0),some (.row 92 3 0),some (.row 82 7 0),none,none] out (id ?_) ?_;rotate_left
  ·by_cases hlt:(i:Int)<(l.getD 2 0)
   ·by_cases hp:p<l.length
    ·have hpI:(p:Int)<(l.length:Int):=by omega
     obtain rfl:g=true:=hgd.trans (ax ⟨hlt,hp⟩);repeat' (first|(apply V0)|((first|apply gE|apply gR);simp only[zA,simprocAttr,hlt,hpI])|(refine X3 (n2') ?_))
     refine .inl ?_;refine La rfl ?_ ?_<;>simp only[sL]
    ·have hpI:¬(p:Int)<(l.length:Int):=by omega
     obtain rfl:g=false:=hgd.trans (ak fun h=>hp h.2);repeat' (first|(apply V0)|((first|apply gE|apply gR);simp only[zA,simprocAttr,hlt,hpI])|(refine X3 (n2') ?_))
     refine .inl ?_;refine La rfl ?_ ?_<;>simp only[sL]
   ·obtain rfl:g=false:=hgd.trans (ak fun h=>hlt h.1);repeat' (first|(apply V0)|((first|apply gE|apply gR);simp only[zA,simprocAttr,hlt])|(refine X3 (n2') ?_))
    refine .inl ?_;refine La rfl ?_ ?_<;>simp only[sL]
  simp only[pt];cases g with
  |true=>
   obtain⟨hlt,hp⟩:=bf hgd.symm;have hg:=hat.go hp;have v1:=Yl (n:=p) 1 1 rfl (by omega);have v2:=Yl (n:=p) 2 2 rfl (by omega);have v3:=Yl (n:=p) 3 3 rfl (by omega);have y1:(i+1)*40<=140737488355328:=by omega
   have y2:i+1<=9223372036854775807:=by omega
   have y3:i<=9223372036854775806:=by omega
   have eS:=X5f l p;refine(Classical.em (0<l.getD (p+1) 0)).elim (fun hqp=> ?_) (fun hqp=> ?_)
   ·rw[if_pos hqp] at eS;have hqd:=hqp;repeat' (first|refine Vk fun K hK=> ?_|apply V0|apply Vb|apply Vs|((first|apply gE|apply gR);simp only[zA,simprocAttr,Xi hm,X0,hlen,v1,v2,hqp])|(refine X3 (Y4 l .sh _ (by omega)) ?_)|(refine hK _ ?_;clear hK K)|refine Vt rfl ?_)
    refine Yy (Q9 (i:=7) 138 2 rfl) ?_;simp only[s_0,s_s];refine Xsh (tp [11] (tr 56 20 [(7,i64 ((p+2+2*3:Nat):Int))])) [some (.box 28 [i64 0,i64 0,.sl 0 [] .nil,.sl 0 [] .nil,.sl 0 [] .nil,.sl 0 [] .nil]),some (.box 28 [i64 (l.getD 0 0),i64 (l.getD 1 0),.sl 3 (L.map Y6) (.own (m+2)),.sl 2 ([]) (.own (m+3)),.sl 3 ([]) (.own (m+4)),.sl 7 ([]) (.own (m+5))]),some (.row 75 3 L.length),some (.row 79 2 0),some (.row 92 3 0),some (.row 82 7 0),some (.box 75 [i64 (l.getD p 0),i64 (l.getD (p+1) 0),.sl 2 ((jE l p 3).map jnC) .sh]),some (.row 138 2 3)] out (id ?_) (Xz (fun k:Nat=>(tr 56 20 [(11,i64 (k:Int)),(7,i64 ((p+2+2*k:Nat):Int))])) (fun k=>[some (.box 28 [i64 0,i64 0,.sl 0 [] .nil,.sl 0 [] .nil,.sl 0 [] .nil,.sl 0 [] .nil]),some (.box 28 [i64 (l.getD 0 0),i64 (l.getD 1 0),.sl 3 (L.map Y6) (.own (m+2)),.sl 2 ([]) (.own (m+3)),.sl 3 ([]) (.own (m+4)),.sl 7 ([]) (.own (m+5))]),some (.row 75 3 L.length),some (.row 79 2 0),some (.row 92 3 0),some (.row 82 7 0),some (.box 75 [i64 (l.getD p 0),i64 (l.getD (p+1) 0),.sl 2 ((jE l p k).map jnC) (.own (m+7))]),some (.row 138 2 k)]) (fun k=>out) (fun k=>k<=3∧True) (fun k=>3 - k) 0 ⟨br _,?_⟩ ?_ fun k hk=> ?_);rotate_left
    ·trivial
    ·refine La rfl ?_ ?_<;>simp only[sL,show jE l p 0=[] from rfl,ag,Nat.mul_zero,Nat.add_zero,hlen]
    ·obtain⟨hk1,_⟩:=hk;simp only[pt];have hwk:=Yl (n:=k) 1 1 rfl (by omega);have z1':=Yl (n:=p+2+2*k) 1 1 rfl (by omega);have z2:=Yl (n:=p+2+2*k) 2 2 rfl (by omega);have hjl:=X1q l p k;have x1:(k+1)*16<=140737488355328:=by omega
     have x2:k+1<=9223372036854775807:=by omega
     have x3:k<=9223372036854775806:=by omega
     by_cases hk3:k<3
     ·have hk4:(k:Int)<3:=by omega
      repeat' (first|refine Vk fun K hK=> ?_|apply V0|apply Vb|apply Vs|refine Vd 17 [] [[],[6],[],[],[],[],[],[],[],[],[],[7],[],[6]] [[],[],[],[],[],[],[],[],[],[],[],[7],[],[6]] (by kernel_rfl) (by decide) (by decide) (by kernel_rfl) ?_|((first|apply gE|apply gD|apply gF);simp only[zB,simprocAttr,Lu,Xi hm,X0,hjl,hwk,z1',z2,x1,x2,hk4])|(refine X3 (Y4 l .sh _ (by omega)) ?_)|(refine hK _ ?_;clear hK K)|refine Vt rfl ?_|clear hK K)
      refine⟨k+1,by omega,by omega,?_⟩;rw[G0];refine La rfl ?_ ?_<;>simp only[sL,jnC,aw,bk,ag,show p+2+2*(k+1)=p+2+2*k+2 from rfl]
     ·obtain rfl:k=3:=by omega
      repeat' (first|refine Vk fun K hK=> ?_|apply V0|((first|apply gE);simp only[zA,simprocAttr,Int.cast_ofNat_Int,show ¬(3:Int)<3 by decide])|(apply Vx;simp only[sb,Nat.reduceEqDiff])|(refine hK _ ?_;clear hK K)|refine Vf rfl ?_|clear hK K)
      refine .inl ⟨trivial,?_⟩;refine La rfl ?_ ?_<;>simp only[sL,hlen]
    simp only[pt];have lS':=Yez (l.getD p 0) (l.getD (p+1) 0) (.sl 2 ((jE l p 3).map jnC) .sh);repeat' (first|(apply V0)|((first|apply gE);simp only[zB,simprocAttr,lS',Xi hm,hlen,hw,y1,y2])|(refine hK _ ?_;clear hK K)|clear hK K)
    refine⟨i+1,⟨by omega,hg.qk⟩,by omega,?_⟩;rw[hg.at',eS];refine Xx [true,true,true,true,true,true,false,false] ?_ ?_<;>intro n_<;>simp only[sM,Y6,aw,bk,ag,ac,List.length_cons,List.length_nil,hlen,Nat.zero_add]
   ·rw[if_neg hqp] at eS;have hqd:=hqp;repeat' (first|refine Vk fun K hK=> ?_|apply V0|apply Vb|apply Vs|((first|apply gE|apply gR);simp only[zA,simprocAttr,Xi hm,X0,hlen,v1,v2,hqp])|(refine X3 (Y4 l .sh _ (by omega)) ?_)|(refine hK _ ?_;clear hK K)|refine Vt rfl ?_|refine Vf rfl ?_)
    refine Yy (Q9 (i:=7) 138 2 rfl) ?_;simp only[s_0,s_s];refine Xsh (tp [11] (tr 56 20 [(7,i64 ((p+2+2*2:Nat):Int))])) [some (.box 28 [i64 0,i64 0,.sl 0 [] .nil,.sl 0 [] .nil,.sl 0 [] .nil,.sl 0 [] .nil]),some (.box 28 [i64 (l.getD 0 0),i64 (l.getD 1 0),.sl 3 (L.map Y6) (.own (m+2)),.sl 2 ([]) (.own (m+3)),.sl 3 ([]) (.own (m+4)),.sl 7 ([]) (.own (m+5))]),some (.row 75 3 L.length),some (.row 79 2 0),some (.row 92 3 0),some (.row 82 7 0),some (.box 75 [i64 (l.getD p 0),i64 (l.getD (p+1) 0),.sl 2 ((jE l p 2).map jnC) .sh]),some (.row 138 2 2)] out (id ?_) (Xz (fun k:Nat=>(tr 56 20 [(11,i64 (k:Int)),(7,i64 ((p+2+2*k:Nat):Int))])) (fun k=>[some (.box 28 [i64 0,i64 0,.sl 0 [] .nil,.sl 0 [] .nil,.sl 0 [] .nil,.sl 0 [] .nil]),some (.box 28 [i64 (l.getD 0 0),i64 (l.getD 1 0),.sl 3 (L.map Y6) (.own (m+2)),.sl 2 ([]) (.own (m+3)),.sl 3 ([]) (.own (m+4)),.sl 7 ([]) (.own (m+5))]),some (.row 75 3 L.length),some (.row 79 2 0),some (.row 92 3 0),some (.row 82 7 0),some (.box 75 [i64 (l.getD p 0),i64 (l.getD (p+1) 0),.sl 2 ((jE l p k).map jnC) (.own (m+7))]),some (.row 138 2 k)]) (fun k=>out) (fun k=>k<=2∧True) (fun k=>2 - k) 0 ⟨br _,?_⟩ ?_ fun k hk=> ?_);rotate_left
    ·trivial
    ·refine La rfl ?_ ?_<;>simp only[sL,show jE l p 0=[] from rfl,ag,Nat.mul_zero,Nat.add_zero,hlen]
    ·obtain⟨hk1,_⟩:=hk;simp only[pt];have hwk:=Yl (n:=k) 1 1 rfl (by omega);have z1':=Yl (n:=p+2+2*k) 1 1 rfl (by omega);have z2:=Yl (n:=p+2+2*k) 2 2 rfl (by omega);have hjl:=X1q l p k;have x1:(k+1)*16<=140737488355328:=by omega
     have x2:k+1<=9223372036854775807:=by omega
     have x3:k<=9223372036854775806:=by omega
     by_cases hk3:k<2
     ·have hk4:(k:Int)<2:=by omega
      repeat' (first|refine Vk fun K hK=> ?_|apply V0|apply Vb|apply Vs|refine Vd 17 [] [[],[6],[],[],[],[],[],[],[],[],[],[7],[],[6]] [[],[],[],[],[],[],[],[],[],[],[],[7],[],[6]] (by kernel_rfl) (by decide) (by decide) (by kernel_rfl) ?_|((first|apply gE|apply gD|apply gF);simp only[zB,simprocAttr,Lu,Xi hm,X0,hjl,hwk,z1',z2,x1,x2,hk4])|(refine X3 (Y4 l .sh _ (by omega)) ?_)|(refine hK _ ?_;clear hK K)|refine Vt rfl ?_|clear hK K)
      refine⟨k+1,by omega,by omega,?_⟩;rw[G0];refine La rfl ?_ ?_<;>simp only[sL,jnC,aw,bk,ag,show p+2+2*(k+1)=p+2+2*k+2 from rfl]
     ·obtain rfl:k=2:=by omega
      repeat' (first|refine Vk fun K hK=> ?_|apply V0|((first|apply gE);simp only[zA,simprocAttr,Int.cast_ofNat_Int,show ¬(2:Int)<2 by decide])|(apply Vx;simp only[sb,Nat.reduceEqDiff])|(refine hK _ ?_;clear hK K)|refine Vf rfl ?_|clear hK K)
      refine .inl ⟨trivial,?_⟩;refine La rfl ?_ ?_<;>simp only[sL,hlen]
    simp only[pt];have lS':=Yez (l.getD p 0) (l.getD (p+1) 0) (.sl 2 ((jE l p 2).map jnC) .sh);repeat' (first|(apply V0)|((first|apply gE);simp only[zB,simprocAttr,lS',Xi hm,hlen,hw,y1,y2])|(refine hK _ ?_;clear hK K)|clear hK K)
    refine⟨i+1,⟨by omega,hg.qk⟩,by omega,?_⟩;rw[hg.at',eS];refine Xx [true,true,true,true,true,true,false,false] ?_ ?_<;>intro n_<;>simp only[sM,Y6,aw,bk,ag,ac,List.length_cons,List.length_nil,hlen,Nat.zero_add]
  |false=>
   have hgd':=b7 hgd.symm;have hs:=hat.stop (k:=(l.getD 2 0).toNat) (by omega) (by omega);rw[k3] at hs;cases hs;repeat' (first|refine Vk fun K hK=> ?_|apply V0|((first|apply gE|apply gR);simp only[zA,simprocAttr,w3])|(refine X3 (Y4 l .sh _ (by omega)) ?_)|(apply Vx;simp only[sb])|(refine hK _ ?_;clear hK K)|refine Vf rfl ?_|clear hK K)
   apply V5;refine Xpw ((l.getD a3 0).toNat) (fun i=>QK rfJ l (a3+1) i) (fun m i=>tr 87 26 [(13,i64 (i:Int)),(7,i64 ((rfK rfJ i l (a3+1)).2:Nat)),(2,.ptr (m+0) 0),(6,.ptr (m+1) 0)]) (fun m i=>[some (.box 28 [i64 0,i64 0,.sl 0 [] .nil,.sl 0 [] .nil,.sl 0 [] .nil,.sl 0 [] .nil]),some (.box 28 [i64 (l.getD 0 0),i64 (l.getD 1 0),.sl 3 (lS.map Y6) (.own (m+2)),.sl 2 ((rfK rfJ i l (a3+1)).1.map jnC) (.own (m+3)),.sl 3 ([]) (.own (m+4)),.sl 7 ([]) (.own (m+5))]),some (.row 75 3 lS.length),some (.row 79 2 (rfK rfJ i l (a3+1)).1.length),some (.row 92 3 0),some (.row 82 7 0),none,none]) (by assumption) ?_ fun m i hm hi=> ?_
   ·refine X2 ?_ ?_ (by first|rfl|(simp only[show rfK rfJ 0 l (a3+1)=([],(a3+1)) from rfl,ag,List.length_nil];rfl)|simp only[show rfK rfJ 0 l (a3+1)=([],(a3+1)) from rfl,ag,List.length_nil]) rfl rfl rfl<;>simp only[sL,show rfK rfJ 0 l (a3+1)=([],(a3+1)) from rfl,ag,List.length_nil]
   obtain⟨hi,hq⟩:=hi;simp only[pt];obtain⟨L,p,hLp⟩:∃L p,rfK rfJ i l (a3+1)=(L,p):=⟨_,_,rfl⟩
   have hat:=hq.at hLp;have hlen:=hat.len;have hmost:=hat.most (Si l);have hup:=Yds rfJ l 2 (Dg l) i (a3+1);rw[hLp] at hup⊢;dsimp only at hup⊢;have hw:=Yl (n:=i) 1 1 rfl (by omega);obtain⟨g,hgd⟩:∃g:Bool,g=decide ((i:Int)<(l.getD a3 0)∧p<l.length):=⟨_,rfl⟩
   refine Vk fun K hK=> ?_;refine Qf [(95,bool g),(87,.top),(88,.top),(89,.top),(90,.top),(91,.top),(92,.top),(93,.top),(94,.top)] [some (.box 28 [i64 0,i64 0,.sl 0 [] .nil,.sl 0 [] .nil,.sl 0 [] .nil,.sl 0 [] .nil]),some (.box 28 [i64 (l.getD 0 0),i64 (l.getD 1 0),.sl 3 (lS.map Y6) (.own (m+2)),.sl 2 (L.map jnC) (.own (m+3)),.sl 3 ([]) (.own (m+4)),.sl 7 ([]) (.own (m+5))]),some (.row 75 3 lS.length),some (.row 79 2 L.length),some (.row 92 3 0),some (.row 82 7 0),none,none] out (id ?_) ?_;rotate_left
   ·by_cases hlt:(i:Int)<(l.getD a3 0)
    ·by_cases hp:p<l.length
     ·have hpI:(p:Int)<(l.length:Int):=by omega
      obtain rfl:g=true:=hgd.trans (ax ⟨hlt,hp⟩);repeat' (first|(apply V0)|((first|apply gE);simp only[zA,simprocAttr,hlt,hpI]))
      refine .inl ?_;refine La rfl ?_ ?_<;>simp only[sL]
     ·have hpI:¬(p:Int)<(l.length:Int):=by omega
      obtain rfl:g=false:=hgd.trans (ak fun h=>hp h.2);repeat' (first|(apply V0)|((first|apply gE);simp only[zA,simprocAttr,hlt,hpI]))
      refine .inl ?_;refine La rfl ?_ ?_<;>simp only[sL]
    ·obtain rfl:g=false:=hgd.trans (ak fun h=>hlt h.1);repeat' (first|(apply V0)|((first|apply gE);simp only[zA,simprocAttr,hlt]))
     refine .inl ?_;refine La rfl ?_ ?_<;>simp only[sL]
   simp only[pt];cases g with
   |true=>
    obtain⟨hlt,hp⟩:=bf hgd.symm;have hg:=hat.go hp;have v1:=Yl (n:=p) 1 1 rfl (by omega);have v2:=Yl (n:=p) 2 2 rfl (by omega);have v3:=Yl (n:=p) 3 3 rfl (by omega);have y1:(i+1)*16<=140737488355328:=by omega
    have y2:i+1<=9223372036854775807:=by omega
    have y3:i<=9223372036854775806:=by omega
    repeat' (first|refine Vk fun K hK=> ?_|apply V0|apply Vb|apply Vs|refine Vd 25 [] [[],[1],[],[],[],[],[],[],[],[],[],[3],[],[1]] [[],[],[],[],[],[],[],[],[],[],[],[3],[],[1]] (by kernel_rfl) (by decide) (by decide) (by kernel_rfl) ?_|((first|apply gE|apply gD|apply gF);simp only[zB,simprocAttr,Yh0,Xi hm,X0,hlen,hw,v1,v2,y1,y2])|(refine X3 (Y4 l .sh _ (by omega)) ?_)|(refine hK _ ?_;clear hK K)|refine Vt rfl ?_|clear hK K)
    refine⟨i+1,⟨by omega,hg.qk⟩,by omega,?_⟩;rw[hg.at',show rfJ l p=((l.getD p 0,l.getD (p+1) 0),p+2) from rfl];refine Xx [true,true,true,true,true,true,false,false] ?_ ?_<;>intro n_<;>simp only[sM,jnC,aw,bk,ag,ac,List.length_cons,List.length_nil,hlen,Nat.zero_add]
   |false=>
    have hgd':=b7 hgd.symm;have hs:=hat.stop (k:=(l.getD a3 0).toNat) (by omega) (by omega);rw[k4] at hs;cases hs;repeat' (first|refine Vk fun K hK=> ?_|apply V0|((first|apply gE|apply gR);simp only[zA,simprocAttr,w4])|(refine X3 (Y4 l .sh _ (by omega)) ?_)|(apply Vx;simp only[sb])|(refine hK _ ?_;clear hK K)|refine Vf rfl ?_|clear hK K)
    apply V5;refine Xpw ((l.getD a4 0).toNat) (fun i=>QK rfG l (a4+1) i) (fun m i=>tr 118 30 [(14,i64 (i:Int)),(7,i64 ((rfK rfG i l (a4+1)).2:Nat)),(2,.ptr (m+0) 0),(6,.ptr (m+1) 0)]) (fun m i=>[some (.box 28 [i64 0,i64 0,.sl 0 [] .nil,.sl 0 [] .nil,.sl 0 [] .nil,.sl 0 [] .nil]),some (.box 28 [i64 (l.getD 0 0),i64 (l.getD 1 0),.sl 3 (lS.map Y6) (.own (m+2)),.sl 2 (lP.map jnC) (.own (m+3)),.sl 3 ((rfK rfG i l (a4+1)).1.map sgC) (.own (m+4)),.sl 7 ([]) (.own (m+5))]),some (.row 75 3 lS.length),some (.row 79 2 lP.length),some (.row 92 3 (rfK rfG i l (a4+1)).1.length),some (.row 82 7 0),none,none]) (by assumption) ?_ fun m i hm hi=> ?_
    ·refine X2 ?_ ?_ (by first|rfl|(simp only[show rfK rfG 0 l (a4+1)=([],(a4+1)) from rfl,ag,List.length_nil];rfl)|simp only[show rfK rfG 0 l (a4+1)=([],(a4+1)) from rfl,ag,List.length_nil]) rfl rfl rfl<;>simp only[sL,show rfK rfG 0 l (a4+1)=([],(a4+1)) from rfl,ag,List.length_nil]
    obtain⟨hi,hq⟩:=hi;simp only[pt];obtain⟨L,p,hLp⟩:∃L p,rfK rfG i l (a4+1)=(L,p):=⟨_,_,rfl⟩
    have hat:=hq.at hLp;have hlen:=hat.len;have hmost:=hat.most (X1u l);have hup:=Yds rfG l 3 (X21 l) i (a4+1);rw[hLp] at hup⊢;dsimp only at hup⊢;have hw:=Yl (n:=i) 1 1 rfl (by omega);obtain⟨g,hgd⟩:∃g:Bool,g=decide ((i:Int)<(l.getD a4 0)∧p<l.length):=⟨_,rfl⟩
    refine Vk fun K hK=> ?_;refine Qf [(126,bool g),(118,.top),(119,.top),(120,.top),(121,.top),(122,.top),(123,.top),(124,.top),(125,.top)] [some (.box 28 [i64 0,i64 0,.sl 0 [] .nil,.sl 0 [] .nil,.sl 0 [] .nil,.sl 0 [] .nil]),some (.box 28 [i64 (l.getD 0 0),i64 (l.getD 1 0),.sl 3 (lS.map Y6) (.own (m+2)),.sl 2 (lP.map jnC) (.own (m+3)),.sl 3 (L.map sgC) (.own (m+4)),.sl 7 ([]) (.own (m+5))]),some (.row 75 3 lS.length),some (.row 79 2 lP.length),some (.row 92 3 L.length),some (.row 82 7 0),none,none] out (id ?_) ?_;rotate_left
    ·by_cases hlt:(i:Int)<(l.getD a4 0)
     ·by_cases hp:p<l.length
      ·have hpI:(p:Int)<(l.length:Int):=by omega
       obtain rfl:g=true:=hgd.trans (ax ⟨hlt,hp⟩);repeat' (first|(apply V0)|((first|apply gE);simp only[zA,simprocAttr,hlt,hpI]))
       refine .inl ?_;refine La rfl ?_ ?_<;>simp only[sL]
      ·have hpI:¬(p:Int)<(l.length:Int):=by omega
       obtain rfl:g=false:=hgd.trans (ak fun h=>hp h.2);repeat' (first|(apply V0)|((first|apply gE);simp only[zA,simprocAttr,hlt,hpI]))
       refine .inl ?_;refine La rfl ?_ ?_<;>simp only[sL]
     ·obtain rfl:g=false:=hgd.trans (ak fun h=>hlt h.1);repeat' (first|(apply V0)|((first|apply gE);simp only[zA,simprocAttr,hlt]))
      refine .inl ?_;refine La rfl ?_ ?_<;>simp only[sL]
    simp only[pt];cases g with
    |true=>
     obtain⟨hlt,hp⟩:=bf hgd.symm;have hg:=hat.go hp;have v1:=Yl (n:=p) 1 1 rfl (by omega);have v2:=Yl (n:=p) 2 2 rfl (by omega);have v3:=Yl (n:=p) 3 3 rfl (by omega);have y1:(i+1)*24<=140737488355328:=by omega
     have y2:i+1<=9223372036854775807:=by omega
     have y3:i<=9223372036854775806:=by omega
     repeat' (first|refine Vk fun K hK=> ?_|apply V0|apply Vb|apply Vs|refine Vd 32 [] [[],[1],[],[],[],[],[],[],[],[],[],[],[],[],[],[4],[],[1]] [[],[],[],[],[],[],[],[],[],[],[],[],[],[],[],[4],[],[1]] (by kernel_rfl) (by decide) (by decide) (by kernel_rfl) ?_|((first|apply gE|apply gD|apply gF);simp only[zB,simprocAttr,D3,Xi hm,X0,hlen,hw,v1,v2,v3,y1,y2])|(refine X3 (Y4 l .sh _ (by omega)) ?_)|(refine hK _ ?_;clear hK K)|refine Vt rfl ?_|clear hK K)
     refine⟨i+1,⟨by omega,hg.qk⟩,by omega,?_⟩;rw[hg.at',show rfG l p=((l.getD p 0,l.getD (p+1) 0,l.getD (p+2) 0),p+3) from rfl];refine Xx [true,true,true,true,true,true,false,false] ?_ ?_<;>intro n_<;>simp only[sM,sgC,aw,bk,ag,ac,List.length_cons,List.length_nil,hlen,Nat.zero_add]
    |false=>
     have hgd':=b7 hgd.symm;have hs:=hat.stop (k:=(l.getD a4 0).toNat) (by omega) (by omega);rw[k5] at hs;cases hs;repeat' (first|refine Vk fun K hK=> ?_|apply V0|((first|apply gE|apply gR);simp only[zA,simprocAttr,w5])|(refine X3 (Y4 l .sh _ (by omega)) ?_)|(apply Vx;simp only[sb])|(refine hK _ ?_;clear hK K)|refine Vf rfl ?_|clear hK K)
     apply V5;refine Xpw ((l.getD a5 0).toNat) (fun i=>QK rfR l (a5+1) i) (fun m i=>tp [16,17] (tr 153 24 [(15,i64 (i:Int)),(7,i64 ((rfK rfR i l (a5+1)).2:Nat)),(2,.ptr (m+0) 0),(6,.ptr (m+1) 0)])) (fun m i=>[some (.box 28 [i64 0,i64 0,.sl 0 [] .nil,.sl 0 [] .nil,.sl 0 [] .nil,.sl 0 [] .nil]),some (.box 28 [i64 (l.getD 0 0),i64 (l.getD 1 0),.sl 3 (lS.map Y6) (.own (m+2)),.sl 2 (lP.map jnC) (.own (m+3)),.sl 3 (lG.map sgC) (.own (m+4)),.sl 7 ((rfK rfR i l (a5+1)).1.map rtC) (.own (m+5))]),some (.row 75 3 lS.length),some (.row 79 2 lP.length),some (.row 92 3 lG.length),some (.row 82 7 (rfK rfR i l (a5+1)).1.length),none,none]) (by assumption) ?_ fun m i hm hi=> ?_
     ·refine X2 ?_ ?_ (by first|rfl|(simp only[show rfK rfR 0 l (a5+1)=([],(a5+1)) from rfl,ag,List.length_nil];rfl)|simp only[show rfK rfR 0 l (a5+1)=([],(a5+1)) from rfl,ag,List.length_nil]) rfl rfl rfl<;>simp only[sL,show rfK rfR 0 l (a5+1)=([],(a5+1)) from rfl,ag,List.length_nil]
     obtain⟨hi,hq⟩:=hi;simp only[pt];obtain⟨L,p,hLp⟩:∃L p,rfK rfR i l (a5+1)=(L,p):=⟨_,_,rfl⟩
     have hat:=hq.at hLp;have hlen:=hat.len;have hmost:=hat.most (X1w l);have hup:=Yds rfR l (3*l.length+12) (fun a=>by have:=X5t l a;omega) i (a5+1);rw[hLp] at hup⊢;dsimp only at hup⊢;have hw:=Yl (n:=i) 1 1 rfl (by omega);obtain⟨g,hgd⟩:∃g:Bool,g=decide ((i:Int)<(l.getD a5 0)∧p<l.length):=⟨_,rfl⟩
     refine Vk fun K hK=> ?_;refine Qf [(161,bool g),(153,.top),(154,.top),(155,.top),(156,.top),(157,.top),(158,.top),(159,.top),(160,.top)] [some (.box 28 [i64 0,i64 0,.sl 0 [] .nil,.sl 0 [] .nil,.sl 0 [] .nil,.sl 0 [] .nil]),some (.box 28 [i64 (l.getD 0 0),i64 (l.getD 1 0),.sl 3 (lS.map Y6) (.own (m+2)),.sl 2 (lP.map jnC) (.own (m+3)),.sl 3 (lG.map sgC) (.own (m+4)),.sl 7 (L.map rtC) (.own (m+5))]),some (.row 75 3 lS.length),some (.row 79 2 lP.length),some (.row 92 3 lG.length),some (.row 82 7 L.length),none,none] out (id ?_) ?_;rotate_left
     ·by_cases hlt:(i:Int)<(l.getD a5 0)
      ·by_cases hp:p<l.length
       ·have hpI:(p:Int)<(l.length:Int):=by omega
        obtain rfl:g=true:=hgd.trans (ax ⟨hlt,hp⟩);repeat' (first|(apply V0)|((first|apply gE);simp only[zA,simprocAttr,hlt,hpI]))
        refine .inl ?_;refine La rfl ?_ ?_<;>simp only[sL]
       ·have hpI:¬(p:Int)<(l.length:Int):=by omega
        obtain rfl:g=false:=hgd.trans (ak fun h=>hp h.2);repeat' (first|(apply V0)|((first|apply gE);simp only[zA,simprocAttr,hlt,hpI]))
        refine .inl ?_;refine La rfl ?_ ?_<;>simp only[sL]
      ·obtain rfl:g=false:=hgd.trans (ak fun h=>hlt h.1);repeat' (first|(apply V0)|((first|apply gE);simp only[zA,simprocAttr,hlt]))
       refine .inl ?_;refine La rfl ?_ ?_<;>simp only[sL]
     simp only[pt];cases g with
     |true=>
      obtain⟨hlt,hp⟩:=bf hgd.symm;have hg:=hat.go hp;have v1:=Yl (n:=p) 1 1 rfl (by omega);have v2:=Yl (n:=p) 2 2 rfl (by omega);have v3:=Yl (n:=p) 3 3 rfl (by omega);have y1:(i+1)*104<=140737488355328:=by omega
      have y2:i+1<=9223372036854775807:=by omega
      have y3:i<=9223372036854775806:=by omega
      have cr:=El l p (by omega) (by omega) hok;obtain⟨r,p',hr⟩:∃r p',rfR l p=(r,p'):=⟨_,_,rfl⟩
      have lr:=X5g r;rw[hr] at cr hg;simp only[rtA,rtC] at cr lr;repeat' (first|refine Vk fun K hK=> ?_|apply V0|apply Vb|apply Vs|((first|apply gE|apply gR);simp only[zB,simprocAttr,lr,Xi hm,X0,hlen,hw,y1,y2])|(refine X3 (cr) ?_)|(refine hK _ ?_;clear hK K)|refine Vt rfl ?_|clear hK K)
      refine⟨i+1,⟨by omega,hg.qk⟩,by omega,?_⟩;rw[hg.at'];refine Xx [true,true,true,true,true,true,false,false] ?_ ?_<;>intro n_<;>simp only[sM,rtC,aw,bk,ag,ac,List.length_cons,List.length_nil,hlen,Nat.zero_add]
     |false=>
      have hgd':=b7 hgd.symm;have hs:=hat.stop (k:=(l.getD a5 0).toNat) (by omega) (by omega);rw[k6] at hs;cases hs;refine Lb [] [some (.box 28 [i64 0,i64 0,.sl 0 [] .nil,.sl 0 [] .nil,.sl 0 [] .nil,.sl 0 [] .nil]),some (.box 28 [i64 (l.getD 0 0),i64 (l.getD 1 0),.sl 3 (lS.map Y6) .sh,.sl 2 (lP.map jnC) .sh,.sl 3 (lG.map sgC) .sh,.sl 7 (lR.map rtC) .sh]),some (.row 75 3 lS.length),some (.row 79 2 lP.length),some (.row 92 3 lG.length),some (.row 82 7 lR.length),none,none] ?_ ?_
      ·refine La rfl ?_ ?_<;>simp only[sL]
      simp only[pt];cases hmy:Uf Q with
      |false=>
       rw[hmy] at cm;obtain rfl:ob=false:=hob.trans (by rw[hmy];rfl);repeat' (first|refine Vk fun K hK=> ?_|apply V0|refine Vd 42 [] [[1],[],[],[],[1],[],[],[],[],[],[]] [[],[],[],[],[],[],[],[],[],[],[]] (by kernel_rfl) (by decide) (by decide) (by kernel_rfl) ?_|((first|apply gE|apply gD|apply gF|refine gS2 ?_);simp only[zA,simprocAttr,sg,Xi hm,X0,eN])|(apply Vz;(try refine Or.inr ⟨(by intro h;cases h),?_⟩);(first|refine Xp (.inr rfl) rfl rfl rfl (fun _ _=>rfl) ok28 (k:=n+0) (off:=0) rfl (Xb _ (by simp)) (X6 _ (Nat.le_refl _) 0) rfl rfl ?_|refine Xp (.inr rfl) rfl rfl rfl (fun _ _=>rfl) ok28 (k:=m+0) (off:=0) rfl (Xb _ (by simp)) (X6 _ hm 0) rfl rfl ?_)<;>first|rfl|exact AV.le.rfl _|(simp only[sL,bl,if_false,eN];done)|(exact AV.le.rfl _)|(simp only[sL,sg,Xi hm,X0,bl,if_false,eN];done)|rfl|skip)|(refine X3 (cm) ?_)|(apply Vx;simp only[sb])|(refine hK _ ?_;clear hK K)|refine Vt rfl ?_|refine Vf rfl ?_|clear hK K)
      |true=>
       rw[hmy] at cm;have cw:=cw hmy;cases hw2:(Wg Q==b) with
       |true=>
        obtain rfl:ob=true:=hob.trans (by rw[hmy,hw2];rfl);repeat' (first|refine Vk fun K hK=> ?_|apply V0|apply Vs|refine Vd 42 [] [[1],[],[],[],[1],[],[],[],[],[],[]] [[],[],[],[],[],[],[],[],[],[],[]] (by kernel_rfl) (by decide) (by decide) (by kernel_rfl) ?_|((first|apply gE|apply gD|apply gF|refine gS2 ?_);simp only[zA,simprocAttr,sg,Xi hm,X0,Ya,Z5,hw2,eA])|(apply Vz;(try refine Or.inr ⟨(by intro h;cases h),?_⟩);(first|refine Xp (.inr rfl) rfl rfl rfl (fun _ _=>rfl) ok28 (k:=n+0) (off:=0) rfl (Xb _ (by simp)) (X6 _ (Nat.le_refl _) 0) rfl rfl ?_|refine Xp (.inr rfl) rfl rfl rfl (fun _ _=>rfl) ok28 (k:=m+0) (off:=0) rfl (Xb _ (by simp)) (X6 _ hm 0) rfl rfl ?_)<;>first|rfl|exact AV.le.rfl _|(simp only[sL,if_true,eA];done)|(exact AV.le.rfl _)|(simp only[sL,sg,Xi hm,X0,Ya,Z5,hw2,if_true,eA];done)|rfl|skip)|(refine X3 (cm) ?_)|(refine X3 (cw) ?_)|(apply Vx;simp only[sb])|(refine hK _ ?_;clear hK K)|refine Vf rfl ?_|clear hK K)
       |false=>
        obtain rfl:ob=false:=hob.trans (by rw[hmy,hw2];rfl);repeat' (first|refine Vk fun K hK=> ?_|apply V0|refine Vd 42 [] [[1],[],[],[],[1],[],[],[],[],[],[]] [[],[],[],[],[],[],[],[],[],[],[]] (by kernel_rfl) (by decide) (by decide) (by kernel_rfl) ?_|((first|apply gE|apply gD|apply gF|refine gS2 ?_);simp only[zA,simprocAttr,sg,Xi hm,X0,Ya,Z5,hw2,eN])|(apply Vz;(try refine Or.inr ⟨(by intro h;cases h),?_⟩);(first|refine Xp (.inr rfl) rfl rfl rfl (fun _ _=>rfl) ok28 (k:=n+0) (off:=0) rfl (Xb _ (by simp)) (X6 _ (Nat.le_refl _) 0) rfl rfl ?_|refine Xp (.inr rfl) rfl rfl rfl (fun _ _=>rfl) ok28 (k:=m+0) (off:=0) rfl (Xb _ (by simp)) (X6 _ hm 0) rfl rfl ?_)<;>first|rfl|exact AV.le.rfl _|(simp only[sL,bl,if_false,eN];done)|(exact AV.le.rfl _)|(simp only[sL,sg,Xi hm,X0,Ya,Z5,hw2,bl,if_false,eN];done)|rfl|skip)|(refine X3 (cm) ?_)|(refine X3 (cw) ?_)|(apply Vx;simp only[sb])|(refine hK _ ?_;clear hK K)|refine Vt rfl ?_|refine Vf rfl ?_|clear hK K)
end Go.Proofs.YtdngdjbgmojcoaaGreat.Pln
