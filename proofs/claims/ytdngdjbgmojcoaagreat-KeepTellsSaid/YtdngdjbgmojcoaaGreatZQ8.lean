/- The layer of abstract values, joined. -/
import Derived.Test.YtdngdjbgmojcoaaGreatZPR
import Derived.Test.YtdngdjbgmojcoaaGreatZQM
import Derived.Test.YtdngdjbgmojcoaaGreatZQL
import Derived.Test.YtdngdjbgmojcoaaGreatZQC
namespace Go.Proofs.YtdngdjbgmojcoaaGreat.Pln
set_option linter.all false
open Go Go.VS Tab
attribute [local irreducible] AWp Xp0 Pg X5c Qy Lt Tp FdT Eb
set_option maxHeartbeats 8000000
set_option maxRecDepth 4000
theorem Xob:Sm Aq:=⟨by decide,by decide,by decide,by decide,by decide,by decide⟩
theorem Xri (e:Bool) (b:List UInt8) (s:Nat×Bool):Sm (Xq7 e b s).1:=by
 unfold Xq7;split
 ·exact Xob
 ·cases unW b s.1 with
  |none=>exact Xob
  |some r=>
   dsimp only;split
   ·exact Xob
   ·split
    ·rename_i h;exact X20 (Kg h).1
    ·exact Xob
theorem Xss (b:List UInt8):∀(l:List (Int×Int)) (s:Nat×Bool),(rdW l b s).1.length=l.length
 |[],_=>rfl
 | _::l,s=>congrArg (· +1) (Xss b l (rdZ b s).2)
theorem Xrj (b:List UInt8):∀(l:List Rt) (s:Nat×Bool),(Xs3 l b s).1.length=l.length
 |[],_=>rfl
 | _::l,s=>congrArg (· +1) (Xrj b l (rdZ b (rdZ b s).2).2)
theorem Xxu (b:List UInt8):∀(l:List (Int×Int)) (s:Nat×Bool),s.1<=b.length->(rdW l b s).2.1<=b.length
 |[],_,h=>h
 | _::l,s,h=>Xxu b l (rdZ b s).2 (Xs6 h)
theorem Xvh (b:List UInt8):∀(l:List Rt) (s:Nat×Bool),s.1<=b.length->(Xs3 l b s).2.1<=b.length
 |[],_,h=>h
 | _::l,s,h=>Xvh b l (rdZ b (rdZ b s).2).2 (Xs6 (Xs6 h))
theorem Xxv (b:List UInt8):SmH (Xy7 b (0,false)).1:=by
 have sp:=Xri false b (0,false);have sq:=Xri true b (Xq7 false b (0,false)).2;refine⟨sp,sq,Xob,⟨?_,?_,?_⟩,br _,br _⟩
 ·show((Xq7 false b (0,false)).1.secs.map atT).length<=1000
  have:=sp.secs;rw[ai];omega
 ·show(rdW (Xq7 false b (0,false)).1.pts b _).1.length<=1000
  have:=sp.pts;rw[Xss];omega
 ·show(Xs3 (Xq7 false b (0,false)).1.rts b _).1.length<=1000
  have:=sp.rts;rw[Xrj];omega
theorem Xyd (b:List UInt8):SmH (Xof b):=by
 unfold Xof;split
 ·exact Xxv b
 ·exact⟨Xob,Xob,Xob,⟨by decide,by decide,by decide⟩,by decide,by decide⟩
theorem Xye (b:List UInt8) (s:Nat×Bool):0<=(rdZ b s).1:=by
 obtain⟨a,o⟩:=s;cases o with
 |true=>exact Int.le_refl 0
 |false=>
  cases hg:Jt (b.drop a) with
  |none=>rw[Xti hg];exact Int.le_refl 0
  |some r=>rw[Xtj hg];exact Int.natCast_nonneg _
theorem Y1g (a b c d e f g h i j k l m n o p q r s t u v w x y:AV):pick true 25 [a,b,c,d,e,f,g,h,i,j,k,l,m,n,o,p,q,r,s,t,u,v,w,x,y]=some (.agg [a,b,c,d,e,f,g,h,i,j,k,l,m,n,o,p,q,r,s,t,u,v,w,x,y]):=rfl
theorem Xrk:AV.le (.agg [.sl 0 [] .nil,i64 0,i64 0,.sl 0 [] .nil,.sl 0 [] .nil,.sl 0 [] .nil,.sl 0 [] .nil,i64 0,i64 0,.sl 0 [] .nil,.sl 0 [] .nil,.sl 0 [] .nil,.sl 0 [] .nil,i64 0,.sl 0 [] .nil,.sl 0 [] .nil,.sl 0 [] .nil,.sl 0 [] .nil,i64 0,i64 0,.sl 0 [] .nil,.sl 0 [] .nil,.sl 0 [] .nil,.sl 0 [] .nil,bool false]) (hsA Xtd):=by
 simp only[hsA,hsC,Xtd,Aq,Y2v,ag,Wb,sL]
theorem Xst (b:List UInt8) (hb:b.length<=1000000):Xr Tryz.prog 11 [.sl 1 (Xo b) .sh] [] (.tup [hsA (Xof b),i64 (if Xod b then 0 else 8)]) []:=by
 obtain⟨RA,hRA⟩:∃RA,RA=AV.tup [hsA (Xof b),i64 (if Xod b then 0 else 8)]:=⟨_,rfl⟩
 rw[<- hRA];obtain⟨P,hP⟩:∃P,P=Xq7 false b (0,false):=⟨_,rfl⟩
 obtain⟨Q,hQ⟩:∃Q,Q=Xq7 true b P.2:=⟨_,rfl⟩
 obtain⟨H,hH⟩:∃H,H=rdZ b Q.2:=⟨_,rfl⟩
 have p1:P.2.1<=b.length:=by rw[hP];exact Xvd (br _)
 have q1:Q.2.1<=b.length:=by rw[hQ];exact Xvd p1
 have h1:H.2.1<=b.length:=by rw[hH];exact Xs6 q1
 have cP:=fun k=>Xvg k b hb false (0,false) (br _);have cQ:=fun k=>Xvg k b hb true P.2 p1;have cH:=fun k=>Xqc k b hb Q.2 q1;have sp:=Xri false b (0,false);have sq:=Xri true b P.2;have eD:Xy7 b (0,false)=(⟨[],P.1,Q.1,H.1,⟨P.1.secs.map atT,(rdW P.1.pts b H.2).1,(Xs3 P.1.rts b (rdW P.1.pts b H.2).2).1⟩,[],Aq,false⟩,(Xs3 P.1.rts b (rdW P.1.pts b H.2).2).2):=by
  rw[hH,hQ,hP];rfl
 simp only[<- hP,<- hQ,<- hH] at cP cQ cH sp sq;clear hP hQ hH;obtain⟨p,tp⟩:=P;obtain⟨q,tq⟩:=Q;obtain⟨x,th⟩:=H;simp only[plA,plC,rdR,rdC] at cP cQ cH;dsimp only at h1 q1 p1 sp sq eD;have hsl:=sp.secs;have hpl:=sp.pts;have hrl:=sp.rts;refine Xc 7 Tryz.func11 rfl fun n out _ _=> ?_;simp only[sn,Tryz.ntmps11,simprocAttr];have hg:=Nat.le_refl 0;repeat' (first|refine Vk fun K hK=> ?_|apply V0|apply Vb|apply Vc|apply Vr|apply Vs|with_reducible apply ab|refine Vq (by kernel_rfl) ?_|((first|apply gE|apply gR|apply gS);simp only[zA,simprocAttr,Xjn (Nat.le_refl n)])|exact Vn|(apply Vz;(first|refine Xp (.inr rfl) rfl rfl rfl (fun _ _=>rfl) ok35 (k:=n+0) (off:=0) rfl (Xb _ (by simp)) (X6 _ (Nat.le_refl _) 0) rfl rfl ?_|refine Xp (.inr rfl) rfl rfl rfl (fun _ _=>rfl) ok35 (k:=m+0) (off:=0) rfl (Xb _ (by simp)) (X6 _ hm 0) rfl rfl ?_)<;>first|rfl|exact AV.le.rfl _|(simp only[sL,ti35,ag,Xjn (Nat.le_refl n)];done)|rfl|skip)|(refine Sb (cP (n+1)) (X6 _ (Nat.le_refl _) 1) (Xb _ (by simp)) (by simp) ?_)|(refine Sb (cQ (n+1)) (X6 _ (Nat.le_refl _) 1) (Xb _ (by simp)) (by simp) ?_)|(refine Sb (cH (n+1)) (X6 _ (Nat.le_refl _) 1) (Xb _ (by simp)) (by simp) ?_)|((refine Vg (fun hg=> ?_) (fun hg=> ?_))<;>try simp only[nb] at hg)|(apply Vx;simp only[sb,reduceIte,Nat.reduceEqDiff])|(refine hK _ ?_;clear hK K)|refine Vt rfl ?_|refine Vf rfl ?_|refine Vi rfl (fun hg=> ?_) (fun hg=> ?_)|clear hK K)
 refine Yy (Q9 (i:=3) 77 2 rfl) ?_;refine Yy (Q9 (i:=4) 63 3 rfl) ?_;refine Yy (Q9 (i:=5) 65 4 rfl) ?_;simp only[s_0,s_s];obtain⟨Z0,hZ0⟩:∃Z0:List AV,Z0=[.sl 0 [] .nil,i64 0,i64 0,.sl 0 [] .nil,.sl 0 [] .nil,.sl 0 [] .nil,.sl 0 [] .nil,i64 0,i64 0,.sl 0 [] .nil,.sl 0 [] .nil,.sl 0 [] .nil,.sl 0 [] .nil,i64 0,.sl 0 [] .nil,.sl 0 [] .nil,.sl 0 [] .nil,.sl 0 [] .nil,i64 0,i64 0,.sl 0 [] .nil,.sl 0 [] .nil,.sl 0 [] .nil,.sl 0 [] .nil,bool false]:=⟨_,rfl⟩
 refine Xr9 [some (.box 35 Z0),some (.box 70 [.sl 1 (Xo b) .sh,i64 (th.1:Int),bool th.2]),some (.box 35 [.sl 0 [] .nil,i64 p.ver,i64 p.par,.sl 3 (p.secs.map Y6) .sh,.sl 2 (p.pts.map jnC) .sh,.sl 3 (p.sgs.map sgC) .sh,.sl 7 (p.rts.map rtC) .sh,i64 q.ver,i64 q.par,.sl 3 (q.secs.map Y6) .sh,.sl 2 (q.pts.map jnC) .sh,.sl 3 (q.sgs.map sgC) .sh,.sl 7 (q.rts.map rtC) .sh,i64 x,.sl 0 [] .nil,.sl 0 [] .nil,.sl 0 [] .nil,.sl 0 [] .nil,i64 0,i64 0,.sl 0 [] .nil,.sl 0 [] .nil,.sl 0 [] .nil,.sl 0 [] .nil,bool false]),some (.row 77 2 0),some (.row 63 3 0),some (.row 65 4 0),none] (by rw[hZ0]) ?_;apply V5;refine Xrd (p.secs.length) (fun m i=>tr 29 14 [(28,i64 (i:Int)),(2,.ptr (m+0) 0),(4,.ptr (m+1) 0),(5,.ptr (m+2) 0),(7,.top)]) (fun m i=>[some (.box 35 Z0),some (.box 70 [.sl 1 (Xo b) .sh,i64 (th.1:Int),bool th.2]),some (.box 35 [.sl 0 [] .nil,i64 p.ver,i64 p.par,.sl 3 (p.secs.map Y6) .sh,.sl 2 (p.pts.map jnC) .sh,.sl 3 (p.sgs.map sgC) .sh,.sl 7 (p.rts.map rtC) .sh,i64 q.ver,i64 q.par,.sl 3 (q.secs.map Y6) .sh,.sl 2 (q.pts.map jnC) .sh,.sl 3 (q.sgs.map sgC) .sh,.sl 7 (q.rts.map rtC) .sh,i64 x,(.sl 2 ((p.secs.take i).map fun x=>tkC (atT x)) (.own (m+3))),.sl 0 [] .nil,.sl 0 [] .nil,.sl 0 [] .nil,i64 0,i64 0,.sl 0 [] .nil,.sl 0 [] .nil,.sl 0 [] .nil,.sl 0 [] .nil,bool false]),some (.row 77 2 i),some (.row 63 3 0),some (.row 65 4 0),none]) ?_ fun m i hm hi=> ?_
 ·refine X2 ?_ ?_ (by first|rfl|(simp only[List.take_zero,ag];rfl)|simp only[List.take_zero,ag]) rfl rfl rfl<;>simp only[sL,ag]
 simp only[pt];have hw:=Yl (n:=i) 1 1 rfl (by omega);by_cases hlt:i<p.secs.length
 ·have gi:=Xg Y6 p.secs i [] hlt;have hsw:=Xoi (fun x=>tkC (atT x)) hlt;have lit:∀(σ:AState) (K:AV->List (Nat×Res)->Prop),X1 tab σ K none 29 1 [(0,.agg [i64 p.secs[i].id,.val (.int .u8 2)])]=K (.sl 2 [tkC (atT p.secs[i])] .full) []:=fun σ K=>Yk (T:=tab) (ti:=ti29) (te:=ti77) rfl rfl rfl (by decide) (by decide) rfl rfl;have z1:(i+1)*16<=140737488355328:=by omega
  have z3:i<=9223372036854775806:=by omega
  repeat' (first|refine Vk fun K hK=> ?_|apply V0|apply Vb|apply Vc|apply Vr|apply Vs|with_reducible apply ab|refine Vq (by kernel_rfl) ?_|((first|apply gE|apply gR|apply gS);simp only[zB,simprocAttr,lit,Xi hm,Y6,ba,Nat.min_eq_left hi,hlt,gi,X0,hw,z1,z3])|exact Vn|(apply Vz;(first|refine Xp (.inr rfl) rfl rfl rfl (fun _ _=>rfl) ok35 (k:=n+0) (off:=0) rfl (Xb _ (by simp)) (X6 _ (Nat.le_refl _) 0) rfl rfl ?_|refine Xp (.inr rfl) rfl rfl rfl (fun _ _=>rfl) ok35 (k:=m+0) (off:=0) rfl (Xb _ (by simp)) (X6 _ hm 0) rfl rfl ?_)<;>first|rfl|exact AV.le.rfl _|(simp only[sL,ti35,ag,lit,Xi hm,Y6,ai,ba,Nat.min_eq_left hi,hlt,gi,X0,hw,z1,z3];done)|rfl|skip)|((refine Vg (fun hg=> ?_) (fun hg=> ?_))<;>try simp only[nb] at hg)|(apply Vx;simp only[sb,reduceIte,Nat.reduceEqDiff])|(refine hK _ ?_;clear hK K)|refine Vt rfl ?_|refine Vf rfl ?_|refine Vi rfl (fun hg=> ?_) (fun hg=> ?_)|clear hK K)
  rw[hsw];refine⟨i+1,by omega,by omega,?_⟩;refine Xx [true,true,true,true,true,true,false] ?_ ?_<;>intro n_<;>simp only[sM]
 obtain rfl:i=p.secs.length:=by omega
 rw[bi];clear hw hi hlt;repeat' (first|refine Vk fun K hK=> ?_|apply V0|apply Vb|apply Vc|apply Vr|apply Vs|with_reducible apply ab|refine Vq (by kernel_rfl) ?_|((first|apply gE|apply gR|apply gS);simp only[zA,simprocAttr,Xi hm,Nat.lt_irrefl])|exact Vn|(apply Vz;(first|refine Xp (.inr rfl) rfl rfl rfl (fun _ _=>rfl) ok35 (k:=n+0) (off:=0) rfl (Xb _ (by simp)) (X6 _ (Nat.le_refl _) 0) rfl rfl ?_|refine Xp (.inr rfl) rfl rfl rfl (fun _ _=>rfl) ok35 (k:=m+0) (off:=0) rfl (Xb _ (by simp)) (X6 _ hm 0) rfl rfl ?_)<;>first|rfl|exact AV.le.rfl _|(simp only[sL,ti35,ag,Xi hm,ai,d9,Nat.lt_irrefl];done)|rfl|skip)|((refine Vg (fun hg=> ?_) (fun hg=> ?_))<;>try simp only[nb] at hg)|(apply Vx;simp only[sb])|(refine hK _ ?_;clear hK K)|refine Vt rfl ?_|refine Vf rfl ?_|refine Vi rfl (fun hg=> ?_) (fun hg=> ?_)|clear hK K)
 obtain⟨W,hW⟩:∃W:Nat->List (Int×Int×Int)×(Nat×Bool),W=fun i=>rdW (p.pts.take i) b th:=⟨_,rfl⟩
 have W0:W 0=([],th):=by rw[hW];rfl
 have Wl:∀i,i<=p.pts.length->(W i).1.length=i:=fun i hi=>by rw[hW];dsimp only;rw[Xss,List.length_take];omega
 have Wi:∀i,(W i).2.1<=b.length:=fun i=>by rw[hW];exact Xxu b _ th h1
 have Ws:∀i (hi:i<p.pts.length),∃c:Int,(∀k,Xr Tryz.prog 31 [.ptr k 0] [(k,some (rdR b (W i).2))] (i64 c) [(k,rdR b (W (i+1)).2)])∧(W i).1.map sgC++[[i64 p.pts[i].1,i64 0,i64 c]]=(W (i+1)).1.map sgC:=fun i hi=>by
  have e:W (i+1)=((W i).1++[(p.pts[i].1,0,(rdZ b (W i).2).1)],(rdZ b (W i).2).2):=by rw[hW];dsimp only;rw[List.take_succ_eq_append_getElem hi,Xrm]
  refine⟨(rdZ b (W i).2).1,fun k=> ?_,?_⟩
  ·rw[e];exact Xqc k b hb (W i).2 (Wi i)
  ·rw[e,aw];rfl
 have Wn:rdW p.pts b th=W p.pts.length:=by rw[hW];dsimp only;rw[List.take_length]
 rw[Wn] at eD;have WN:=Wi p.pts.length;clear hW Wn;apply V5;refine Xrd (p.pts.length) (fun m i=>tr 48 16 [(47,i64 (i:Int)),(2,.ptr (m+0) 0),(4,.ptr (m+1) 0),(5,.ptr (m+2) 0),(7,.top),(9,.top)]) (fun m i=>[some (.box 35 Z0),some (.box 70 [.sl 1 (Xo b) .sh,i64 ((W i).2.1:Int),bool (W i).2.2]),some (.box 35 [.sl 0 [] .nil,i64 p.ver,i64 p.par,.sl 3 (p.secs.map Y6) .sh,.sl 2 (p.pts.map jnC) .sh,.sl 3 (p.sgs.map sgC) .sh,.sl 7 (p.rts.map rtC) .sh,i64 q.ver,i64 q.par,.sl 3 (q.secs.map Y6) .sh,.sl 2 (q.pts.map jnC) .sh,.sl 3 (q.sgs.map sgC) .sh,.sl 7 (q.rts.map rtC) .sh,i64 x,(.sl 2 (p.secs.map fun x=>tkC (atT x)) (.own (m+3))),(.sl 3 ((W i).1.map sgC) (.own (m+4))),.sl 0 [] .nil,.sl 0 [] .nil,i64 0,i64 0,.sl 0 [] .nil,.sl 0 [] .nil,.sl 0 [] .nil,.sl 0 [] .nil,bool false]),some (.row 77 2 p.secs.length),some (.row 63 3 i),some (.row 65 4 0),none]) ?_ fun m i hm hi=> ?_
 ·refine X2 ?_ ?_ (by first|rfl|(simp only[W0,ag];rfl)|simp only[W0,ag]) rfl rfl rfl<;>simp only[sL,W0,ag]
 simp only[pt];have hw:=Yl (n:=i) 1 1 rfl (by omega);by_cases hlt:i<p.pts.length
 ·have gi:=Xg jnC p.pts i [] hlt;obtain⟨c,cW,hsw⟩:=Ws i hlt;have wl:=Wl i hi;simp only[rdR,rdC] at cW;have lit:∀(σ:AState) (K:AV->List (Nat×Res)->Prop),X1 tab σ K none 30 1 [(0,.agg [i64 p.pts[i].1,.val (.int .i64 0),i64 c])]=K (.sl 3 [[i64 p.pts[i].1,i64 0,i64 c]] .full) []:=fun σ K=>Yk (T:=tab) (ti:=ti30) (te:=ti63) rfl rfl rfl (by decide) (by decide) rfl rfl;have z1:(i+1)*24<=140737488355328:=by omega
  have z3:i<=9223372036854775806:=by omega
  repeat' (first|refine Vk fun K hK=> ?_|apply V0|apply Vb|apply Vc|apply Vr|apply Vs|with_reducible apply ab|refine Vd 11 [] [[],[],[2],[],[6],[],[1],[],[],[4],[],[],[2]] [[],[],[],[],[],[],[1],[],[],[4],[],[],[2]] (by kernel_rfl) (by decide) (by decide) (by kernel_rfl) ?_|refine Vq (by kernel_rfl) ?_|((first|apply gE|apply gR|apply gD|apply gF|apply gS);simp only[zB,simprocAttr,lit,Xi hm,jnC,wl,hlt,gi,X0,hw,z1,z3])|exact Vn|(apply Vz;(first|refine Xp (.inr rfl) rfl rfl rfl (fun _ _=>rfl) ok35 (k:=n+0) (off:=0) rfl (Xb _ (by simp)) (X6 _ (Nat.le_refl _) 0) rfl rfl ?_|refine Xp (.inr rfl) rfl rfl rfl (fun _ _=>rfl) ok35 (k:=m+0) (off:=0) rfl (Xb _ (by simp)) (X6 _ hm 0) rfl rfl ?_)<;>first|rfl|exact AV.le.rfl _|(simp only[sL,ti35,ag,lit,Xi hm,jnC,ai,wl,hlt,gi,X0,hw,z1,z3];done)|rfl|skip)|(refine Sb (cW (m+1)) (X6 _ hm 1) (Xb _ (by simp)) (by simp) ?_)|((refine Vg (fun hg=> ?_) (fun hg=> ?_))<;>try simp only[nb] at hg)|(apply Vx;simp only[sb,reduceIte,Nat.reduceEqDiff])|(refine hK _ ?_;clear hK K)|refine Vt rfl ?_|refine Vf rfl ?_|refine Vi rfl (fun hg=> ?_) (fun hg=> ?_)|clear hK K)
  rw[hsw];refine⟨i+1,by omega,by omega,?_⟩;refine Xx [true,true,true,true,true,true,false] ?_ ?_<;>intro n_<;>simp only[sM]
 obtain rfl:i=p.pts.length:=by omega
 clear hw hi hlt;repeat' (first|refine Vk fun K hK=> ?_|apply V0|apply Vb|apply Vc|apply Vr|apply Vs|with_reducible apply ab|refine Vq (by kernel_rfl) ?_|((first|apply gE|apply gR|apply gS);simp only[zA,simprocAttr,Xi hm,Nat.lt_irrefl])|exact Vn|(apply Vz;(first|refine Xp (.inr rfl) rfl rfl rfl (fun _ _=>rfl) ok35 (k:=n+0) (off:=0) rfl (Xb _ (by simp)) (X6 _ (Nat.le_refl _) 0) rfl rfl ?_|refine Xp (.inr rfl) rfl rfl rfl (fun _ _=>rfl) ok35 (k:=m+0) (off:=0) rfl (Xb _ (by simp)) (X6 _ hm 0) rfl rfl ?_)<;>first|rfl|exact AV.le.rfl _|(simp only[sL,ti35,ag,Xi hm,ai,d9,Nat.lt_irrefl];done)|rfl|skip)|((refine Vg (fun hg=> ?_) (fun hg=> ?_))<;>try simp only[nb] at hg)|(apply Vx;simp only[sb])|(refine hK _ ?_;clear hK K)|refine Vt rfl ?_|refine Vf rfl ?_|refine Vi rfl (fun hg=> ?_) (fun hg=> ?_)|clear hK K)
 obtain⟨L,hL⟩:∃L:Nat->List (Int×UInt8×Int×Int)×(Nat×Bool),L=fun i=>Xs3 (p.rts.take i) b (W p.pts.length).2:=⟨_,rfl⟩
 have L0:L 0=([],(W p.pts.length).2):=by rw[hL];rfl
 have Ll:∀i,i<=p.rts.length->(L i).1.length=i:=fun i hi=>by rw[hL];dsimp only;rw[Xrj,List.length_take];omega
 have Li:∀i,(L i).2.1<=b.length:=fun i=>by rw[hL];exact Xvh b _ _ WN
 have Ls:∀i (hi:i<p.rts.length),∃(c d:Int) (s:Nat×Bool) (J:Int×UInt8×Int×Int),(∀k,Xr Tryz.prog 31 [.ptr k 0] [(k,some (rdR b (L i).2))] (i64 c) [(k,rdR b s)])∧(∀k,Xr Tryz.prog 31 [.ptr k 0] [(k,some (rdR b s))] (i64 d) [(k,rdR b (L (i+1)).2)])∧Xr Tryz.prog 32 [rtA p.rts[i],i64 c,i64 d] [] (lkA J) []∧(L i).1.map lkC++[[i64 J.1,b8 J.2.1,i64 J.2.2.1,i64 J.2.2.2]]=(L (i+1)).1.map lkC:=fun i hi=>by
  have e:L (i+1)=((L i).1++[Xpl p.rts[i] (rdZ b (L i).2).1 (rdZ b (rdZ b (L i).2).2).1],(rdZ b (rdZ b (L i).2).2).2):=by rw[hL];dsimp only;rw[List.take_succ_eq_append_getElem hi,Xqk]
  refine⟨_,_,_,_,fun k=>Xqc k b hb (L i).2 (Li i),fun k=> ?_,Xz8 p.rts[i] (rdZ b (L i).2).1 (rdZ b (rdZ b (L i).2).2).1 (Xye _ _),?_⟩
  ·rw[e];exact Xqc k b hb (rdZ b (L i).2).2 (Xs6 (Li i))
  ·rw[e,aw];rfl
 have Ln:Xs3 p.rts b (W p.pts.length).2=L p.rts.length:=by rw[hL];dsimp only;rw[List.take_length]
 rw[Ln] at eD;clear hL Ln Ws;apply V5;refine Xrd (p.rts.length) (fun m i=>tr 69 17 [(68,i64 (i:Int)),(2,.ptr (m+0) 0),(4,.ptr (m+1) 0),(5,.ptr (m+2) 0),(7,.top),(9,.top),(11,.top)]) (fun m i=>[some (.box 35 Z0),some (.box 70 [.sl 1 (Xo b) .sh,i64 ((L i).2.1:Int),bool (L i).2.2]),some (.box 35 [.sl 0 [] .nil,i64 p.ver,i64 p.par,.sl 3 (p.secs.map Y6) .sh,.sl 2 (p.pts.map jnC) .sh,.sl 3 (p.sgs.map sgC) .sh,.sl 7 (p.rts.map rtC) .sh,i64 q.ver,i64 q.par,.sl 3 (q.secs.map Y6) .sh,.sl 2 (q.pts.map jnC) .sh,.sl 3 (q.sgs.map sgC) .sh,.sl 7 (q.rts.map rtC) .sh,i64 x,(.sl 2 (p.secs.map fun x=>tkC (atT x)) (.own (m+3))),(.sl 3 ((W p.pts.length).1.map sgC) (.own (m+4))),(.sl 4 ((L i).1.map lkC) (.own (m+5))),.sl 0 [] .nil,i64 0,i64 0,.sl 0 [] .nil,.sl 0 [] .nil,.sl 0 [] .nil,.sl 0 [] .nil,bool false]),some (.row 77 2 p.secs.length),some (.row 63 3 p.pts.length),some (.row 65 4 i),none]) ?_ fun m i hm hi=> ?_
 ·refine X2 ?_ ?_ (by first|rfl|(simp only[L0,ag];rfl)|simp only[L0,ag]) rfl rfl rfl<;>simp only[sL,L0,ag]
 simp only[pt];have hw:=Yl (n:=i) 1 1 rfl (by omega);by_cases hlt:i<p.rts.length
 ·have gi:=Xg rtC p.rts i [] hlt;obtain⟨c,d,s,J,cA,cB,cL,hsl⟩:=Ls i hlt;have ll:=Ll i hi;simp only[rdR,rdC] at cA cB;simp only[rtA,rtC,lkA,lkC] at cL;have lit:∀(σ:AState) (K:AV->List (Nat×Res)->Prop),X1 tab σ K none 31 1 [(0,.agg [i64 J.1,b8 J.2.1,i64 J.2.2.1,i64 J.2.2.2])]=K (.sl 4 [[i64 J.1,b8 J.2.1,i64 J.2.2.1,i64 J.2.2.2]] .full) []:=fun σ K=>Yk (T:=tab) (ti:=ti31) (te:=ti65) rfl rfl rfl (by decide) (by decide) rfl rfl;have z1:(i+1)*32<=140737488355328:=by omega
  have z3:i<=9223372036854775806:=by omega
  repeat' (first|refine Vk fun K hK=> ?_|apply V0|apply Vb|apply Vc|apply Vr|apply Vs|with_reducible apply ab|refine Vd 16 [] [[],[],[2],[6],[],[1],[],[1],[],[],[5],[],[],[2]] [[],[],[],[],[],[1],[],[1],[],[],[5],[],[],[2]] (by kernel_rfl) (by decide) (by decide) (by kernel_rfl) ?_|refine Vq (by kernel_rfl) ?_|((first|apply gE|apply gR|apply gD|apply gF|apply gS);simp only[zB,simprocAttr,lit,Xi hm,rtC,ll,hlt,gi,X0,hw,z1,z3])|exact Vn|(apply Vz;(first|refine Xp (.inr rfl) rfl rfl rfl (fun _ _=>rfl) ok35 (k:=n+0) (off:=0) rfl (Xb _ (by simp)) (X6 _ (Nat.le_refl _) 0) rfl rfl ?_|refine Xp (.inr rfl) rfl rfl rfl (fun _ _=>rfl) ok35 (k:=m+0) (off:=0) rfl (Xb _ (by simp)) (X6 _ hm 0) rfl rfl ?_)<;>first|rfl|exact AV.le.rfl _|(simp only[sL,ti35,ag,lit,Xi hm,rtC,ai,ll,hlt,gi,X0,hw,z1,z3];done)|rfl|skip)|(refine Sb (cA (m+1)) (X6 _ hm 1) (Xb _ (by simp)) (by simp) ?_)|(refine Sb (cB (m+1)) (X6 _ hm 1) (Xb _ (by simp)) (by simp) ?_)|(refine X3 (cL) ?_)|((refine Vg (fun hg=> ?_) (fun hg=> ?_))<;>try simp only[nb] at hg)|(apply Vx;simp only[sb,reduceIte,Nat.reduceEqDiff])|(refine hK _ ?_;clear hK K)|refine Vt rfl ?_|refine Vf rfl ?_|refine Vi rfl (fun hg=> ?_) (fun hg=> ?_)|clear hK K)
  rw[hsl];refine⟨i+1,by omega,by omega,?_⟩;refine Xx [true,true,true,true,true,true,false] ?_ ?_<;>intro n_<;>simp only[sM]
 obtain rfl:i=p.rts.length:=by omega
 clear hw hi hlt;obtain⟨X,hX⟩:∃X:Hs,X=⟨[],p,q,x,⟨p.secs.map atT,(W p.pts.length).1,(L p.rts.length).1⟩,[],Aq,false⟩:=⟨_,rfl⟩
 have sX:=Xxv b;rw[eD,<- hX] at sX;have rO:Xod b=(!(L p.rts.length).2.2&&(Xo9 X&&Xp7 X==b)):=by unfold Xod;rw[eD,hX]
 have rH:Xof b=if Xod b then X else Xtd:=by unfold Xof;rw[eD,hX]
 have eX:hsA X= .agg [.sl 1 [] .sh,i64 p.ver,i64 p.par,.sl 3 (p.secs.map Y6) .sh,.sl 2 (p.pts.map jnC) .sh,.sl 3 (p.sgs.map sgC) .sh,.sl 7 (p.rts.map rtC) .sh,i64 q.ver,i64 q.par,.sl 3 (q.secs.map Y6) .sh,.sl 2 (q.pts.map jnC) .sh,.sl 3 (q.sgs.map sgC) .sh,.sl 7 (q.rts.map rtC) .sh,i64 x,.sl 2 (p.secs.map fun x=>tkC (atT x)) .sh,.sl 3 ((W p.pts.length).1.map sgC) .sh,.sl 4 ((L p.rts.length).1.map lkC) .sh,.sl 1 [] .sh,i64 0,i64 0,.sl 3 [] .sh,.sl 2 [] .sh,.sl 3 [] .sh,.sl 7 [] .sh,bool false]:=by
  rw[hX];simp only[hsA,hsC,Wb,gr,Aq,ag];rfl
 have lx:AV.le (.agg [.sl 0 [] .nil,i64 p.ver,i64 p.par,.sl 3 (p.secs.map Y6) .sh,.sl 2 (p.pts.map jnC) .sh,.sl 3 (p.sgs.map sgC) .sh,.sl 7 (p.rts.map rtC) .sh,i64 q.ver,i64 q.par,.sl 3 (q.secs.map Y6) .sh,.sl 2 (q.pts.map jnC) .sh,.sl 3 (q.sgs.map sgC) .sh,.sl 7 (q.rts.map rtC) .sh,i64 x,(.sl 2 (p.secs.map fun x=>tkC (atT x)) (.own (m+3))),(.sl 3 ((W p.pts.length).1.map sgC) (.own (m+4))),(.sl 4 ((L p.rts.length).1.map lkC) (.own (m+5))),.sl 0 [] .nil,i64 0,i64 0,.sl 0 [] .nil,.sl 0 [] .nil,.sl 0 [] .nil,.sl 0 [] .nil,bool false]) (hsA X):=by rw[eX];simp only[sL]
 have cW:=Xdb (args':=[.agg [.sl 0 [] .nil,i64 p.ver,i64 p.par,.sl 3 (p.secs.map Y6) .sh,.sl 2 (p.pts.map jnC) .sh,.sl 3 (p.sgs.map sgC) .sh,.sl 7 (p.rts.map rtC) .sh,i64 q.ver,i64 q.par,.sl 3 (q.secs.map Y6) .sh,.sl 2 (q.pts.map jnC) .sh,.sl 3 (q.sgs.map sgC) .sh,.sl 7 (q.rts.map rtC) .sh,i64 x,(.sl 2 (p.secs.map fun x=>tkC (atT x)) (.own (m+3))),(.sl 3 ((W p.pts.length).1.map sgC) (.own (m+4))),(.sl 4 ((L p.rts.length).1.map lkC) (.own (m+5))),.sl 0 [] .nil,i64 0,i64 0,.sl 0 [] .nil,.sl 0 [] .nil,.sl 0 [] .nil,.sl 0 [] .nil,bool false]]) (Xp9 X sX) ⟨lx,trivial⟩;have wl:(Xlr X).length<=1000000000:=by
  unfold Xlr;split
  ·rename_i h;have:=Xsq h;omega
  ·simp
 have cE:=Xz9 (Xlr X) b wl;rw[rH] at hRA;clear eD sX rH wl;cases ho:(L p.rts.length).2.2 with
 |true=>
  have e:Xod b=false:=by rw[rO,ho];rfl
  rw[e,if_neg ew,if_neg ew] at hRA;generalize Xlr X=B at*;generalize Xoc X=D at*;repeat' (first|refine Vk fun K hK=> ?_|apply V0|apply Vb|apply Vc|apply Vr|apply Vs|with_reducible apply ab|refine Vq (by kernel_rfl) ?_|((first|apply gE|apply gR|apply gS);simp only[zA,simprocAttr,Xi hm,Nat.lt_irrefl,X0,hZ0])|exact Vn|(apply Vz;(first|refine Xp (.inr rfl) rfl rfl rfl (fun _ _=>rfl) ok35 (k:=n+0) (off:=0) rfl (Xb _ (by simp)) (X6 _ (Nat.le_refl _) 0) rfl rfl ?_|refine Xp (.inr rfl) rfl rfl rfl (fun _ _=>rfl) ok35 (k:=m+0) (off:=0) rfl (Xb _ (by simp)) (X6 _ hm 0) rfl rfl ?_)<;>first|rfl|exact AV.le.rfl _|(simp only[sL];done)|rfl|skip)|(refine X3 (cW) ?_)|(refine X3 (cE) ?_)|((refine Vg (fun hg=> ?_) (fun hg=> ?_))<;>try simp only[nb] at hg)|(apply Vx;simp only[sb])|(refine hK _ ?_;clear hK K)|refine Vt rfl ?_|refine Vf rfl ?_|refine Vi rfl (fun hg=> ?_) (fun hg=> ?_)|clear hK K)
  rw[hRA];exact(Fg _ _).2 ⟨Xrk,.rfl _,trivial⟩
 |false=>
  cases hcb:Xo9 X with
  |false=>
   have e:Xod b=false:=by rw[rO,ho,hcb];rfl
   have e1:Xoc X=8:=by unfold Xoc;rw[hcb];rfl
   rw[e,if_neg ew,if_neg ew] at hRA;rw[e1] at cW;generalize Xlr X=B at*;repeat' (first|refine Vk fun K hK=> ?_|apply V0|apply Vb|apply Vc|apply Vr|apply Vs|with_reducible apply ab|refine Vq (by kernel_rfl) ?_|((first|apply gE|apply gR|apply gS);simp only[zA,simprocAttr,Xi hm,Nat.lt_irrefl,X0,hZ0])|exact Vn|(apply Vz;(first|refine Xp (.inr rfl) rfl rfl rfl (fun _ _=>rfl) ok35 (k:=n+0) (off:=0) rfl (Xb _ (by simp)) (X6 _ (Nat.le_refl _) 0) rfl rfl ?_|refine Xp (.inr rfl) rfl rfl rfl (fun _ _=>rfl) ok35 (k:=m+0) (off:=0) rfl (Xb _ (by simp)) (X6 _ hm 0) rfl rfl ?_)<;>first|rfl|exact AV.le.rfl _|(simp only[sL];done)|rfl|skip)|(refine X3 (cW) ?_)|(refine X3 (cE) ?_)|((refine Vg (fun hg=> ?_) (fun hg=> ?_))<;>try simp only[nb] at hg)|(apply Vx;simp only[sb])|(refine hK _ ?_;clear hK K)|refine Vt rfl ?_|refine Vf rfl ?_|refine Vi rfl (fun hg=> ?_) (fun hg=> ?_)|clear hK K)
   rw[hRA];exact(Fg _ _).2 ⟨Xrk,.rfl _,trivial⟩
  |true=>
   have e1:Xoc X=0:=by unfold Xoc;rw[hcb];rfl
   have e2:Xlr X=Xp7 X:=by unfold Xlr;rw[hcb];rfl
   rw[e1,e2] at cW;rw[e2] at cE;cases hE:(Xp7 X==b) with
   |false=>
    have e:Xod b=false:=by rw[rO,ho,hcb,hE];rfl
    rw[e,if_neg ew,if_neg ew] at hRA;rw[hE] at cE;generalize Xp7 X=B at*;repeat' (first|refine Vk fun K hK=> ?_|apply V0|apply Vb|apply Vc|apply Vr|apply Vs|with_reducible apply ab|refine Vq (by kernel_rfl) ?_|((first|apply gE|apply gR|apply gS);simp only[zA,simprocAttr,Xi hm,Nat.lt_irrefl,X0,hZ0])|exact Vn|(apply Vz;(first|refine Xp (.inr rfl) rfl rfl rfl (fun _ _=>rfl) ok35 (k:=n+0) (off:=0) rfl (Xb _ (by simp)) (X6 _ (Nat.le_refl _) 0) rfl rfl ?_|refine Xp (.inr rfl) rfl rfl rfl (fun _ _=>rfl) ok35 (k:=m+0) (off:=0) rfl (Xb _ (by simp)) (X6 _ hm 0) rfl rfl ?_)<;>first|rfl|exact AV.le.rfl _|(simp only[sL];done)|rfl|skip)|(refine X3 (cW) ?_)|(refine X3 (cE) ?_)|((refine Vg (fun hg=> ?_) (fun hg=> ?_))<;>try simp only[nb] at hg)|(apply Vx;simp only[sb])|(refine hK _ ?_;clear hK K)|refine Vt rfl ?_|refine Vf rfl ?_|refine Vi rfl (fun hg=> ?_) (fun hg=> ?_)|clear hK K)
    rw[hRA];exact(Fg _ _).2 ⟨Xrk,.rfl _,trivial⟩
   |true=>
    have e:Xod b=true:=by rw[rO,ho,hcb,hE];rfl
    rw[e,if_pos rfl,if_pos rfl] at hRA;rw[hE] at cE;generalize Xp7 X=B at*;repeat' (first|refine Vk fun K hK=> ?_|apply V0|apply Vb|apply Vc|apply Vr|apply Vs|with_reducible apply ab|refine Vq (by kernel_rfl) ?_|((first|apply gE|apply gR|apply gS);simp only[zA,simprocAttr,Xi hm,Nat.lt_irrefl,X0,hZ0,Y1g])|exact Vn|(apply Vz;(first|refine Xp (.inr rfl) rfl rfl rfl (fun _ _=>rfl) ok35 (k:=n+0) (off:=0) rfl (Xb _ (by simp)) (X6 _ (Nat.le_refl _) 0) rfl rfl ?_|refine Xp (.inr rfl) rfl rfl rfl (fun _ _=>rfl) ok35 (k:=m+0) (off:=0) rfl (Xb _ (by simp)) (X6 _ hm 0) rfl rfl ?_)<;>first|rfl|exact AV.le.rfl _|(simp only[sL];done)|rfl|skip)|(refine X3 (cW) ?_)|(refine X3 (cE) ?_)|((refine Vg (fun hg=> ?_) (fun hg=> ?_))<;>try simp only[nb] at hg)|(apply Vx;simp only[sb])|(refine hK _ ?_;clear hK K)|refine Vt rfl ?_|refine Vf rfl ?_|refine Vi rfl (fun hg=> ?_) (fun hg=> ?_)|clear hK K)
    rw[hRA];exact(Fg _ _).2 ⟨lx,.rfl _,trivial⟩
end Go.Proofs.YtdngdjbgmojcoaaGreat.Pln
