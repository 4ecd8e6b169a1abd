/- The layer of abstract values, joined. -/
import Derived.Test.YtdngdjbgmojcoaaGreatZPR
import Derived.Test.YtdngdjbgmojcoaaGreatZKC
import Derived.Test.YtdngdjbgmojcoaaGreatZWC
namespace Go.Proofs.YtdngdjbgmojcoaaGreat.Pln
set_option linter.all false
set_option maxHeartbeats 8000000
set_option maxRecDepth 4000
open Go Go.VS Tab
attribute [local irreducible] AWp Xp0 Pg X5c Qy Lt Tp FdT Eb
abbrev txB (A:List UInt8) (ko:Nat):Res:= .box 103 [.sl 1 (Xo A) (.own ko)]
abbrev txR (A:List UInt8):Res:= .row 5 1 A.length
def txO (out:Nat->Option Res) (kb ko:Nat) (A:List UInt8):Nat->Option Res:=Xw (Xw out kb (txB A ko)) ko (txR A)
theorem Kh {out:Nat->Option Res} {kb ko:Nat} (h:kb≠ko) (A:List UInt8):txO out kb ko A kb=some (txB A ko):=by unfold txO;rw[Zp _ _ h,Xt]
theorem Xpx {out:Nat->Option Res} {kb ko:Nat} (A:List UInt8):txO out kb ko A ko=some (txR A):=by unfold txO;rw[Xt]
theorem X7z {out:Nat->Option Res} {kb ko:Nat} (h:kb≠ko) (A:List UInt8) (q:Res):Xw (txO out kb ko A) ko q kb=some (txB A ko):=by rw[Zp _ _ h,Kh h]
theorem X5h {out:Nat->Option Res} {kb ko k:Nat} (h:k≠kb) (h':k≠ko) (A:List UInt8):txO out kb ko A k=out k:=by unfold txO;rw[Zp _ _ h',Zp _ _ h]
theorem Dd {out:Nat->Option Res} {kb ko:Nat} {A:List UInt8} (h1:out kb=some (txB A ko)) (h2:out ko=some (txR A)):txO out kb ko A=out:=by unfold txO;rw[Qb h1,Qb h2]
theorem V7 (out:Nat->Option Res) (kb ko:Nat) (A:List UInt8):upd out [(kb,txB A ko),(ko,txR A)]=txO out kb ko A:=by rw[Zc,Zc,Wz];rfl
theorem V9 (out:Nat->Option Res) (kb ko:Nat) (A B:List UInt8):Xw (Xw (txO out kb ko A) kb (txB B ko)) ko (txR B)=txO out kb ko B:=by
 unfold txO;funext j;simp only[Xw];by_cases h1:j=ko
 ·rw[if_pos h1,if_pos h1]
 ·by_cases h2:j=kb
  ·rw[if_neg h1,if_pos h2,if_neg h1,if_pos h2]
  ·rw[if_neg h1,if_neg h2,if_neg h1,if_neg h2,if_neg h1,if_neg h2]
theorem Ad {out:Nat->Option Res} {kb ko:Nat} (h:kb≠ko) (A B:List UInt8):Xw (Xw (txO out kb ko A) ko (txR B)) kb (txB B ko)=txO out kb ko B:=by
 unfold txO;funext j;simp only[Xw];by_cases h1:j=ko
 ·have h2:¬j=kb:=fun e=>h (e.symm.trans h1);rw[if_neg h2,if_pos h1,if_pos h1]
 ·by_cases h2:j=kb
  ·rw[if_pos h2,if_neg h1,if_pos h2]
  ·rw[if_neg h2,if_neg h1,if_neg h1,if_neg h2,if_neg h1,if_neg h2]
theorem X2s {out:Nat->Option Res} {kb ko:Nat} (h:kb≠ko) (A B:List UInt8):Xw (Xw (txO out kb ko A) ko (.row 5 1 (A.length+B.length))) kb (.box 103 [.sl 1 (Xo A++Xo B) (.own ko)])=txO out kb ko (A++B):=by
 rw[L6,<- ac];exact Ad h A (A++B)
theorem Y3 {α β:Type} (f:α->List β) (l:List α) (i:Nat) (h:i<l.length):(l.take (i+1)).flatMap f=(l.take i).flatMap f++f l[i]:=by
 rw[aj h,b0];simp
theorem Xon {α β:Type} (f:α->List β) (l:List α) (i:Nat):((l.take i).flatMap f).length<=(l.flatMap f).length:=by
 conv=>rhs;rw[<- dr i l,b0,ac]
 omega
theorem Gs (kb ko:Nat) (hne:kb≠ko) (A:List UInt8) (l:List Int) (md:Md) (hb:A.length+(l.flatMap Y3m).length<=1000000) (hl:l.length<=1000000):
  Xr Tryz.prog 83 [.ptr kb 0,.sl 1 (l.map Ym) md] [(kb,some (txB A ko)),(ko,some (txR A))] (.tup []) [(kb,txB (A++l.flatMap Y3m) ko),(ko,txR (A++l.flatMap Y3m))]:=by
 refine Xc 0 Tryz.func83 rfl fun n out _ _=> ?_;simp only[sn,Tryz.ntmps83,simprocAttr];rename_i hneeds hgv;obtain⟨hk,hko,_⟩:=hneeds;obtain⟨hkn,hkon,_⟩:=hgv;have e0:txO out kb ko (A++(l.take 0).flatMap Y3m)=out:=by
  rw[List.take_zero,bv,a9];exact Dd hk hko
 refine Vy fun K hK=> ?_;simp only[zA,simprocAttr]
 (refine hK _ ?_;clear hK K)
 apply V5;refine Xz (fun i:Nat=>tp [5,6,7] (tr 11 16 [(10,i64 (i:Int))])) (fun i=>[]) (fun i=>txO out kb ko (A++(l.take i).flatMap Y3m)) (fun i=>i<=l.length) (fun i=>l.length - i) 0 (br _) ?_ fun i hi=> ?_
 ·refine X2 ?_ ?_ (by first|rfl|(simp only[e0];rfl)|simp only[e0]) rfl rfl rfl<;>simp only[sL]
 simp only[pt];have hw:=Yl (n:=i) 1 1 rfl (by omega);by_cases hlt:i<l.length
 ·have gi:=Xg Ym l i [] hlt;have hfl:=Xon Y3m l (i+1);rw[Y3 Y3m l i hlt,ac] at hfl;obtain⟨B,hB⟩:∃B,B=A++(l.take i).flatMap Y3m:=⟨_,rfl⟩
  have hB':A++(l.take (i+1)).flatMap Y3m=B++Y3m l[i]:=by rw[Y3 Y3m l i hlt,hB,aq]
  have b1:B.length+(Y3m l[i]).length<=1000000:=by rw[hB,ac];omega
  have b2:B.length+(Y3m l[i]).length<=140737488355328:=by omega
  have b3:B.length+(Y3m l[i]).length<=9223372036854775807:=by omega
  rw[<- hB];repeat' (first|refine Vk fun K hK=> ?_|apply V0|apply Vb|apply Vs|((first|apply gE|apply gR);simp only[zA,simprocAttr,X8 hkn,X7 hkn,X8 hkon,X7 hkon,Xa hkn,Xa hkon,Kh hne,Xpx,X7z hne,X2s hne,gi,Ym,hlt,X0,b2,b3,X5,hw])|(refine X3 (Gr l[i]) ?_)|(refine hK _ ?_;clear hK K)|refine Vt rfl ?_)
  refine⟨i+1,by omega,by omega,?_⟩;rw[hB'];refine La rfl ?_ ?_<;>simp only[sL]
 ·obtain rfl:i=l.length:=by omega
  repeat' (first|refine Vk fun K hK=> ?_|apply V0|(apply gE;simp only[zA,simprocAttr,hlt])|(apply Vx;simp only[sb])|(refine hK _ ?_;clear hK K)|refine Vf rfl ?_|clear hK K)
  rw[bi];exact Xy (.inl rfl) rfl rfl rfl (fun j _=>by rw[V7])
theorem W1 (kb ko:Nat) (hne:kb≠ko) (A:List UInt8) (a:Int) (hb:A.length+(Y3m a).length<=1000000):
  Xr Tryz.prog 83 [.ptr kb 0,.sl 1 [[i64 a]] .full] [(kb,some (txB A ko)),(ko,some (txR A))] (.tup []) [(kb,txB (A++Y3m a) ko),(ko,txR (A++Y3m a))]:=by
 have h:=Gs kb ko hne A [a] .full (by simpa using hb) (by simp);rw[show[a].flatMap Y3m=Y3m a by simp] at h;exact h
theorem Mq (kb ko:Nat) (hne:kb≠ko) (A:List UInt8) (a b:Int) (hb:A.length+(Y3m a++Y3m b).length<=1000000):
  Xr Tryz.prog 83 [.ptr kb 0,.sl 1 [[i64 a],[i64 b]] .full] [(kb,some (txB A ko)),(ko,some (txR A))] (.tup []) [(kb,txB (A++(Y3m a++Y3m b)) ko),(ko,txR (A++(Y3m a++Y3m b)))]:=by
 have h:=Gs kb ko hne A [a,b] .full (by simpa using hb) (by simp);rw[show[a,b].flatMap Y3m=Y3m a++Y3m b by simp] at h;exact h
theorem Gt (kb ko:Nat) (hne:kb≠ko) (A:List UInt8) (a b c:Int) (hb:A.length+(Y3m a++(Y3m b++Y3m c)).length<=1000000):
  Xr Tryz.prog 83 [.ptr kb 0,.sl 1 [[i64 a],[i64 b],[i64 c]] .full] [(kb,some (txB A ko)),(ko,some (txR A))] (.tup []) [(kb,txB (A++(Y3m a++(Y3m b++Y3m c))) ko),(ko,txR (A++(Y3m a++(Y3m b++Y3m c))))]:=by
 have h:=Gs kb ko hne A [a,b,c] .full (by simpa using hb) (by simp);rw[show[a,b,c].flatMap Y3m=Y3m a++(Y3m b++Y3m c) by simp] at h;exact h
theorem Mr (a:Int) (σ:AState) (K:AV->List (Nat×Res)->Prop):X1 tab σ K none 61 1 [(0,i64 a)]=K (.sl 1 [[i64 a]] .full) []:=Yk (T:=tab) (ti:=ti61) (te:=ti3) rfl rfl rfl (by decide) (by decide) rfl rfl
theorem B6 (a b:Int) (σ:AState) (K:AV->List (Nat×Res)->Prop):X1 tab σ K none 61 2 [(0,i64 a),(1,i64 b)]=K (.sl 1 [[i64 a],[i64 b]] .full) []:=Te (T:=tab) (ti:=ti61) (te:=ti3) rfl rfl rfl rfl rfl rfl
theorem Gu {P:Program} {σ:AState} {K:AV->List (Nat×Res)->Prop} {f:FuncId} {args:List AV} {k j i:Nat} {q u v:Option Res} {q' u':Res} {r:AV} (h:Xr P f args [(k,q),(j,u),(i,v)] r [(k,q'),(j,u')]) (h1:σ.look k=q) (h2:σ.look j=u) (h3:σ.look i=v)
  (d1:σ.dom k) (d2:σ.dom j) (d3:σ.dom i) (n1:q≠some .dead) (n2:u≠some .dead) (n3:v≠some .dead) (hK:K r [(k,q'),(j,u')]):M8 P σ K f args:=
 ⟨_,r,_,h,⟨h1,h2,h3,trivial⟩,⟨d1,d2,trivial⟩,(fun x hx=>by simp at hx;rcases hx with rfl|rfl|rfl;exact⟨d1,n1⟩;exact⟨d2,n2⟩;exact⟨d3,n3⟩),hK⟩
theorem Yce {α:Type} (Z:α->List AV) (F sz:Nat) (hq:(F=84∧sz=3)∨(F=86∧sz=2)∨(F=88∧sz=3)∨(F=93∧sz=2)) (hZ:∀x,(Z x).length=sz) (kb ko:Nat) (hne:kb≠ko) (gf:FuncId) (caps:List AV) (hB:Xd Tryz.prog gf=True) (l:List α) (enc:α->List UInt8) (A:List UInt8) (hl:l.length<=1000000) (hb:A.length+(Zz enc l).length<=1000000)
  (hp:∀x,x∈l->∀B:List UInt8,B.length+(enc x).length<=1000000->Xr Tryz.prog gf (.agg (Z x)::caps) [(kb,some (txB B ko)),(ko,some (txR B))] (.tup []) [(kb,txB (B++enc x) ko),(ko,txR (B++enc x))]):
  Xr Tryz.prog F [.ptr kb 0,.sl sz (l.map Z) .sh,.fn (.func gf) caps] [(kb,some (txB A ko)),(ko,some (txR A))] (.tup []) [(kb,txB (A++Zz enc l) ko),(ko,txR (A++Zz enc l))]:=by
 unfold Zz at hb⊢;rw[ac] at hb;obtain⟨C,hC⟩:∃C,C=A++Y3m (l.length:Int):=⟨_,rfl⟩
 have hCl:C.length=A.length+(Y3m (l.length:Int)).length:=by rw[hC,ac]
 rw[<- aq,<- hC];have ct:=W1 kb ko hne A (l.length:Int) (by omega);rw[<- hC] at ct;rcases hq with ⟨rfl,e1⟩|⟨rfl,e1⟩|⟨rfl,e1⟩|⟨rfl,e1⟩
 all_goals
  subst e1;have hP:=fun x=>E6 (hZ x);first|refine Xc 1 Tryz.func84 rfl fun n out _ _=> ?_|refine Xc 1 Tryz.func86 rfl fun n out _ _=> ?_|refine Xc 1 Tryz.func88 rfl fun n out _ _=> ?_|refine Xc 1 Tryz.func93 rfl fun n out _ _=> ?_
  simp only[sn,Tryz.ntmps84,Tryz.ntmps86,Tryz.ntmps88,Tryz.ntmps93,simprocAttr];rename_i hneeds hgv;obtain⟨hk,hko,_⟩:=hneeds;obtain⟨hkn,hkon,_⟩:=hgv;repeat' (first|refine Vk fun K hK=> ?_|apply V0|((first|apply gE|apply gR);simp only[zB,simprocAttr,Mr,Xa hkn,Xa hkon])|(refine Xk ct (by rw[X8 hkn];exact hk) (by rw[X8 hkon];exact hko) (by rw[X7 hkn];trivial) (by rw[X7 hkon];trivial) (by simp) (by simp) ?_)|(refine hK _ ?_;clear hK K))
  have e0:txO out kb ko (C++(l.take 0).flatMap enc)=Xw (Xw out kb (txB C ko)) ko (txR C):=by rw[List.take_zero,bv,a9];rfl
  apply V5;refine Xl (fun m (i:Nat)=>tp [7] (tr 16 7 [(15,i64 (i:Int))])) (fun m i=>[none]) (fun i=>txO out kb ko (C++(l.take i).flatMap enc)) (fun i=>i<=l.length) (fun i=>l.length - i) 0 (br _) ?_ fun m i hm hi=> ?_
  ·refine X2 ?_ ?_ (by first|rfl|(simp only[e0];rfl)|simp only[e0]) rfl rfl rfl<;>simp only[sL]
  simp only[pt];have hw:=Yl (n:=i) 1 1 rfl (by omega);by_cases hlt:i<l.length
  ·have gi:=Xg Z l i [] hlt;have hfl:=Xon enc l (i+1);rw[Y3 enc l i hlt,ac] at hfl;obtain⟨B,hB'⟩:∃B,B=C++(l.take i).flatMap enc:=⟨_,rfl⟩
   have hB2:C++(l.take (i+1)).flatMap enc=B++enc l[i]:=by rw[Y3 enc l i hlt,hB',aq]
   have b1:B.length+(enc l[i]).length<=1000000:=by rw[hB',ac];omega
   have cp:=hp l[i] (a8 hlt) B b1;rw[<- hB'];repeat' (first|refine Vk fun K hK=> ?_|apply V0|apply Vb|apply Vs|((first|apply gE|apply gR);simp only[zA,simprocAttr,Xi hm,hB,gi,hP,hlt,hZ,Xa hkn,Xa hkon,V9,X0,hw])|(refine Xk cp (by rw[X8 hkn];exact Kh hne B) (by rw[X8 hkon];exact Xpx B) (by rw[X7 hkn];trivial) (by rw[X7 hkon];trivial) (by simp) (by simp) ?_)|(refine hK _ ?_;clear hK K)|refine Vt rfl ?_)
   refine⟨i+1,by omega,by omega,?_⟩;rw[hB2];refine Xx [false] ?_ ?_<;>intro n_<;>simp only[sM]
  ·obtain rfl:i=l.length:=by omega
   repeat' (first|refine Vk fun K hK=> ?_|apply V0|(apply gE;simp only[zA,simprocAttr,hlt])|(apply Vx;simp only[sb])|(refine hK _ ?_;clear hK K)|refine Vf rfl ?_|clear hK K)
   rw[bi];exact Xy (.inl rfl) rfl rfl rfl (fun j _=>by rw[V7])
theorem Ae (kb ko:Nat) (hne:kb≠ko) (gf:FuncId) (caps:List AV) (hB:Xd Tryz.prog gf=True) (l:List (Sec)) (enc:Sec->List UInt8) (A:List UInt8) (hl:l.length<=1000000) (hb:A.length+(Zz enc l).length<=1000000)
  (hp:∀x,x∈l->∀B:List UInt8,B.length+(enc x).length<=1000000->Xr Tryz.prog gf (Qh x::caps) [(kb,some (txB B ko)),(ko,some (txR B))] (.tup []) [(kb,txB (B++enc x) ko),(ko,txR (B++enc x))]):
  Xr Tryz.prog 84 [.ptr kb 0,.sl 3 (l.map Y6) .sh,.fn (.func gf) caps] [(kb,some (txB A ko)),(ko,some (txR A))] (.tup []) [(kb,txB (A++Zz enc l) ko),(ko,txR (A++Zz enc l))]:=Yce Y6 _ _ (by decide) (fun _=>rfl) kb ko hne gf caps hB l enc A hl hb hp
theorem Af (kb ko:Nat) (hne:kb≠ko) (gf:FuncId) (caps:List AV) (hB:Xd Tryz.prog gf=True) (l:List (Int×Int)) (enc:Int×Int->List UInt8) (A:List UInt8) (hl:l.length<=1000000) (hb:A.length+(Zz enc l).length<=1000000)
  (hp:∀x,x∈l->∀B:List UInt8,B.length+(enc x).length<=1000000->Xr Tryz.prog gf (jnA x::caps) [(kb,some (txB B ko)),(ko,some (txR B))] (.tup []) [(kb,txB (B++enc x) ko),(ko,txR (B++enc x))]):
  Xr Tryz.prog 86 [.ptr kb 0,.sl 2 (l.map jnC) .sh,.fn (.func gf) caps] [(kb,some (txB A ko)),(ko,some (txR A))] (.tup []) [(kb,txB (A++Zz enc l) ko),(ko,txR (A++Zz enc l))]:=Yce jnC _ _ (by decide) (fun _=>rfl) kb ko hne gf caps hB l enc A hl hb hp
theorem Ag (kb ko:Nat) (hne:kb≠ko) (gf:FuncId) (caps:List AV) (hB:Xd Tryz.prog gf=True) (l:List (Int×Int×Int)) (enc:Int×Int×Int->List UInt8) (A:List UInt8) (hl:l.length<=1000000) (hb:A.length+(Zz enc l).length<=1000000)
  (hp:∀x,x∈l->∀B:List UInt8,B.length+(enc x).length<=1000000->Xr Tryz.prog gf (sgA x::caps) [(kb,some (txB B ko)),(ko,some (txR B))] (.tup []) [(kb,txB (B++enc x) ko),(ko,txR (B++enc x))]):
  Xr Tryz.prog 88 [.ptr kb 0,.sl 3 (l.map sgC) .sh,.fn (.func gf) caps] [(kb,some (txB A ko)),(ko,some (txR A))] (.tup []) [(kb,txB (A++Zz enc l) ko),(ko,txR (A++Zz enc l))]:=Yce sgC _ _ (by decide) (fun _=>rfl) kb ko hne gf caps hB l enc A hl hb hp
theorem Ah (kb ko:Nat) (hne:kb≠ko) (gf:FuncId) (caps:List AV) (hB:Xd Tryz.prog gf=True) (l:List (Int×Int)) (enc:Int×Int->List UInt8) (A:List UInt8) (hl:l.length<=1000000) (hb:A.length+(Zz enc l).length<=1000000)
  (hp:∀x,x∈l->∀B:List UInt8,B.length+(enc x).length<=1000000->Xr Tryz.prog gf (jnA x::caps) [(kb,some (txB B ko)),(ko,some (txR B))] (.tup []) [(kb,txB (B++enc x) ko),(ko,txR (B++enc x))]):
  Xr Tryz.prog 93 [.ptr kb 0,.sl 2 (l.map jnC) .sh,.fn (.func gf) caps] [(kb,some (txB A ko)),(ko,some (txR A))] (.tup []) [(kb,txB (A++Zz enc l) ko),(ko,txR (A++Zz enc l))]:=Yce jnC _ _ (by decide) (fun _=>rfl) kb ko hne gf caps hB l enc A hl hb hp
theorem De (kb ko:Nat) (hne:kb≠ko) (gf:FuncId) (caps:List AV) (hB:Xd Tryz.prog gf=True) (l:List (Int)) (enc:Int->List UInt8) (A:List UInt8) (hl:l.length<=1000000) (hb:A.length+(Zz enc l).length<=1000000)
  (hp:∀x,x∈l->∀B:List UInt8,B.length+(enc x).length<=1000000->Xr Tryz.prog gf (i64 x::caps) [(kb,some (txB B ko)),(ko,some (txR B))] (.tup []) [(kb,txB (B++enc x) ko),(ko,txR (B++enc x))]):
  Xr Tryz.prog 92 [.ptr kb 0,.sl 1 (l.map Ym) .sh,.fn (.func gf) caps] [(kb,some (txB A ko)),(ko,some (txR A))] (.tup []) [(kb,txB (A++Zz enc l) ko),(ko,txR (A++Zz enc l))]:=by
 unfold Zz at hb⊢;rw[ac] at hb;obtain⟨C,hC⟩:∃C,C=A++Y3m (l.length:Int):=⟨_,rfl⟩
 have hCl:C.length=A.length+(Y3m (l.length:Int)).length:=by rw[hC,ac]
 rw[<- aq,<- hC];have ct:=W1 kb ko hne A (l.length:Int) (by omega);rw[<- hC] at ct;refine Xc 0 Tryz.func92 rfl fun n out _ _=> ?_;simp only[sn,Tryz.ntmps92,simprocAttr];rename_i hneeds hgv;obtain⟨hk,hko,_⟩:=hneeds;obtain⟨hkn,hkon,_⟩:=hgv;repeat' (first|refine Vk fun K hK=> ?_|apply V0|((first|apply gE|apply gR);simp only[zB,simprocAttr,Mr,Xa hkn,Xa hkon])|(refine Xk ct (by rw[X8 hkn];exact hk) (by rw[X8 hkon];exact hko) (by rw[X7 hkn];trivial) (by rw[X7 hkon];trivial) (by simp) (by simp) ?_)|(refine hK _ ?_;clear hK K))
 have e0:txO out kb ko (C++(l.take 0).flatMap enc)=Xw (Xw out kb (txB C ko)) ko (txR C):=by rw[List.take_zero,bv,a9];rfl
 apply V5;refine Xz (fun i:Nat=>tp [7] (tr 16 7 [(15,i64 (i:Int))])) (fun i=>[]) (fun i=>txO out kb ko (C++(l.take i).flatMap enc)) (fun i=>i<=l.length) (fun i=>l.length - i) 0 (br _) ?_ fun i hi=> ?_
 ·refine X2 ?_ ?_ (by first|rfl|(simp only[e0];rfl)|simp only[e0]) rfl rfl rfl<;>simp only[sL]
 simp only[pt];have hw:=Yl (n:=i) 1 1 rfl (by omega);by_cases hlt:i<l.length
 ·have gi:=Xg Ym l i [] hlt;have hfl:=Xon enc l (i+1);rw[Y3 enc l i hlt,ac] at hfl;obtain⟨B,hB'⟩:∃B,B=C++(l.take i).flatMap enc:=⟨_,rfl⟩
  have hB2:C++(l.take (i+1)).flatMap enc=B++enc l[i]:=by rw[Y3 enc l i hlt,hB',aq]
  have b1:B.length+(enc l[i]).length<=1000000:=by rw[hB',ac];omega
  have cp:=hp l[i] (a8 hlt) B b1;rw[<- hB'];repeat' (first|refine Vk fun K hK=> ?_|apply V0|apply Vb|apply Vs|((first|apply gE|apply gR);simp only[zA,simprocAttr,hB,gi,Ym,hlt,Xa hkn,Xa hkon,V9,hw])|(refine Xk cp (by rw[X8 hkn];exact Kh hne B) (by rw[X8 hkon];exact Xpx B) (by rw[X7 hkn];trivial) (by rw[X7 hkon];trivial) (by simp) (by simp) ?_)|(refine hK _ ?_;clear hK K)|refine Vt rfl ?_)
  refine⟨i+1,by omega,by omega,?_⟩;rw[hB2];refine La rfl ?_ ?_<;>simp only[sL]
 ·obtain rfl:i=l.length:=by omega
  repeat' (first|refine Vk fun K hK=> ?_|apply V0|(apply gE;simp only[zA,simprocAttr,hlt])|(apply Vx;simp only[sb])|(refine hK _ ?_;clear hK K)|refine Vf rfl ?_|clear hK K)
  rw[bi];exact Xy (.inl rfl) rfl rfl rfl (fun j _=>by rw[V7])
theorem Ai (kb ko kn:Nat) (hne:kb≠ko) (n1:kn≠kb) (n2:kn≠ko) (R:Res) (hR:R≠ .dead) (gf:FuncId) (caps:List AV) (hB:Xd Tryz.prog gf=True) (l:List (Rt)) (enc:Rt->List UInt8) (A:List UInt8) (hl:l.length<=1000000) (hb:A.length+(Zz enc l).length<=1000000)
  (hp:∀x,x∈l->∀B:List UInt8,B.length+(enc x).length<=1000000->Xr Tryz.prog gf (rtA x::caps) [(kb,some (txB B ko)),(ko,some (txR B)),(kn,some R)] (.tup []) [(kb,txB (B++enc x) ko),(ko,txR (B++enc x))]):
  Xr Tryz.prog 90 [.ptr kb 0,.sl 7 (l.map rtC) .sh,.fn (.func gf) caps] [(kb,some (txB A ko)),(ko,some (txR A)),(kn,some R)] (.tup []) [(kb,txB (A++Zz enc l) ko),(ko,txR (A++Zz enc l))]:=by
 unfold Zz at hb⊢;rw[ac] at hb;obtain⟨C,hC⟩:∃C,C=A++Y3m (l.length:Int):=⟨_,rfl⟩
 have hCl:C.length=A.length+(Y3m (l.length:Int)).length:=by rw[hC,ac]
 rw[<- aq,<- hC];have ct:=W1 kb ko hne A (l.length:Int) (by omega);rw[<- hC] at ct;refine Kz 1 Tryz.func90 rfl fun n out _ _ _=> ?_;simp only[sn,Tryz.ntmps90,simprocAttr];rename_i hneeds hgv hz;obtain⟨hk,hko,hkr,_⟩:=hneeds;have hknn:kn<n:=by
  rcases Nat.lt_or_ge kn n with h|h
  ·exact h
  ·rw[hz kn h] at hkr;cases hkr
 obtain⟨hkn,hkon,_⟩:=hgv;repeat' (first|refine Vk fun K hK=> ?_|apply V0|((first|apply gE|apply gR);simp only[zB,simprocAttr,Mr,Xa hkn,Xa hkon])|(refine Xk ct (by rw[X8 hkn];exact hk) (by rw[X8 hkon];exact hko) (by rw[X7 hkn];trivial) (by rw[X7 hkon];trivial) (by simp) (by simp) ?_)|(refine hK _ ?_;clear hK K))
 have e0:txO out kb ko (C++(l.take 0).flatMap enc)=Xw (Xw out kb (txB C ko)) ko (txR C):=by rw[List.take_zero,bv,a9];rfl
 apply V5;refine Xl (fun m (i:Nat)=>tp [7] (tr 16 7 [(15,i64 (i:Int))])) (fun m i=>[none]) (fun i=>txO out kb ko (C++(l.take i).flatMap enc)) (fun i=>i<=l.length) (fun i=>l.length - i) 0 (br _) ?_ fun m i hm hi=> ?_
 ·refine X2 ?_ ?_ (by first|rfl|(simp only[e0];rfl)|simp only[e0]) rfl rfl rfl<;>simp only[sL]
 simp only[pt];have hw:=Yl (n:=i) 1 1 rfl (by omega);by_cases hlt:i<l.length
 ·have gi:=Xg rtC l i [] hlt;have hfl:=Xon enc l (i+1);rw[Y3 enc l i hlt,ac] at hfl;obtain⟨B,hB'⟩:∃B,B=C++(l.take i).flatMap enc:=⟨_,rfl⟩
  have hB2:C++(l.take (i+1)).flatMap enc=B++enc l[i]:=by rw[Y3 enc l i hlt,hB',aq]
  have b1:B.length+(enc l[i]).length<=1000000:=by rw[hB',ac];omega
  have cp:=hp l[i] (a8 hlt) B b1;rw[<- hB'];repeat' (first|refine Vk fun K hK=> ?_|apply V0|apply Vb|apply Vs|((first|apply gE|apply gR);simp only[zA,simprocAttr,Xi hm,hB,gi,rtC,hlt,Xa hkn,Xa hkon,V9,X0,hw])|(refine Gu cp (by rw[X8 hkn];exact Kh hne B) (by rw[X8 hkon];exact Xpx B) (by rw[X8 hknn,X5h n1 n2];exact hkr) (by rw[X7 hkn];trivial) (by rw[X7 hkon];trivial) (by rw[X7 hknn];trivial) (by simp) (by simp) (by simpa using hR) ?_)|(refine hK _ ?_;clear hK K)|refine Vt rfl ?_)
  refine⟨i+1,by omega,by omega,?_⟩;rw[hB2];refine Xx [false] ?_ ?_<;>intro n_<;>simp only[sM]
 ·obtain rfl:i=l.length:=by omega
  repeat' (first|refine Vk fun K hK=> ?_|apply V0|(apply gE;simp only[zA,simprocAttr,hlt])|(apply Vx;simp only[sb])|(refine hK _ ?_;clear hK K)|refine Vf rfl ?_|clear hK K)
  rw[bi];exact Xy (.inl rfl) rfl rfl rfl (fun j _=>by rw[V7])
theorem Bj {T:TypeId->Option TI} {σ:AState} {K:AV->List (Nat×Res)->Prop} {t e:TypeId} {ti te:TI} (ht:T t=some ti) (hd:ti.desc= .slice e) (he:T e=some te) (h1:te.size=1) {x y z a b c:AV} (hp:x.parts=some [a]) (hq:y.parts=some [b]) (hr':z.parts=some [c]):
  X1 T σ K none t 3 [(0,x),(1,y),(2,z)]=K (.sl 1 [[a],[b],[c]] .full) []:=by
 have hz:(Y7 te.zero 3).length=3:=by simp [Y7]
 obtain⟨z0,z1,z2,hz2⟩:∃z0 z1 z2,Y7 te.zero 3=[z0,z1,z2]:=⟨_,_,_,rfl⟩
 have hr:U4 (fun i=>some (i*te.size,te.size)) (Y7 te.zero (3*te.size)) [(0,x),(1,y),(2,z)]=some [a,b,c]:=by
  rw[h1,show 3*1=3 from rfl,hz2];simp [U4,hp,hq,hr',Yf]
 simp only[X1,ht,hd,he,hr];simp [h1,Yh]
theorem X5i (a b c:Int) (σ:AState) (K:AV->List (Nat×Res)->Prop):X1 tab σ K none 61 3 [(0,i64 a),(1,i64 b),(2,i64 c)]=K (.sl 1 [[i64 a],[i64 b],[i64 c]] .full) []:=Bj (T:=tab) (ti:=ti61) (te:=ti3) rfl rfl rfl rfl rfl rfl rfl
theorem Xpy {P:Program} {n:Nat} {fn:Func} {out:Nat->Option Res} {gives:List (Nat×Res)} {σ:AState} (hr:fn.results= #[]) (hd:σ.df=[]) (h0:σ.n0=n) (ho:σ.out=upd out gives):Zq P n fn out gives (.tup []) .normal σ:=
 Xy (.inl rfl) hr hd h0 (fun k _=>by rw[ho])
theorem X1y (kb ko:Nat) (hne:kb≠ko) (a:Int) (A:List UInt8) (hb:A.length+(Y3m a).length<=1000000):
  Xr Tryz.prog 82 [i64 a,.ptr kb 0] [(kb,some (txB A ko)),(ko,some (txR A))] (.tup []) [(kb,txB (A++Y3m a) ko),(ko,txR (A++Y3m a))]:=by
 have ct:=W1 kb ko hne A a hb;refine Xc 0 Tryz.func82 rfl fun n out _ _=> ?_;simp only[sn,Tryz.ntmps82,simprocAttr];rename_i hneeds hgv;obtain⟨hk,hko,_⟩:=hneeds;obtain⟨hkn,hkon,_⟩:=hgv;repeat' (first|(apply V0)|((first|apply gE|apply gR);simp only[zB,simprocAttr,Mr,Xa hkn,Xa hkon])|(refine Xk ct (by rw[X8 hkn];exact hk) (by rw[X8 hkon];exact hko) (by rw[X7 hkn];trivial) (by rw[X7 hkon];trivial) (by simp) (by simp) ?_))
 exact Xpy rfl rfl rfl rfl
theorem X5j (kb ko:Nat) (hne:kb≠ko) (x:Int×Int) (A:List UInt8) (hb:A.length+(Ug x).length<=1000000):
  Xr Tryz.prog 87 [jnA x,.ptr kb 0] [(kb,some (txB A ko)),(ko,some (txR A))] (.tup []) [(kb,txB (A++Ug x) ko),(ko,txR (A++Ug x))]:=by
 have ct:=Mq kb ko hne A x.1 x.2 hb;refine Xc 1 Tryz.func87 rfl fun n out _ _=> ?_;simp only[sn,Tryz.ntmps87,simprocAttr];rename_i hneeds hgv;obtain⟨hk,hko,_⟩:=hneeds;obtain⟨hkn,hkon,_⟩:=hgv;repeat' (first|refine Vk fun K hK=> ?_|apply V0|((first|apply gE|apply gR);simp only[zB,simprocAttr,B6,jnA,jnC,Xa hkn,Xa hkon])|(refine Xk ct (by rw[X8 hkn];exact hk) (by rw[X8 hkon];exact hko) (by rw[X7 hkn];trivial) (by rw[X7 hkon];trivial) (by simp) (by simp) ?_)|(refine hK _ ?_;clear hK K))
 exact Xpy rfl rfl rfl rfl
theorem X5k (kb ko:Nat) (hne:kb≠ko) (x:Int×Int) (A:List UInt8) (hb:A.length+(Ug x).length<=1000000):
  Xr Tryz.prog 94 [jnA x,.ptr kb 0] [(kb,some (txB A ko)),(ko,some (txR A))] (.tup []) [(kb,txB (A++Ug x) ko),(ko,txR (A++Ug x))]:=by
 have ct:=Mq kb ko hne A x.1 x.2 hb;refine Xc 1 Tryz.func94 rfl fun n out _ _=> ?_;simp only[sn,Tryz.ntmps94,simprocAttr];rename_i hneeds hgv;obtain⟨hk,hko,_⟩:=hneeds;obtain⟨hkn,hkon,_⟩:=hgv;repeat' (first|refine Vk fun K hK=> ?_|apply V0|((first|apply gE|apply gR);simp only[zB,simprocAttr,B6,jnA,jnC,Xa hkn,Xa hkon])|(refine Xk ct (by rw[X8 hkn];exact hk) (by rw[X8 hkon];exact hko) (by rw[X7 hkn];trivial) (by rw[X7 hkon];trivial) (by simp) (by simp) ?_)|(refine hK _ ?_;clear hK K))
 exact Xpy rfl rfl rfl rfl
theorem X5l (kb ko:Nat) (hne:kb≠ko) (x:Int×Int×Int) (A:List UInt8) (hb:A.length+(Ee x).length<=1000000):
  Xr Tryz.prog 89 [sgA x,.ptr kb 0] [(kb,some (txB A ko)),(ko,some (txR A))] (.tup []) [(kb,txB (A++Ee x) ko),(ko,txR (A++Ee x))]:=by
 have ct:=Gt kb ko hne A x.1 x.2.1 x.2.2 hb;refine Xc 1 Tryz.func89 rfl fun n out _ _=> ?_;simp only[sn,Tryz.ntmps89,simprocAttr];rename_i hneeds hgv;obtain⟨hk,hko,_⟩:=hneeds;obtain⟨hkn,hkon,_⟩:=hgv;repeat' (first|refine Vk fun K hK=> ?_|apply V0|((first|apply gE|apply gR);simp only[zB,simprocAttr,X5i,sgA,sgC,Xa hkn,Xa hkon])|(refine Xk ct (by rw[X8 hkn];exact hk) (by rw[X8 hkon];exact hko) (by rw[X7 hkn];trivial) (by rw[X7 hkon];trivial) (by simp) (by simp) ?_)|(refine hK _ ?_;clear hK K))
 exact Xpy rfl rfl rfl rfl
theorem X5m (kb ko:Nat) (hne:kb≠ko) (s:Sec) (A:List UInt8) (hb:A.length+(D4 s).length<=1000000) (hl:s.ends.length<=1000000):
  Xr Tryz.prog 85 [Qh s,.ptr kb 0] [(kb,some (txB A ko)),(ko,some (txR A))] (.tup []) [(kb,txB (A++D4 s) ko),(ko,txR (A++D4 s))]:=by
 unfold D4 at hb⊢;rw[ac,ac] at hb;have ct:=Mq kb ko hne A s.id s.pt (by rw[ac];omega);obtain⟨C,hC⟩:∃C,C=A++(Y3m s.id++Y3m s.pt):=⟨_,rfl⟩
 have hCl:C.length=A.length+((Y3m s.id).length+(Y3m s.pt).length):=by rw[hC,ac,ac]
 rw[<- hC] at ct;have hC2:A++(Y3m s.id++(Y3m s.pt++s.ends.flatMap Ug))=C++s.ends.flatMap Ug:=by rw[hC,aq,aq]
 rw[hC2];refine Xc 2 Tryz.func85 rfl fun n out _ _=> ?_;simp only[sn,Tryz.ntmps85,simprocAttr];rename_i hneeds hgv;obtain⟨hk,hko,_⟩:=hneeds;obtain⟨hkn,hkon,_⟩:=hgv;repeat' (first|refine Vk fun K hK=> ?_|apply V0|((first|apply gE|apply gR);simp only[zB,simprocAttr,B6,Qh,Y6,Xa hkn,Xa hkon])|(refine Xk ct (by rw[X8 hkn];exact hk) (by rw[X8 hkon];exact hko) (by rw[X7 hkn];trivial) (by rw[X7 hkon];trivial) (by simp) (by simp) ?_)|(refine hK _ ?_;clear hK K))
 have e0:txO out kb ko (C++(s.ends.take 0).flatMap Ug)=Xw (Xw out kb (txB C ko)) ko (txR C):=by rw[List.take_zero,bv,a9];rfl
 apply V5;refine Xl (fun m (i:Nat)=>tp [4] (tr 15 10 [(14,i64 (i:Int)),(2,.ptr (m+0) 0),(5,.ptr (m+0) 0),(7,.ptr (m+0) 1),(11,.ptr (m+0) 2)])) (fun m i=>[some (.box 75 (Y6 s)),none]) (fun i=>txO out kb ko (C++(s.ends.take i).flatMap Ug)) (fun i=>i<=s.ends.length) (fun i=>s.ends.length - i) 0 (br _) ?_ fun m i hm hi=> ?_
 ·refine X2 ?_ ?_ (by first|rfl|(simp only[e0];rfl)|simp only[e0]) rfl rfl rfl<;>simp only[sL,Y6]
 simp only[pt];have hw:=Yl (n:=i) 1 1 rfl (by omega);by_cases hlt:i<s.ends.length
 ·have gi:=Xg jnC s.ends i [] hlt;have hfl:=Xon Ug s.ends (i+1);rw[Y3 Ug s.ends i hlt,ac] at hfl;obtain⟨B,hB'⟩:∃B,B=C++(s.ends.take i).flatMap Ug:=⟨_,rfl⟩
  have hB2:C++(s.ends.take (i+1)).flatMap Ug=B++Ug s.ends[i]:=by rw[Y3 Ug s.ends i hlt,hB',aq]
  have b1:B.length+(Ug s.ends[i]).length<=1000000:=by rw[hB',ac];omega
  have cp:=Mq kb ko hne B s.ends[i].1 s.ends[i].2 b1;rw[<- hB'];repeat' (first|refine Vk fun K hK=> ?_|apply V0|apply Vb|apply Vs|((first|apply gE|apply gR);simp only[zB,simprocAttr,B6,Xi hm,gi,jnC,hlt,Xa hkn,Xa hkon,V9,X0,hw])|(refine Xk cp (by rw[X8 hkn];exact Kh hne B) (by rw[X8 hkon];exact Xpx B) (by rw[X7 hkn];trivial) (by rw[X7 hkon];trivial) (by simp) (by simp) ?_)|(refine hK _ ?_;clear hK K)|refine Vt rfl ?_)
  refine⟨i+1,by omega,by omega,?_⟩;rw[hB2];unfold Ug;refine Xx [true,false] ?_ ?_<;>intro n_<;>simp only[sM,Y6]
 ·obtain rfl:i=s.ends.length:=by omega
  repeat' (first|refine Vk fun K hK=> ?_|apply V0|(apply gE;simp only[zA,simprocAttr,hlt])|(apply Vx;simp only[sb])|(refine hK _ ?_;clear hK K)|refine Vf rfl ?_|clear hK K)
  rw[bi];exact Xpy rfl rfl rfl (V7 _ _ _ _).symm
theorem X5n (kb ko kn:Nat) (hne:kb≠ko) (n1:kn≠kb) (n2:kn≠ko) (r:Rt) (A:List UInt8) (hb:A.length+(Ef r).length<=1000000) (l1:r.path.length<=1000000) (l2:r.over.length<=1000000) (l3:r.flanks.length<=1000000):
  Xr Tryz.prog 91 [rtA r,.ptr kb 0,.ptr kn 0] [(kb,some (txB A ko)),(ko,some (txR A)),(kn,some (.box 152 [.fn (.func 82) [.ptr kb 0]]))] (.tup []) [(kb,txB (A++Ef r) ko),(ko,txR (A++Ef r))]:=by
 unfold Ef at hb⊢;rw[ac,ac,ac,ac,ac,ac] at hb;have hB0:Xd Tryz.prog 82=True:=hb0 _ (by decide) (by decide);have hBf:Xd Tryz.prog 94=True:=hb0 _ (by decide) (by decide);obtain⟨C1,h1⟩:∃C,C=A++(Y3m r.id++(Y3m r.entry++Y3m r.ex)):=⟨_,rfl⟩
 obtain⟨C2,h2⟩:∃C,C=C1++Zz Y3m r.path:=⟨_,rfl⟩
 obtain⟨C3,h3⟩:∃C,C=C2++Zz Y3m r.over:=⟨_,rfl⟩
 obtain⟨C4,h4⟩:∃C,C=C3++Zz Ug r.flanks:=⟨_,rfl⟩
 have k1:C1.length=A.length+((Y3m r.id).length+((Y3m r.entry).length+(Y3m r.ex).length)):=by rw[h1];simp [ac]
 have k2:C2.length=C1.length+(Zz Y3m r.path).length:=by rw[h2,ac]
 have k3:C3.length=C2.length+(Zz Y3m r.over).length:=by rw[h3,ac]
 have k4:C4.length=C3.length+(Zz Ug r.flanks).length:=by rw[h4,ac]
 have e:A++(Y3m r.id++(Y3m r.entry++(Y3m r.ex++(Zz Y3m r.path++(Zz Y3m r.over++(Zz Ug r.flanks++Y3m r.timer))))))=C4++Y3m r.timer:=by rw[h4,h3,h2,h1];simp [aq]
 have c1:=Gt kb ko hne A r.id r.entry r.ex (by simp only[ac];omega);have c2:=De kb ko hne 82 [.ptr kb 0] hB0 r.path Y3m C1 l1 (by omega) fun x _ B hB=>X1y kb ko hne x B hB;have c3:=De kb ko hne 82 [.ptr kb 0] hB0 r.over Y3m C2 l2 (by omega) fun x _ B hB=>X1y kb ko hne x B hB;have c4:=Ah kb ko hne 94 [.ptr kb 0] hBf r.flanks Ug C3 l3 (by omega) fun x _ B hB=>X5k kb ko hne x B hB;have c5:=W1 kb ko hne C4 r.timer (by omega);rw[<- h1] at c1;rw[<- h2] at c2;rw[<- h3] at c3;rw[<- h4] at c4;rw[e];clear h1 h2 h3 h4 k1 k2 k3 k4 hb e hB0 hBf;refine Kz 1 Tryz.func91 rfl fun n out _ _ _=> ?_;simp only[sn,Tryz.ntmps91,simprocAttr];rename_i hneeds hgv hz;obtain⟨hk,hko,hkr,_⟩:=hneeds;obtain⟨hkn,hkon,_⟩:=hgv;have hknn:kn<n:=by
  rcases Nat.lt_or_ge kn n with h|h
  ·exact h
  ·rw[hz kn h] at hkr;cases hkr
 rw[<- Dd hk hko];have hkr':∀B,txO out kb ko B kn=some (.box 152 [.fn (.func 82) [.ptr kb 0]]):=fun B=>by rw[X5h n1 n2];exact hkr
 repeat' (first|refine Vk fun K hK=> ?_|apply V0|((first|apply gE|apply gR);simp only[zB,simprocAttr,Mr,X5i,rtA,rtC,hkr',X8 hknn,X7 hknn,Xa hkn,Xa hkon,V9])|(refine Xk c1 (by rw[X8 hkn];exact Kh hne _) (by rw[X8 hkon];exact Xpx _) (by rw[X7 hkn];trivial) (by rw[X7 hkon];trivial) (by simp) (by simp) ?_)|(refine Xk c2 (by rw[X8 hkn];exact Kh hne _) (by rw[X8 hkon];exact Xpx _) (by rw[X7 hkn];trivial) (by rw[X7 hkon];trivial) (by simp) (by simp) ?_)|(refine Xk c3 (by rw[X8 hkn];exact Kh hne _) (by rw[X8 hkon];exact Xpx _) (by rw[X7 hkn];trivial) (by rw[X7 hkon];trivial) (by simp) (by simp) ?_)|(refine Xk c4 (by rw[X8 hkn];exact Kh hne _) (by rw[X8 hkon];exact Xpx _) (by rw[X7 hkn];trivial) (by rw[X7 hkon];trivial) (by simp) (by simp) ?_)|(refine Xk c5 (by rw[X8 hkn];exact Kh hne _) (by rw[X8 hkon];exact Xpx _) (by rw[X7 hkn];trivial) (by rw[X7 hkon];trivial) (by simp) (by simp) ?_)|(refine hK _ ?_;clear hK K))
 exact Xpy rfl rfl rfl (by rw[V7];exact(V9 _ _ _ _ _).symm)
end Go.Proofs.YtdngdjbgmojcoaaGreat.Pln
