/- The layer of abstract values, joined. -/
import Derived.Test.YtdngdjbgmojcoaaGreatZPR
import Derived.Test.YtdngdjbgmojcoaaGreatZS8
import Derived.Test.YtdngdjbgmojcoaaGreatZP5
import Derived.Test.YtdngdjbgmojcoaaGreatZP3
import Derived.Test.YtdngdjbgmojcoaaGreatZW14
import Derived.Test.YtdngdjbgmojcoaaGreatZWD
namespace Go.Proofs.YtdngdjbgmojcoaaGreat.Pln
set_option linter.unusedSimpArgs false
set_option linter.unusedVariables false
set_option maxHeartbeats 8000000
set_option maxRecDepth 4000
open Go Go.VS Tab
def atT (x:Sec):Int×UInt8:=(x.id,2)
def atW (x:Int×Int):Int×Int×Int:=(x.1,0,0)
def atL (x:Rt):Int×UInt8×Int×Int:=(x.id,0,0,0)
def atS (p:Pl):St:=⟨p.secs.map atT,p.pts.map atW,p.rts.map atL⟩
theorem Xoi {α:Type} (f:α→List AV) {l:List α} {i:Nat} (h:i<l.length):(l.take i).map f++[f l[i]]=(l.take (i+1)).map f:=by
 rw[List.take_succ_eq_append_getElem h,List.map_append];rfl
theorem Y1l (p:Pl) (hs:Sm p) (hE:Xo3 p=0):Xr Tryz.prog 38 [plA p] [] (.tup [stA (atS p),i64 0]) []:=by
 have cS:=Xrp p hs
 rw[hE] at cS
 have h1:=hs.secs
 have h2:=hs.pts
 have h3:=hs.rts
 refine Xc 6 Tryz.func38 rfl fun n out _ _=> ?_
 simp only[sn,Tryz.ntmps38,Nat.reduceAdd,Nat.reduceSub]
 simp only[plA] at cS
 repeat' (first|(with_reducible first|refine Vk fun K hK=> ?_|refine V0 ?_|refine Vb ?_|refine Vc ?_|refine Vr ?_|refine Vs ?_|apply And.intro)|((with_reducible first|refine gE ?_|refine gR ?_);simp only[zA,simprocAttr,plA,plC])|exact Vn|((with_reducible refine Vz ?_);(first|refine Xp (.inr rfl) rfl rfl rfl (fun _ _=>rfl) ok33 (k:=n+1) (off:=0) rfl (Xb _ (by simp)) (X6 _ (Nat.le_refl _) 1) rfl rfl ?_|refine Xp (.inr rfl) rfl rfl rfl (fun _ _=>rfl) ok33 (k:=m+1) (off:=0) rfl (Xb _ (by simp)) (X6 _ hm 1) rfl rfl ?_)<;>first|rfl|exact AV.le.rfl _|(simp only[sL,ti33,List.map_nil,plA,plC];done)|rfl|skip)|(refine X3 (cS) ?_)|((with_reducible refine Vx ?_);simp only[sb,reduceIte,Nat.reduceEqDiff])|(refine hK _ ?_;clear hK K)|refine Vt rfl ?_|refine Vf rfl ?_|refine Vi rfl (fun hg=> ?_) (fun hg=> ?_)|clear hK K)
 refine Yy (Q9 (i:=2) 77 2 rfl) ?_
 refine Yy (Q9 (i:=3) 63 3 rfl) ?_
 refine Yy (Q9 (i:=4) 65 4 rfl) ?_
 simp only[s_0,s_s]
 refine V5 ?_
 refine Xrd (p.secs.length) (fun m i=>tr 18 12 [(17,i64 (i:Int)),(1,.ptr (m+0) 0),(2,.ptr (m+1) 0),(5,.top)]) (fun m i=>[some (.box 28 (plC p)),some (.box 33 [.sl 2 ((p.secs.take i).map fun x=>tkC (atT x)) (.own (m+2)),.sl 0 [] .nil,.sl 0 [] .nil]),some (.row 77 2 i),some (.row 63 3 0),some (.row 65 4 0),none]) ?_ fun m i hm hi=> ?_
 ·refine X2 ?_ ?_ (by first|rfl|(simp only[plC,List.take_zero,List.map_nil];rfl)|simp only[plC,List.take_zero,List.map_nil]) rfl rfl rfl<;>simp only[sL,plC,List.map_nil]
 simp only[pt]
 have hw:=Yl (n:=i) 1 1 rfl (by omega)
 by_cases hlt:i<p.secs.length
 ·have gi:=Xg Y6 p.secs i [] hlt
  have hsw:=Xoi (fun x=>tkC (atT x)) hlt
  have lit:∀(σ:AState) (K:AV→List (Nat×Res)→Prop),X1 tab σ K none 29 1 [(0,.agg [i64 p.secs[i].id,.val (.int .u8 2)])]=K (.sl 2 [tkC (atT p.secs[i])] .full) []:=fun σ K=>Yk (T:=tab) (ti:=ti29) (te:=ti77) rfl rfl rfl (by decide) (by decide) rfl rfl
  have z1:(i+1)*16≤140737488355328:=by omega
  have z3:i≤9223372036854775806:=by omega
  repeat' (first|(with_reducible first|refine Vk fun K hK=> ?_|refine V0 ?_|refine Vb ?_|refine Vc ?_|refine Vr ?_|refine Vs ?_|apply And.intro)|((with_reducible first|refine gE ?_|refine gR ?_);simp only[zB,simprocAttr,lit,Xi hm,plC,Y6,List.length_take,Nat.min_eq_left hi,hlt,gi,X0,hw,z1,z3])|exact Vn|((with_reducible refine Vz ?_);(first|refine Xp (.inr rfl) rfl rfl rfl (fun _ _=>rfl) ok33 (k:=n+1) (off:=0) rfl (Xb _ (by simp)) (X6 _ (Nat.le_refl _) 1) rfl rfl ?_|refine Xp (.inr rfl) rfl rfl rfl (fun _ _=>rfl) ok33 (k:=m+1) (off:=0) rfl (Xb _ (by simp)) (X6 _ hm 1) rfl rfl ?_)<;>first|rfl|exact AV.le.rfl _|(simp only[sL,ti33,List.map_nil,lit,Xi hm,plC,Y6,List.length_map,List.length_take,Nat.min_eq_left hi,hlt,gi,X0,hw,z1,z3];done)|rfl|skip)|((with_reducible refine Vx ?_);simp only[sb,reduceIte,Nat.reduceEqDiff])|(refine hK _ ?_;clear hK K)|refine Vt rfl ?_|refine Vf rfl ?_|refine Vi rfl (fun hg=> ?_) (fun hg=> ?_)|clear hK K)
  rw[hsw]
  refine⟨i+1,by omega,by omega,?_⟩
  refine Xx [true,true,true,true,true,false] ?_ ?_<;>intro n_<;>simp only[sM]
 obtain rfl:i=p.secs.length:=by omega
 rw[List.take_length]
 clear hw hi hlt
 repeat' (first|(with_reducible first|refine Vk fun K hK=> ?_|refine V0 ?_|refine Vb ?_|refine Vc ?_|refine Vr ?_|refine Vs ?_|apply And.intro)|((with_reducible first|refine gE ?_|refine gR ?_);simp only[zA,simprocAttr,Xi hm,plC,Nat.lt_irrefl])|exact Vn|((with_reducible refine Vz ?_);(first|refine Xp (.inr rfl) rfl rfl rfl (fun _ _=>rfl) ok33 (k:=n+1) (off:=0) rfl (Xb _ (by simp)) (X6 _ (Nat.le_refl _) 1) rfl rfl ?_|refine Xp (.inr rfl) rfl rfl rfl (fun _ _=>rfl) ok33 (k:=m+1) (off:=0) rfl (Xb _ (by simp)) (X6 _ hm 1) rfl rfl ?_)<;>first|rfl|exact AV.le.rfl _|(simp only[sL,ti33,List.map_nil,Xi hm,plC,decide_false,Nat.lt_irrefl];done)|rfl|skip)|((with_reducible refine Vx ?_);simp only[sb])|(refine hK _ ?_;clear hK K)|refine Vt rfl ?_|refine Vf rfl ?_|refine Vi rfl (fun hg=> ?_) (fun hg=> ?_)|clear hK K)
 refine V5 ?_
 refine Xrd (p.pts.length) (fun m i=>tr 34 12 [(33,i64 (i:Int)),(1,.ptr (m+0) 0),(2,.ptr (m+1) 0),(5,.top),(7,.top)]) (fun m i=>[some (.box 28 (plC p)),some (.box 33 [.sl 2 (p.secs.map fun x=>tkC (atT x)) (.own (m+2)),.sl 3 ((p.pts.take i).map fun x=>sgC (atW x)) (.own (m+3)),.sl 0 [] .nil]),some (.row 77 2 p.secs.length),some (.row 63 3 i),some (.row 65 4 0),none]) ?_ fun m i hm hi=> ?_
 ·refine X2 ?_ ?_ (by first|rfl|(simp only[plC,List.take_zero,List.map_nil];rfl)|simp only[plC,List.take_zero,List.map_nil]) rfl rfl rfl<;>simp only[sL,plC,List.map_nil]
 simp only[pt]
 have hw:=Yl (n:=i) 1 1 rfl (by omega)
 by_cases hlt:i<p.pts.length
 ·have gi:=Xg jnC p.pts i [] hlt
  have hsw:=Xoi (fun x=>sgC (atW x)) hlt
  have lit:∀(σ:AState) (K:AV→List (Nat×Res)→Prop),X1 tab σ K none 30 1 [(0,.agg [i64 p.pts[i].1,.val (.int .i64 0),.val (.int .i64 0)])]=K (.sl 3 [sgC (atW p.pts[i])] .full) []:=fun σ K=>Yk (T:=tab) (ti:=ti30) (te:=ti63) rfl rfl rfl (by decide) (by decide) rfl rfl
  have z1:(i+1)*24≤140737488355328:=by omega
  have z3:i≤9223372036854775806:=by omega
  repeat' (first|(with_reducible first|refine Vk fun K hK=> ?_|refine V0 ?_|refine Vb ?_|refine Vc ?_|refine Vr ?_|refine Vs ?_|apply And.intro)|((with_reducible first|refine gE ?_|refine gR ?_);simp only[zB,simprocAttr,lit,Xi hm,plC,jnC,List.length_take,Nat.min_eq_left hi,hlt,gi,X0,hw,z1,z3])|exact Vn|((with_reducible refine Vz ?_);(first|refine Xp (.inr rfl) rfl rfl rfl (fun _ _=>rfl) ok33 (k:=n+1) (off:=0) rfl (Xb _ (by simp)) (X6 _ (Nat.le_refl _) 1) rfl rfl ?_|refine Xp (.inr rfl) rfl rfl rfl (fun _ _=>rfl) ok33 (k:=m+1) (off:=0) rfl (Xb _ (by simp)) (X6 _ hm 1) rfl rfl ?_)<;>first|rfl|exact AV.le.rfl _|(simp only[sL,ti33,List.map_nil,lit,Xi hm,plC,jnC,List.length_map,List.length_take,Nat.min_eq_left hi,hlt,gi,X0,hw,z1,z3];done)|rfl|skip)|((with_reducible refine Vx ?_);simp only[sb,reduceIte,Nat.reduceEqDiff])|(refine hK _ ?_;clear hK K)|refine Vt rfl ?_|refine Vf rfl ?_|refine Vi rfl (fun hg=> ?_) (fun hg=> ?_)|clear hK K)
  rw[hsw]
  refine⟨i+1,by omega,by omega,?_⟩
  refine Xx [true,true,true,true,true,false] ?_ ?_<;>intro n_<;>simp only[sM]
 obtain rfl:i=p.pts.length:=by omega
 rw[List.take_length]
 clear hw hi hlt
 repeat' (first|(with_reducible first|refine Vk fun K hK=> ?_|refine V0 ?_|refine Vb ?_|refine Vc ?_|refine Vr ?_|refine Vs ?_|apply And.intro)|((with_reducible first|refine gE ?_|refine gR ?_);simp only[zA,simprocAttr,Xi hm,plC,Nat.lt_irrefl])|exact Vn|((with_reducible refine Vz ?_);(first|refine Xp (.inr rfl) rfl rfl rfl (fun _ _=>rfl) ok33 (k:=n+1) (off:=0) rfl (Xb _ (by simp)) (X6 _ (Nat.le_refl _) 1) rfl rfl ?_|refine Xp (.inr rfl) rfl rfl rfl (fun _ _=>rfl) ok33 (k:=m+1) (off:=0) rfl (Xb _ (by simp)) (X6 _ hm 1) rfl rfl ?_)<;>first|rfl|exact AV.le.rfl _|(simp only[sL,ti33,List.map_nil,Xi hm,plC,decide_false,Nat.lt_irrefl];done)|rfl|skip)|((with_reducible refine Vx ?_);simp only[sb])|(refine hK _ ?_;clear hK K)|refine Vt rfl ?_|refine Vf rfl ?_|refine Vi rfl (fun hg=> ?_) (fun hg=> ?_)|clear hK K)
 refine V5 ?_
 refine Xrd (p.rts.length) (fun m i=>tr 50 12 [(49,i64 (i:Int)),(1,.ptr (m+0) 0),(2,.ptr (m+1) 0),(5,.top),(7,.top),(9,.top)]) (fun m i=>[some (.box 28 (plC p)),some (.box 33 [.sl 2 (p.secs.map fun x=>tkC (atT x)) (.own (m+2)),.sl 3 (p.pts.map fun x=>sgC (atW x)) (.own (m+3)),.sl 4 ((p.rts.take i).map fun x=>lkC (atL x)) (.own (m+4))]),some (.row 77 2 p.secs.length),some (.row 63 3 p.pts.length),some (.row 65 4 i),none]) ?_ fun m i hm hi=> ?_
 ·refine X2 ?_ ?_ (by first|rfl|(simp only[plC,List.take_zero,List.map_nil];rfl)|simp only[plC,List.take_zero,List.map_nil]) rfl rfl rfl<;>simp only[sL,plC,List.map_nil]
 simp only[pt]
 have hw:=Yl (n:=i) 1 1 rfl (by omega)
 by_cases hlt:i<p.rts.length
 ·have gi:=Xg rtC p.rts i [] hlt
  have hsw:=Xoi (fun x=>lkC (atL x)) hlt
  have lit:∀(σ:AState) (K:AV→List (Nat×Res)→Prop),X1 tab σ K none 31 1 [(0,.agg [i64 p.rts[i].id,.val (.int .u8 0),.val (.int .i64 0),.val (.int .i64 0)])]=K (.sl 4 [lkC (atL p.rts[i])] .full) []:=fun σ K=>Yk (T:=tab) (ti:=ti31) (te:=ti65) rfl rfl rfl (by decide) (by decide) rfl rfl
  have z1:(i+1)*32≤140737488355328:=by omega
  have z3:i≤9223372036854775806:=by omega
  repeat' (first|(with_reducible first|refine Vk fun K hK=> ?_|refine V0 ?_|refine Vb ?_|refine Vc ?_|refine Vr ?_|refine Vs ?_|apply And.intro)|((with_reducible first|refine gE ?_|refine gR ?_);simp only[zB,simprocAttr,lit,Xi hm,plC,rtC,List.length_take,Nat.min_eq_left hi,hlt,gi,X0,hw,z1,z3])|exact Vn|((with_reducible refine Vz ?_);(first|refine Xp (.inr rfl) rfl rfl rfl (fun _ _=>rfl) ok33 (k:=n+1) (off:=0) rfl (Xb _ (by simp)) (X6 _ (Nat.le_refl _) 1) rfl rfl ?_|refine Xp (.inr rfl) rfl rfl rfl (fun _ _=>rfl) ok33 (k:=m+1) (off:=0) rfl (Xb _ (by simp)) (X6 _ hm 1) rfl rfl ?_)<;>first|rfl|exact AV.le.rfl _|(simp only[sL,ti33,List.map_nil,lit,Xi hm,plC,rtC,List.length_map,List.length_take,Nat.min_eq_left hi,hlt,gi,X0,hw,z1,z3];done)|rfl|skip)|((with_reducible refine Vx ?_);simp only[sb,reduceIte,Nat.reduceEqDiff])|(refine hK _ ?_;clear hK K)|refine Vt rfl ?_|refine Vf rfl ?_|refine Vi rfl (fun hg=> ?_) (fun hg=> ?_)|clear hK K)
  rw[hsw]
  refine⟨i+1,by omega,by omega,?_⟩
  refine Xx [true,true,true,true,true,false] ?_ ?_<;>intro n_<;>simp only[sM]
 obtain rfl:i=p.rts.length:=by omega
 rw[List.take_length]
 clear hw hi hlt
 repeat' (first|(with_reducible first|refine Vk fun K hK=> ?_|refine V0 ?_|refine Vb ?_|refine Vc ?_|refine Vr ?_|refine Vs ?_|apply And.intro)|((with_reducible first|refine gE ?_|refine gR ?_);simp only[zA,simprocAttr,plC,Nat.lt_irrefl])|exact Vn|((with_reducible refine Vz ?_);(first|refine Xp (.inr rfl) rfl rfl rfl (fun _ _=>rfl) ok33 (k:=n+1) (off:=0) rfl (Xb _ (by simp)) (X6 _ (Nat.le_refl _) 1) rfl rfl ?_|refine Xp (.inr rfl) rfl rfl rfl (fun _ _=>rfl) ok33 (k:=m+1) (off:=0) rfl (Xb _ (by simp)) (X6 _ hm 1) rfl rfl ?_)<;>first|rfl|exact AV.le.rfl _|(simp only[sL];done)|rfl|skip)|((with_reducible refine Vx ?_);simp only[sb])|(refine hK _ ?_;clear hK K)|refine Vt rfl ?_|refine Vf rfl ?_|refine Vi rfl (fun hg=> ?_) (fun hg=> ?_)|clear hK K)
 have e1:(atS p).tr.map tkC=p.secs.map fun x=>tkC (atT x):=List.map_map
 have e2:(atS p).sw.map sgC=p.pts.map fun x=>sgC (atW x):=List.map_map
 have e3:(atS p).lk.map lkC=p.rts.map fun x=>lkC (atL x):=List.map_map
 show AV.le (.tup [.agg [.sl 2 _ (.own _),.sl 3 _ (.own _),.sl 4 _ (.own _)],i64 0]) _
 simp only[stA,stC,e1,e2,e3,sL]
def Mw (a b:Sec):Bool:=a.id==b.id&&a.pt==b.pt&&a.ends==b.ends
theorem Ay (a b:Sec) (hl:a.ends.length≤1000000):Xr Tryz.prog 71 [Qh a,Qh b] [] (bool (Mw a b)) []:=by
 refine Xc 2 Tryz.func71 rfl fun n out _ _=> ?_
 simp only[sn,Tryz.ntmps71,Nat.reduceAdd,Nat.reduceSub]
 repeat' (first|(with_reducible first|refine Vk fun K hK=> ?_|refine V0 ?_|refine Vs ?_)|((with_reducible refine gE ?_);simp only[zA,simprocAttr,Qh,Y6])|((with_reducible refine Vz ?_);refine Vo rfl rfl rfl (fun _ _=>rfl) ?_<;>first|rfl|(simp [Mw] at*;simp_all;done)|(simp only[g_0,g_s];refine congrArg VS.bool ?_;rw[Mw,Mu (by simp at*;omega)];simp;done)|skip)|((with_reducible refine Vg (fun hg=> ?_) (fun hg=> ?_))<;>(try simp only[nb] at hg)<;>simp only[zA,simprocAttr,hg])|(refine hK _ ?_;clear hK K)|refine Vt rfl ?_|refine Vi rfl (fun hg=> ?_) (fun hg=> ?_))
 have hlen:a.ends.length=b.ends.length:=by simp at hg;omega
 have hid:a.id=b.id∧a.pt=b.pt:=by constructor<;>simp_all
 refine V5 ?_
 refine Xse (a.ends.length) (fun i=>(∀j (hj:j<a.ends.length) (hj':j<b.ends.length),j<i→a.ends[j]=b.ends[j])) (fun i=>tp [4] (tr 27 18 [(5,i64 (i:Int))])) (fun i=>[some (.box 75 [i64 a.id,i64 a.pt,.sl 2 (a.ends.map jnC) .sh]),some (.box 75 [i64 b.id,i64 b.pt,.sl 2 (b.ends.map jnC) .sh])]) (by intros;omega) ?_ fun i hi=> ?_
 ·refine La rfl ?_ ?_<;>simp only[sL]
 obtain⟨hi,hq⟩:=hi
 simp only[pt]
 have hw:=Yl (n:=i) 1 1 rfl (by omega)
 by_cases hlt:i<a.ends.length
 ·have hlt':i<b.ends.length:=by omega
  have ga:=Xg jnC a.ends i [] hlt
  have gb:=Xg jnC b.ends i [] hlt'
  repeat' (first|(with_reducible first|refine Vk fun K hK=> ?_|refine V0 ?_|refine Vb ?_|refine Vs ?_|apply And.intro|refine Vq (by kernel_rfl) ?_)|((with_reducible refine gE ?_);simp only[zA,simprocAttr,hlt,hlt',ga,gb,jnC,Lj,hw])|exact Vn|((with_reducible refine Vz ?_);refine Vo rfl rfl rfl (fun _ _=>rfl) ?_<;>first|rfl|(simp only[g_0,g_s];refine congrArg VS.bool ?_;rw[Mw,Ut hlt hlt' (by simpa using hg)];simp;done)|skip)|(refine hK _ ?_;clear hK K)|refine Vt rfl ?_|refine Vi rfl (fun hg=> ?_) (fun hg=> ?_)|((first|show Program.eqGuardType _ _ _=false|show Xs _ _ _=true|show Program.stoodInHeld _ _=false);kernel_rfl)|clear hK K)
  refine⟨i+1,⟨by omega,fun j hj hj' hji=> ?_⟩,by omega,?_⟩
  ·by_cases h:j=i
   ·subst h;simpa using hg
   ·exact hq j hj hj' (by omega)
  refine La rfl ?_ ?_<;>simp only[sL]
 ·have e:=Ua (l:=a.ends) (m:=b.ends) hlen fun j hj hj'=>hq j hj hj' (by omega)
  have e2:Mw a b=true:=by rw[Mw,e,hid.1,hid.2];simp
  repeat' (first|(with_reducible first|refine Vk fun K hK=> ?_|refine V0 ?_)|((with_reducible refine gE ?_);simp only[zA,simprocAttr,hlt])|((with_reducible refine Vz ?_);refine Vo rfl rfl rfl (fun _ _=>rfl) ?_<;>first|rfl|(rw[e2];rfl)|skip)|((with_reducible refine Vx ?_);simp only[sb])|(refine hK _ ?_;clear hK K)|refine Vf rfl ?_|clear hK K)
def Lw (l m':List Sec):Bool:=Fv Mw l m'
theorem H5 (l m':List Sec) (hl:l.length≤1000000) (he:∀s,s∈l→s.ends.length≤1000000):Xr Tryz.prog 40 [P9 l,P9 m'] [] (bool (Lw l m')) []:=by
 refine Xc 0 Tryz.func40 rfl fun n out _ _=> ?_
 simp only[sn,Tryz.ntmps40,Nat.reduceAdd,Nat.reduceSub]
 repeat' (first|(with_reducible first|refine Vk fun K hK=> ?_|refine V0 ?_|refine Vs ?_)|((with_reducible refine gE ?_);simp only[zA,simprocAttr])|((with_reducible refine Vz ?_);refine Vo rfl rfl rfl (fun _ _=>rfl) ?_<;>first|rfl|(rw[Lw,Rj (by simp at*;omega)];rfl)|skip)|(refine hK _ ?_;clear hK K)|refine Vi rfl (fun hg=> ?_) (fun hg=> ?_))
 have hlen:l.length=m'.length:=by simp at hg;omega
 refine V5 ?_
 refine Xse (l.length) (fun i=>(∀j (hj:j<l.length) (hj':j<m'.length),j<i→Mw l[j] m'[j]=true)) (fun i=>tp [4] (tr 11 16 [(5,i64 (i:Int))])) (fun i=>[]) (by intros;omega) ?_ fun i hi=> ?_
 ·refine La rfl ?_ ?_<;>simp only[sL]
 obtain⟨hi,hq⟩:=hi
 simp only[pt]
 have hw:=Yl (n:=i) 1 1 rfl (by omega)
 by_cases hlt:i<l.length
 ·have hlt':i<m'.length:=by omega
  have ga:=Xg Y6 l i [] hlt
  have gb:=Xg Y6 m' i [] hlt'
  repeat' (first|(with_reducible first|refine Vk fun K hK=> ?_|refine V0 ?_|refine Vb ?_|refine Vs ?_|refine Vq (by kernel_rfl) ?_)|((with_reducible first|refine gE ?_|refine gR ?_);simp only[zA,simprocAttr,hlt,hlt',ga,gb,X0b,hw])|((with_reducible refine Vz ?_);refine Vo rfl rfl rfl (fun _ _=>rfl) ?_<;>first|rfl|(rw[Lw,Xo5 hlt hlt' (by simpa using hg)];rfl)|skip)|(refine X3 (Ay _ _ (he _ (List.getElem_mem hlt))) ?_)|(refine hK _ ?_;clear hK K)|refine Vt rfl ?_|refine Vi rfl (fun hg=> ?_) (fun hg=> ?_)|clear hK K)
  refine⟨i+1,⟨by omega,fun j hj hj' hji=> ?_⟩,by omega,?_⟩
  ·by_cases h:j=i
   ·subst h;simpa using hg
   ·exact hq j hj hj' (by omega)
  refine La rfl ?_ ?_<;>simp only[sL]
 ·have e:=Xo4 (p:=Mw) hlen fun j hj hj'=>hq j hj hj' (by omega)
  repeat' (first|(with_reducible first|refine Vk fun K hK=> ?_|refine V0 ?_)|((with_reducible refine gE ?_);simp only[zA,simprocAttr,hlt])|((with_reducible refine Vz ?_);refine Vo rfl rfl rfl (fun _ _=>rfl) ?_<;>first|rfl|(rw[Lw,e];rfl)|skip)|((with_reducible refine Vx ?_);simp only[sb])|(refine hK _ ?_;clear hK K)|refine Vf rfl ?_|clear hK K)
theorem Eo (a:Sec):Mw a a=true:=by simp [Mw]
theorem Bp (l:List Sec):Lw l l=true:=Xo4 rfl fun i hi hi'=>Eo _
theorem H1 (l m':List Int) (hl:l.length≤1000000):Xr Tryz.prog 72 [X62 l,X62 m'] [] (bool (l==m')) []:=by
 refine Xc 0 Tryz.func72 rfl fun n out _ _=> ?_
 simp only[sn,Tryz.ntmps72,Nat.reduceAdd,Nat.reduceSub]
 repeat' (first|(with_reducible first|refine Vk fun K hK=> ?_|refine V0 ?_|refine Vs ?_)|((with_reducible refine gE ?_);simp only[zA,simprocAttr])|((with_reducible refine Vz ?_);refine Vo rfl rfl rfl (fun _ _=>rfl) ?_<;>first|rfl|(rw[Mu (by intro h;simp [h] at hg)];rfl)|skip)|(refine hK _ ?_;clear hK K)|refine Vi rfl (fun hg=> ?_) (fun hg=> ?_))
 have hlen:l.length=m'.length:=by simp at hg;omega
 refine V5 ?_
 refine Xse (l.length) (fun i=>(∀j (hj:j<l.length) (hj':j<m'.length),j<i→l[j]=m'[j])) (fun i=>tp [4] (tr 11 15 [(5,i64 (i:Int))])) (fun i=>[]) (by intros;omega) ?_ fun i hi=> ?_
 ·refine X2 ?_ ?_ (by first|rfl|(simp only[List.length_map];rfl)|simp only[List.length_map]) rfl rfl rfl<;>simp only[sL]
 obtain⟨hi,hq⟩:=hi
 simp only[pt]
 have hw:=Yl (n:=i) 1 1 rfl (by omega)
 by_cases hlt:i<l.length
 ·have hlt':i<m'.length:=by omega
  have ga:=Xg Ym l i [] hlt
  have gb:=Xg Ym m' i [] hlt'
  repeat' (first|(with_reducible first|refine Vk fun K hK=> ?_|refine V0 ?_|refine Vb ?_|refine Vs ?_|refine Vq (by kernel_rfl) ?_)|((with_reducible refine gE ?_);simp only[zA,simprocAttr,hlt,hlt',ga,gb,Ym,hw])|((with_reducible refine Vz ?_);refine Vo rfl rfl rfl (fun _ _=>rfl) ?_<;>first|rfl|(rw[Ut hlt hlt' (by simpa using hg)];rfl)|skip)|(refine hK _ ?_;clear hK K)|refine Vt rfl ?_|refine Vi rfl (fun hg=> ?_) (fun hg=> ?_)|clear hK K)
  refine⟨i+1,⟨by omega,fun j hj hj' hji=> ?_⟩,by omega,?_⟩
  ·by_cases h:j=i
   ·subst h;simpa using hg
   ·exact hq j hj hj' (by omega)
  refine La rfl ?_ ?_<;>simp only[sL]
 ·have e:=Ua (l:=l) (m:=m') hlen fun j hj hj'=>hq j hj hj' (by omega)
  repeat' (first|(with_reducible first|refine Vk fun K hK=> ?_|refine V0 ?_)|((with_reducible refine gE ?_);simp only[zA,simprocAttr,hlt])|((with_reducible refine Vz ?_);refine Vo rfl rfl rfl (fun _ _=>rfl) ?_<;>first|rfl|(rw[e];rfl)|skip)|((with_reducible refine Vx ?_);simp only[sb])|(refine hK _ ?_;clear hK K)|refine Vf rfl ?_|clear hK K)
def X0c (p:Pl) (r:Rt):Bool:=(r.ex !=0&&(!(Xpe p.sgs r.ex).isSome||r.ex==r.entry))||(r.ex==0&&((r.over.length:Int) !=0))
end Go.Proofs.YtdngdjbgmojcoaaGreat.Pln
