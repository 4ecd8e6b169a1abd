/- The layer of abstract values, joined. -/
import Derived.Test.YtdngdjbgmojcoaaGreatZPR
import Derived.Test.YtdngdjbgmojcoaaGreatZTA
import Derived.Test.YtdngdjbgmojcoaaGreatZQ1
import Derived.Test.YtdngdjbgmojcoaaGreatZQ8
import Derived.Test.YtdngdjbgmojcoaaGreatZQD
import Derived.KernelRfl
namespace Go.Proofs.YtdngdjbgmojcoaaGreat.Pln
set_option linter.unusedSimpArgs false
set_option linter.unusedVariables false
set_option maxHeartbeats 16000000
set_option maxRecDepth 8000
open Go Go.VS Tab
def exH:Hs:=⟨[],exT,Aq,1,atS exT,[],Aq,false⟩
theorem Xtm:SmH exH:=⟨Xxy,Xob,Xob,⟨by decide,by decide,by decide⟩,by decide,by decide⟩
theorem Xtn:Xo9 exH=true:=by kernel_rfl
theorem Xx4:Xrr exH=exH:=by kernel_rfl
theorem Xx5:Xwz exH exH=true:=by kernel_rfl
theorem Xvo:SmH Xtd:=⟨Xob,Xob,Xob,⟨by decide,by decide,by decide⟩,by decide,by decide⟩
theorem Xvp:Xwz Xtd Xtd=true:=by kernel_rfl
theorem Xyg:Xr Tryz.prog 16 [] [] (.tup [hsA exH,bool true]) []:=by
 have c1:=Xzn
 have c2:=Y1l exT Xxy (by kernel_rfl)
 have e1:hsA exH= .agg [.sl 1 [] .sh,i64 exT.ver,i64 exT.par,.sl 3 (exT.secs.map Y6) .sh,.sl 2 (exT.pts.map jnC) .sh,.sl 3 (exT.sgs.map sgC) .sh,.sl 7 (exT.rts.map rtC) .sh,i64 0,i64 0,.sl 3 [] .sh,.sl 2 [] .sh,.sl 3 [] .sh,.sl 7 [] .sh,i64 1,.sl 2 ((atS exT).tr.map tkC) .sh,.sl 3 ((atS exT).sw.map sgC) .sh,.sl 4 ((atS exT).lk.map lkC) .sh,.sl 1 [] .sh,i64 0,i64 0,.sl 3 [] .sh,.sl 2 [] .sh,.sl 3 [] .sh,.sl 7 [] .sh,bool false]:=rfl
 rw[e1]
 generalize atS exT=Z at*
 generalize exT=X at*
 simp only[plA,plC,stA,stC] at c1 c2
 refine Xc 2 Tryz.func16 rfl fun n out _ _=> ?_
 simp only[sn,Tryz.ntmps16,Nat.reduceAdd,Nat.reduceSub]
 repeat' (first|(with_reducible first|refine Vk fun K hK=> ?_|refine V0 ?_|refine Vs ?_|apply And.intro|refine Vd 2 [] [[],[1],[],[],[],[0],[]] [[],[],[],[],[],[0],[]] (by kernel_rfl) (by decide) (by decide) (by kernel_rfl) ?_|refine Vq (by kernel_rfl) ?_)|((with_reducible first|refine gE ?_|refine gR ?_|refine gD ?_|refine gF ?_);simp only[zA,simprocAttr,X0])|exact Vn|((with_reducible refine Vz ?_);(first|refine Xp (.inr rfl) rfl rfl rfl (fun _ _=>rfl) ok35 (k:=n+0) (off:=0) rfl (Xb _ (by simp)) (X6 _ (Nat.le_refl _) 0) rfl rfl ?_|refine Xp (.inr rfl) rfl rfl rfl (fun _ _=>rfl) ok35 (k:=m+0) (off:=0) rfl (Xb _ (by simp)) (X6 _ hm 0) rfl rfl ?_)<;>first|rfl|exact AV.le.rfl _|(simp only[sL,ti35,List.map_nil,X0];done)|(exact AV.le.rfl _)|(simp only[sL,X0];done)|rfl|skip)|(refine X3 (c1) ?_)|(refine X3 (c2) ?_)|(refine hK _ ?_;clear hK K)|clear hK K)
theorem Xvq:Xr Tryz.prog 17 [] [] (bool true) []:=by
 have c1:=Xyg
 have c2:=Xp9 exH Xtm
 have c3:=Xqb exH Xtm
 obtain⟨r1,r2⟩:=Xpk Xtn
 have el:=Xsq Xtn
 have c4:=Xst (Xp7 exH) (by omega)
 have c5:=Xtl exH exH Xtm Xtm
 rw[r1,r2,Xx4] at c4
 rw[Xx5] at c5
 rw[show Xoc exH=0 from if_pos Xtn] at c2 c3
 rw[show Xlr exH=Xp7 exH from if_pos Xtn] at c2
 clear r1 r2 el
 generalize Xp7 exH=B at*
 generalize exH=X at*
 simp only[hsA,hsC,if_true] at c1 c2 c3 c4 c5
 refine Xc 3 Tryz.func17 rfl fun n out _ _=> ?_
 simp only[sn,Tryz.ntmps17,Nat.reduceAdd,Nat.reduceSub]
 repeat' (first|(with_reducible first|refine Vk fun K hK=> ?_|refine V0 ?_|refine Vs ?_|apply And.intro)|((with_reducible first|refine gE ?_|refine gR ?_);simp only[zA,simprocAttr,X0])|exact Vn|((with_reducible refine Vz ?_);refine Vo rfl rfl rfl (fun _ _=>rfl) ?_<;>first|rfl|skip)|(refine X3 (c1) ?_)|(refine X3 (c2) ?_)|(refine X3 (c3) ?_)|(refine X3 (c4) ?_)|(refine X3 (c5) ?_)|((with_reducible refine Vg (fun hg=> ?_) (fun hg=> ?_))<;>(try simp only[nb] at hg)<;>simp only[zA,simprocAttr,hg,X0])|(refine hK _ ?_;clear hK K)|clear hK K)
theorem Y38:Xr Tryz.prog 4 [] [] (bool true) []:=by
 have ca:=Xvq
 have c1:=Xyg
 have sm:=Xtm
 have c2:=Xp9 {exH with high:=0} ⟨sm.plan,sm.back,sm.next,sm.st,sm.key,sm.buf⟩
 have c3:=Xp9 {exH with halt:=true} ⟨sm.plan,sm.back,sm.next,sm.st,sm.key,sm.buf⟩
 have c4:=Xdb (args':=[.sl 0 [] .nil]) (Xst [] (by decide)) (by simp only[Wb,sL])
 rw[show Xoc {exH with high:=0}=8 by kernel_rfl] at c2
 rw[show Xoc {exH with halt:=true}=8 by kernel_rfl] at c3
 rw[show Xod []=false by kernel_rfl,show Xof []=Xtd by kernel_rfl] at c4
 have h1:exH.high=1:=rfl
 have h2:exH.halt=false:=rfl
 generalize Xlr {exH with high:=0}=B at*
 generalize Xlr {exH with halt:=true}=B' at*
 clear sm
 simp only[hsA,hsC,h1,h2,Bool.false_eq_true,if_false] at c1 c2 c3 c4
 clear h1 h2
 generalize exH=X at*
 generalize Xtd=Y at*
 refine Xc 2 Tryz.func4 rfl fun n out _ _=> ?_
 simp only[sn,Tryz.ntmps4,Nat.reduceAdd,Nat.reduceSub]
 repeat' (first|(with_reducible first|refine Vk fun K hK=> ?_|refine V0 ?_|refine Vs ?_|apply And.intro)|((with_reducible first|refine gE ?_|refine gR ?_);simp only[zA,simprocAttr,X0])|exact Vn|((with_reducible refine Vz ?_);refine Vo rfl rfl rfl (fun _ _=>rfl) ?_<;>first|rfl|skip)|(refine X3 (c1) ?_)|(refine X3 (c2) ?_)|(refine X3 (c3) ?_)|(refine X3 (c4) ?_)|(refine X3 (ca) ?_)|((with_reducible refine Vg (fun hg=> ?_) (fun hg=> ?_))<;>(try simp only[nb] at hg)<;>simp only[zA,simprocAttr,hg,X0])|(refine hK _ ?_;clear hK K)|clear hK K)
theorem Y39 (h o:Hs):Xr Tryz.prog 5 [hsA h,hsA o] [] (bool true) []:=by
 have ca:=Xvq
 have g1:=Xvm h
 have g2:=Xvm o
 cases hG:Xs8 h with
 |true=>
  rw[hG] at g1
  simp only[hsA,hsC] at g1
  refine Xc 2 Tryz.func5 rfl fun n out _ _=> ?_
  simp only[sn,Tryz.ntmps5,Nat.reduceAdd,Nat.reduceSub]
  repeat' (first|(with_reducible first|refine Vk fun K hK=> ?_|refine V0 ?_|refine Vs ?_|apply And.intro|refine Vq (by kernel_rfl) ?_)|((with_reducible first|refine gE ?_|refine gR ?_);simp only[zA,simprocAttr,hsA,hsC])|exact Vn|((with_reducible refine Vz ?_);refine Vo rfl rfl rfl (fun _ _=>rfl) ?_<;>first|rfl|skip)|(refine X3 (ca) ?_)|(refine X3 (g1) ?_)|((with_reducible refine Vg (fun hg=> ?_) (fun hg=> ?_))<;>(try simp only[nb] at hg)<;>simp only[zA,simprocAttr,hg,hsA,hsC])|(refine hK _ ?_;clear hK K)|refine Vt rfl ?_|refine Vf rfl ?_|refine Vi rfl (fun hg=> ?_) (fun hg=> ?_)|clear hK K)
 |false=>
  rw[hG] at g1
  have hs:=Xza hG
  cases hG2:Xs8 o with
  |true=>
   rw[hG2] at g2
   simp only[hsA,hsC] at g1 g2
   refine Xc 2 Tryz.func5 rfl fun n out _ _=> ?_
   simp only[sn,Tryz.ntmps5,Nat.reduceAdd,Nat.reduceSub]
   repeat' (first|(with_reducible first|refine Vk fun K hK=> ?_|refine V0 ?_|refine Vs ?_|apply And.intro|refine Vq (by kernel_rfl) ?_)|((with_reducible first|refine gE ?_|refine gR ?_);simp only[zA,simprocAttr,hsA,hsC])|exact Vn|((with_reducible refine Vz ?_);refine Vo rfl rfl rfl (fun _ _=>rfl) ?_<;>first|rfl|skip)|(refine X3 (ca) ?_)|(refine X3 (g1) ?_)|(refine X3 (g2) ?_)|((with_reducible refine Vg (fun hg=> ?_) (fun hg=> ?_))<;>(try simp only[nb] at hg)<;>simp only[zA,simprocAttr,hg,hsA,hsC])|(refine hK _ ?_;clear hK K)|refine Vt rfl ?_|refine Vf rfl ?_|refine Vi rfl (fun hg=> ?_) (fun hg=> ?_)|clear hK K)
  |false=>
   rw[hG2] at g2
   have ho:=Xza hG2
   have w1:=Xp9 h hs
   have w2:=Xp9 o ho
   by_cases hh:Xo9 h=true∧Xo9 o=true
   ·obtain⟨k1,k2⟩:=hh
    have ap:=apart k1 k2
    have s1:=Du h.plan o.plan hs.plan
    have s2:=Du h.back o.back hs.back
    have s3':=Y3d h.st o.st hs.st
    rw[show Xoc h=0 from if_pos k1,show Xlr h=Xp7 h from if_pos k1] at w1
    rw[show Xoc o=0 from if_pos k2,show Xlr o=Xp7 o from if_pos k2] at w2
    generalize Xp7 h=E1 at*
    generalize Xp7 o=E2 at*
    generalize Sy h.plan o.plan=A1 at*
    generalize Sy h.back o.back=A2 at*
    generalize Xzl h.st o.st=A3 at*
    simp only[hsA,hsC] at g1 g2 w1 w2
    simp only[plA,plC] at s1 s2
    simp only[stA,stC] at s3'
    refine Xc 2 Tryz.func5 rfl fun n out _ _=> ?_
    simp only[sn,Tryz.ntmps5,Nat.reduceAdd,Nat.reduceSub]
    repeat' (first|(with_reducible first|refine Vk fun K hK=> ?_|refine V0 ?_|refine Vs ?_|apply And.intro|refine Vq (by kernel_rfl) ?_)|((with_reducible first|refine gE ?_|refine gR ?_);simp only[zA,simprocAttr,hsA,hsC,X0,Ya,Z5])|exact Vn|((with_reducible refine Vz ?_);refine Vo rfl rfl rfl (fun _ _=>rfl) ?_<;>first|rfl|(simp only[g_0,g_s];refine congrArg VS.bool ?_;simp_all;done)|skip)|(refine X3 (ca) ?_)|(refine X3 (g1) ?_)|(refine X3 (g2) ?_)|(refine X3 (w1) ?_)|(refine X3 (w2) ?_)|(refine X3 (s1) ?_)|(refine X3 (s2) ?_)|(refine X3 (s3') ?_)|((with_reducible refine Vg (fun hg=> ?_) (fun hg=> ?_))<;>(try simp only[nb] at hg)<;>simp only[zA,simprocAttr,hg,hsA,hsC,X0,Ya,Z5])|(refine hK _ ?_;clear hK K)|refine Vt rfl ?_|refine Vf rfl ?_|refine Vi rfl (fun hg=> ?_) (fun hg=> ?_)|clear hK K)
   ·have e1:(Xoc h !=0||Xoc o !=0)=true:=by
     unfold Xoc
     cases e1:Xo9 h<;>cases e2:Xo9 o<;>simp_all
    generalize Xlr h=E1 at*
    generalize Xlr o=E2 at*
    generalize Xoc h=D1 at*
    generalize Xoc o=D2 at*
    have e2:(D1 !=0)=false→(D2 !=0)=true:=fun h=>by rw[h,Bool.false_or] at e1;exact e1
    simp only[hsA,hsC] at g1 g2 w1 w2
    cases hD:(D1 !=0) with
    |true=>
     refine Xc 2 Tryz.func5 rfl fun n out _ _=> ?_
     simp only[sn,Tryz.ntmps5,Nat.reduceAdd,Nat.reduceSub]
     repeat' (first|(with_reducible first|refine Vk fun K hK=> ?_|refine V0 ?_|refine Vs ?_|apply And.intro|refine Vq (by kernel_rfl) ?_)|((with_reducible first|refine gE ?_|refine gR ?_);simp only[zA,simprocAttr,hsA,hsC,hD])|exact Vn|((with_reducible refine Vz ?_);refine Vo rfl rfl rfl (fun _ _=>rfl) ?_<;>first|rfl|skip)|(refine X3 (ca) ?_)|(refine X3 (g1) ?_)|(refine X3 (g2) ?_)|(refine X3 (w1) ?_)|(refine X3 (w2) ?_)|((with_reducible refine Vg (fun hg=> ?_) (fun hg=> ?_))<;>(try simp only[nb] at hg)<;>simp only[zA,simprocAttr,hg,hsA,hsC,hD])|(refine hK _ ?_;clear hK K)|refine Vt rfl ?_|refine Vf rfl ?_|refine Vi rfl (fun hg=> ?_) (fun hg=> ?_)|clear hK K)
    |false=>
     have hD2:=e2 hD
     refine Xc 2 Tryz.func5 rfl fun n out _ _=> ?_
     simp only[sn,Tryz.ntmps5,Nat.reduceAdd,Nat.reduceSub]
     repeat' (first|(with_reducible first|refine Vk fun K hK=> ?_|refine V0 ?_|refine Vs ?_|apply And.intro|refine Vq (by kernel_rfl) ?_)|((with_reducible first|refine gE ?_|refine gR ?_);simp only[zA,simprocAttr,hsA,hsC,hD,hD2])|exact Vn|((with_reducible refine Vz ?_);refine Vo rfl rfl rfl (fun _ _=>rfl) ?_<;>first|rfl|skip)|(refine X3 (ca) ?_)|(refine X3 (g1) ?_)|(refine X3 (g2) ?_)|(refine X3 (w1) ?_)|(refine X3 (w2) ?_)|((with_reducible refine Vg (fun hg=> ?_) (fun hg=> ?_))<;>(try simp only[nb] at hg)<;>simp only[zA,simprocAttr,hg,hsA,hsC,hD,hD2])|(refine hK _ ?_;clear hK K)|refine Vt rfl ?_|refine Vf rfl ?_|refine Vi rfl (fun hg=> ?_) (fun hg=> ?_)|clear hK K)
theorem Xx6 (p:Pl) {s:St} (h:SmS s):SmS (Xjm p s):=⟨by simpa [Xjm] using h.t,by simpa [Xjm] using h.w,by simpa [Xjm] using h.l⟩
theorem Xue (s:St):Xqz s s=true:=by simp [Xqz]
theorem Y37 (h o:Hs):Xr Tryz.prog 6 [hsA h,hsA o] [] (bool true) []:=by
 have ca:=Xvq
 have g1:=Xvm h
 have g2:=Xvm o
 cases hG:Xs8 h with
 |true=>
  rw[hG] at g1
  simp only[hsA,hsC] at g1
  refine Xc 4 Tryz.func6 rfl fun n out _ _=> ?_
  simp only[sn,Tryz.ntmps6,Nat.reduceAdd,Nat.reduceSub]
  repeat' (first|(with_reducible first|refine Vk fun K hK=> ?_|refine V0 ?_|refine Vs ?_|apply And.intro)|((with_reducible first|refine gE ?_|refine gR ?_);simp only[zA,simprocAttr,hsA,hsC])|exact Vn|((with_reducible refine Vz ?_);refine Vo rfl rfl rfl (fun _ _=>rfl) ?_<;>first|rfl|skip)|(refine X3 (ca) ?_)|(refine X3 (g1) ?_)|((with_reducible refine Vg (fun hg=> ?_) (fun hg=> ?_))<;>(try simp only[nb] at hg)<;>simp only[zA,simprocAttr,hg,hsA,hsC])|(refine hK _ ?_;clear hK K)|refine Vt rfl ?_|refine Vf rfl ?_|refine Vi rfl (fun hg=> ?_) (fun hg=> ?_)|clear hK K)
 |false=>
  rw[hG] at g1
  have hs:=Xza hG
  cases hG2:Xs8 o with
  |true=>
   rw[hG2] at g2
   simp only[hsA,hsC] at g1 g2
   refine Xc 4 Tryz.func6 rfl fun n out _ _=> ?_
   simp only[sn,Tryz.ntmps6,Nat.reduceAdd,Nat.reduceSub]
   repeat' (first|(with_reducible first|refine Vk fun K hK=> ?_|refine V0 ?_|refine Vs ?_|apply And.intro)|((with_reducible first|refine gE ?_|refine gR ?_);simp only[zA,simprocAttr,hsA,hsC])|exact Vn|((with_reducible refine Vz ?_);refine Vo rfl rfl rfl (fun _ _=>rfl) ?_<;>first|rfl|skip)|(refine X3 (ca) ?_)|(refine X3 (g1) ?_)|(refine X3 (g2) ?_)|((with_reducible refine Vg (fun hg=> ?_) (fun hg=> ?_))<;>(try simp only[nb] at hg)<;>simp only[zA,simprocAttr,hg,hsA,hsC])|(refine hK _ ?_;clear hK K)|refine Vt rfl ?_|refine Vf rfl ?_|refine Vi rfl (fun hg=> ?_) (fun hg=> ?_)|clear hK K)
  |false=>
   rw[hG2] at g2
   have ho:=Xza hG2
   have w1:=Xp9 h hs
   have w2:=Xp9 ⟨o.key,h.plan,h.back,h.high,h.st,o.buf,o.next,h.halt⟩ ⟨hs.plan,hs.back,ho.next,hs.st,ho.key,ho.buf⟩
   rw[show Xoc ⟨o.key,h.plan,h.back,h.high,h.st,o.buf,o.next,h.halt⟩=Xoc h from rfl,show Xlr ⟨o.key,h.plan,h.back,h.high,h.st,o.buf,o.next,h.halt⟩=Xlr h from rfl] at w2
   cases hc:Xo9 h with
   |false=>
    have e1:Xoc h=8:=by unfold Xoc;rw[hc];rfl
    rw[e1] at w1 w2
    generalize Xlr h=E1 at*
    simp only[hsA,hsC] at g1 g2 w1 w2
    refine Xc 4 Tryz.func6 rfl fun n out _ _=> ?_
    simp only[sn,Tryz.ntmps6,Nat.reduceAdd,Nat.reduceSub]
    repeat' (first|(with_reducible first|refine Vk fun K hK=> ?_|refine V0 ?_|refine Vs ?_|apply And.intro)|((with_reducible first|refine gE ?_|refine gR ?_);simp only[zA,simprocAttr,hsA,hsC,X0,Ya,Z5,beq_self_eq_true])|exact Vn|((with_reducible refine Vz ?_);refine Vo rfl rfl rfl (fun _ _=>rfl) ?_<;>first|rfl|skip)|(refine X3 (ca) ?_)|(refine X3 (g1) ?_)|(refine X3 (g2) ?_)|(refine X3 (w1) ?_)|(refine X3 (w2) ?_)|((with_reducible refine Vg (fun hg=> ?_) (fun hg=> ?_))<;>(try simp only[nb] at hg)<;>simp only[zA,simprocAttr,hg,hsA,hsC,X0,Ya,Z5,beq_self_eq_true])|(refine hK _ ?_;clear hK K)|refine Vt rfl ?_|refine Vf rfl ?_|refine Vi rfl (fun hg=> ?_) (fun hg=> ?_)|clear hK K)
   |true=>
    obtain⟨k1,k2,k3,k4⟩:=Xor.1 hc
    obtain⟨f1,f2⟩:=Xv8 h.plan h.st
    have k5:Xo9 ⟨o.key,h.plan,h.back,h.high,Xjm h.plan h.st,o.buf,o.next,h.halt⟩=true:=Xor.2 ⟨k1,k2,k3,Xws k4⟩
    have k6:Xp7 ⟨o.key,h.plan,h.back,h.high,Xjm h.plan h.st,o.buf,o.next,h.halt⟩=Xp7 h:=Xxr rfl rfl rfl f1 f2
    have w3:=Xp9 ⟨o.key,h.plan,h.back,h.high,Xjm h.plan h.st,o.buf,o.next,h.halt⟩ ⟨hs.plan,hs.back,ho.next,Xx6 _ hs.st,ho.key,ho.buf⟩
    have ci:=Xyu h.plan h.st hs.plan hs.st k4
    rw[show Xoc h=0 from if_pos hc,show Xlr h=Xp7 h from if_pos hc] at w1 w2
    rw[show Xoc _=0 from if_pos k5,show Xlr _=Xp7 h from(if_pos k5).trans k6] at w3
    generalize Xp7 h=E1 at*
    generalize Xjm h.plan h.st=Z at*
    simp only[hsA,hsC] at g1 g2 w1 w2 w3
    simp only[plA,plC,stA,stC] at ci
    refine Xc 4 Tryz.func6 rfl fun n out _ _=> ?_
    simp only[sn,Tryz.ntmps6,Nat.reduceAdd,Nat.reduceSub]
    repeat' (first|(with_reducible first|refine Vk fun K hK=> ?_|refine V0 ?_|refine Vs ?_|apply And.intro)|((with_reducible first|refine gE ?_|refine gR ?_);simp only[zA,simprocAttr,hsA,hsC,X0,Ya,Z5,beq_self_eq_true])|exact Vn|((with_reducible refine Vz ?_);refine Vo rfl rfl rfl (fun _ _=>rfl) ?_<;>first|rfl|skip)|(refine X3 (ca) ?_)|(refine X3 (g1) ?_)|(refine X3 (g2) ?_)|(refine X3 (w1) ?_)|(refine X3 (w2) ?_)|(refine X3 (w3) ?_)|(refine X3 (ci) ?_)|((with_reducible refine Vg (fun hg=> ?_) (fun hg=> ?_))<;>(try simp only[nb] at hg)<;>simp only[zA,simprocAttr,hg,hsA,hsC,X0,Ya,Z5,beq_self_eq_true])|(refine hK _ ?_;clear hK K)|refine Vt rfl ?_|refine Vf rfl ?_|refine Vi rfl (fun hg=> ?_) (fun hg=> ?_)|clear hK K)
theorem Xuf (h:Hs) (b:List UInt8):Xr Tryz.prog 7 [hsA h,.sl 1 (Xo b) .sh] [] (bool true) []:=by
 have ca:=Xvq
 have g1:=Xvm h
 cases hG:Xs8 h with
 |true=>
  rw[hG] at g1
  simp only[hsA,hsC] at g1
  refine Xc 5 Tryz.func7 rfl fun n out _ _=> ?_
  simp only[sn,Tryz.ntmps7,Nat.reduceAdd,Nat.reduceSub]
  repeat' (first|(with_reducible first|refine Vk fun K hK=> ?_|refine V0 ?_|refine Vs ?_|apply And.intro)|((with_reducible first|refine gE ?_|refine gR ?_);simp only[zA,simprocAttr,hsA,hsC])|exact Vn|((with_reducible refine Vz ?_);refine Vo rfl rfl rfl (fun _ _=>rfl) ?_<;>first|rfl|skip)|(refine X3 (ca) ?_)|(refine X3 (g1) ?_)|((with_reducible refine Vg (fun hg=> ?_) (fun hg=> ?_))<;>(try simp only[nb] at hg)<;>simp only[zA,simprocAttr,hg,hsA,hsC])|(refine hK _ ?_;clear hK K)|refine Vt rfl ?_|refine Vf rfl ?_|refine Vi rfl (fun hg=> ?_) (fun hg=> ?_)|clear hK K)
 |false=>
  rw[hG] at g1
  have hs:=Xza hG
  by_cases hb:b.length≤5000
  ·have d1:((b.length:Int)>5000)=False:=eq_false (by omega)
   have w1:=Xp9 h hs
   have rb:=Xst b (by omega)
   have nS:=Xtl Xtd Xtd Xvo Xvo
   rw[Xvp] at nS
   have nS:=Xdb (args':=[hsA Xtd,.agg [.sl 0 [] .nil,i64 0,i64 0,.sl 0 [] .nil,.sl 0 [] .nil,.sl 0 [] .nil,.sl 0 [] .nil,i64 0,i64 0,.sl 0 [] .nil,.sl 0 [] .nil,.sl 0 [] .nil,.sl 0 [] .nil,i64 0,.sl 0 [] .nil,.sl 0 [] .nil,.sl 0 [] .nil,.sl 0 [] .nil,i64 0,i64 0,.sl 0 [] .nil,.sl 0 [] .nil,.sl 0 [] .nil,.sl 0 [] .nil,bool false]]) nS ⟨.rfl _,Xrk,trivial⟩
   have F:∀X:Prop,(Xod b=false→X)→(∀k:Hs,SmH k→Xo9 k=true→Xp7 k=b→Xod b=true→Xof b=k→X)→X:=fun X x0 x1=>by
    cases hr:Xod b with
    |false=>exact x0 hr
    |true=>obtain⟨q1,q2⟩:=Xwt hr;exact x1 _ (Xyd b) q1 q2 hr rfl
   cases hc:Xo9 h with
   |false=>
    have e1:Xoc h=8:=by unfold Xoc;rw[hc];rfl
    rw[e1] at w1
    generalize Xlr h=E1 at*
    refine F _ (fun r0=> ?_) (fun k ks kc ke r0 r1=> ?_)
    ·have r1:Xof b=Xtd:=by unfold Xof;rw[r0];rfl
     rw[r0,r1] at rb
     generalize Xtd=Y at*
     simp only[hsA,hsC,Bool.false_eq_true,if_false] at g1 w1 rb nS
     refine Xc 5 Tryz.func7 rfl fun n out _ _=> ?_
     simp only[sn,Tryz.ntmps7,Nat.reduceAdd,Nat.reduceSub]
     repeat' (first|(with_reducible first|refine Vk fun K hK=> ?_|refine V0 ?_|refine Vs ?_|apply And.intro)|((with_reducible first|refine gE ?_|refine gR ?_);simp only[zA,simprocAttr,hsA,hsC,X0,X5,d1,decide_false])|exact Vn|((with_reducible refine Vz ?_);refine Vo rfl rfl rfl (fun _ _=>rfl) ?_<;>first|rfl|skip)|(refine X3 (ca) ?_)|(refine X3 (g1) ?_)|(refine X3 (w1) ?_)|(refine X3 (rb) ?_)|(refine X3 (nS) ?_)|((with_reducible refine Vg (fun hg=> ?_) (fun hg=> ?_))<;>(try simp only[nb] at hg)<;>simp only[zA,simprocAttr,hg,hsA,hsC,X0,X5,d1,decide_false])|(refine hK _ ?_;clear hK K)|refine Vt rfl ?_|refine Vf rfl ?_|refine Vi rfl (fun hg=> ?_) (fun hg=> ?_)|clear hK K)
    ·rw[r0,r1] at rb
     have w2:=Xp9 k ks
     have ck:=Xqb k ks
     rw[show Xoc k=0 from if_pos kc] at w2 ck
     rw[show Xlr k=b from(if_pos kc).trans ke] at w2
     clear r1 ke kc
     simp only[hsA,hsC,if_true] at g1 w1 rb w2 ck
     refine Xc 5 Tryz.func7 rfl fun n out _ _=> ?_
     simp only[sn,Tryz.ntmps7,Nat.reduceAdd,Nat.reduceSub]
     repeat' (first|(with_reducible first|refine Vk fun K hK=> ?_|refine V0 ?_|refine Vs ?_|apply And.intro)|((with_reducible first|refine gE ?_|refine gR ?_);simp only[zA,simprocAttr,hsA,hsC,X0,X5,d1,decide_false,Ya,Z5,beq_self_eq_true])|exact Vn|((with_reducible refine Vz ?_);refine Vo rfl rfl rfl (fun _ _=>rfl) ?_<;>first|rfl|skip)|(refine X3 (ca) ?_)|(refine X3 (g1) ?_)|(refine X3 (w1) ?_)|(refine X3 (rb) ?_)|(refine X3 (w2) ?_)|(refine X3 (ck) ?_)|((with_reducible refine Vg (fun hg=> ?_) (fun hg=> ?_))<;>(try simp only[nb] at hg)<;>simp only[zA,simprocAttr,hg,hsA,hsC,X0,X5,d1,decide_false,Ya,Z5,beq_self_eq_true])|(refine hK _ ?_;clear hK K)|refine Vt rfl ?_|refine Vf rfl ?_|refine Vi rfl (fun hg=> ?_) (fun hg=> ?_)|clear hK K)
   |true=>
    obtain⟨k1,k2,k3,k4⟩:=Xor.1 hc
    obtain⟨o1,o2⟩:=Xpk hc
    have el:=Xsq hc
    have rx:=Xst (Xp7 h) (by omega)
    have ci:=Xyu h.plan h.st hs.plan hs.st k4
    have s1:=Du h.plan h.plan hs.plan
    have s2:=Du h.back h.back hs.back
    have s3':=Xyr (Xjm h.plan h.st) (Xjm h.plan h.st) (Xx6 _ hs.st)
    have s5:=Xsv Aq Xob
    rw[show Xp3 Aq=true by decide] at s5
    rw[Pq] at s1 s2
    rw[Xue] at s3'
    rw[o1,o2] at rx
    have d0:decide (IntKind.i64.wrap 0>0)=false:=by decide
    have d3:(h.high !=h.high)=false:=by simp
    have d2:(((Xp7 h).length:Int)>1500)=False:=eq_false (by omega)
    rw[show Xoc h=0 from if_pos hc,show Xlr h=Xp7 h from if_pos hc] at w1
    clear o1 o2 el k1 k2 k3 k4
    generalize Xp7 h=E1 at*
    unfold Xrr at rx
    generalize Xjm h.plan h.st=Z at*
    simp only[hsA,hsC,if_true] at g1 w1 rx
    simp only[plA,plC,stA,stC] at ci s1 s2 s3' s5
    simp only[Aq,List.map_nil,Wb] at s5 rx
    refine F _ (fun r0=> ?_) (fun k ks kc ke r0 r1=> ?_)
    ·have r1:Xof b=Xtd:=by unfold Xof;rw[r0];rfl
     rw[r0,r1] at rb
     generalize Xtd=Y at*
     simp only[hsA,hsC,Bool.false_eq_true,if_false] at rb nS
     refine Xc 5 Tryz.func7 rfl fun n out _ _=> ?_
     simp only[sn,Tryz.ntmps7,Nat.reduceAdd,Nat.reduceSub]
     repeat' (first|(with_reducible first|refine Vk fun K hK=> ?_|refine V0 ?_|refine Vs ?_|apply And.intro)|((with_reducible first|refine gE ?_|refine gR ?_);simp only[zA,simprocAttr,hsA,hsC,X0,X5,d0,d1,d2,d3,decide_false])|exact Vn|((with_reducible refine Vz ?_);refine Vo rfl rfl rfl (fun _ _=>rfl) ?_<;>first|rfl|skip)|(refine X3 (ca) ?_)|(refine X3 (g1) ?_)|(refine X3 (w1) ?_)|(refine X3 (rx) ?_)|(refine X3 (ci) ?_)|(refine X3 (s1) ?_)|(refine X3 (s2) ?_)|(refine X3 (s3') ?_)|(refine X3 (s5) ?_)|(refine X3 (rb) ?_)|(refine X3 (nS) ?_)|((with_reducible refine Vg (fun hg=> ?_) (fun hg=> ?_))<;>(try simp only[nb] at hg)<;>simp only[zA,simprocAttr,hg,hsA,hsC,X0,X5,d0,d1,d2,d3,decide_false])|(refine hK _ ?_;clear hK K)|refine Vt rfl ?_|refine Vf rfl ?_|refine Vi rfl (fun hg=> ?_) (fun hg=> ?_)|clear hK K)
    ·rw[r0,r1] at rb
     have w2:=Xp9 k ks
     have ck:=Xqb k ks
     rw[show Xoc k=0 from if_pos kc] at w2 ck
     rw[show Xlr k=b from(if_pos kc).trans ke] at w2
     clear r1 ke kc
     simp only[hsA,hsC,if_true] at rb w2 ck
     refine Xc 5 Tryz.func7 rfl fun n out _ _=> ?_
     simp only[sn,Tryz.ntmps7,Nat.reduceAdd,Nat.reduceSub]
     repeat' (first|(with_reducible first|refine Vk fun K hK=> ?_|refine V0 ?_|refine Vs ?_|apply And.intro)|((with_reducible first|refine gE ?_|refine gR ?_);simp only[zA,simprocAttr,hsA,hsC,X0,X5,d0,d1,d2,d3,decide_false,Ya,Z5,beq_self_eq_true])|exact Vn|((with_reducible refine Vz ?_);refine Vo rfl rfl rfl (fun _ _=>rfl) ?_<;>first|rfl|skip)|(refine X3 (ca) ?_)|(refine X3 (g1) ?_)|(refine X3 (w1) ?_)|(refine X3 (rx) ?_)|(refine X3 (ci) ?_)|(refine X3 (s1) ?_)|(refine X3 (s2) ?_)|(refine X3 (s3') ?_)|(refine X3 (s5) ?_)|(refine X3 (rb) ?_)|(refine X3 (w2) ?_)|(refine X3 (ck) ?_)|((with_reducible refine Vg (fun hg=> ?_) (fun hg=> ?_))<;>(try simp only[nb] at hg)<;>simp only[zA,simprocAttr,hg,hsA,hsC,X0,X5,d0,d1,d2,d3,decide_false,Ya,Z5,beq_self_eq_true])|(refine hK _ ?_;clear hK K)|refine Vt rfl ?_|refine Vf rfl ?_|refine Vi rfl (fun hg=> ?_) (fun hg=> ?_)|clear hK K)
  ·have d1:((b.length:Int)>5000)=True:=eq_true (by omega)
   simp only[hsA,hsC] at g1
   refine Xc 5 Tryz.func7 rfl fun n out _ _=> ?_
   simp only[sn,Tryz.ntmps7,Nat.reduceAdd,Nat.reduceSub]
   repeat' (first|(with_reducible first|refine Vk fun K hK=> ?_|refine V0 ?_|refine Vs ?_|apply And.intro)|((with_reducible first|refine gE ?_|refine gR ?_);simp only[zA,simprocAttr,hsA,hsC,X5,d1,decide_true])|exact Vn|((with_reducible refine Vz ?_);refine Vo rfl rfl rfl (fun _ _=>rfl) ?_<;>first|rfl|skip)|(refine X3 (ca) ?_)|(refine X3 (g1) ?_)|((with_reducible refine Vg (fun hg=> ?_) (fun hg=> ?_))<;>(try simp only[nb] at hg)<;>simp only[zA,simprocAttr,hg,hsA,hsC,X5,d1,decide_true])|(refine hK _ ?_;clear hK K)|refine Vt rfl ?_|refine Vf rfl ?_|refine Vi rfl (fun hg=> ?_) (fun hg=> ?_)|clear hK K)
end Go.Proofs.YtdngdjbgmojcoaaGreat.Pln
