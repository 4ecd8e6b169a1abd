/- The layer of abstract values, joined. -/
import Derived.Test.YtjgbbjooeibppaaZD2
import Derived.Test.YtjgbbjooeibppaaZD6
namespace Go.Proofs.Ytjgbbjooeibppaa
set_option linter.unusedVariables false
set_option linter.unusedSimpArgs false
open Go Go.VS Tab
set_option maxHeartbeats 1000000
set_option maxRecDepth 4000
theorem Xht (a m:Int):Xr Try.prog 61 [i64 a,i64 m] [] (bool (decide (0≤a)&&decide (a<m))) []:=by
 refine Xc 0 Try.func61 rfl fun n out _ _=> ?_
 simp only[Try.ntmps61,List.length_cons,List.length_nil,List.length_map,List.length_replicate,Xf,Nat.reduceAdd,Nat.reduceSub,List.replicate,List.cons_append,List.nil_append]
 refine X9 fun K hK=>Xn Xj [] ?_
 simp (maxSteps:=9^7) only[ss,X1,tab,simprocAttr, -List.reduceReplicate]
 (refine hK _ ?_;clear hK K)
 by_cases h:0≤a
 ·have e:decide (a≥0)=true:=decide_eq_true h
  refine X9 fun K hK=>Xn Xj [] ?_
  simp (maxSteps:=9^7) only[ss,X1,tab,simprocAttr, -List.reduceReplicate,e]
  (refine hK _ ?_;clear hK K)
  rw[show decide (0≤a)=true from e,Bool.true_and]
  refine Yd ?_
  exact Qv (.inr rfl) rfl rfl rfl (fun _ _=>rfl) rfl
 ·have e:decide (a≥0)=false:=decide_eq_false h
  refine X9 fun K hK=>Xn Xj [] ?_
  simp (maxSteps:=9^7) only[ss,X1,tab,simprocAttr, -List.reduceReplicate,e]
  (refine hK _ ?_;clear hK K)
  rw[show decide (0≤a)=false from e,Bool.false_and]
  refine Yd ?_
  exact Qv (.inr rfl) rfl rfl rfl (fun _ _=>rfl) rfl
theorem Xml (w:Wr):Xr Try.prog 81 [wrA w] [] (i64 w.at') []:=by
 refine Xc 1 Try.func81 rfl fun n out _ _=> ?_
 simp only[Try.ntmps81,List.length_cons,List.length_nil,List.length_map,List.length_replicate,Xf,Nat.reduceAdd,Nat.reduceSub,List.replicate,List.cons_append,List.nil_append]
 refine X9 fun K hK=>Xn Xj [] ?_
 simp (maxSteps:=9^7) only[ss,X1,tab,simprocAttr, -List.reduceReplicate,wrA,wrC]
 (refine hK _ ?_;clear hK K)
 refine X9 fun K hK=>Xn Xj [] ?_
 simp (maxSteps:=9^7) only[ss,X1,tab,simprocAttr, -List.reduceReplicate]
 (refine hK _ ?_;clear hK K)
 refine Yd ?_
 exact Qv (.inr rfl) rfl rfl rfl (fun _ _=>rfl) rfl
theorem Xmm (w:Wr):Xr Try.prog 82 [wrA w] [] (bs w.data) []:=by
 refine Xc 1 Try.func82 rfl fun n out _ _=> ?_
 simp only[Try.ntmps82,List.length_cons,List.length_nil,List.length_map,List.length_replicate,Xf,Nat.reduceAdd,Nat.reduceSub,List.replicate,List.cons_append,List.nil_append]
 refine X9 fun K hK=>Xn Xj [] ?_
 simp (maxSteps:=9^7) only[ss,X1,tab,simprocAttr, -List.reduceReplicate,wrA,wrC]
 (refine hK _ ?_;clear hK K)
 refine X9 fun K hK=>Xn Xj [] ?_
 simp (maxSteps:=9^7) only[ss,X1,tab,simprocAttr, -List.reduceReplicate]
 (refine hK _ ?_;clear hK K)
 refine Yd ?_
 exact Qv (.inr rfl) rfl rfl rfl (fun _ _=>rfl) rfl
theorem Xmn (l:List UInt8):Xr Try.prog 86 [bs l] [] (bool ((l.length:Int) !=128)) []:=by
 refine Xc 0 Try.func86 rfl fun n out _ _=> ?_
 simp only[Try.ntmps86,List.length_cons,List.length_nil,List.length_map,List.length_replicate,Xf,Nat.reduceAdd,Nat.reduceSub,List.replicate,List.cons_append,List.nil_append]
 refine X9 fun K hK=>Xn Xj [] ?_
 simp (maxSteps:=9^7) only[ss,X1,tab,simprocAttr, -List.reduceReplicate]
 (refine hK _ ?_;clear hK K)
 refine X9 fun K hK=>Xn Xj [] ?_
 simp (maxSteps:=9^7) only[ss,X1,tab,simprocAttr, -List.reduceReplicate,X5]
 (refine hK _ ?_;clear hK K)
 refine Yd ?_
 exact Qv (.inr rfl) rfl rfl rfl (fun _ _=>rfl) rfl
theorem Xmo (a:Int):Xr Try.prog 88 [i64 a] [] (bool (!(decide (0≤a)&&decide (a<32)))) []:=by
 refine Xc 0 Try.func88 rfl fun n out _ _=> ?_
 simp only[Try.ntmps88,List.length_cons,List.length_nil,List.length_map,List.length_replicate,Xf,Nat.reduceAdd,Nat.reduceSub,List.replicate,List.cons_append,List.nil_append]
 refine X9 fun K hK=>Xn Xj [] ?_
 simp (maxSteps:=9^7) only[ss,X1,tab,simprocAttr, -List.reduceReplicate]
 (refine hK _ ?_;clear hK K)
 refine X9 fun K hK=>Xn Xj [] ?_
 simp (maxSteps:=9^7) only[ss,X1,tab,simprocAttr, -List.reduceReplicate]
 skip
 refine X3 (Xht a 32) ?_
 simp (maxSteps:=9^7) only[ss,X1,tab,simprocAttr, -List.reduceReplicate]
 (refine hK _ ?_;clear hK K)
 refine Yd ?_
 exact Qv (.inr rfl) rfl rfl rfl (fun _ _=>rfl) rfl
def Xo1 (w:Wr):Bool:=decide (0≤w.at')&&decide (w.at'<32)&&decide (w.data.length=128)
def may (d:Dsk):Bool:=decide (d.sectors.length=32)&&decide (d.waits.length≤256)&&d.sectors.all (fun b=>decide (b.length=128))&&d.waits.all Xo1
theorem Xho (d:Dsk):may d=true↔d.sectors.length=32∧d.waits.length≤256∧(∀b,b∈d.sectors→b.length=128)∧∀w,w∈d.waits→0≤w.at'∧w.at'<32∧w.data.length=128:=by
 simp [may,Xo1,and_assoc]
theorem Xjg (d:Dsk) (h1:d.sectors.length≤1000) (h2:d.waits.length≤1000):Xr Try.prog 62 [Y3p d] [] (i64 (if may d then 0 else 8)) []:=by
 refine Xc 5 Try.func62 rfl fun n out _ _=> ?_
 simp only[Try.ntmps62,List.length_cons,List.length_nil,List.length_map,List.length_replicate,Xf,Nat.reduceAdd,Nat.reduceSub,List.replicate,List.cons_append,List.nil_append]
 refine X9 fun K hK=>Xn Xj [] ?_
 simp (maxSteps:=9^7) only[ss,X1,tab,simprocAttr, -List.reduceReplicate,Y3p,Xha]
 (refine hK _ ?_;clear hK K)
 refine X9 fun K hK=>Xn Xj [] ?_
 simp (maxSteps:=9^7) only[ss,X1,tab,simprocAttr, -List.reduceReplicate]
 (refine hK _ ?_;clear hK K)
 refine X9 fun K hK=>Xn Xj [] ?_
 simp (maxSteps:=9^7) only[ss,X1,tab,simprocAttr, -List.reduceReplicate]
 (refine hK _ ?_;clear hK K)
 have lit:∀(σ:AState) (K:AV→List (Nat×Res)→Prop) (m1 m2:Md) (x y:List (List AV)),X1 tab σ K none 154 2 [(0,.sl 1 x m1),(1,.sl 1 y m2)]=K (.sl 1 [[.sl 1 x m1],[.sl 1 y m2]] .full) []:=fun σ K m1 m2 x y=>
  Te (T:=tab) (ti:=ti154) (te:=ti40) rfl rfl rfl rfl rfl rfl
 refine X9 fun K hK=>Ny Xj [] [[],[0],[],[0],[],[1],[],[2],[]] [[],[],[],[],[],[1],[],[2],[]] follows (by kernel_rfl) (by decide) (by decide) (by kernel_rfl) ?_
 simp (maxSteps:=9^7) only[ss,tab,simprocAttr, -List.reduceReplicate]
 skip
 refine Sb (Xm6 (n+1) d.waits _ [] (fun w=>bs w.data) (fun w=>Y6 w.data) (hb0 _ (by decide) (by decide)) (by omega) (fun _=>rfl) (fun _=>rfl) fun w _=>Xmm w) (X6 _ (Nat.le_refl _) 1) (Xb _ (by simp)) (by simp) ?_
 simp (maxSteps:=9^7) only[ss,tab,simprocAttr, -List.reduceReplicate,lit]
 refine Sb (Xk1 (n+2) (d.sectors.map Y6) (d.waits.map fun w=>Y6 w.data) _ _ _ (by simp;omega)) (X6 _ (Nat.le_refl _) 2) (Xb _ (by simp)) (by simp) ?_
 simp (maxSteps:=9^7) only[ss,X1,tab,simprocAttr, -List.reduceReplicate]
 (refine hK _ ?_;clear hK K)
 have e1:d.sectors.map Y6++d.waits.map (fun w=>Y6 w.data)=(d.sectors++d.waits.map Wr.data).map Y6:=by simp
 rw[e1]
 obtain⟨odd,hodd⟩:∃odd,odd=(d.sectors++d.waits.map Wr.data).any fun l=>(l.length:Int) !=128:=⟨_,rfl⟩
 refine X9 fun K hK=>Xn Xj [] ?_
 simp (maxSteps:=9^7) only[ss,X1,tab,simprocAttr, -List.reduceReplicate]
 skip
 refine X3 (Xdb (Xig Y6 bs (d.sectors++d.waits.map Wr.data) _ [] (fun l=>(l.length:Int) !=128) (hb0 _ (by decide) (by decide)) (by simp;omega) X0b fun l _=>Xmn l) ⟨.sh _ _ _,.rfl _,trivial⟩) ?_
 simp (maxSteps:=9^7) only[ss,X1,tab,simprocAttr, -List.reduceReplicate]
 (refine hK _ ?_;clear hK K)
 rw[← hodd]
 obtain⟨away,haway⟩:∃away,away=(d.waits.map Wr.at').any fun a=> !(decide (0≤a)&&decide (a<32)):=⟨_,rfl⟩
 refine X9 fun K hK=>Xn Xj [] ?_
 simp (maxSteps:=9^7) only[ss,tab,simprocAttr, -List.reduceReplicate]
 skip
 refine Sb (Xm7 (n+3) d.waits _ [] (fun w=>i64 w.at') (fun w=>Ym w.at') (hb0 _ (by decide) (by decide)) (by omega) (fun _=>rfl) (fun _=>rfl) fun w _=>Xml w) (X6 _ (Nat.le_refl _) 3) (Xb _ (by simp)) (by simp) ?_
 simp (maxSteps:=9^7) only[ss,X1,tab,simprocAttr, -List.reduceReplicate]
 have e2:d.waits.map (fun w=>Ym w.at')=(d.waits.map Wr.at').map Ym:=by simp
 rw[e2]
 refine X3 (Xdb (Xhl Ym i64 (d.waits.map Wr.at') _ [] (fun a=> !(decide (0≤a)&&decide (a<32))) (hb0 _ (by decide) (by decide)) (by simp;omega) Xj7 fun a _=>Xmo a) ⟨.sh _ _ _,.rfl _,trivial⟩) ?_
 simp (maxSteps:=9^7) only[ss,X1,tab,simprocAttr, -List.reduceReplicate]
 (refine hK _ ?_;clear hK K)
 rw[← haway]
 have key:may d=(!odd&& !away&&decide (d.sectors.length=32)&&decide (d.waits.length≤256)):=by
  rw[Bool.eq_iff_iff,Xho,hodd,haway]
  simp only[Bool.and_eq_true,Bool.not_eq_true',List.any_eq_false,decide_eq_true_eq,List.mem_append,List.mem_map]
  constructor
  ·rintro⟨q1,q2,q3,q4⟩
   refine⟨⟨⟨fun x hx=> ?_,fun x hx=> ?_⟩,q1⟩,q2⟩
   ·rcases hx with hx|⟨w,hw,rfl⟩
    ·rw[q3 x hx];decide
    ·rw[(q4 w hw).2.2];decide
   ·obtain⟨w,hw,rfl⟩:=hx
    have:=q4 w hw
    simp [this.1,this.2.1]
  ·rintro⟨⟨⟨q1,q2⟩,q3⟩,q4⟩
   have q5:∀x:List UInt8,¬((x.length:Int) !=128)=true→x.length=128:=fun x h=>by
    simp at h;omega
   refine⟨q3,q4,fun b hb=>q5 b (q1 b (.inl hb)),fun w hw=> ?_⟩
   have h1:=q5 _ (q1 w.data (.inr ⟨w,hw,rfl⟩))
   have h2:=q2 w.at' ⟨w,hw,rfl⟩
   have h3:0≤w.at'∧w.at'<32:=by simpa using h2
   exact⟨h3.1,h3.2,h1⟩
 rw[key]
 cases odd with
 |true=>
  refine X9 fun KB hKB=> ?_
  refine X9 fun K hK=>Xn Xj [] ?_
  simp (maxSteps:=9^7) only[ss,X1,tab,simprocAttr, -List.reduceReplicate,List.length_map]
  (refine hK _ ?_;clear hK K)
  refine Wm rfl ?_
  refine X9 fun K hK=>Xn Xj [] ?_
  simp (maxSteps:=9^7) only[ss,X1,tab,simprocAttr, -List.reduceReplicate]
  (refine hK _ ?_;clear hK K)
  refine Yd ?_
  exact Qv (.inr rfl) rfl rfl rfl (fun _ _=>rfl) rfl
 |false=>
  cases away with
  |true=>
   refine X9 fun KB hKB=> ?_
   refine X9 fun K hK=>Xn Xj [] ?_
   simp (maxSteps:=9^7) only[ss,X1,tab,simprocAttr, -List.reduceReplicate,List.length_map]
   (refine hK _ ?_;clear hK K)
   refine Wm rfl ?_
   refine X9 fun K hK=>Xn Xj [] ?_
   simp (maxSteps:=9^7) only[ss,X1,tab,simprocAttr, -List.reduceReplicate]
   (refine hK _ ?_;clear hK K)
   refine Yd ?_
   exact Qv (.inr rfl) rfl rfl rfl (fun _ _=>rfl) rfl
  |false=>
   refine id ?_
   by_cases h32:d.sectors.length=32
   ·have g:((d.sectors.length:Int) !=32)=false:=by simp;omega
    by_cases h256:d.waits.length≤256
    ·have g':decide ((d.waits.length:Int)>256)=false:=decide_eq_false (by omega)
     refine X9 fun KB hKB=> ?_
     refine X9 fun K hK=>Xn Xj [] ?_
     simp (maxSteps:=9^7) only[ss,X1,tab,simprocAttr, -List.reduceReplicate,List.length_map,g,g']
     (refine hK _ ?_;clear hK K)
     refine Uy rfl (Xhj (hKB _ ?_))
     refine X9 fun K hK=>Xn Xj [] ?_
     simp (maxSteps:=9^7) only[ss,X1,tab,simprocAttr, -List.reduceReplicate]
     (refine hK _ ?_;clear hK K)
     refine Yd ?_
     simp only[h32,h256,Bool.not_false,Bool.and_true,Bool.true_and,decide_true,if_true]
     exact Qv (.inr rfl) rfl rfl rfl (fun _ _=>rfl) rfl
    ·have g':decide ((d.waits.length:Int)>256)=true:=decide_eq_true (by omega)
     refine X9 fun KB hKB=> ?_
     refine X9 fun K hK=>Xn Xj [] ?_
     simp (maxSteps:=9^7) only[ss,X1,tab,simprocAttr, -List.reduceReplicate,List.length_map,g,g']
     (refine hK _ ?_;clear hK K)
     refine Wm rfl ?_
     refine X9 fun K hK=>Xn Xj [] ?_
     simp (maxSteps:=9^7) only[ss,X1,tab,simprocAttr, -List.reduceReplicate]
     (refine hK _ ?_;clear hK K)
     refine Yd ?_
     simp only[h32,h256,Bool.not_false,Bool.and_true,Bool.true_and,decide_true,decide_false,if_false,Bool.false_eq_true,Bool.and_false]
     exact Qv (.inr rfl) rfl rfl rfl (fun _ _=>rfl) rfl
   ·have g:((d.sectors.length:Int) !=32)=true:=by simp;omega
    refine X9 fun KB hKB=> ?_
    refine X9 fun K hK=>Xn Xj [] ?_
    simp (maxSteps:=9^7) only[ss,X1,tab,simprocAttr, -List.reduceReplicate,List.length_map,g]
    (refine hK _ ?_;clear hK K)
    refine Wm rfl ?_
    refine X9 fun K hK=>Xn Xj [] ?_
    simp (maxSteps:=9^7) only[ss,X1,tab,simprocAttr, -List.reduceReplicate]
    (refine hK _ ?_;clear hK K)
    refine Yd ?_
    simp only[h32,Bool.not_false,Bool.and_true,Bool.true_and,decide_true,decide_false,if_false,Bool.false_eq_true,Bool.false_and]
    exact Qv (.inr rfl) rfl rfl rfl (fun _ _=>rfl) rfl
theorem Xiw (d:Dsk) (b:Bool) (h1:d.sectors.length≤1000) (h2:d.waits.length≤1000):Xr Try.prog 60 [Y3p d,bool b] [] (i64 (if may d then(if b then 0 else 2) else 8)) []:=by
 refine Xc 1 Try.func60 rfl fun n out _ _=> ?_
 simp only[Try.ntmps60,List.length_cons,List.length_nil,List.length_map,List.length_replicate,Xf,Nat.reduceAdd,Nat.reduceSub,List.replicate,List.cons_append,List.nil_append]
 refine X9 fun K hK=>Xn Xj [] ?_
 simp (maxSteps:=9^7) only[ss,X1,tab,simprocAttr, -List.reduceReplicate,Y3p,Xha]
 (refine hK _ ?_;clear hK K)
 refine X9 fun K hK=>Xn Xj [] ?_
 simp (maxSteps:=9^7) only[ss,X1,tab,simprocAttr, -List.reduceReplicate]
 skip
 refine X3 (Xjg d h1 h2) ?_
 simp (maxSteps:=9^7) only[ss,X1,tab,simprocAttr, -List.reduceReplicate]
 (refine hK _ ?_;clear hK K)
 cases hm:may d with
 |true=>
  cases b with
  |true=>
   refine X9 fun KB hKB=> ?_
   refine X9 fun K hK=>Xn Xj [] ?_
   simp (maxSteps:=9^7) only[ss,X1,tab,simprocAttr, -List.reduceReplicate]
   (refine hK _ ?_;clear hK K)
   refine Uy rfl (Xhj (hKB _ ?_))
   refine X9 fun K hK=>Xn Xj [] ?_
   simp (maxSteps:=9^7) only[ss,X1,tab,simprocAttr, -List.reduceReplicate]
   (refine hK _ ?_;clear hK K)
   refine Yd ?_
   exact Qv (.inr rfl) rfl rfl rfl (fun _ _=>rfl) rfl
  |false=>
   refine X9 fun KB hKB=> ?_
   refine X9 fun K hK=>Xn Xj [] ?_
   simp (maxSteps:=9^7) only[ss,X1,tab,simprocAttr, -List.reduceReplicate]
   (refine hK _ ?_;clear hK K)
   refine Wm rfl ?_
   refine X9 fun K hK=>Xn Xj [] ?_
   simp (maxSteps:=9^7) only[ss,X1,tab,simprocAttr, -List.reduceReplicate]
   (refine hK _ ?_;clear hK K)
   refine Yd ?_
   exact Qv (.inr rfl) rfl rfl rfl (fun _ _=>rfl) rfl
 |false=>
  refine X9 fun KB hKB=> ?_
  refine X9 fun K hK=>Xn Xj [] ?_
  simp (maxSteps:=9^7) only[ss,X1,tab,simprocAttr, -List.reduceReplicate,Bool.false_eq_true]
  (refine hK _ ?_;clear hK K)
  refine Uy rfl (Xhj (hKB _ ?_))
  refine X9 fun K hK=>Xn Xj [] ?_
  simp (maxSteps:=9^7) only[ss,X1,tab,simprocAttr, -List.reduceReplicate]
  (refine hK _ ?_;clear hK K)
  refine Yd ?_
  exact Qv (.inr rfl) rfl rfl rfl (fun _ _=>rfl) rfl
theorem Xkw (w:Wr) (h:w.data.length≤100000000):Xr Try.prog 59 [wrA w] [] (wrA w) []:=by
 refine Xc 2 Try.func59 rfl fun n out _ _=> ?_
 simp only[Try.ntmps59,List.length_cons,List.length_nil,List.length_map,List.length_replicate,Xf,Nat.reduceAdd,Nat.reduceSub,List.replicate,List.cons_append,List.nil_append]
 refine X9 fun K hK=>Xn Xj [] ?_
 simp (maxSteps:=9^7) only[ss,X1,tab,simprocAttr, -List.reduceReplicate,wrA,wrC]
 (refine hK _ ?_;clear hK K)
 refine X9 fun K hK=>Xn Xj [] ?_
 simp (maxSteps:=9^7) only[ss,X1,tab,simprocAttr, -List.reduceReplicate]
 skip
 refine X3 (Xds w.data h) ?_
 simp (maxSteps:=9^7) only[ss,X1,tab,simprocAttr, -List.reduceReplicate]
 (refine hK _ ?_;clear hK K)
 refine X9 fun K hK=>Xn Xj [] ?_
 simp (maxSteps:=9^7) only[ss,X1,tab,simprocAttr, -List.reduceReplicate]
 (refine hK _ ?_;clear hK K)
 refine Yd ?_
 exact X1b (.inr rfl) rfl rfl rfl (fun _ _=>rfl) ok76 (k:=n+1) (off:=0) rfl (Xb _ (by simp)) (X6 _ (Nat.le_refl _) 1) rfl
end Go.Proofs.Ytjgbbjooeibppaa
