/-
 The law PackTexts.
-/
import Derived.Test.YtgdhnngpfieloaaZGA
import Derived.Test.YtgdhnngpfieloaaZK28
import Derived.Test.YtgdhnngpfieloaaZKF
import Derived.Test.YtgdhnngpfieloaaZR5
import Derived.Test.YtgdhnngpfieloaaZW12
import Derived.Test.YtgdhnngpfieloaaZPQ
namespace Go.Proofs.Ytgdhnngpfieloaa.Pln
set_option linter.unusedVariables false
set_option linter.unusedSimpArgs false
open Go Go.VS Tab
set_option maxHeartbeats 8000000
set_option maxRecDepth 4000
theorem Ed (p : Pl) (b : List UInt8) : Xr Try.prog 3 [plA p, .sl 1 (Xo b) .sh] [] (bool true) [] := by
 have cg := X09 p
 simp only [plA, plC] at cg
 cases hG : Lx p with
 | true =>
  rw [hG] at cg
  refine Xc 3 Try.func3 rfl fun n out _ _ => ?_
  simp only [Try.ntmps3, List.length_cons, List.length_nil, List.length_map, List.length_replicate, Xf, Nat.reduceAdd, Nat.reduceSub, List.replicate, List.cons_append, List.nil_append]
  repeat' (first | (with_reducible first | refine Vk fun K hK => ?_ | refine V0 ?_ | refine Vs ?_ | apply And.intro) | ((with_reducible first | refine gE ?_ | refine gR ?_); simp (maxSteps:=9^7) only [ss, X1, tab, simprocAttr, -List.reduceReplicate, plA, plC, X5]) | exact Vn | ((with_reducible refine Vz ?_); refine Vo rfl rfl rfl (fun _ _ => rfl) ?_ <;> first | rfl | skip) | (refine X3 (cg) ?_) | ((with_reducible refine Vg (fun hg => ?_) (fun hg => ?_)) <;> (try simp only [nb] at hg) <;> simp (maxSteps:=9^7) only [ss, X1, tab, simprocAttr, -List.reduceReplicate, hg, plA, plC, X5]) | (refine hK _ ?_; clear hK K) | refine Vt rfl ?_ | refine Vf rfl ?_ | refine Vi rfl (fun hg => ?_) (fun hg => ?_) | clear hK K)
 | false =>
  rw [hG] at cg
  have hs := X0a hG
  by_cases hb : b.length ≤ 5000
  ·have g1 : ((b.length : Int) > 5000) = False := eq_false (by omega)
   have ct := X5q p hs
   have cu := X2d p hs
   have cw := X1o p hs
   have cs := Du p p hs
   rw [Pq] at cs
   have cb := X2y b (by omega)
   have cd := Jw b hb
   have hsame : Ei b = Z6 b ∧ (if Ei b = true then rqP b else Aq) = if Z6 b = true then (V6 b).1 else Aq := by
    obtain ⟨h1, h2⟩ := X2p b
    refine ⟨h1, ?_⟩
    rw [h1]
    by_cases h : Z6 b = true
    ·rw [if_pos h, if_pos h, h2 h]
    ·rw [if_neg h, if_neg h]
   rw [hsame.2, hsame.1] at cd
   have hsm : Sm (if Z6 b = true then (V6 b).1 else Aq) := by
    by_cases h : Z6 b = true
    ·rw [if_pos h]; exact X20 (Kg h).1
    ·rw [if_neg h]; exact ⟨by decide, by decide, by decide, by decide, by decide, by decide⟩
   have cq := Du _ (if Z6 b = true then (V6 b).1 else Aq) hsm
   rw [Pq] at cq
   clear hsame
   generalize (if Z6 b = true then (V6 b).1 else Aq) = Q at cb cd cq
   generalize (if Z6 b = true then (0 : Int) else 8) = E at cb cd
   generalize Bm p = B at ct cu
   generalize Bl p = F at ct cu
   simp only [plA, plC] at *
   refine Xc 4 Try.func3 rfl fun n out _ _ => ?_
   simp only [Try.ntmps3, List.length_cons, List.length_nil, List.length_map, List.length_replicate, Xf, Nat.reduceAdd, Nat.reduceSub, List.replicate, List.cons_append, List.nil_append]
   repeat' (first | (with_reducible first | refine Vk fun K hK => ?_ | refine V0 ?_ | refine Vs ?_ | apply And.intro) | ((with_reducible first | refine gE ?_ | refine gR ?_); simp (maxSteps:=9^7) only [ss, X1, tab, simprocAttr, -List.reduceReplicate, plA, plC, X5, g1, decide_false, X0, Ya, Z5, beq_self_eq_true]) | exact Vn | ((with_reducible refine Vz ?_); refine Vo rfl rfl rfl (fun _ _ => rfl) ?_ <;> first | rfl | skip) | (refine X3 (cg) ?_) | (refine X3 (cw) ?_) | (refine X3 (ct) ?_) | (refine X3 (cu) ?_) | (refine X3 (cb) ?_) | (refine X3 (cd) ?_) | (refine X3 (cq) ?_) | (refine X3 (cs) ?_) | ((with_reducible refine Vg (fun hg => ?_) (fun hg => ?_)) <;> (try simp only [nb] at hg) <;> simp (maxSteps:=9^7) only [ss, X1, tab, simprocAttr, -List.reduceReplicate, hg, plA, plC, X5, g1, decide_false, X0, Ya, Z5, beq_self_eq_true]) | (refine hK _ ?_; clear hK K) | refine Vt rfl ?_ | refine Vf rfl ?_ | refine Vi rfl (fun hg => ?_) (fun hg => ?_) | clear hK K)
  ·have g1 : ((b.length : Int) > 5000) = True := eq_true (by omega)
   refine Xc 3 Try.func3 rfl fun n out _ _ => ?_
   simp only [Try.ntmps3, List.length_cons, List.length_nil, List.length_map, List.length_replicate, Xf, Nat.reduceAdd, Nat.reduceSub, List.replicate, List.cons_append, List.nil_append]
   repeat' (first | (with_reducible first | refine Vk fun K hK => ?_ | refine V0 ?_ | refine Vs ?_ | apply And.intro) | ((with_reducible first | refine gE ?_ | refine gR ?_); simp (maxSteps:=9^7) only [ss, X1, tab, simprocAttr, -List.reduceReplicate, plA, plC, X5, g1, decide_true]) | exact Vn | ((with_reducible refine Vz ?_); refine Vo rfl rfl rfl (fun _ _ => rfl) ?_ <;> first | rfl | skip) | (refine X3 (cg) ?_) | ((with_reducible refine Vg (fun hg => ?_) (fun hg => ?_)) <;> (try simp only [nb] at hg) <;> simp (maxSteps:=9^7) only [ss, X1, tab, simprocAttr, -List.reduceReplicate, hg, plA, plC, X5, g1, decide_true]) | (refine hK _ ?_; clear hK K) | refine Vt rfl ?_ | refine Vf rfl ?_ | refine Vi rfl (fun hg => ?_) (fun hg => ?_) | clear hK K)
end Go.Proofs.Ytgdhnngpfieloaa.Pln
