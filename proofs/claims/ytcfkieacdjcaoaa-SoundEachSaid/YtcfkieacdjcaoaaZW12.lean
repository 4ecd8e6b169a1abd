/-
  The document's answer: plans copied.
-/
import Derived.Test.YtcfkieacdjcaoaaZGA
import Derived.Test.YtcfkieacdjcaoaaZWC
import Derived.Test.YtcfkieacdjcaoaaZPJ
namespace Go.Proofs.Ytcfkieacdjcaoaa.Pln
set_option linter.unusedVariables false
set_option linter.unusedSimpArgs false
open Go Go.VS Tab
set_option maxHeartbeats 8000000
set_option maxRecDepth 4000
theorem c_twS (s : Sec) (hl : s.ends.length ≤ 1000000) : ACall Try.prog 37 [secA s] [] (secA s) [] := by
  refine acall_of 2 Try.func37 rfl fun n out _ _ => ?_
  simp only [Try.ntmps37, List.length_cons, List.length_nil, List.length_map, List.length_replicate, rep_map, Nat.reduceAdd, Nat.reduceSub, List.replicate, List.cons_append, List.nil_append]
  repeat' (first | (with_reducible first | refine Vk fun K hK => ?_ | refine V0 ?_ | refine Vs ?_ | apply And.intro) | ((with_reducible first | refine gE ?_ | refine gR ?_); simp (maxSteps:=9^7) only [ss, evLit, tab, reduceCtorEq, reduceIte, Nat.reduceEqDiff, Nat.reduceBEq, Int.reduceLE, Int.reduceToNat, Nat.reduceAdd, Nat.reduceLT, Nat.reduceLeDiff, secA, secC, List.length_map, List.length_nil, Nat.zero_add, splice_all, show s.ends.length * 16 ≤ 140737488355328 by omega, show s.ends.length ≤ 9223372036854775807 by omega]) | exact Vn | ((with_reducible refine Vz ?_); (first | refine ret_cell_le (.inr rfl) rfl rfl rfl (fun _ _ => rfl) ok73 (k := n + 1) (off := 0) rfl (dom_loc _ (by simp)) (look_loc _ (Nat.le_refl _) 1) rfl ?_ | refine ret_cell_le (.inr rfl) rfl rfl rfl (fun _ _ => rfl) ok73 (k := m + 1) (off := 0) rfl (dom_loc _ (by simp)) (look_loc _ hm 1) rfl ?_) <;> first | rfl | exact AV.le.rfl _ | (simp only [patch, sl, ti73, List.map_nil, secA, secC, List.length_map, List.length_nil, Nat.zero_add, splice_all, show s.ends.length * 16 ≤ 140737488355328 by omega, show s.ends.length ≤ 9223372036854775807 by omega]; done) | rfl | skip) | (refine hK _ ?_; clear hK K) | clear hK K)
theorem c_twR (r : Rt) (h : r.path.length ≤ 20 ∧ r.over.length ≤ 20 ∧ r.flanks.length ≤ 20) : ACall Try.prog 38 [rtA r] [] (rtA r) [] := by
  obtain ⟨h1, h2, h3⟩ := h
  have a1 : r.path.length * 8 ≤ 140737488355328 := by omega
  have a2 : r.path.length ≤ 9223372036854775807 := by omega
  have a3 : r.over.length * 8 ≤ 140737488355328 := by omega
  have a4 : r.over.length ≤ 9223372036854775807 := by omega
  have a5 : r.flanks.length * 16 ≤ 140737488355328 := by omega
  have a6 : r.flanks.length ≤ 9223372036854775807 := by omega
  refine acall_of 3 Try.func38 rfl fun n out _ _ => ?_
  simp only [Try.ntmps38, List.length_cons, List.length_nil, List.length_map, List.length_replicate, rep_map, Nat.reduceAdd, Nat.reduceSub, List.replicate, List.cons_append, List.nil_append]
  repeat' (first | (with_reducible first | refine Vk fun K hK => ?_ | refine V0 ?_ | refine Vs ?_ | apply And.intro) | ((with_reducible first | refine gE ?_ | refine gR ?_); simp (maxSteps:=9^7) only [ss, evLit, tab, reduceCtorEq, reduceIte, Nat.reduceEqDiff, Nat.reduceBEq, Int.reduceLE, Int.reduceToNat, Nat.reduceAdd, Nat.reduceLT, Nat.reduceLeDiff, rtA, rtC, splice_all, List.length_map, a1, a2, a3, a4, a5, a6]) | exact Vn | ((with_reducible refine Vz ?_); (first | refine ret_cell_le (.inr rfl) rfl rfl rfl (fun _ _ => rfl) ok34 (k := n + 1) (off := 0) rfl (dom_loc _ (by simp)) (look_loc _ (Nat.le_refl _) 1) rfl ?_ | refine ret_cell_le (.inr rfl) rfl rfl rfl (fun _ _ => rfl) ok34 (k := m + 1) (off := 0) rfl (dom_loc _ (by simp)) (look_loc _ hm 1) rfl ?_) <;> first | rfl | exact AV.le.rfl _ | (simp only [patch, sl, ti34, List.map_nil, rtA, rtC, splice_all, List.length_map, a1, a2, a3, a4, a5, a6]; done) | rfl | skip) | (refine hK _ ?_; clear hK K) | clear hK K)
end Go.Proofs.Ytcfkieacdjcaoaa.Pln
