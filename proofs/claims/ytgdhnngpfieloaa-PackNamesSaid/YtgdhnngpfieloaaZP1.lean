/-
  Sections: numbers, shapes, places.
-/
import Derived.Test.YtgdhnngpfieloaaZGA
import Derived.Test.YtgdhnngpfieloaaZPR
import Derived.Test.YtgdhnngpfieloaaZTab
namespace Go.Proofs.Ytgdhnngpfieloaa.Pln
set_option linter.unusedVariables false
set_option linter.unusedSimpArgs false
open Go Go.VS Tab
set_option maxHeartbeats 1000000
set_option maxRecDepth 4000
theorem c_numbered (n : Int) : ACall Try.prog 79 [i64 n] [] (bool (numb n)) [] := by
  refine acall_of 0 Try.func79 rfl fun n out _ _ => ?_
  simp only [Try.ntmps79, List.length_cons, List.length_nil, List.length_map, List.length_replicate, rep_map, Nat.reduceAdd, Nat.reduceSub, List.replicate, List.cons_append, List.nil_append]
  repeat' (first | (with_reducible first | refine Vk fun K hK => ?_ | refine V0 ?_ | refine Vs ?_ | apply And.intro) | ((with_reducible first | refine gE ?_ | refine gR ?_); simp (maxSteps:=9^7) only [ss, evLit, tab, reduceCtorEq, reduceIte, Nat.reduceEqDiff, Nat.reduceBEq, Int.reduceLE, Int.reduceToNat, Nat.reduceAdd, Nat.reduceLT, Nat.reduceLeDiff, g_0, g_s]) | exact Vn | ((with_reducible refine Vz ?_); refine Vo rfl rfl rfl (fun _ _ => rfl) ?_ <;> first | rfl | (first | rfl | (simp only [g_0, g_s]; refine congrArg VS.bool ?_; rw [Bool.eq_iff_iff]; first | (simp [numb] at * <;> omega) | (simp_all [numb] <;> omega))) | skip) | ((with_reducible refine Vg (fun hg => ?_) (fun hg => ?_)) <;> (try simp only [nb] at hg) <;> simp (maxSteps:=9^7) only [ss, evLit, tab, reduceCtorEq, reduceIte, Nat.reduceEqDiff, Nat.reduceBEq, Int.reduceLE, Int.reduceToNat, Nat.reduceAdd, Nat.reduceLT, Nat.reduceLeDiff, hg, g_0, g_s]) | (refine hK _ ?_; clear hK K) | clear hK K)
theorem c_shaped (s : Sec) : ACall Try.prog 80 [secA s] [] (bool (shaped s)) [] := by
  refine acall_of 1 Try.func80 rfl fun n out _ _ => ?_
  simp only [Try.ntmps80, List.length_cons, List.length_nil, List.length_map, List.length_replicate, rep_map, Nat.reduceAdd, Nat.reduceSub, List.replicate, List.cons_append, List.nil_append]
  repeat' (first | (with_reducible first | refine Vk fun K hK => ?_ | refine V0 ?_ | refine Vs ?_ | apply And.intro) | ((with_reducible first | refine gE ?_ | refine gR ?_); simp (maxSteps:=9^7) only [ss, evLit, tab, reduceCtorEq, reduceIte, Nat.reduceEqDiff, Nat.reduceBEq, Int.reduceLE, Int.reduceToNat, Nat.reduceAdd, Nat.reduceLT, Nat.reduceLeDiff, secA, secC, List.length_map]) | exact Vn | ((with_reducible refine Vz ?_); refine Vo rfl rfl rfl (fun _ _ => rfl) ?_ <;> first | rfl | (first | rfl | (simp only [g_0, g_s]; refine congrArg VS.bool ?_; rw [Bool.eq_iff_iff]; first | (simp [shaped, numb] at * <;> omega) | (simp_all [shaped, numb] <;> omega))) | skip) | (refine call_pure (c_numbered _) ?_) | ((with_reducible refine Vg (fun hg => ?_) (fun hg => ?_)) <;> (try simp only [nb] at hg) <;> simp (maxSteps:=9^7) only [ss, evLit, tab, reduceCtorEq, reduceIte, Nat.reduceEqDiff, Nat.reduceBEq, Int.reduceLE, Int.reduceToNat, Nat.reduceAdd, Nat.reduceLT, Nat.reduceLeDiff, hg, secA, secC, List.length_map]) | (refine hK _ ?_; clear hK K) | clear hK K)
theorem c_isnan (a : Int) : ACall Try.prog 119 [i64 a] [] (bool false) [] := by
  refine acall_of 0 Try.func119 rfl fun n out _ _ => ?_
  simp only [Try.ntmps119, List.length_cons, List.length_nil, List.length_map, List.length_replicate, rep_map, Nat.reduceAdd, Nat.reduceSub, List.replicate, List.cons_append, List.nil_append]
  repeat' (first | (with_reducible first | refine Vk fun K hK => ?_ | refine V0 ?_ | refine Vs ?_ | apply And.intro) | ((with_reducible first | refine gE ?_ | refine gR ?_); simp (maxSteps:=9^7) only [ss, evLit, tab, reduceCtorEq, reduceIte, Nat.reduceEqDiff, Nat.reduceBEq, Int.reduceLE, Int.reduceToNat, Nat.reduceAdd, Nat.reduceLT, Nat.reduceLeDiff]) | exact Vn | ((with_reducible refine Vz ?_); refine Vo rfl rfl rfl (fun _ _ => rfl) ?_ <;> first | rfl | (first | rfl | (simp only [g_0, g_s]; refine congrArg VS.bool ?_; rw [Bool.eq_iff_iff]; first | (simp [] at * <;> omega) | (simp_all [] <;> omega))) | skip) | (refine hK _ ?_; clear hK K) | clear hK K)
def cmpI (a b : Int) : Int := if a < b then -1 else if b < a then 1 else 0
theorem c_cmp (a b : Int) : ACall Try.prog 106 [i64 a, i64 b] [] (i64 (cmpI a b)) [] := by
  refine acall_of 0 Try.func106 rfl fun n out _ _ => ?_
  simp only [Try.ntmps106, List.length_cons, List.length_nil, List.length_map, List.length_replicate, rep_map, Nat.reduceAdd, Nat.reduceSub, List.replicate, List.cons_append, List.nil_append]
  repeat' (first | (with_reducible first | refine Vk fun K hK => ?_ | refine V0 ?_ | refine Vs ?_ | apply And.intro) | ((with_reducible first | refine gE ?_ | refine gR ?_); simp (maxSteps:=9^7) only [ss, evLit, tab, reduceCtorEq, reduceIte, Nat.reduceEqDiff, Nat.reduceBEq, Int.reduceLE, Int.reduceToNat, Nat.reduceAdd, Nat.reduceLT, Nat.reduceLeDiff]) | exact Vn | ((with_reducible refine Vz ?_); refine Vo rfl rfl rfl (fun _ _ => rfl) ?_ <;> first | rfl | (first | rfl | (simp only [g_0, g_s]; refine congrArg i64 ?_; first | (simp [cmpI] at * <;> omega) | (simp_all [cmpI] <;> omega))) | skip) | (refine call_pure (c_isnan _) ?_) | (refine hK _ ?_; clear hK K) | refine Vt rfl ?_ | refine Vf rfl ?_ | refine Vi rfl (fun hg => ?_) (fun hg => ?_) | clear hK K)
theorem c_place1 (s : Sec) (b : Int) : ACall Try.prog 105 [secA s, i64 b] [] (i64 (cmpI s.id b)) [] := by
  refine acall_of 1 Try.func105 rfl fun n out _ _ => ?_
  simp only [Try.ntmps105, List.length_cons, List.length_nil, List.length_map, List.length_replicate, rep_map, Nat.reduceAdd, Nat.reduceSub, List.replicate, List.cons_append, List.nil_append]
  repeat' (first | (with_reducible first | refine Vk fun K hK => ?_ | refine V0 ?_ | refine Vs ?_ | apply And.intro) | ((with_reducible first | refine gE ?_ | refine gR ?_); simp (maxSteps:=9^7) only [ss, evLit, tab, reduceCtorEq, reduceIte, Nat.reduceEqDiff, Nat.reduceBEq, Int.reduceLE, Int.reduceToNat, Nat.reduceAdd, Nat.reduceLT, Nat.reduceLeDiff, secA, secC]) | exact Vn | ((with_reducible refine Vz ?_); refine Vo rfl rfl rfl (fun _ _ => rfl) ?_ <;> first | rfl | (first | rfl | (simp only [g_0, g_s]; refine congrArg i64 ?_; first | (simp [] at * <;> omega) | (simp_all [] <;> omega))) | skip) | (refine call_pure (c_cmp _ _) ?_) | (refine hK _ ?_; clear hK K) | clear hK K)
end Go.Proofs.Ytgdhnngpfieloaa.Pln
