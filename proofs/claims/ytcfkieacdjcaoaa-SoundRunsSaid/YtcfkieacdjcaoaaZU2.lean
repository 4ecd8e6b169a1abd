/-
  The first examples of the chapter on routes that conflict; the law ConflictNames.
-/
import Derived.Test.YtcfkieacdjcaoaaZG0
import Derived.Test.YtcfkieacdjcaoaaZUA
import Derived.Test.YtcfkieacdjcaoaaZT3
namespace Go.Proofs.Ytcfkieacdjcaoaa.Pln
set_option linter.unusedVariables false
set_option linter.unusedSimpArgs false
open Go Go.VS Tab
set_option maxHeartbeats 8000000
set_option maxRecDepth 8000
theorem c_calive : ACall Try.prog 26 [] [] (bool true) [] := by
  have h1 := c_two exT exT_sm 1 3
  rw [show twoE exT 1 3 = 0 by kernel_rfl, show twoB exT 1 3 = true by kernel_rfl] at h1
  have h2 := c_table exT exT_sm
  rw [show tabL exT = [(1, 3), (1, 6), (3, 6)] by kernel_rfl, show soundE exT = 0 by kernel_rfl] at h2
  simp only [List.map_cons, List.map_nil, jnC] at h2
  refine acall_of 0 Try.func26 rfl fun n out _ _ => ?_
  simp only [Try.ntmps26, List.length_cons, List.length_nil, List.length_map, List.length_replicate, rep_map, Nat.reduceAdd, Nat.reduceSub, List.replicate, List.cons_append, List.nil_append]
  repeat' (first | (with_reducible first | refine awp_seq_k fun K hK => ?_ | refine awp_ev tab_ok [] ?_ | refine awp_skip ?_ | apply And.intro) | ((with_reducible first | refine gE ?_ | refine gR ?_); simp (maxSteps := 4000000) only [su, evLit, hbT, tab, thenA, blockA, reduceCtorEq, reduceIte, Nat.reduceEqDiff, Nat.reduceBEq, Int.reduceLE, Int.reduceToNat, Nat.reduceAdd, Nat.reduceLT, Nat.reduceLeDiff, Int.reduceBEq, Bool.and_self, evEq_ii, af_ii, List.getD_cons_zero, List.getD_cons_succ, Int.cast_ofNat_Int]) | (show (_ : Nat) = (_ : Nat); rfl) | ((with_reducible refine awp_ret ?_); (try refine Or.inr ⟨(by intro h; cases h), ?_⟩); refine ret_tmp (.inr rfl) rfl rfl rfl (fun _ _ => rfl) ?_ <;> first | rfl | skip) | (refine call_pure (c_st11) ?_) | (refine call_pure (h1) ?_) | (refine call_pure (h2) ?_) | ((with_reducible refine gsel_case (fun hg => ?_) (fun hg => ?_)) <;> (try simp only [nb] at hg) <;> simp (maxSteps := 4000000) only [su, evLit, hbT, tab, thenA, blockA, reduceCtorEq, reduceIte, Nat.reduceEqDiff, Nat.reduceBEq, Int.reduceLE, Int.reduceToNat, Nat.reduceAdd, Nat.reduceLT, Nat.reduceLeDiff, hg, Int.reduceBEq, Bool.and_self, evEq_ii, af_ii, List.getD_cons_zero, List.getD_cons_succ, Int.cast_ofNat_Int]) | (refine hK _ ?_; clear hK K) | ((first | show Program.eqGuardType _ _ _ = false | show numFieldsB _ _ _ = true | show Program.stoodInHeld _ _ = false); kernel_rfl) | clear hK K)
def exZ : Pl := ⟨0, 0, [], [], [], []⟩
theorem c_lawCNames : ACall Try.prog 7 [] [] (bool true) [] := by
  have h1 := c_two exT exT_sm 1 1
  rw [show twoE exT 1 1 = 2 by kernel_rfl] at h1
  generalize twoB exT 1 1 = B1 at h1
  have h2 := c_two exT exT_sm 1 9
  rw [show twoE exT 1 9 = 6 by kernel_rfl] at h2
  generalize twoB exT 1 9 = B2 at h2
  have h3 := c_table exZ ⟨by decide, by decide, by decide, by decide, by decide, by decide⟩
  rw [show soundE exZ = 100 by kernel_rfl] at h3
  generalize tabL exZ = TL at h3
  replace h3 : ACall Try.prog 25 [.agg [i64 0, i64 0, .sl 0 [] .nil, .sl 0 [] .nil, .sl 0 [] .nil, .sl 0 [] .nil]] [] (.tup [.sl 2 (TL.map jnC) .sh, i64 100]) [] := by
    refine acall_le h3 ?_
    simp only [plA, plC, exZ, List.map_nil, patch, sl]
  refine acall_of 0 Try.func7 rfl fun n out _ _ => ?_
  simp only [Try.ntmps7, List.length_cons, List.length_nil, List.length_map, List.length_replicate, rep_map, Nat.reduceAdd, Nat.reduceSub, List.replicate, List.cons_append, List.nil_append]
  repeat' (first | (with_reducible first | refine awp_seq_k fun K hK => ?_ | refine awp_ev tab_ok [] ?_ | refine awp_skip ?_ | apply And.intro) | ((with_reducible first | refine gE ?_ | refine gR ?_); simp (maxSteps := 4000000) only [su, evLit, hbT, tab, thenA, blockA, reduceCtorEq, reduceIte, Nat.reduceEqDiff, Nat.reduceBEq, Int.reduceLE, Int.reduceToNat, Nat.reduceAdd, Nat.reduceLT, Nat.reduceLeDiff, Int.reduceBEq, Bool.and_self]) | (show (_ : Nat) = (_ : Nat); rfl) | ((with_reducible refine awp_ret ?_); (try refine Or.inr ⟨(by intro h; cases h), ?_⟩); refine ret_tmp (.inr rfl) rfl rfl rfl (fun _ _ => rfl) ?_ <;> first | rfl | skip) | (refine call_pure (c_st11) ?_) | (refine call_pure (h1) ?_) | (refine call_pure (h2) ?_) | (refine call_pure (h3) ?_) | (refine call_pure (c_calive) ?_) | ((with_reducible refine gsel_case (fun hg => ?_) (fun hg => ?_)) <;> (try simp only [nb] at hg) <;> simp (maxSteps := 4000000) only [su, evLit, hbT, tab, thenA, blockA, reduceCtorEq, reduceIte, Nat.reduceEqDiff, Nat.reduceBEq, Int.reduceLE, Int.reduceToNat, Nat.reduceAdd, Nat.reduceLT, Nat.reduceLeDiff, hg, Int.reduceBEq, Bool.and_self]) | (refine hK _ ?_; clear hK K) | ((first | show Program.eqGuardType _ _ _ = false | show numFieldsB _ _ _ = true | show Program.stoodInHeld _ _ = false); kernel_rfl) | clear hK K)
end Go.Proofs.Ytcfkieacdjcaoaa.Pln
