/-
  Sections: numbers, shapes, places.
-/
import Derived.Test.YtdkiciofkifpdaaP0
import Derived.Test.YtdkiciofkifpdaaTab
namespace Go.Proofs.Ytdkiciofkifpdaa.Pln
set_option linter.unusedVariables false
set_option linter.unusedSimpArgs false
open Go Go.VS Tab
set_option maxHeartbeats 1000000
set_option maxRecDepth 4000

theorem c_numbered (n : Int) : ACall Try.prog 95 [i64 n] [] (bool (numb n)) [] := by
  refine acall_of 0 Try.func95 rfl fun n out _ _ => ?_
  simp only [Try.ntmps95, List.length_cons, List.length_nil, List.length_map, List.length_replicate, rep_map, Nat.reduceAdd, Nat.reduceSub, List.replicate, List.cons_append, List.nil_append]
  repeat' (first
    | with_reducible refine awp_seq_k fun K hK => ?_
    | (with_reducible refine awp_ev tab_ok [] ?_)
    | (with_reducible refine awp_ev_quiet tab_ok follows (by kernel_rfl) ?_)
    | ((first | (with_reducible show evRun _ _ _ _ _ _ _ _) | (with_reducible show contR _ _ _ _ _ _) | (with_reducible show evRunD _ _ _ _ _ _ _ _ _) | (with_reducible show contD _ _ _ _ _ _)); simp (maxSteps := 4000000) only [sx, sy, ne_eq, eq_self, if_true, if_false, Nat.reduceEqDiff, hbT, evBuild, evLit, evMake, tab, isShift, thenA, blockA, reduceCtorEq, reduceIte, Nat.reduceBEq, Int.reduceLE, Int.reduceToNat, Nat.reduceAdd, Nat.reduceLT, Nat.reduceLeDiff, g_0, g_s])
    | with_reducible refine awp_block_s ?_
    | with_reducible refine awp_block_c ?_
    | with_reducible refine awp_block_r ?_
    | with_reducible refine awp_skip ?_
    | with_reducible apply And.intro
    | (show Program.eqGuardType _ _ _ = false; kernel_rfl)
    | (show numFieldsB _ _ _ = true; kernel_rfl)
    | (show Program.stoodInHeld _ _ = false; kernel_rfl)
    | (show (_ : Nat) = (_ : Nat); rfl)
    | ((with_reducible refine awp_ret ?_); (first | refine ret_tmp (.inr rfl) rfl rfl rfl (fun _ _ => rfl) ?_) <;> first | rfl | (first | rfl | (simp only [g_0, g_s]; refine congrArg VS.bool ?_; rw [Bool.eq_iff_iff]; first | (simp [numb] at * <;> omega) | (simp_all [numb] <;> omega))) | skip)
    | ((with_reducible refine awp_ret ?_); refine Or.inr ⟨(by intro h; cases h), ?_⟩; refine ret_tmp (.inr rfl) rfl rfl rfl (fun _ _ => rfl) ?_ <;> first | rfl | (first | rfl | (simp only [g_0, g_s]; refine congrArg VS.bool ?_; rw [Bool.eq_iff_iff]; first | (simp [numb] at * <;> omega) | (simp_all [numb] <;> omega))) | skip)
    | ((with_reducible refine gsel_case (fun hg => ?_) (fun hg => ?_)) <;> (try simp only [Bool.not_eq_true', Bool.not_eq_false'] at hg) <;> simp (maxSteps := 4000000) only [sx, sy, ne_eq, eq_self, if_true, if_false, Nat.reduceEqDiff, hbT, evBuild, evLit, evMake, tab, isShift, thenA, blockA, reduceCtorEq, reduceIte, Nat.reduceBEq, Int.reduceLE, Int.reduceToNat, Nat.reduceAdd, Nat.reduceLT, Nat.reduceLeDiff, hg, g_0, g_s])
    | ((with_reducible refine awp_exit ?_); simp only [thenA, blockA, if_true, if_false, reduceIte, Nat.reduceEqDiff])
    | (refine hK _ ?_; clear hK K)
    | refine awp_cond_t rfl ?_
    | refine awp_cond_f rfl ?_
    | refine awp_if rfl (fun hg => ?_) (fun hg => ?_)
    | (refine Or.inl ⟨rfl, ?_⟩; refine le_of_all ?_ ?_ rfl rfl rfl rfl <;> simp only [patch, sl, g_0, g_s])
    | clear hK K)
theorem c_shaped (s : Sec) : ACall Try.prog 89 [secA s] [] (bool (shaped s)) [] := by
  refine acall_of 1 Try.func89 rfl fun n out _ _ => ?_
  simp only [Try.ntmps89, List.length_cons, List.length_nil, List.length_map, List.length_replicate, rep_map, Nat.reduceAdd, Nat.reduceSub, List.replicate, List.cons_append, List.nil_append]
  repeat' (first
    | with_reducible refine awp_seq_k fun K hK => ?_
    | (with_reducible refine awp_ev tab_ok [] ?_)
    | (with_reducible refine awp_ev_quiet tab_ok follows (by kernel_rfl) ?_)
    | ((first | (with_reducible show evRun _ _ _ _ _ _ _ _) | (with_reducible show contR _ _ _ _ _ _) | (with_reducible show evRunD _ _ _ _ _ _ _ _ _) | (with_reducible show contD _ _ _ _ _ _)); simp (maxSteps := 4000000) only [sx, sy, ne_eq, eq_self, if_true, if_false, Nat.reduceEqDiff, hbT, evBuild, evLit, evMake, tab, isShift, thenA, blockA, reduceCtorEq, reduceIte, Nat.reduceBEq, Int.reduceLE, Int.reduceToNat, Nat.reduceAdd, Nat.reduceLT, Nat.reduceLeDiff, secA, secC, List.length_map])
    | with_reducible refine awp_block_s ?_
    | with_reducible refine awp_block_c ?_
    | with_reducible refine awp_block_r ?_
    | with_reducible refine awp_skip ?_
    | with_reducible apply And.intro
    | (show Program.eqGuardType _ _ _ = false; kernel_rfl)
    | (show numFieldsB _ _ _ = true; kernel_rfl)
    | (show Program.stoodInHeld _ _ = false; kernel_rfl)
    | (show (_ : Nat) = (_ : Nat); rfl)
    | ((with_reducible refine awp_ret ?_); (first | refine ret_tmp (.inr rfl) rfl rfl rfl (fun _ _ => rfl) ?_) <;> first | rfl | (first | rfl | (simp only [g_0, g_s]; refine congrArg VS.bool ?_; rw [Bool.eq_iff_iff]; first | (simp [shaped, numb] at * <;> omega) | (simp_all [shaped, numb] <;> omega))) | skip)
    | ((with_reducible refine awp_ret ?_); refine Or.inr ⟨(by intro h; cases h), ?_⟩; refine ret_tmp (.inr rfl) rfl rfl rfl (fun _ _ => rfl) ?_ <;> first | rfl | (first | rfl | (simp only [g_0, g_s]; refine congrArg VS.bool ?_; rw [Bool.eq_iff_iff]; first | (simp [shaped, numb] at * <;> omega) | (simp_all [shaped, numb] <;> omega))) | skip)
    | (refine call_pure (c_numbered _) ?_)
    | ((with_reducible refine gsel_case (fun hg => ?_) (fun hg => ?_)) <;> (try simp only [Bool.not_eq_true', Bool.not_eq_false'] at hg) <;> simp (maxSteps := 4000000) only [sx, sy, ne_eq, eq_self, if_true, if_false, Nat.reduceEqDiff, hbT, evBuild, evLit, evMake, tab, isShift, thenA, blockA, reduceCtorEq, reduceIte, Nat.reduceBEq, Int.reduceLE, Int.reduceToNat, Nat.reduceAdd, Nat.reduceLT, Nat.reduceLeDiff, hg, secA, secC, List.length_map])
    | ((with_reducible refine awp_exit ?_); simp only [thenA, blockA, if_true, if_false, reduceIte, Nat.reduceEqDiff])
    | (refine hK _ ?_; clear hK K)
    | refine awp_cond_t rfl ?_
    | refine awp_cond_f rfl ?_
    | refine awp_if rfl (fun hg => ?_) (fun hg => ?_)
    | (refine Or.inl ⟨rfl, ?_⟩; refine le_of_all ?_ ?_ rfl rfl rfl rfl <;> simp only [patch, sl, secA, secC, List.length_map])
    | clear hK K)
theorem c_rshaped (s : Sec) : ACall Try.prog 132 [secA s] [] (bool (shaped s)) [] := by
  refine acall_of 1 Try.func132 rfl fun n out _ _ => ?_
  simp only [Try.ntmps132, List.length_cons, List.length_nil, List.length_map, List.length_replicate, rep_map, Nat.reduceAdd, Nat.reduceSub, List.replicate, List.cons_append, List.nil_append]
  repeat' (first
    | with_reducible refine awp_seq_k fun K hK => ?_
    | (with_reducible refine awp_ev tab_ok [] ?_)
    | (with_reducible refine awp_ev_quiet tab_ok follows (by kernel_rfl) ?_)
    | ((first | (with_reducible show evRun _ _ _ _ _ _ _ _) | (with_reducible show contR _ _ _ _ _ _) | (with_reducible show evRunD _ _ _ _ _ _ _ _ _) | (with_reducible show contD _ _ _ _ _ _)); simp (maxSteps := 4000000) only [sx, sy, ne_eq, eq_self, if_true, if_false, Nat.reduceEqDiff, hbT, evBuild, evLit, evMake, tab, isShift, thenA, blockA, reduceCtorEq, reduceIte, Nat.reduceBEq, Int.reduceLE, Int.reduceToNat, Nat.reduceAdd, Nat.reduceLT, Nat.reduceLeDiff, secA, secC, List.length_map])
    | with_reducible refine awp_block_s ?_
    | with_reducible refine awp_block_c ?_
    | with_reducible refine awp_block_r ?_
    | with_reducible refine awp_skip ?_
    | with_reducible apply And.intro
    | (show Program.eqGuardType _ _ _ = false; kernel_rfl)
    | (show numFieldsB _ _ _ = true; kernel_rfl)
    | (show Program.stoodInHeld _ _ = false; kernel_rfl)
    | (show (_ : Nat) = (_ : Nat); rfl)
    | ((with_reducible refine awp_ret ?_); (first | refine ret_tmp (.inr rfl) rfl rfl rfl (fun _ _ => rfl) ?_) <;> first | rfl | (first | rfl | (simp only [g_0, g_s]; refine congrArg VS.bool ?_; rw [Bool.eq_iff_iff]; first | (simp [shaped, numb] at * <;> omega) | (simp_all [shaped, numb] <;> omega))) | skip)
    | ((with_reducible refine awp_ret ?_); refine Or.inr ⟨(by intro h; cases h), ?_⟩; refine ret_tmp (.inr rfl) rfl rfl rfl (fun _ _ => rfl) ?_ <;> first | rfl | (first | rfl | (simp only [g_0, g_s]; refine congrArg VS.bool ?_; rw [Bool.eq_iff_iff]; first | (simp [shaped, numb] at * <;> omega) | (simp_all [shaped, numb] <;> omega))) | skip)
    | ((with_reducible refine gsel_case (fun hg => ?_) (fun hg => ?_)) <;> (try simp only [Bool.not_eq_true', Bool.not_eq_false'] at hg) <;> simp (maxSteps := 4000000) only [sx, sy, ne_eq, eq_self, if_true, if_false, Nat.reduceEqDiff, hbT, evBuild, evLit, evMake, tab, isShift, thenA, blockA, reduceCtorEq, reduceIte, Nat.reduceBEq, Int.reduceLE, Int.reduceToNat, Nat.reduceAdd, Nat.reduceLT, Nat.reduceLeDiff, hg, secA, secC, List.length_map])
    | ((with_reducible refine awp_exit ?_); simp only [thenA, blockA, if_true, if_false, reduceIte, Nat.reduceEqDiff])
    | (refine hK _ ?_; clear hK K)
    | refine awp_cond_t rfl ?_
    | refine awp_cond_f rfl ?_
    | refine awp_if rfl (fun hg => ?_) (fun hg => ?_)
    | (refine Or.inl ⟨rfl, ?_⟩; refine le_of_all ?_ ?_ rfl rfl rfl rfl <;> simp only [patch, sl, secA, secC, List.length_map])
    | clear hK K)

/-- The lie of a way; below nought: there is none. -/
def lieF (s : Sec) (a b : Int) : Int := if s.pt = 0 then (if (a = 0 ∧ b = 1) ∨ (a = 1 ∧ b = 0) then 0 else -1) else if a = 0 ∧ (b = 1 ∨ b = 2) then b else if b = 0 ∧ (a = 1 ∨ a = 2) then a else -1
theorem c_rlie (s : Sec) (a b : Int) : ACall Try.prog 119 [secA s, i64 a, i64 b] [] (i64 (lieF s a b)) [] := by
  refine acall_of 1 Try.func119 rfl fun n out _ _ => ?_
  simp only [Try.ntmps119, List.length_cons, List.length_nil, List.length_map, List.length_replicate, rep_map, Nat.reduceAdd, Nat.reduceSub, List.replicate, List.cons_append, List.nil_append]
  repeat' (first
    | with_reducible refine awp_seq_k fun K hK => ?_
    | (with_reducible refine awp_ev tab_ok [] ?_)
    | (with_reducible refine awp_ev_quiet tab_ok follows (by kernel_rfl) ?_)
    | ((first | (with_reducible show evRun _ _ _ _ _ _ _ _) | (with_reducible show contR _ _ _ _ _ _) | (with_reducible show evRunD _ _ _ _ _ _ _ _ _) | (with_reducible show contD _ _ _ _ _ _)); simp (maxSteps := 4000000) only [sx, sy, ne_eq, eq_self, if_true, if_false, Nat.reduceEqDiff, hbT, evBuild, evLit, evMake, tab, isShift, thenA, blockA, reduceCtorEq, reduceIte, Nat.reduceBEq, Int.reduceLE, Int.reduceToNat, Nat.reduceAdd, Nat.reduceLT, Nat.reduceLeDiff, secA, secC, List.length_map])
    | with_reducible refine awp_block_s ?_
    | with_reducible refine awp_block_c ?_
    | with_reducible refine awp_block_r ?_
    | with_reducible refine awp_skip ?_
    | with_reducible apply And.intro
    | (show Program.eqGuardType _ _ _ = false; kernel_rfl)
    | (show numFieldsB _ _ _ = true; kernel_rfl)
    | (show Program.stoodInHeld _ _ = false; kernel_rfl)
    | (show (_ : Nat) = (_ : Nat); rfl)
    | ((with_reducible refine awp_ret ?_); (first | refine ret_tmp (.inr rfl) rfl rfl rfl (fun _ _ => rfl) ?_) <;> first | rfl | (first | rfl | (simp only [g_0, g_s]; refine congrArg i64 ?_; first | (simp [lieF] at * <;> omega) | (simp_all [lieF] <;> omega))) | skip)
    | ((with_reducible refine awp_ret ?_); refine Or.inr ⟨(by intro h; cases h), ?_⟩; refine ret_tmp (.inr rfl) rfl rfl rfl (fun _ _ => rfl) ?_ <;> first | rfl | (first | rfl | (simp only [g_0, g_s]; refine congrArg i64 ?_; first | (simp [lieF] at * <;> omega) | (simp_all [lieF] <;> omega))) | skip)
    | ((with_reducible refine gsel_case (fun hg => ?_) (fun hg => ?_)) <;> (try simp only [Bool.not_eq_true', Bool.not_eq_false'] at hg) <;> simp (maxSteps := 4000000) only [sx, sy, ne_eq, eq_self, if_true, if_false, Nat.reduceEqDiff, hbT, evBuild, evLit, evMake, tab, isShift, thenA, blockA, reduceCtorEq, reduceIte, Nat.reduceBEq, Int.reduceLE, Int.reduceToNat, Nat.reduceAdd, Nat.reduceLT, Nat.reduceLeDiff, hg, secA, secC, List.length_map])
    | ((with_reducible refine awp_exit ?_); simp only [thenA, blockA, if_true, if_false, reduceIte, Nat.reduceEqDiff])
    | (refine hK _ ?_; clear hK K)
    | refine awp_cond_t rfl ?_
    | refine awp_cond_f rfl ?_
    | refine awp_if rfl (fun hg => ?_) (fun hg => ?_)
    | (refine Or.inl ⟨rfl, ?_⟩; refine le_of_all ?_ ?_ rfl rfl rfl rfl <;> simp only [patch, sl, secA, secC, List.length_map])
    | clear hK K)
theorem c_isnan (a : Int) : ACall Try.prog 137 [i64 a] [] (bool false) [] := by
  refine acall_of 0 Try.func137 rfl fun n out _ _ => ?_
  simp only [Try.ntmps137, List.length_cons, List.length_nil, List.length_map, List.length_replicate, rep_map, Nat.reduceAdd, Nat.reduceSub, List.replicate, List.cons_append, List.nil_append]
  repeat' (first
    | with_reducible refine awp_seq_k fun K hK => ?_
    | (with_reducible refine awp_ev tab_ok [] ?_)
    | (with_reducible refine awp_ev_quiet tab_ok follows (by kernel_rfl) ?_)
    | ((first | (with_reducible show evRun _ _ _ _ _ _ _ _) | (with_reducible show contR _ _ _ _ _ _) | (with_reducible show evRunD _ _ _ _ _ _ _ _ _) | (with_reducible show contD _ _ _ _ _ _)); simp (maxSteps := 4000000) only [sx, sy, ne_eq, eq_self, if_true, if_false, Nat.reduceEqDiff, hbT, evBuild, evLit, evMake, tab, isShift, thenA, blockA, reduceCtorEq, reduceIte, Nat.reduceBEq, Int.reduceLE, Int.reduceToNat, Nat.reduceAdd, Nat.reduceLT, Nat.reduceLeDiff])
    | with_reducible refine awp_block_s ?_
    | with_reducible refine awp_block_c ?_
    | with_reducible refine awp_block_r ?_
    | with_reducible refine awp_skip ?_
    | with_reducible apply And.intro
    | (show Program.eqGuardType _ _ _ = false; kernel_rfl)
    | (show numFieldsB _ _ _ = true; kernel_rfl)
    | (show Program.stoodInHeld _ _ = false; kernel_rfl)
    | (show (_ : Nat) = (_ : Nat); rfl)
    | ((with_reducible refine awp_ret ?_); (first | refine ret_tmp (.inr rfl) rfl rfl rfl (fun _ _ => rfl) ?_) <;> first | rfl | (first | rfl | (simp only [g_0, g_s]; refine congrArg VS.bool ?_; rw [Bool.eq_iff_iff]; first | (simp [] at * <;> omega) | (simp_all [] <;> omega))) | skip)
    | ((with_reducible refine awp_ret ?_); refine Or.inr ⟨(by intro h; cases h), ?_⟩; refine ret_tmp (.inr rfl) rfl rfl rfl (fun _ _ => rfl) ?_ <;> first | rfl | (first | rfl | (simp only [g_0, g_s]; refine congrArg VS.bool ?_; rw [Bool.eq_iff_iff]; first | (simp [] at * <;> omega) | (simp_all [] <;> omega))) | skip)
    | ((with_reducible refine gsel_case (fun hg => ?_) (fun hg => ?_)) <;> (try simp only [Bool.not_eq_true', Bool.not_eq_false'] at hg) <;> simp (maxSteps := 4000000) only [sx, sy, ne_eq, eq_self, if_true, if_false, Nat.reduceEqDiff, hbT, evBuild, evLit, evMake, tab, isShift, thenA, blockA, reduceCtorEq, reduceIte, Nat.reduceBEq, Int.reduceLE, Int.reduceToNat, Nat.reduceAdd, Nat.reduceLT, Nat.reduceLeDiff, hg])
    | ((with_reducible refine awp_exit ?_); simp only [thenA, blockA, if_true, if_false, reduceIte, Nat.reduceEqDiff])
    | (refine hK _ ?_; clear hK K)
    | refine awp_cond_t rfl ?_
    | refine awp_cond_f rfl ?_
    | refine awp_if rfl (fun hg => ?_) (fun hg => ?_)
    | (refine Or.inl ⟨rfl, ?_⟩; refine le_of_all ?_ ?_ rfl rfl rfl rfl <;> simp only [patch, sl])
    | clear hK K)
def cmpI (a b : Int) : Int := if a < b then -1 else if b < a then 1 else 0
theorem c_cmp (a b : Int) : ACall Try.prog 123 [i64 a, i64 b] [] (i64 (cmpI a b)) [] := by
  refine acall_of 0 Try.func123 rfl fun n out _ _ => ?_
  simp only [Try.ntmps123, List.length_cons, List.length_nil, List.length_map, List.length_replicate, rep_map, Nat.reduceAdd, Nat.reduceSub, List.replicate, List.cons_append, List.nil_append]
  repeat' (first
    | with_reducible refine awp_seq_k fun K hK => ?_
    | (with_reducible refine awp_ev tab_ok [] ?_)
    | (with_reducible refine awp_ev_quiet tab_ok follows (by kernel_rfl) ?_)
    | ((first | (with_reducible show evRun _ _ _ _ _ _ _ _) | (with_reducible show contR _ _ _ _ _ _) | (with_reducible show evRunD _ _ _ _ _ _ _ _ _) | (with_reducible show contD _ _ _ _ _ _)); simp (maxSteps := 4000000) only [sx, sy, ne_eq, eq_self, if_true, if_false, Nat.reduceEqDiff, hbT, evBuild, evLit, evMake, tab, isShift, thenA, blockA, reduceCtorEq, reduceIte, Nat.reduceBEq, Int.reduceLE, Int.reduceToNat, Nat.reduceAdd, Nat.reduceLT, Nat.reduceLeDiff])
    | with_reducible refine awp_block_s ?_
    | with_reducible refine awp_block_c ?_
    | with_reducible refine awp_block_r ?_
    | with_reducible refine awp_skip ?_
    | with_reducible apply And.intro
    | (show Program.eqGuardType _ _ _ = false; kernel_rfl)
    | (show numFieldsB _ _ _ = true; kernel_rfl)
    | (show Program.stoodInHeld _ _ = false; kernel_rfl)
    | (show (_ : Nat) = (_ : Nat); rfl)
    | ((with_reducible refine awp_ret ?_); (first | refine ret_tmp (.inr rfl) rfl rfl rfl (fun _ _ => rfl) ?_) <;> first | rfl | (first | rfl | (simp only [g_0, g_s]; refine congrArg i64 ?_; first | (simp [cmpI] at * <;> omega) | (simp_all [cmpI] <;> omega))) | skip)
    | ((with_reducible refine awp_ret ?_); refine Or.inr ⟨(by intro h; cases h), ?_⟩; refine ret_tmp (.inr rfl) rfl rfl rfl (fun _ _ => rfl) ?_ <;> first | rfl | (first | rfl | (simp only [g_0, g_s]; refine congrArg i64 ?_; first | (simp [cmpI] at * <;> omega) | (simp_all [cmpI] <;> omega))) | skip)
    | (refine call_pure (c_isnan _) ?_)
    | ((with_reducible refine gsel_case (fun hg => ?_) (fun hg => ?_)) <;> (try simp only [Bool.not_eq_true', Bool.not_eq_false'] at hg) <;> simp (maxSteps := 4000000) only [sx, sy, ne_eq, eq_self, if_true, if_false, Nat.reduceEqDiff, hbT, evBuild, evLit, evMake, tab, isShift, thenA, blockA, reduceCtorEq, reduceIte, Nat.reduceBEq, Int.reduceLE, Int.reduceToNat, Nat.reduceAdd, Nat.reduceLT, Nat.reduceLeDiff, hg])
    | ((with_reducible refine awp_exit ?_); simp only [thenA, blockA, if_true, if_false, reduceIte, Nat.reduceEqDiff])
    | (refine hK _ ?_; clear hK K)
    | refine awp_cond_t rfl ?_
    | refine awp_cond_f rfl ?_
    | refine awp_if rfl (fun hg => ?_) (fun hg => ?_)
    | (refine Or.inl ⟨rfl, ?_⟩; refine le_of_all ?_ ?_ rfl rfl rfl rfl <;> simp only [patch, sl])
    | clear hK K)
theorem c_place1 (s : Sec) (b : Int) : ACall Try.prog 122 [secA s, i64 b] [] (i64 (cmpI s.id b)) [] := by
  refine acall_of 1 Try.func122 rfl fun n out _ _ => ?_
  simp only [Try.ntmps122, List.length_cons, List.length_nil, List.length_map, List.length_replicate, rep_map, Nat.reduceAdd, Nat.reduceSub, List.replicate, List.cons_append, List.nil_append]
  repeat' (first
    | with_reducible refine awp_seq_k fun K hK => ?_
    | (with_reducible refine awp_ev tab_ok [] ?_)
    | (with_reducible refine awp_ev_quiet tab_ok follows (by kernel_rfl) ?_)
    | ((first | (with_reducible show evRun _ _ _ _ _ _ _ _) | (with_reducible show contR _ _ _ _ _ _) | (with_reducible show evRunD _ _ _ _ _ _ _ _ _) | (with_reducible show contD _ _ _ _ _ _)); simp (maxSteps := 4000000) only [sx, sy, ne_eq, eq_self, if_true, if_false, Nat.reduceEqDiff, hbT, evBuild, evLit, evMake, tab, isShift, thenA, blockA, reduceCtorEq, reduceIte, Nat.reduceBEq, Int.reduceLE, Int.reduceToNat, Nat.reduceAdd, Nat.reduceLT, Nat.reduceLeDiff, secA, secC])
    | with_reducible refine awp_block_s ?_
    | with_reducible refine awp_block_c ?_
    | with_reducible refine awp_block_r ?_
    | with_reducible refine awp_skip ?_
    | with_reducible apply And.intro
    | (show Program.eqGuardType _ _ _ = false; kernel_rfl)
    | (show numFieldsB _ _ _ = true; kernel_rfl)
    | (show Program.stoodInHeld _ _ = false; kernel_rfl)
    | (show (_ : Nat) = (_ : Nat); rfl)
    | ((with_reducible refine awp_ret ?_); (first | refine ret_tmp (.inr rfl) rfl rfl rfl (fun _ _ => rfl) ?_) <;> first | rfl | (first | rfl | (simp only [g_0, g_s]; refine congrArg i64 ?_; first | (simp [] at * <;> omega) | (simp_all [] <;> omega))) | skip)
    | ((with_reducible refine awp_ret ?_); refine Or.inr ⟨(by intro h; cases h), ?_⟩; refine ret_tmp (.inr rfl) rfl rfl rfl (fun _ _ => rfl) ?_ <;> first | rfl | (first | rfl | (simp only [g_0, g_s]; refine congrArg i64 ?_; first | (simp [] at * <;> omega) | (simp_all [] <;> omega))) | skip)
    | (refine call_pure (c_cmp _ _) ?_)
    | ((with_reducible refine gsel_case (fun hg => ?_) (fun hg => ?_)) <;> (try simp only [Bool.not_eq_true', Bool.not_eq_false'] at hg) <;> simp (maxSteps := 4000000) only [sx, sy, ne_eq, eq_self, if_true, if_false, Nat.reduceEqDiff, hbT, evBuild, evLit, evMake, tab, isShift, thenA, blockA, reduceCtorEq, reduceIte, Nat.reduceBEq, Int.reduceLE, Int.reduceToNat, Nat.reduceAdd, Nat.reduceLT, Nat.reduceLeDiff, hg, secA, secC])
    | ((with_reducible refine awp_exit ?_); simp only [thenA, blockA, if_true, if_false, reduceIte, Nat.reduceEqDiff])
    | (refine hK _ ?_; clear hK K)
    | refine awp_cond_t rfl ?_
    | refine awp_cond_f rfl ?_
    | refine awp_if rfl (fun hg => ?_) (fun hg => ?_)
    | (refine Or.inl ⟨rfl, ?_⟩; refine le_of_all ?_ ?_ rfl rfl rfl rfl <;> simp only [patch, sl, secA, secC])
    | clear hK K)
end Go.Proofs.Ytdkiciofkifpdaa.Pln
