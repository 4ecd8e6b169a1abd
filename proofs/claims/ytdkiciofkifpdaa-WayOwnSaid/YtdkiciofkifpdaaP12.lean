/-
  Elements' numbers: rising, found.
-/
import Derived.Test.YtdkiciofkifpdaaP10
namespace Go.Proofs.Ytdkiciofkifpdaa.Pln
set_option linter.unusedVariables false
set_option linter.unusedSimpArgs false
open Go Go.VS Tab
set_option maxHeartbeats 4000000
set_option maxRecDepth 4000

theorem c_id_pt (x : Int × Int) : ACall Try.prog 124 [jnA x] [] (i64 (x.1)) [] := by
  refine acall_of 2 Try.func124 rfl fun n out _ _ => ?_
  simp only [Try.ntmps124, List.length_cons, List.length_nil, List.length_map, List.length_replicate, rep_map, Nat.reduceAdd, Nat.reduceSub, List.replicate, List.cons_append, List.nil_append]
  repeat' (first
    | with_reducible refine awp_seq_k fun K hK => ?_
    | (with_reducible refine awp_ev tab_ok [] ?_)
    | (with_reducible refine awp_ev_quiet tab_ok follows (by kernel_rfl) ?_)
    | ((first | (with_reducible show evRun _ _ _ _ _ _ _ _) | (with_reducible show contR _ _ _ _ _ _) | (with_reducible show evRunD _ _ _ _ _ _ _ _ _) | (with_reducible show contD _ _ _ _ _ _)); simp (maxSteps := 4000000) only [sx, sy, ne_eq, eq_self, if_true, if_false, Nat.reduceEqDiff, hbT, evBuild, evLit, evMake, tab, isShift, thenA, blockA, reduceCtorEq, reduceIte, Nat.reduceBEq, Int.reduceLE, Int.reduceToNat, Nat.reduceAdd, Nat.reduceLT, Nat.reduceLeDiff, jnA, jnC, splice_all, List.length_map, notIface])
    | with_reducible refine awp_block_s ?_
    | with_reducible refine awp_block_c ?_
    | with_reducible refine awp_block_r ?_
    | with_reducible refine awp_skip ?_
    | with_reducible apply And.intro
    | (show Program.eqGuardType _ _ _ = false; kernel_rfl)
    | (show numFieldsB _ _ _ = true; kernel_rfl)
    | (show Program.stoodInHeld _ _ = false; kernel_rfl)
    | (show (_ : Nat) = (_ : Nat); rfl)
    | ((with_reducible refine awp_ret ?_); (first | refine ret_tmp (.inr rfl) rfl rfl rfl (fun _ _ => rfl) ?_) <;> first | rfl | rfl | skip)
    | ((with_reducible refine awp_ret ?_); refine Or.inr ⟨(by intro h; cases h), ?_⟩; refine ret_tmp (.inr rfl) rfl rfl rfl (fun _ _ => rfl) ?_ <;> first | rfl | rfl | skip)
    | ((with_reducible refine gsel_case (fun hg => ?_) (fun hg => ?_)) <;> (try simp only [Bool.not_eq_true', Bool.not_eq_false'] at hg) <;> simp (maxSteps := 4000000) only [sx, sy, ne_eq, eq_self, if_true, if_false, Nat.reduceEqDiff, hbT, evBuild, evLit, evMake, tab, isShift, thenA, blockA, reduceCtorEq, reduceIte, Nat.reduceBEq, Int.reduceLE, Int.reduceToNat, Nat.reduceAdd, Nat.reduceLT, Nat.reduceLeDiff, hg, jnA, jnC, splice_all, List.length_map, notIface])
    | ((with_reducible refine awp_exit ?_); simp only [thenA, blockA, if_true, if_false, reduceIte, Nat.reduceEqDiff])
    | (refine hK _ ?_; clear hK K)
    | refine awp_cond_t rfl ?_
    | refine awp_cond_f rfl ?_
    | refine awp_if rfl (fun hg => ?_) (fun hg => ?_)
    | (refine Or.inl ⟨rfl, ?_⟩; refine le_of_all ?_ ?_ rfl rfl rfl rfl <;> simp only [patch, sl, jnA, jnC, splice_all, List.length_map, notIface])
    | clear hK K)
theorem c_id_sg (x : Int × Int × Int) : ACall Try.prog 126 [sgA x] [] (i64 (x.1)) [] := by
  refine acall_of 2 Try.func126 rfl fun n out _ _ => ?_
  simp only [Try.ntmps126, List.length_cons, List.length_nil, List.length_map, List.length_replicate, rep_map, Nat.reduceAdd, Nat.reduceSub, List.replicate, List.cons_append, List.nil_append]
  repeat' (first
    | with_reducible refine awp_seq_k fun K hK => ?_
    | (with_reducible refine awp_ev tab_ok [] ?_)
    | (with_reducible refine awp_ev_quiet tab_ok follows (by kernel_rfl) ?_)
    | ((first | (with_reducible show evRun _ _ _ _ _ _ _ _) | (with_reducible show contR _ _ _ _ _ _) | (with_reducible show evRunD _ _ _ _ _ _ _ _ _) | (with_reducible show contD _ _ _ _ _ _)); simp (maxSteps := 4000000) only [sx, sy, ne_eq, eq_self, if_true, if_false, Nat.reduceEqDiff, hbT, evBuild, evLit, evMake, tab, isShift, thenA, blockA, reduceCtorEq, reduceIte, Nat.reduceBEq, Int.reduceLE, Int.reduceToNat, Nat.reduceAdd, Nat.reduceLT, Nat.reduceLeDiff, sgA, sgC, splice_all, List.length_map, notIface])
    | with_reducible refine awp_block_s ?_
    | with_reducible refine awp_block_c ?_
    | with_reducible refine awp_block_r ?_
    | with_reducible refine awp_skip ?_
    | with_reducible apply And.intro
    | (show Program.eqGuardType _ _ _ = false; kernel_rfl)
    | (show numFieldsB _ _ _ = true; kernel_rfl)
    | (show Program.stoodInHeld _ _ = false; kernel_rfl)
    | (show (_ : Nat) = (_ : Nat); rfl)
    | ((with_reducible refine awp_ret ?_); (first | refine ret_tmp (.inr rfl) rfl rfl rfl (fun _ _ => rfl) ?_) <;> first | rfl | rfl | skip)
    | ((with_reducible refine awp_ret ?_); refine Or.inr ⟨(by intro h; cases h), ?_⟩; refine ret_tmp (.inr rfl) rfl rfl rfl (fun _ _ => rfl) ?_ <;> first | rfl | rfl | skip)
    | ((with_reducible refine gsel_case (fun hg => ?_) (fun hg => ?_)) <;> (try simp only [Bool.not_eq_true', Bool.not_eq_false'] at hg) <;> simp (maxSteps := 4000000) only [sx, sy, ne_eq, eq_self, if_true, if_false, Nat.reduceEqDiff, hbT, evBuild, evLit, evMake, tab, isShift, thenA, blockA, reduceCtorEq, reduceIte, Nat.reduceBEq, Int.reduceLE, Int.reduceToNat, Nat.reduceAdd, Nat.reduceLT, Nat.reduceLeDiff, hg, sgA, sgC, splice_all, List.length_map, notIface])
    | ((with_reducible refine awp_exit ?_); simp only [thenA, blockA, if_true, if_false, reduceIte, Nat.reduceEqDiff])
    | (refine hK _ ?_; clear hK K)
    | refine awp_cond_t rfl ?_
    | refine awp_cond_f rfl ?_
    | refine awp_if rfl (fun hg => ?_) (fun hg => ?_)
    | (refine Or.inl ⟨rfl, ?_⟩; refine le_of_all ?_ ?_ rfl rfl rfl rfl <;> simp only [patch, sl, sgA, sgC, splice_all, List.length_map, notIface])
    | clear hK K)
theorem c_id_rt (x : Rt) : ACall Try.prog 101 [rtA x] [] (i64 (x.id)) [] := by
  refine acall_of 2 Try.func101 rfl fun n out _ _ => ?_
  simp only [Try.ntmps101, List.length_cons, List.length_nil, List.length_map, List.length_replicate, rep_map, Nat.reduceAdd, Nat.reduceSub, List.replicate, List.cons_append, List.nil_append]
  repeat' (first
    | with_reducible refine awp_seq_k fun K hK => ?_
    | (with_reducible refine awp_ev tab_ok [] ?_)
    | (with_reducible refine awp_ev_quiet tab_ok follows (by kernel_rfl) ?_)
    | ((first | (with_reducible show evRun _ _ _ _ _ _ _ _) | (with_reducible show contR _ _ _ _ _ _) | (with_reducible show evRunD _ _ _ _ _ _ _ _ _) | (with_reducible show contD _ _ _ _ _ _)); simp (maxSteps := 4000000) only [sx, sy, ne_eq, eq_self, if_true, if_false, Nat.reduceEqDiff, hbT, evBuild, evLit, evMake, tab, isShift, thenA, blockA, reduceCtorEq, reduceIte, Nat.reduceBEq, Int.reduceLE, Int.reduceToNat, Nat.reduceAdd, Nat.reduceLT, Nat.reduceLeDiff, rtA, rtC, splice_all, List.length_map, notIface])
    | with_reducible refine awp_block_s ?_
    | with_reducible refine awp_block_c ?_
    | with_reducible refine awp_block_r ?_
    | with_reducible refine awp_skip ?_
    | with_reducible apply And.intro
    | (show Program.eqGuardType _ _ _ = false; kernel_rfl)
    | (show numFieldsB _ _ _ = true; kernel_rfl)
    | (show Program.stoodInHeld _ _ = false; kernel_rfl)
    | (show (_ : Nat) = (_ : Nat); rfl)
    | ((with_reducible refine awp_ret ?_); (first | refine ret_tmp (.inr rfl) rfl rfl rfl (fun _ _ => rfl) ?_) <;> first | rfl | rfl | skip)
    | ((with_reducible refine awp_ret ?_); refine Or.inr ⟨(by intro h; cases h), ?_⟩; refine ret_tmp (.inr rfl) rfl rfl rfl (fun _ _ => rfl) ?_ <;> first | rfl | rfl | skip)
    | ((with_reducible refine gsel_case (fun hg => ?_) (fun hg => ?_)) <;> (try simp only [Bool.not_eq_true', Bool.not_eq_false'] at hg) <;> simp (maxSteps := 4000000) only [sx, sy, ne_eq, eq_self, if_true, if_false, Nat.reduceEqDiff, hbT, evBuild, evLit, evMake, tab, isShift, thenA, blockA, reduceCtorEq, reduceIte, Nat.reduceBEq, Int.reduceLE, Int.reduceToNat, Nat.reduceAdd, Nat.reduceLT, Nat.reduceLeDiff, hg, rtA, rtC, splice_all, List.length_map, notIface])
    | ((with_reducible refine awp_exit ?_); simp only [thenA, blockA, if_true, if_false, reduceIte, Nat.reduceEqDiff])
    | (refine hK _ ?_; clear hK K)
    | refine awp_cond_t rfl ?_
    | refine awp_cond_f rfl ?_
    | refine awp_if rfl (fun hg => ?_) (fun hg => ?_)
    | (refine Or.inl ⟨rfl, ?_⟩; refine le_of_all ?_ ?_ rfl rfl rfl rfl <;> simp only [patch, sl, rtA, rtC, splice_all, List.length_map, notIface])
    | clear hK K)
theorem rises_take {l : List Int} {i : Nat} (hi : i < l.length) (hq : ∀ j (hj : j < l.length), j < i → rises (l.take j) l[j] = true) : rises (l.take i) l[i] = (numb l[i] && (decide (i = 0) || decide ((l[i - 1]'(by omega)) < l[i]))) := by
  have e := adj_all (fun x : Int => x) l i hi fun j hj k hk => by
    have := hq j (by omega) hj
    simp only [rises, Bool.and_eq_true, List.all_eq_true, decide_eq_true_eq] at this
    exact this.2 _ (mem_take_of hk (by omega))
  unfold rises
  rw [e]
theorem c_rise_pt (l : List (Int × Int)) (most : Int) (hl : l.length ≤ 1000000) : ACall Try.prog 96 [.sl 2 (l.map jnC) .sh, i64 most] [] (bool (allP rises (l.map (fun x : Int × Int => x.1)) && decide ((l.length : Int) ≤ most))) [] := by
  refine acall_of 1 Try.func96 rfl fun n out _ _ => ?_
  simp only [Try.ntmps96, List.length_cons, List.length_nil, List.length_map, List.length_replicate, rep_map, Nat.reduceAdd, Nat.reduceSub, List.replicate, List.cons_append, List.nil_append]
  repeat' (first
    | with_reducible refine awp_seq_k fun K hK => ?_
    | (with_reducible refine awp_ev tab_ok [] ?_)
    | (with_reducible refine awp_ev_quiet tab_ok follows (by kernel_rfl) ?_)
    | ((first | (with_reducible show evRun _ _ _ _ _ _ _ _) | (with_reducible show contR _ _ _ _ _ _) | (with_reducible show evRunD _ _ _ _ _ _ _ _ _) | (with_reducible show contD _ _ _ _ _ _)); simp (maxSteps := 4000000) only [sx, sy, ne_eq, eq_self, if_true, if_false, Nat.reduceEqDiff, hbT, evBuild, evLit, evMake, tab, isShift, thenA, blockA, reduceCtorEq, reduceIte, Nat.reduceBEq, Int.reduceLE, Int.reduceToNat, Nat.reduceAdd, Nat.reduceLT, Nat.reduceLeDiff])
    | with_reducible refine awp_block_s ?_
    | with_reducible refine awp_block_c ?_
    | with_reducible refine awp_block_r ?_
    | with_reducible refine awp_skip ?_
    | with_reducible apply And.intro
    | (show Program.eqGuardType _ _ _ = false; kernel_rfl)
    | (show numFieldsB _ _ _ = true; kernel_rfl)
    | (show Program.stoodInHeld _ _ = false; kernel_rfl)
    | (show (_ : Nat) = (_ : Nat); rfl)
    | ((with_reducible refine awp_ret ?_); (first | refine ret_tmp (.inr rfl) rfl rfl rfl (fun _ _ => rfl) ?_) <;> first | rfl | rfl | skip)
    | ((with_reducible refine awp_ret ?_); refine Or.inr ⟨(by intro h; cases h), ?_⟩; refine ret_tmp (.inr rfl) rfl rfl rfl (fun _ _ => rfl) ?_ <;> first | rfl | rfl | skip)
    | ((with_reducible refine gsel_case (fun hg => ?_) (fun hg => ?_)) <;> (try simp only [Bool.not_eq_true', Bool.not_eq_false'] at hg) <;> simp (maxSteps := 4000000) only [sx, sy, ne_eq, eq_self, if_true, if_false, Nat.reduceEqDiff, hbT, evBuild, evLit, evMake, tab, isShift, thenA, blockA, reduceCtorEq, reduceIte, Nat.reduceBEq, Int.reduceLE, Int.reduceToNat, Nat.reduceAdd, Nat.reduceLT, Nat.reduceLeDiff, hg])
    | ((with_reducible refine awp_exit ?_); simp only [thenA, blockA, if_true, if_false, reduceIte, Nat.reduceEqDiff])
    | (refine hK _ ?_; clear hK K)
    | refine awp_cond_t rfl ?_
    | refine awp_cond_f rfl ?_
    | refine awp_if rfl (fun hg => ?_) (fun hg => ?_)
    | (refine Or.inl ⟨rfl, ?_⟩; refine le_of_all ?_ ?_ rfl rfl rfl rfl <;> simp only [patch, sl])
    | clear hK K)
  refine awp_block ?_
  refine awp_for_mv (fun m (i : Nat) => [(10, i64 (i : Int)), (4, .top), (5, .top), (6, .top), (7, .top), (11, .top), (12, .top), (13, .top), (14, .top), (15, .top), (16, .top), (17, .top), (18, .top), (19, .top), (20, .top), (21, .top), (22, .top), (23, .top), (24, .top), (25, .top), (26, .top), (27, .top), (28, .top), (29, .top), (30, .top), (31, .top), (32, .top), (33, .top), (34, .top), (35, .top), (36, .top), (37, .top)]) (fun m i => [none]) (fun i => out) (fun i => i ≤ l.length ∧ (∀ j (hj : j < (l.map (fun x : Int × Int => x.1)).length), j < i → rises ((l.map (fun x : Int × Int => x.1)).take j) (l.map (fun x : Int × Int => x.1))[j] = true)) (fun i => l.length - i) 0 ⟨Nat.zero_le _, by intros; omega⟩ ?_ fun m i hm hi => ?_
  · refine le_of_all ?_ ?_ (by first | rfl | (simp only [List.length_map]; rfl) | simp only [List.length_map]) rfl rfl rfl <;> simp only [patch, sl, List.length_map]
  obtain ⟨hi, hq⟩ := hi
  simp only [patch, s_0, s_s]
  have hw := addw (n := i) 1 1 rfl (by omega)
  by_cases hlt : i < l.length
  · have gi := getD_map jnC l i [] hlt
    have hltm : i < (l.map (fun x : Int × Int => x.1)).length := by simpa using hlt
    have key := rises_take hltm hq
    rw [show (l.map (fun x : Int × Int => x.1))[i] = l[i].1 by simp, show (l.map (fun x : Int × Int => x.1))[i - 1]'(by omega) = (l[i - 1]'(by omega)).1 by simp] at key
    have next : rises ((l.map (fun x : Int × Int => x.1)).take i) l[i].1 = true → ∀ j (hj : j < (l.map (fun x : Int × Int => x.1)).length), j < i + 1 → rises ((l.map (fun x : Int × Int => x.1)).take j) (l.map (fun x : Int × Int => x.1))[j] = true := fun h j hj hji => by
      by_cases h' : j = i
      · subst h'; rw [show (l.map (fun x : Int × Int => x.1))[j] = l[j].1 by simp]; exact h
      · exact hq j hj (by omega)
    have bad : rises ((l.map (fun x : Int × Int => x.1)).take i) l[i].1 = false → allP rises (l.map (fun x : Int × Int => x.1)) = false := fun h => allP_false hltm (by rw [show (l.map (fun x : Int × Int => x.1))[i] = l[i].1 by simp]; exact h)
    by_cases h0 : i = 0
    · have hd0 : decide ((i : Int) > 0) = false := decide_eq_false (by omega)
      rw [decide_eq_true h0, Bool.true_or, Bool.and_true] at key
      repeat' (first
        | with_reducible refine awp_seq_k fun K hK => ?_
        | (with_reducible refine awp_ev tab_ok [] ?_)
        | (with_reducible refine awp_ev_quiet tab_ok follows (by kernel_rfl) ?_)
        | ((first | (with_reducible show evRun _ _ _ _ _ _ _ _) | (with_reducible show contR _ _ _ _ _ _) | (with_reducible show evRunD _ _ _ _ _ _ _ _ _) | (with_reducible show contD _ _ _ _ _ _)); simp (maxSteps := 4000000) only [sx, sy, ne_eq, eq_self, if_true, if_false, Nat.reduceEqDiff, hbT, evBuild, evLit, evMake, tab, isShift, thenA, blockA, reduceCtorEq, reduceIte, Nat.reduceBEq, Int.reduceLE, Int.reduceToNat, Nat.reduceAdd, Nat.reduceLT, Nat.reduceLeDiff, locM hm, List.length_map, hlt, gi, jnA, jnC, splice_all, hd0, hw])
        | with_reducible refine awp_block_s ?_
        | with_reducible refine awp_block_c ?_
        | with_reducible refine awp_block_r ?_
        | with_reducible refine awp_skip ?_
        | with_reducible apply And.intro
        | (show Program.eqGuardType _ _ _ = false; kernel_rfl)
        | (show numFieldsB _ _ _ = true; kernel_rfl)
        | (show Program.stoodInHeld _ _ = false; kernel_rfl)
        | (show (_ : Nat) = (_ : Nat); rfl)
        | ((with_reducible refine awp_ret ?_); (first | refine ret_tmp (.inr rfl) rfl rfl rfl (fun _ _ => rfl) ?_) <;> first | rfl | (rw [bad (by rw [key]; simp [numb] at *; omega)]; rfl) | skip)
        | ((with_reducible refine awp_ret ?_); refine Or.inr ⟨(by intro h; cases h), ?_⟩; refine ret_tmp (.inr rfl) rfl rfl rfl (fun _ _ => rfl) ?_ <;> first | rfl | (rw [bad (by rw [key]; simp [numb] at *; omega)]; rfl) | skip)
        | (refine call_pure (c_id_pt l[i]) ?_)
        | ((with_reducible refine gsel_case (fun hg => ?_) (fun hg => ?_)) <;> (try simp only [Bool.not_eq_true', Bool.not_eq_false'] at hg) <;> simp (maxSteps := 4000000) only [sx, sy, ne_eq, eq_self, if_true, if_false, Nat.reduceEqDiff, hbT, evBuild, evLit, evMake, tab, isShift, thenA, blockA, reduceCtorEq, reduceIte, Nat.reduceBEq, Int.reduceLE, Int.reduceToNat, Nat.reduceAdd, Nat.reduceLT, Nat.reduceLeDiff, hg, locM hm, List.length_map, hlt, gi, jnA, jnC, splice_all, hd0, hw])
        | ((with_reducible refine awp_exit ?_); simp only [thenA, blockA, if_true, if_false, reduceIte, Nat.reduceEqDiff])
        | (refine hK _ ?_; clear hK K)
        | refine awp_cond_t rfl ?_
        | refine awp_cond_f rfl ?_
        | refine awp_if rfl (fun hg => ?_) (fun hg => ?_)
        | (refine Or.inl ⟨rfl, ?_⟩; refine le_of_all ?_ ?_ rfl rfl rfl rfl <;> simp only [patch, sl, locM hm, List.length_map, hlt, gi, jnA, jnC, splice_all, hd0, hw])
        | clear hK K)
      refine ⟨i + 1, ⟨by omega, fun j hj => next (by rw [key]; simp [numb] at *; omega) j (by simpa using hj)⟩, by omega, ?_⟩
      refine le_move [false] (fun n_ => ?_) (fun n_ => ?_) <;> simp only [patch, sm]
    · have hd0 : decide ((i : Int) > 0) = true := decide_eq_true (by omega)
      have hs1 := subw (n := i) 1 1 rfl (by omega) (by omega)
      have hl1 : i - 1 < l.length := by omega
      have g1 := getD_map jnC l (i - 1) [] hl1
      rw [decide_eq_false h0, Bool.false_or] at key
      repeat' (first
        | with_reducible refine awp_seq_k fun K hK => ?_
        | (with_reducible refine awp_ev tab_ok [] ?_)
        | (with_reducible refine awp_ev_quiet tab_ok follows (by kernel_rfl) ?_)
        | ((first | (with_reducible show evRun _ _ _ _ _ _ _ _) | (with_reducible show contR _ _ _ _ _ _) | (with_reducible show evRunD _ _ _ _ _ _ _ _ _) | (with_reducible show contD _ _ _ _ _ _)); simp (maxSteps := 4000000) only [sx, sy, ne_eq, eq_self, if_true, if_false, Nat.reduceEqDiff, hbT, evBuild, evLit, evMake, tab, isShift, thenA, blockA, reduceCtorEq, reduceIte, Nat.reduceBEq, Int.reduceLE, Int.reduceToNat, Nat.reduceAdd, Nat.reduceLT, Nat.reduceLeDiff, locM hm, List.length_map, hlt, gi, jnA, jnC, splice_all, hd0, hs1, hl1, g1, hw])
        | with_reducible refine awp_block_s ?_
        | with_reducible refine awp_block_c ?_
        | with_reducible refine awp_block_r ?_
        | with_reducible refine awp_skip ?_
        | with_reducible apply And.intro
        | (show Program.eqGuardType _ _ _ = false; kernel_rfl)
        | (show numFieldsB _ _ _ = true; kernel_rfl)
        | (show Program.stoodInHeld _ _ = false; kernel_rfl)
        | (show (_ : Nat) = (_ : Nat); rfl)
        | ((with_reducible refine awp_ret ?_); (first | refine ret_tmp (.inr rfl) rfl rfl rfl (fun _ _ => rfl) ?_) <;> first | rfl | (rw [bad (by rw [key]; simp [numb] at *; omega)]; rfl) | skip)
        | ((with_reducible refine awp_ret ?_); refine Or.inr ⟨(by intro h; cases h), ?_⟩; refine ret_tmp (.inr rfl) rfl rfl rfl (fun _ _ => rfl) ?_ <;> first | rfl | (rw [bad (by rw [key]; simp [numb] at *; omega)]; rfl) | skip)
        | (refine call_pure (c_id_pt l[i]) ?_)
        | (refine call_pure (c_id_pt l[i - 1]) ?_)
        | ((with_reducible refine gsel_case (fun hg => ?_) (fun hg => ?_)) <;> (try simp only [Bool.not_eq_true', Bool.not_eq_false'] at hg) <;> simp (maxSteps := 4000000) only [sx, sy, ne_eq, eq_self, if_true, if_false, Nat.reduceEqDiff, hbT, evBuild, evLit, evMake, tab, isShift, thenA, blockA, reduceCtorEq, reduceIte, Nat.reduceBEq, Int.reduceLE, Int.reduceToNat, Nat.reduceAdd, Nat.reduceLT, Nat.reduceLeDiff, hg, locM hm, List.length_map, hlt, gi, jnA, jnC, splice_all, hd0, hs1, hl1, g1, hw])
        | ((with_reducible refine awp_exit ?_); simp only [thenA, blockA, if_true, if_false, reduceIte, Nat.reduceEqDiff])
        | (refine hK _ ?_; clear hK K)
        | refine awp_cond_t rfl ?_
        | refine awp_cond_f rfl ?_
        | refine awp_if rfl (fun hg => ?_) (fun hg => ?_)
        | (refine Or.inl ⟨rfl, ?_⟩; refine le_of_all ?_ ?_ rfl rfl rfl rfl <;> simp only [patch, sl, locM hm, List.length_map, hlt, gi, jnA, jnC, splice_all, hd0, hs1, hl1, g1, hw])
        | clear hK K)
      refine ⟨i + 1, ⟨by omega, fun j hj => next (by rw [key]; simp [numb] at *; omega) j (by simpa using hj)⟩, by omega, ?_⟩
      refine le_move [false] (fun n_ => ?_) (fun n_ => ?_) <;> simp only [patch, sm]
  · have hall := allP_true (f := rises) (l := l.map (fun x : Int × Int => x.1)) fun j hj => hq j hj (by simp at hj; omega)
    repeat' (first
      | with_reducible refine awp_seq_k fun K hK => ?_
      | (with_reducible refine awp_ev tab_ok [] ?_)
      | (with_reducible refine awp_ev_quiet tab_ok follows (by kernel_rfl) ?_)
      | ((first | (with_reducible show evRun _ _ _ _ _ _ _ _) | (with_reducible show contR _ _ _ _ _ _) | (with_reducible show evRunD _ _ _ _ _ _ _ _ _) | (with_reducible show contD _ _ _ _ _ _)); simp (maxSteps := 4000000) only [sx, sy, ne_eq, eq_self, if_true, if_false, Nat.reduceEqDiff, hbT, evBuild, evLit, evMake, tab, isShift, thenA, blockA, reduceCtorEq, reduceIte, Nat.reduceBEq, Int.reduceLE, Int.reduceToNat, Nat.reduceAdd, Nat.reduceLT, Nat.reduceLeDiff, List.length_map, hlt])
      | with_reducible refine awp_block_s ?_
      | with_reducible refine awp_block_c ?_
      | with_reducible refine awp_block_r ?_
      | with_reducible refine awp_skip ?_
      | with_reducible apply And.intro
      | (show Program.eqGuardType _ _ _ = false; kernel_rfl)
      | (show numFieldsB _ _ _ = true; kernel_rfl)
      | (show Program.stoodInHeld _ _ = false; kernel_rfl)
      | (show (_ : Nat) = (_ : Nat); rfl)
      | ((with_reducible refine awp_ret ?_); (first | refine ret_tmp (.inr rfl) rfl rfl rfl (fun _ _ => rfl) ?_) <;> first | rfl | (rw [hall, Bool.true_and]; rfl) | skip)
      | ((with_reducible refine awp_ret ?_); refine Or.inr ⟨(by intro h; cases h), ?_⟩; refine ret_tmp (.inr rfl) rfl rfl rfl (fun _ _ => rfl) ?_ <;> first | rfl | (rw [hall, Bool.true_and]; rfl) | skip)
      | ((with_reducible refine gsel_case (fun hg => ?_) (fun hg => ?_)) <;> (try simp only [Bool.not_eq_true', Bool.not_eq_false'] at hg) <;> simp (maxSteps := 4000000) only [sx, sy, ne_eq, eq_self, if_true, if_false, Nat.reduceEqDiff, hbT, evBuild, evLit, evMake, tab, isShift, thenA, blockA, reduceCtorEq, reduceIte, Nat.reduceBEq, Int.reduceLE, Int.reduceToNat, Nat.reduceAdd, Nat.reduceLT, Nat.reduceLeDiff, hg, List.length_map, hlt])
      | ((with_reducible refine awp_exit ?_); simp only [thenA, blockA, if_true, if_false, reduceIte, Nat.reduceEqDiff])
      | (refine hK _ ?_; clear hK K)
      | refine awp_cond_t rfl ?_
      | refine awp_cond_f rfl ?_
      | refine awp_if rfl (fun hg => ?_) (fun hg => ?_)
      | (refine Or.inl ⟨rfl, ?_⟩; refine le_of_all ?_ ?_ rfl rfl rfl rfl <;> simp only [patch, sl, List.length_map, hlt])
      | clear hK K)
theorem c_rise_sg (l : List (Int × Int × Int)) (most : Int) (hl : l.length ≤ 1000000) : ACall Try.prog 99 [.sl 3 (l.map sgC) .sh, i64 most] [] (bool (allP rises (l.map (fun x : Int × Int × Int => x.1)) && decide ((l.length : Int) ≤ most))) [] := by
  refine acall_of 1 Try.func99 rfl fun n out _ _ => ?_
  simp only [Try.ntmps99, List.length_cons, List.length_nil, List.length_map, List.length_replicate, rep_map, Nat.reduceAdd, Nat.reduceSub, List.replicate, List.cons_append, List.nil_append]
  repeat' (first
    | with_reducible refine awp_seq_k fun K hK => ?_
    | (with_reducible refine awp_ev tab_ok [] ?_)
    | (with_reducible refine awp_ev_quiet tab_ok follows (by kernel_rfl) ?_)
    | ((first | (with_reducible show evRun _ _ _ _ _ _ _ _) | (with_reducible show contR _ _ _ _ _ _) | (with_reducible show evRunD _ _ _ _ _ _ _ _ _) | (with_reducible show contD _ _ _ _ _ _)); simp (maxSteps := 4000000) only [sx, sy, ne_eq, eq_self, if_true, if_false, Nat.reduceEqDiff, hbT, evBuild, evLit, evMake, tab, isShift, thenA, blockA, reduceCtorEq, reduceIte, Nat.reduceBEq, Int.reduceLE, Int.reduceToNat, Nat.reduceAdd, Nat.reduceLT, Nat.reduceLeDiff])
    | with_reducible refine awp_block_s ?_
    | with_reducible refine awp_block_c ?_
    | with_reducible refine awp_block_r ?_
    | with_reducible refine awp_skip ?_
    | with_reducible apply And.intro
    | (show Program.eqGuardType _ _ _ = false; kernel_rfl)
    | (show numFieldsB _ _ _ = true; kernel_rfl)
    | (show Program.stoodInHeld _ _ = false; kernel_rfl)
    | (show (_ : Nat) = (_ : Nat); rfl)
    | ((with_reducible refine awp_ret ?_); (first | refine ret_tmp (.inr rfl) rfl rfl rfl (fun _ _ => rfl) ?_) <;> first | rfl | rfl | skip)
    | ((with_reducible refine awp_ret ?_); refine Or.inr ⟨(by intro h; cases h), ?_⟩; refine ret_tmp (.inr rfl) rfl rfl rfl (fun _ _ => rfl) ?_ <;> first | rfl | rfl | skip)
    | ((with_reducible refine gsel_case (fun hg => ?_) (fun hg => ?_)) <;> (try simp only [Bool.not_eq_true', Bool.not_eq_false'] at hg) <;> simp (maxSteps := 4000000) only [sx, sy, ne_eq, eq_self, if_true, if_false, Nat.reduceEqDiff, hbT, evBuild, evLit, evMake, tab, isShift, thenA, blockA, reduceCtorEq, reduceIte, Nat.reduceBEq, Int.reduceLE, Int.reduceToNat, Nat.reduceAdd, Nat.reduceLT, Nat.reduceLeDiff, hg])
    | ((with_reducible refine awp_exit ?_); simp only [thenA, blockA, if_true, if_false, reduceIte, Nat.reduceEqDiff])
    | (refine hK _ ?_; clear hK K)
    | refine awp_cond_t rfl ?_
    | refine awp_cond_f rfl ?_
    | refine awp_if rfl (fun hg => ?_) (fun hg => ?_)
    | (refine Or.inl ⟨rfl, ?_⟩; refine le_of_all ?_ ?_ rfl rfl rfl rfl <;> simp only [patch, sl])
    | clear hK K)
  refine awp_block ?_
  refine awp_for_mv (fun m (i : Nat) => [(10, i64 (i : Int)), (4, .top), (5, .top), (6, .top), (7, .top), (11, .top), (12, .top), (13, .top), (14, .top), (15, .top), (16, .top), (17, .top), (18, .top), (19, .top), (20, .top), (21, .top), (22, .top), (23, .top), (24, .top), (25, .top), (26, .top), (27, .top), (28, .top), (29, .top), (30, .top), (31, .top), (32, .top), (33, .top), (34, .top), (35, .top), (36, .top), (37, .top)]) (fun m i => [none]) (fun i => out) (fun i => i ≤ l.length ∧ (∀ j (hj : j < (l.map (fun x : Int × Int × Int => x.1)).length), j < i → rises ((l.map (fun x : Int × Int × Int => x.1)).take j) (l.map (fun x : Int × Int × Int => x.1))[j] = true)) (fun i => l.length - i) 0 ⟨Nat.zero_le _, by intros; omega⟩ ?_ fun m i hm hi => ?_
  · refine le_of_all ?_ ?_ (by first | rfl | (simp only [List.length_map]; rfl) | simp only [List.length_map]) rfl rfl rfl <;> simp only [patch, sl, List.length_map]
  obtain ⟨hi, hq⟩ := hi
  simp only [patch, s_0, s_s]
  have hw := addw (n := i) 1 1 rfl (by omega)
  by_cases hlt : i < l.length
  · have gi := getD_map sgC l i [] hlt
    have hltm : i < (l.map (fun x : Int × Int × Int => x.1)).length := by simpa using hlt
    have key := rises_take hltm hq
    rw [show (l.map (fun x : Int × Int × Int => x.1))[i] = l[i].1 by simp, show (l.map (fun x : Int × Int × Int => x.1))[i - 1]'(by omega) = (l[i - 1]'(by omega)).1 by simp] at key
    have next : rises ((l.map (fun x : Int × Int × Int => x.1)).take i) l[i].1 = true → ∀ j (hj : j < (l.map (fun x : Int × Int × Int => x.1)).length), j < i + 1 → rises ((l.map (fun x : Int × Int × Int => x.1)).take j) (l.map (fun x : Int × Int × Int => x.1))[j] = true := fun h j hj hji => by
      by_cases h' : j = i
      · subst h'; rw [show (l.map (fun x : Int × Int × Int => x.1))[j] = l[j].1 by simp]; exact h
      · exact hq j hj (by omega)
    have bad : rises ((l.map (fun x : Int × Int × Int => x.1)).take i) l[i].1 = false → allP rises (l.map (fun x : Int × Int × Int => x.1)) = false := fun h => allP_false hltm (by rw [show (l.map (fun x : Int × Int × Int => x.1))[i] = l[i].1 by simp]; exact h)
    by_cases h0 : i = 0
    · have hd0 : decide ((i : Int) > 0) = false := decide_eq_false (by omega)
      rw [decide_eq_true h0, Bool.true_or, Bool.and_true] at key
      repeat' (first
        | with_reducible refine awp_seq_k fun K hK => ?_
        | (with_reducible refine awp_ev tab_ok [] ?_)
        | (with_reducible refine awp_ev_quiet tab_ok follows (by kernel_rfl) ?_)
        | ((first | (with_reducible show evRun _ _ _ _ _ _ _ _) | (with_reducible show contR _ _ _ _ _ _) | (with_reducible show evRunD _ _ _ _ _ _ _ _ _) | (with_reducible show contD _ _ _ _ _ _)); simp (maxSteps := 4000000) only [sx, sy, ne_eq, eq_self, if_true, if_false, Nat.reduceEqDiff, hbT, evBuild, evLit, evMake, tab, isShift, thenA, blockA, reduceCtorEq, reduceIte, Nat.reduceBEq, Int.reduceLE, Int.reduceToNat, Nat.reduceAdd, Nat.reduceLT, Nat.reduceLeDiff, locM hm, List.length_map, hlt, gi, sgA, sgC, splice_all, hd0, hw])
        | with_reducible refine awp_block_s ?_
        | with_reducible refine awp_block_c ?_
        | with_reducible refine awp_block_r ?_
        | with_reducible refine awp_skip ?_
        | with_reducible apply And.intro
        | (show Program.eqGuardType _ _ _ = false; kernel_rfl)
        | (show numFieldsB _ _ _ = true; kernel_rfl)
        | (show Program.stoodInHeld _ _ = false; kernel_rfl)
        | (show (_ : Nat) = (_ : Nat); rfl)
        | ((with_reducible refine awp_ret ?_); (first | refine ret_tmp (.inr rfl) rfl rfl rfl (fun _ _ => rfl) ?_) <;> first | rfl | (rw [bad (by rw [key]; simp [numb] at *; omega)]; rfl) | skip)
        | ((with_reducible refine awp_ret ?_); refine Or.inr ⟨(by intro h; cases h), ?_⟩; refine ret_tmp (.inr rfl) rfl rfl rfl (fun _ _ => rfl) ?_ <;> first | rfl | (rw [bad (by rw [key]; simp [numb] at *; omega)]; rfl) | skip)
        | (refine call_pure (c_id_sg l[i]) ?_)
        | ((with_reducible refine gsel_case (fun hg => ?_) (fun hg => ?_)) <;> (try simp only [Bool.not_eq_true', Bool.not_eq_false'] at hg) <;> simp (maxSteps := 4000000) only [sx, sy, ne_eq, eq_self, if_true, if_false, Nat.reduceEqDiff, hbT, evBuild, evLit, evMake, tab, isShift, thenA, blockA, reduceCtorEq, reduceIte, Nat.reduceBEq, Int.reduceLE, Int.reduceToNat, Nat.reduceAdd, Nat.reduceLT, Nat.reduceLeDiff, hg, locM hm, List.length_map, hlt, gi, sgA, sgC, splice_all, hd0, hw])
        | ((with_reducible refine awp_exit ?_); simp only [thenA, blockA, if_true, if_false, reduceIte, Nat.reduceEqDiff])
        | (refine hK _ ?_; clear hK K)
        | refine awp_cond_t rfl ?_
        | refine awp_cond_f rfl ?_
        | refine awp_if rfl (fun hg => ?_) (fun hg => ?_)
        | (refine Or.inl ⟨rfl, ?_⟩; refine le_of_all ?_ ?_ rfl rfl rfl rfl <;> simp only [patch, sl, locM hm, List.length_map, hlt, gi, sgA, sgC, splice_all, hd0, hw])
        | clear hK K)
      refine ⟨i + 1, ⟨by omega, fun j hj => next (by rw [key]; simp [numb] at *; omega) j (by simpa using hj)⟩, by omega, ?_⟩
      refine le_move [false] (fun n_ => ?_) (fun n_ => ?_) <;> simp only [patch, sm]
    · have hd0 : decide ((i : Int) > 0) = true := decide_eq_true (by omega)
      have hs1 := subw (n := i) 1 1 rfl (by omega) (by omega)
      have hl1 : i - 1 < l.length := by omega
      have g1 := getD_map sgC l (i - 1) [] hl1
      rw [decide_eq_false h0, Bool.false_or] at key
      repeat' (first
        | with_reducible refine awp_seq_k fun K hK => ?_
        | (with_reducible refine awp_ev tab_ok [] ?_)
        | (with_reducible refine awp_ev_quiet tab_ok follows (by kernel_rfl) ?_)
        | ((first | (with_reducible show evRun _ _ _ _ _ _ _ _) | (with_reducible show contR _ _ _ _ _ _) | (with_reducible show evRunD _ _ _ _ _ _ _ _ _) | (with_reducible show contD _ _ _ _ _ _)); simp (maxSteps := 4000000) only [sx, sy, ne_eq, eq_self, if_true, if_false, Nat.reduceEqDiff, hbT, evBuild, evLit, evMake, tab, isShift, thenA, blockA, reduceCtorEq, reduceIte, Nat.reduceBEq, Int.reduceLE, Int.reduceToNat, Nat.reduceAdd, Nat.reduceLT, Nat.reduceLeDiff, locM hm, List.length_map, hlt, gi, sgA, sgC, splice_all, hd0, hs1, hl1, g1, hw])
        | with_reducible refine awp_block_s ?_
        | with_reducible refine awp_block_c ?_
        | with_reducible refine awp_block_r ?_
        | with_reducible refine awp_skip ?_
        | with_reducible apply And.intro
        | (show Program.eqGuardType _ _ _ = false; kernel_rfl)
        | (show numFieldsB _ _ _ = true; kernel_rfl)
        | (show Program.stoodInHeld _ _ = false; kernel_rfl)
        | (show (_ : Nat) = (_ : Nat); rfl)
        | ((with_reducible refine awp_ret ?_); (first | refine ret_tmp (.inr rfl) rfl rfl rfl (fun _ _ => rfl) ?_) <;> first | rfl | (rw [bad (by rw [key]; simp [numb] at *; omega)]; rfl) | skip)
        | ((with_reducible refine awp_ret ?_); refine Or.inr ⟨(by intro h; cases h), ?_⟩; refine ret_tmp (.inr rfl) rfl rfl rfl (fun _ _ => rfl) ?_ <;> first | rfl | (rw [bad (by rw [key]; simp [numb] at *; omega)]; rfl) | skip)
        | (refine call_pure (c_id_sg l[i]) ?_)
        | (refine call_pure (c_id_sg l[i - 1]) ?_)
        | ((with_reducible refine gsel_case (fun hg => ?_) (fun hg => ?_)) <;> (try simp only [Bool.not_eq_true', Bool.not_eq_false'] at hg) <;> simp (maxSteps := 4000000) only [sx, sy, ne_eq, eq_self, if_true, if_false, Nat.reduceEqDiff, hbT, evBuild, evLit, evMake, tab, isShift, thenA, blockA, reduceCtorEq, reduceIte, Nat.reduceBEq, Int.reduceLE, Int.reduceToNat, Nat.reduceAdd, Nat.reduceLT, Nat.reduceLeDiff, hg, locM hm, List.length_map, hlt, gi, sgA, sgC, splice_all, hd0, hs1, hl1, g1, hw])
        | ((with_reducible refine awp_exit ?_); simp only [thenA, blockA, if_true, if_false, reduceIte, Nat.reduceEqDiff])
        | (refine hK _ ?_; clear hK K)
        | refine awp_cond_t rfl ?_
        | refine awp_cond_f rfl ?_
        | refine awp_if rfl (fun hg => ?_) (fun hg => ?_)
        | (refine Or.inl ⟨rfl, ?_⟩; refine le_of_all ?_ ?_ rfl rfl rfl rfl <;> simp only [patch, sl, locM hm, List.length_map, hlt, gi, sgA, sgC, splice_all, hd0, hs1, hl1, g1, hw])
        | clear hK K)
      refine ⟨i + 1, ⟨by omega, fun j hj => next (by rw [key]; simp [numb] at *; omega) j (by simpa using hj)⟩, by omega, ?_⟩
      refine le_move [false] (fun n_ => ?_) (fun n_ => ?_) <;> simp only [patch, sm]
  · have hall := allP_true (f := rises) (l := l.map (fun x : Int × Int × Int => x.1)) fun j hj => hq j hj (by simp at hj; omega)
    repeat' (first
      | with_reducible refine awp_seq_k fun K hK => ?_
      | (with_reducible refine awp_ev tab_ok [] ?_)
      | (with_reducible refine awp_ev_quiet tab_ok follows (by kernel_rfl) ?_)
      | ((first | (with_reducible show evRun _ _ _ _ _ _ _ _) | (with_reducible show contR _ _ _ _ _ _) | (with_reducible show evRunD _ _ _ _ _ _ _ _ _) | (with_reducible show contD _ _ _ _ _ _)); simp (maxSteps := 4000000) only [sx, sy, ne_eq, eq_self, if_true, if_false, Nat.reduceEqDiff, hbT, evBuild, evLit, evMake, tab, isShift, thenA, blockA, reduceCtorEq, reduceIte, Nat.reduceBEq, Int.reduceLE, Int.reduceToNat, Nat.reduceAdd, Nat.reduceLT, Nat.reduceLeDiff, List.length_map, hlt])
      | with_reducible refine awp_block_s ?_
      | with_reducible refine awp_block_c ?_
      | with_reducible refine awp_block_r ?_
      | with_reducible refine awp_skip ?_
      | with_reducible apply And.intro
      | (show Program.eqGuardType _ _ _ = false; kernel_rfl)
      | (show numFieldsB _ _ _ = true; kernel_rfl)
      | (show Program.stoodInHeld _ _ = false; kernel_rfl)
      | (show (_ : Nat) = (_ : Nat); rfl)
      | ((with_reducible refine awp_ret ?_); (first | refine ret_tmp (.inr rfl) rfl rfl rfl (fun _ _ => rfl) ?_) <;> first | rfl | (rw [hall, Bool.true_and]; rfl) | skip)
      | ((with_reducible refine awp_ret ?_); refine Or.inr ⟨(by intro h; cases h), ?_⟩; refine ret_tmp (.inr rfl) rfl rfl rfl (fun _ _ => rfl) ?_ <;> first | rfl | (rw [hall, Bool.true_and]; rfl) | skip)
      | ((with_reducible refine gsel_case (fun hg => ?_) (fun hg => ?_)) <;> (try simp only [Bool.not_eq_true', Bool.not_eq_false'] at hg) <;> simp (maxSteps := 4000000) only [sx, sy, ne_eq, eq_self, if_true, if_false, Nat.reduceEqDiff, hbT, evBuild, evLit, evMake, tab, isShift, thenA, blockA, reduceCtorEq, reduceIte, Nat.reduceBEq, Int.reduceLE, Int.reduceToNat, Nat.reduceAdd, Nat.reduceLT, Nat.reduceLeDiff, hg, List.length_map, hlt])
      | ((with_reducible refine awp_exit ?_); simp only [thenA, blockA, if_true, if_false, reduceIte, Nat.reduceEqDiff])
      | (refine hK _ ?_; clear hK K)
      | refine awp_cond_t rfl ?_
      | refine awp_cond_f rfl ?_
      | refine awp_if rfl (fun hg => ?_) (fun hg => ?_)
      | (refine Or.inl ⟨rfl, ?_⟩; refine le_of_all ?_ ?_ rfl rfl rfl rfl <;> simp only [patch, sl, List.length_map, hlt])
      | clear hK K)
theorem c_rise_rt (l : List (Rt)) (most : Int) (hl : l.length ≤ 1000000) : ACall Try.prog 70 [.sl 7 (l.map rtC) .sh, i64 most] [] (bool (allP rises (l.map Rt.id) && decide ((l.length : Int) ≤ most))) [] := by
  refine acall_of 1 Try.func70 rfl fun n out _ _ => ?_
  simp only [Try.ntmps70, List.length_cons, List.length_nil, List.length_map, List.length_replicate, rep_map, Nat.reduceAdd, Nat.reduceSub, List.replicate, List.cons_append, List.nil_append]
  repeat' (first
    | with_reducible refine awp_seq_k fun K hK => ?_
    | (with_reducible refine awp_ev tab_ok [] ?_)
    | (with_reducible refine awp_ev_quiet tab_ok follows (by kernel_rfl) ?_)
    | ((first | (with_reducible show evRun _ _ _ _ _ _ _ _) | (with_reducible show contR _ _ _ _ _ _) | (with_reducible show evRunD _ _ _ _ _ _ _ _ _) | (with_reducible show contD _ _ _ _ _ _)); simp (maxSteps := 4000000) only [sx, sy, ne_eq, eq_self, if_true, if_false, Nat.reduceEqDiff, hbT, evBuild, evLit, evMake, tab, isShift, thenA, blockA, reduceCtorEq, reduceIte, Nat.reduceBEq, Int.reduceLE, Int.reduceToNat, Nat.reduceAdd, Nat.reduceLT, Nat.reduceLeDiff])
    | with_reducible refine awp_block_s ?_
    | with_reducible refine awp_block_c ?_
    | with_reducible refine awp_block_r ?_
    | with_reducible refine awp_skip ?_
    | with_reducible apply And.intro
    | (show Program.eqGuardType _ _ _ = false; kernel_rfl)
    | (show numFieldsB _ _ _ = true; kernel_rfl)
    | (show Program.stoodInHeld _ _ = false; kernel_rfl)
    | (show (_ : Nat) = (_ : Nat); rfl)
    | ((with_reducible refine awp_ret ?_); (first | refine ret_tmp (.inr rfl) rfl rfl rfl (fun _ _ => rfl) ?_) <;> first | rfl | rfl | skip)
    | ((with_reducible refine awp_ret ?_); refine Or.inr ⟨(by intro h; cases h), ?_⟩; refine ret_tmp (.inr rfl) rfl rfl rfl (fun _ _ => rfl) ?_ <;> first | rfl | rfl | skip)
    | ((with_reducible refine gsel_case (fun hg => ?_) (fun hg => ?_)) <;> (try simp only [Bool.not_eq_true', Bool.not_eq_false'] at hg) <;> simp (maxSteps := 4000000) only [sx, sy, ne_eq, eq_self, if_true, if_false, Nat.reduceEqDiff, hbT, evBuild, evLit, evMake, tab, isShift, thenA, blockA, reduceCtorEq, reduceIte, Nat.reduceBEq, Int.reduceLE, Int.reduceToNat, Nat.reduceAdd, Nat.reduceLT, Nat.reduceLeDiff, hg])
    | ((with_reducible refine awp_exit ?_); simp only [thenA, blockA, if_true, if_false, reduceIte, Nat.reduceEqDiff])
    | (refine hK _ ?_; clear hK K)
    | refine awp_cond_t rfl ?_
    | refine awp_cond_f rfl ?_
    | refine awp_if rfl (fun hg => ?_) (fun hg => ?_)
    | (refine Or.inl ⟨rfl, ?_⟩; refine le_of_all ?_ ?_ rfl rfl rfl rfl <;> simp only [patch, sl])
    | clear hK K)
  refine awp_block ?_
  refine awp_for_mv (fun m (i : Nat) => [(10, i64 (i : Int)), (4, .top), (5, .top), (6, .top), (7, .top), (11, .top), (12, .top), (13, .top), (14, .top), (15, .top), (16, .top), (17, .top), (18, .top), (19, .top), (20, .top), (21, .top), (22, .top), (23, .top), (24, .top), (25, .top), (26, .top), (27, .top), (28, .top), (29, .top), (30, .top), (31, .top), (32, .top), (33, .top), (34, .top), (35, .top), (36, .top), (37, .top)]) (fun m i => [none]) (fun i => out) (fun i => i ≤ l.length ∧ (∀ j (hj : j < (l.map Rt.id).length), j < i → rises ((l.map Rt.id).take j) (l.map Rt.id)[j] = true)) (fun i => l.length - i) 0 ⟨Nat.zero_le _, by intros; omega⟩ ?_ fun m i hm hi => ?_
  · refine le_of_all ?_ ?_ (by first | rfl | (simp only [List.length_map]; rfl) | simp only [List.length_map]) rfl rfl rfl <;> simp only [patch, sl, List.length_map]
  obtain ⟨hi, hq⟩ := hi
  simp only [patch, s_0, s_s]
  have hw := addw (n := i) 1 1 rfl (by omega)
  by_cases hlt : i < l.length
  · have gi := getD_map rtC l i [] hlt
    have hltm : i < (l.map Rt.id).length := by simpa using hlt
    have key := rises_take hltm hq
    rw [show (l.map Rt.id)[i] = l[i].id by simp, show (l.map Rt.id)[i - 1]'(by omega) = (l[i - 1]'(by omega)).id by simp] at key
    have next : rises ((l.map Rt.id).take i) l[i].id = true → ∀ j (hj : j < (l.map Rt.id).length), j < i + 1 → rises ((l.map Rt.id).take j) (l.map Rt.id)[j] = true := fun h j hj hji => by
      by_cases h' : j = i
      · subst h'; rw [show (l.map Rt.id)[j] = l[j].id by simp]; exact h
      · exact hq j hj (by omega)
    have bad : rises ((l.map Rt.id).take i) l[i].id = false → allP rises (l.map Rt.id) = false := fun h => allP_false hltm (by rw [show (l.map Rt.id)[i] = l[i].id by simp]; exact h)
    by_cases h0 : i = 0
    · have hd0 : decide ((i : Int) > 0) = false := decide_eq_false (by omega)
      rw [decide_eq_true h0, Bool.true_or, Bool.and_true] at key
      repeat' (first
        | with_reducible refine awp_seq_k fun K hK => ?_
        | (with_reducible refine awp_ev tab_ok [] ?_)
        | (with_reducible refine awp_ev_quiet tab_ok follows (by kernel_rfl) ?_)
        | ((first | (with_reducible show evRun _ _ _ _ _ _ _ _) | (with_reducible show contR _ _ _ _ _ _) | (with_reducible show evRunD _ _ _ _ _ _ _ _ _) | (with_reducible show contD _ _ _ _ _ _)); simp (maxSteps := 4000000) only [sx, sy, ne_eq, eq_self, if_true, if_false, Nat.reduceEqDiff, hbT, evBuild, evLit, evMake, tab, isShift, thenA, blockA, reduceCtorEq, reduceIte, Nat.reduceBEq, Int.reduceLE, Int.reduceToNat, Nat.reduceAdd, Nat.reduceLT, Nat.reduceLeDiff, locM hm, List.length_map, hlt, gi, rtA, rtC, splice_all, hd0, hw])
        | with_reducible refine awp_block_s ?_
        | with_reducible refine awp_block_c ?_
        | with_reducible refine awp_block_r ?_
        | with_reducible refine awp_skip ?_
        | with_reducible apply And.intro
        | (show Program.eqGuardType _ _ _ = false; kernel_rfl)
        | (show numFieldsB _ _ _ = true; kernel_rfl)
        | (show Program.stoodInHeld _ _ = false; kernel_rfl)
        | (show (_ : Nat) = (_ : Nat); rfl)
        | ((with_reducible refine awp_ret ?_); (first | refine ret_tmp (.inr rfl) rfl rfl rfl (fun _ _ => rfl) ?_) <;> first | rfl | (rw [bad (by rw [key]; simp [numb] at *; omega)]; rfl) | skip)
        | ((with_reducible refine awp_ret ?_); refine Or.inr ⟨(by intro h; cases h), ?_⟩; refine ret_tmp (.inr rfl) rfl rfl rfl (fun _ _ => rfl) ?_ <;> first | rfl | (rw [bad (by rw [key]; simp [numb] at *; omega)]; rfl) | skip)
        | (refine call_pure (c_id_rt l[i]) ?_)
        | ((with_reducible refine gsel_case (fun hg => ?_) (fun hg => ?_)) <;> (try simp only [Bool.not_eq_true', Bool.not_eq_false'] at hg) <;> simp (maxSteps := 4000000) only [sx, sy, ne_eq, eq_self, if_true, if_false, Nat.reduceEqDiff, hbT, evBuild, evLit, evMake, tab, isShift, thenA, blockA, reduceCtorEq, reduceIte, Nat.reduceBEq, Int.reduceLE, Int.reduceToNat, Nat.reduceAdd, Nat.reduceLT, Nat.reduceLeDiff, hg, locM hm, List.length_map, hlt, gi, rtA, rtC, splice_all, hd0, hw])
        | ((with_reducible refine awp_exit ?_); simp only [thenA, blockA, if_true, if_false, reduceIte, Nat.reduceEqDiff])
        | (refine hK _ ?_; clear hK K)
        | refine awp_cond_t rfl ?_
        | refine awp_cond_f rfl ?_
        | refine awp_if rfl (fun hg => ?_) (fun hg => ?_)
        | (refine Or.inl ⟨rfl, ?_⟩; refine le_of_all ?_ ?_ rfl rfl rfl rfl <;> simp only [patch, sl, locM hm, List.length_map, hlt, gi, rtA, rtC, splice_all, hd0, hw])
        | clear hK K)
      refine ⟨i + 1, ⟨by omega, fun j hj => next (by rw [key]; simp [numb] at *; omega) j (by simpa using hj)⟩, by omega, ?_⟩
      refine le_move [false] (fun n_ => ?_) (fun n_ => ?_) <;> simp only [patch, sm]
    · have hd0 : decide ((i : Int) > 0) = true := decide_eq_true (by omega)
      have hs1 := subw (n := i) 1 1 rfl (by omega) (by omega)
      have hl1 : i - 1 < l.length := by omega
      have g1 := getD_map rtC l (i - 1) [] hl1
      rw [decide_eq_false h0, Bool.false_or] at key
      repeat' (first
        | with_reducible refine awp_seq_k fun K hK => ?_
        | (with_reducible refine awp_ev tab_ok [] ?_)
        | (with_reducible refine awp_ev_quiet tab_ok follows (by kernel_rfl) ?_)
        | ((first | (with_reducible show evRun _ _ _ _ _ _ _ _) | (with_reducible show contR _ _ _ _ _ _) | (with_reducible show evRunD _ _ _ _ _ _ _ _ _) | (with_reducible show contD _ _ _ _ _ _)); simp (maxSteps := 4000000) only [sx, sy, ne_eq, eq_self, if_true, if_false, Nat.reduceEqDiff, hbT, evBuild, evLit, evMake, tab, isShift, thenA, blockA, reduceCtorEq, reduceIte, Nat.reduceBEq, Int.reduceLE, Int.reduceToNat, Nat.reduceAdd, Nat.reduceLT, Nat.reduceLeDiff, locM hm, List.length_map, hlt, gi, rtA, rtC, splice_all, hd0, hs1, hl1, g1, hw])
        | with_reducible refine awp_block_s ?_
        | with_reducible refine awp_block_c ?_
        | with_reducible refine awp_block_r ?_
        | with_reducible refine awp_skip ?_
        | with_reducible apply And.intro
        | (show Program.eqGuardType _ _ _ = false; kernel_rfl)
        | (show numFieldsB _ _ _ = true; kernel_rfl)
        | (show Program.stoodInHeld _ _ = false; kernel_rfl)
        | (show (_ : Nat) = (_ : Nat); rfl)
        | ((with_reducible refine awp_ret ?_); (first | refine ret_tmp (.inr rfl) rfl rfl rfl (fun _ _ => rfl) ?_) <;> first | rfl | (rw [bad (by rw [key]; simp [numb] at *; omega)]; rfl) | skip)
        | ((with_reducible refine awp_ret ?_); refine Or.inr ⟨(by intro h; cases h), ?_⟩; refine ret_tmp (.inr rfl) rfl rfl rfl (fun _ _ => rfl) ?_ <;> first | rfl | (rw [bad (by rw [key]; simp [numb] at *; omega)]; rfl) | skip)
        | (refine call_pure (c_id_rt l[i]) ?_)
        | (refine call_pure (c_id_rt l[i - 1]) ?_)
        | ((with_reducible refine gsel_case (fun hg => ?_) (fun hg => ?_)) <;> (try simp only [Bool.not_eq_true', Bool.not_eq_false'] at hg) <;> simp (maxSteps := 4000000) only [sx, sy, ne_eq, eq_self, if_true, if_false, Nat.reduceEqDiff, hbT, evBuild, evLit, evMake, tab, isShift, thenA, blockA, reduceCtorEq, reduceIte, Nat.reduceBEq, Int.reduceLE, Int.reduceToNat, Nat.reduceAdd, Nat.reduceLT, Nat.reduceLeDiff, hg, locM hm, List.length_map, hlt, gi, rtA, rtC, splice_all, hd0, hs1, hl1, g1, hw])
        | ((with_reducible refine awp_exit ?_); simp only [thenA, blockA, if_true, if_false, reduceIte, Nat.reduceEqDiff])
        | (refine hK _ ?_; clear hK K)
        | refine awp_cond_t rfl ?_
        | refine awp_cond_f rfl ?_
        | refine awp_if rfl (fun hg => ?_) (fun hg => ?_)
        | (refine Or.inl ⟨rfl, ?_⟩; refine le_of_all ?_ ?_ rfl rfl rfl rfl <;> simp only [patch, sl, locM hm, List.length_map, hlt, gi, rtA, rtC, splice_all, hd0, hs1, hl1, g1, hw])
        | clear hK K)
      refine ⟨i + 1, ⟨by omega, fun j hj => next (by rw [key]; simp [numb] at *; omega) j (by simpa using hj)⟩, by omega, ?_⟩
      refine le_move [false] (fun n_ => ?_) (fun n_ => ?_) <;> simp only [patch, sm]
  · have hall := allP_true (f := rises) (l := l.map Rt.id) fun j hj => hq j hj (by simp at hj; omega)
    repeat' (first
      | with_reducible refine awp_seq_k fun K hK => ?_
      | (with_reducible refine awp_ev tab_ok [] ?_)
      | (with_reducible refine awp_ev_quiet tab_ok follows (by kernel_rfl) ?_)
      | ((first | (with_reducible show evRun _ _ _ _ _ _ _ _) | (with_reducible show contR _ _ _ _ _ _) | (with_reducible show evRunD _ _ _ _ _ _ _ _ _) | (with_reducible show contD _ _ _ _ _ _)); simp (maxSteps := 4000000) only [sx, sy, ne_eq, eq_self, if_true, if_false, Nat.reduceEqDiff, hbT, evBuild, evLit, evMake, tab, isShift, thenA, blockA, reduceCtorEq, reduceIte, Nat.reduceBEq, Int.reduceLE, Int.reduceToNat, Nat.reduceAdd, Nat.reduceLT, Nat.reduceLeDiff, List.length_map, hlt])
      | with_reducible refine awp_block_s ?_
      | with_reducible refine awp_block_c ?_
      | with_reducible refine awp_block_r ?_
      | with_reducible refine awp_skip ?_
      | with_reducible apply And.intro
      | (show Program.eqGuardType _ _ _ = false; kernel_rfl)
      | (show numFieldsB _ _ _ = true; kernel_rfl)
      | (show Program.stoodInHeld _ _ = false; kernel_rfl)
      | (show (_ : Nat) = (_ : Nat); rfl)
      | ((with_reducible refine awp_ret ?_); (first | refine ret_tmp (.inr rfl) rfl rfl rfl (fun _ _ => rfl) ?_) <;> first | rfl | (rw [hall, Bool.true_and]; rfl) | skip)
      | ((with_reducible refine awp_ret ?_); refine Or.inr ⟨(by intro h; cases h), ?_⟩; refine ret_tmp (.inr rfl) rfl rfl rfl (fun _ _ => rfl) ?_ <;> first | rfl | (rw [hall, Bool.true_and]; rfl) | skip)
      | ((with_reducible refine gsel_case (fun hg => ?_) (fun hg => ?_)) <;> (try simp only [Bool.not_eq_true', Bool.not_eq_false'] at hg) <;> simp (maxSteps := 4000000) only [sx, sy, ne_eq, eq_self, if_true, if_false, Nat.reduceEqDiff, hbT, evBuild, evLit, evMake, tab, isShift, thenA, blockA, reduceCtorEq, reduceIte, Nat.reduceBEq, Int.reduceLE, Int.reduceToNat, Nat.reduceAdd, Nat.reduceLT, Nat.reduceLeDiff, hg, List.length_map, hlt])
      | ((with_reducible refine awp_exit ?_); simp only [thenA, blockA, if_true, if_false, reduceIte, Nat.reduceEqDiff])
      | (refine hK _ ?_; clear hK K)
      | refine awp_cond_t rfl ?_
      | refine awp_cond_f rfl ?_
      | refine awp_if rfl (fun hg => ?_) (fun hg => ?_)
      | (refine Or.inl ⟨rfl, ?_⟩; refine le_of_all ?_ ?_ rfl rfl rfl rfl <;> simp only [patch, sl, List.length_map, hlt])
      | clear hK K)
end Go.Proofs.Ytdkiciofkifpdaa.Pln
