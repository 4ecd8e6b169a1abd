/-
  The document's answer: sectors read, writes settled, a disk of noughts.
-/
import Derived.Test.YtefkjdkalgemeaaD20
namespace Go.Proofs.Ytefkjdkalgemeaa
set_option linter.unusedVariables false
set_option linter.unusedSimpArgs false
open Go Go.VS Tab
set_option maxHeartbeats 2000000
set_option maxRecDepth 4000

theorem c_rread (d : Dsk) (at' : Int) (h1 : d.sectors.length ≤ 1000) (h2 : d.waits.length ≤ 1000) : ACall Try.prog 25 [dskA d, i64 at'] [] (.tup [bs (readB d at'), i64 (readE d at')]) [] := by
  refine acall_of 1 Try.func25 rfl fun n out _ _ => ?_
  simp only [Try.ntmps25, List.length_cons, List.length_nil, List.length_map, List.length_replicate, rep_map, Nat.reduceAdd, Nat.reduceSub, List.replicate, List.cons_append, List.nil_append]
  refine awp_seq_k fun K hK => awp_ev tab_ok [] ?_
  simp (maxSteps := 4000000) only [sx, bne_self_eq_false, Nat.reduceEqDiff, hbT, evBuild, evLit, evMake, tab, List.nil_append, List.isEmpty_cons, List.isEmpty_nil, decide_true, decide_false, ne_eq, not_false_eq_true, List.drop_zero, List.drop_succ_cons, isShift, thenA, blockA, reduceCtorEq, eq_self, Option.isSome_some, if_true, if_false, reduceIte, List.contains_nil, List.contains_cons, Nat.reduceBEq, beq_self_eq_true, Int.reduceLE, Int.reduceToNat, List.map_cons, List.map_nil, List.length_cons, List.length_nil, List.length_map, List.length_replicate, Nat.reduceAdd, Nat.reduceLT, Nat.reduceLeDiff, List.getElem?_toArray, List.getElem?_cons_zero, List.getElem?_cons_succ, Option.join_some, Option.join_none, dskA, dskC]
  repeat' (first | (with_reducible refine hK _ ?_; clear hK K) | with_reducible apply And.intro)
  refine awp_seq_k fun K hK => awp_ev tab_ok [] ?_
  simp (maxSteps := 4000000) only [sx, bne_self_eq_false, Nat.reduceEqDiff, hbT, evBuild, evLit, evMake, tab, List.nil_append, List.isEmpty_cons, List.isEmpty_nil, decide_true, decide_false, ne_eq, not_false_eq_true, List.drop_zero, List.drop_succ_cons, isShift, thenA, blockA, reduceCtorEq, eq_self, Option.isSome_some, if_true, if_false, reduceIte, List.contains_nil, List.contains_cons, Nat.reduceBEq, beq_self_eq_true, Int.reduceLE, Int.reduceToNat, List.map_cons, List.map_nil, List.length_cons, List.length_nil, List.length_map, List.length_replicate, Nat.reduceAdd, Nat.reduceLT, Nat.reduceLeDiff, List.getElem?_toArray, List.getElem?_cons_zero, List.getElem?_cons_succ, Option.join_some, Option.join_none]
  repeat' (first | (with_reducible refine hK _ ?_; clear hK K) | with_reducible apply And.intro)
  refine call_pure (c_rcheck d h1 h2) ?_
  simp (maxSteps := 4000000) only [sx, bne_self_eq_false, Nat.reduceEqDiff, hbT, evBuild, evLit, evMake, tab, List.nil_append, List.isEmpty_cons, List.isEmpty_nil, decide_true, decide_false, ne_eq, not_false_eq_true, List.drop_zero, List.drop_succ_cons, isShift, thenA, blockA, reduceCtorEq, eq_self, Option.isSome_some, if_true, if_false, reduceIte, List.contains_nil, List.contains_cons, Nat.reduceBEq, beq_self_eq_true, Int.reduceLE, Int.reduceToNat, List.map_cons, List.map_nil, List.length_cons, List.length_nil, List.length_map, List.length_replicate, Nat.reduceAdd, Nat.reduceLT, Nat.reduceLeDiff, List.getElem?_toArray, List.getElem?_cons_zero, List.getElem?_cons_succ, Option.join_some, Option.join_none]
  repeat' (first | (with_reducible refine hK _ ?_; clear hK K) | with_reducible apply And.intro)
  refine awp_seq_to [(6, i64 (readE d at')), (9, .top), (10, .top), (11, .top), (12, .top), (13, .top), (14, .top), (15, .top)] [some (.box 25 [.sl 1 (d.sectors.map secC) .sh, .sl 2 (d.waits.map wrC) .sh])] out (id ?_) ?_
  rotate_left
  · by_cases hm : may d = true
    · have e : readE d at' = if decide (0 ≤ at') && decide (at' < 32) then 0 else 2 := by unfold readE; rw [if_pos hm]
      rw [if_pos hm, e]
      refine awp_seq_k fun K hK => awp_ev tab_ok [] ?_
      simp (maxSteps := 4000000) only [sx, bne_self_eq_false, Nat.reduceEqDiff, hbT, evBuild, evLit, evMake, tab, List.nil_append, List.isEmpty_cons, List.isEmpty_nil, decide_true, decide_false, ne_eq, not_false_eq_true, List.drop_zero, List.drop_succ_cons, isShift, thenA, blockA, reduceCtorEq, eq_self, Option.isSome_some, if_true, if_false, reduceIte, List.contains_nil, List.contains_cons, Nat.reduceBEq, beq_self_eq_true, Int.reduceLE, Int.reduceToNat, List.map_cons, List.map_nil, List.length_cons, List.length_nil, List.length_map, List.length_replicate, Nat.reduceAdd, Nat.reduceLT, Nat.reduceLeDiff, List.getElem?_toArray, List.getElem?_cons_zero, List.getElem?_cons_succ, Option.join_some, Option.join_none, Int.reduceBEq]
      repeat' (first | (with_reducible refine hK _ ?_; clear hK K) | with_reducible apply And.intro)
      refine call_pure (c_rnumber at' 32) ?_
      simp (maxSteps := 4000000) only [sx, bne_self_eq_false, Nat.reduceEqDiff, hbT, evBuild, evLit, evMake, tab, List.nil_append, List.isEmpty_cons, List.isEmpty_nil, decide_true, decide_false, ne_eq, not_false_eq_true, List.drop_zero, List.drop_succ_cons, isShift, thenA, blockA, reduceCtorEq, eq_self, Option.isSome_some, if_true, if_false, reduceIte, List.contains_nil, List.contains_cons, Nat.reduceBEq, beq_self_eq_true, Int.reduceLE, Int.reduceToNat, List.map_cons, List.map_nil, List.length_cons, List.length_nil, List.length_map, List.length_replicate, Nat.reduceAdd, Nat.reduceLT, Nat.reduceLeDiff, List.getElem?_toArray, List.getElem?_cons_zero, List.getElem?_cons_succ, Option.join_some, Option.join_none]
      repeat' (first | (with_reducible refine hK _ ?_; clear hK K) | with_reducible apply And.intro)
      cases hc : (decide (0 ≤ at') && decide (at' < 32)) with
      | true =>
        refine awp_cond_f rfl ?_
        refine awp_skip (.inl ⟨rfl, ?_⟩)
        refine le_of_all ?_ ?_ rfl rfl rfl rfl <;> simp only [Int.cast_ofNat_Int, List.drop_zero, List.drop_succ_cons, List.take_succ_cons, List.take_zero, g_0, g_s, patch, s_0, s_s, leL_cons, leL_nil, le_refl_iff, le_top_iff, le_nil_iff, le_nilo_iff, le_nilf_iff, le_sh_iff, le_slE_iff, le_slEs_iff, leE_refl_iff, leE_cons, leE_nil, leE_app, le_agg_iff, le_tup_iff, le_ref_iff, le_fn_iff, leL_refl_iff, leR_cons, leR_nil, leR_refl_iff, leR_box, leR_vec, true_and, and_true, if_true]
      | false =>
        refine awp_cond_t rfl ?_
        refine awp_ev tab_ok [] ?_
        simp (maxSteps := 4000000) only [sx, bne_self_eq_false, Nat.reduceEqDiff, hbT, evBuild, evLit, evMake, tab, List.nil_append, List.isEmpty_cons, List.isEmpty_nil, decide_true, decide_false, ne_eq, not_false_eq_true, List.drop_zero, List.drop_succ_cons, isShift, thenA, blockA, reduceCtorEq, eq_self, Option.isSome_some, if_true, if_false, reduceIte, List.contains_nil, List.contains_cons, Nat.reduceBEq, beq_self_eq_true, Int.reduceLE, Int.reduceToNat, List.map_cons, List.map_nil, List.length_cons, List.length_nil, List.length_map, List.length_replicate, Nat.reduceAdd, Nat.reduceLT, Nat.reduceLeDiff, List.getElem?_toArray, List.getElem?_cons_zero, List.getElem?_cons_succ, Option.join_some, Option.join_none]
        refine .inl ?_
        refine le_of_all ?_ ?_ rfl rfl rfl rfl <;> simp only [Int.cast_ofNat_Int, List.drop_zero, List.drop_succ_cons, List.take_succ_cons, List.take_zero, g_0, g_s, patch, s_0, s_s, leL_cons, leL_nil, le_refl_iff, le_top_iff, le_nil_iff, le_nilo_iff, le_nilf_iff, le_sh_iff, le_slE_iff, le_slEs_iff, leE_refl_iff, leE_cons, leE_nil, leE_app, le_agg_iff, le_tup_iff, le_ref_iff, le_fn_iff, leL_refl_iff, leR_cons, leR_nil, leR_refl_iff, leR_box, leR_vec, true_and, and_true]
    · have e : readE d at' = 8 := by unfold readE; rw [if_neg hm]
      rw [if_neg hm, e]
      refine awp_seq_k fun K hK => awp_ev tab_ok [] ?_
      simp (maxSteps := 4000000) only [sx, bne_self_eq_false, Nat.reduceEqDiff, hbT, evBuild, evLit, evMake, tab, List.nil_append, List.isEmpty_cons, List.isEmpty_nil, decide_true, decide_false, ne_eq, not_false_eq_true, List.drop_zero, List.drop_succ_cons, isShift, thenA, blockA, reduceCtorEq, eq_self, Option.isSome_some, if_true, if_false, reduceIte, List.contains_nil, List.contains_cons, Nat.reduceBEq, beq_self_eq_true, Int.reduceLE, Int.reduceToNat, List.map_cons, List.map_nil, List.length_cons, List.length_nil, List.length_map, List.length_replicate, Nat.reduceAdd, Nat.reduceLT, Nat.reduceLeDiff, List.getElem?_toArray, List.getElem?_cons_zero, List.getElem?_cons_succ, Option.join_some, Option.join_none, Int.reduceBEq]
      repeat' (first | (with_reducible refine hK _ ?_; clear hK K) | with_reducible apply And.intro)
      refine awp_cond_f rfl ?_
      refine awp_skip (.inl ⟨rfl, ?_⟩)
      refine le_of_all ?_ ?_ rfl rfl rfl rfl <;> simp only [Int.cast_ofNat_Int, List.drop_zero, List.drop_succ_cons, List.take_succ_cons, List.take_zero, g_0, g_s, patch, s_0, s_s, leL_cons, leL_nil, le_refl_iff, le_top_iff, le_nil_iff, le_nilo_iff, le_nilf_iff, le_sh_iff, le_slE_iff, le_slEs_iff, leE_refl_iff, leE_cons, leE_nil, leE_app, le_agg_iff, le_tup_iff, le_ref_iff, le_fn_iff, leL_refl_iff, leR_cons, leR_nil, leR_refl_iff, leR_box, leR_vec, true_and, and_true]
  simp only [patch, s_0, s_s]
  by_cases h0 : readE d at' ≠ 0
  · have e0 : (readE d at' != 0) = true := by simpa using h0
    have e1 : readB d at' = [] := by unfold readB; rw [if_neg h0]
    refine awp_seq_k fun KB hKB => ?_
    refine awp_seq_k fun K hK => awp_ev tab_ok [] ?_
    simp (maxSteps := 4000000) only [sx, bne_self_eq_false, Nat.reduceEqDiff, hbT, evBuild, evLit, evMake, tab, List.nil_append, List.isEmpty_cons, List.isEmpty_nil, decide_true, decide_false, ne_eq, not_false_eq_true, List.drop_zero, List.drop_succ_cons, isShift, thenA, blockA, reduceCtorEq, eq_self, Option.isSome_some, if_true, if_false, reduceIte, List.contains_nil, List.contains_cons, Nat.reduceBEq, beq_self_eq_true, Int.reduceLE, Int.reduceToNat, List.map_cons, List.map_nil, List.length_cons, List.length_nil, List.length_map, List.length_replicate, Nat.reduceAdd, Nat.reduceLT, Nat.reduceLeDiff, List.getElem?_toArray, List.getElem?_cons_zero, List.getElem?_cons_succ, Option.join_some, Option.join_none, e0]
    repeat' (first | (with_reducible refine hK _ ?_; clear hK K) | with_reducible apply And.intro)
    refine awp_cond_t rfl ?_
    refine awp_seq_k fun K hK => awp_ev tab_ok [] ?_
    simp (maxSteps := 4000000) only [sx, bne_self_eq_false, Nat.reduceEqDiff, hbT, evBuild, evLit, evMake, tab, List.nil_append, List.isEmpty_cons, List.isEmpty_nil, decide_true, decide_false, ne_eq, not_false_eq_true, List.drop_zero, List.drop_succ_cons, isShift, thenA, blockA, reduceCtorEq, eq_self, Option.isSome_some, if_true, if_false, reduceIte, List.contains_nil, List.contains_cons, Nat.reduceBEq, beq_self_eq_true, Int.reduceLE, Int.reduceToNat, List.map_cons, List.map_nil, List.length_cons, List.length_nil, List.length_map, List.length_replicate, Nat.reduceAdd, Nat.reduceLT, Nat.reduceLeDiff, List.getElem?_toArray, List.getElem?_cons_zero, List.getElem?_cons_succ, Option.join_some, Option.join_none]
    repeat' (first | (with_reducible refine hK _ ?_; clear hK K) | with_reducible apply And.intro)
    refine awp_ret ?_
    rw [e1]
    exact ret_tmps_le (.inr rfl) rfl rfl rfl (fun _ _ => rfl) rfl rfl ((le_nil_iff _ _).2 trivial) (.rfl _)
  have h0' : readE d at' = 0 := by omega
  have e0 : (readE d at' != 0) = false := by simpa using h0'
  have e1 : readB d at' = (comesS kpAll d d.waits.length).getD at'.toNat [] := by unfold readB; rw [if_pos h0']
  obtain ⟨hm, ha1, ha2⟩ := readE_0.1 h0'
  obtain ⟨z, rfl⟩ : ∃ z : Nat, at' = (z : Int) := ⟨at'.toNat, by omega⟩
  refine awp_seq_k fun KB hKB => ?_
  refine awp_seq_k fun K hK => awp_ev tab_ok [] ?_
  simp (maxSteps := 4000000) only [sx, bne_self_eq_false, Nat.reduceEqDiff, hbT, evBuild, evLit, evMake, tab, List.nil_append, List.isEmpty_cons, List.isEmpty_nil, decide_true, decide_false, ne_eq, not_false_eq_true, List.drop_zero, List.drop_succ_cons, isShift, thenA, blockA, reduceCtorEq, eq_self, Option.isSome_some, if_true, if_false, reduceIte, List.contains_nil, List.contains_cons, Nat.reduceBEq, beq_self_eq_true, Int.reduceLE, Int.reduceToNat, List.map_cons, List.map_nil, List.length_cons, List.length_nil, List.length_map, List.length_replicate, Nat.reduceAdd, Nat.reduceLT, Nat.reduceLeDiff, List.getElem?_toArray, List.getElem?_cons_zero, List.getElem?_cons_succ, Option.join_some, Option.join_none, e0]
  repeat' (first | (with_reducible refine hK _ ?_; clear hK K) | with_reducible apply And.intro)
  refine awp_cond_f rfl (awp_skip (hKB _ ?_))
  clear hKB KB
  refine awp_seq_k fun K hK => awp_ev tab_ok [] ?_
  simp (maxSteps := 4000000) only [sx, bne_self_eq_false, Nat.reduceEqDiff, hbT, evBuild, evLit, evMake, tab, List.nil_append, List.isEmpty_cons, List.isEmpty_nil, decide_true, decide_false, ne_eq, not_false_eq_true, List.drop_zero, List.drop_succ_cons, isShift, thenA, blockA, reduceCtorEq, eq_self, Option.isSome_some, if_true, if_false, reduceIte, List.contains_nil, List.contains_cons, Nat.reduceBEq, beq_self_eq_true, Int.reduceLE, Int.reduceToNat, List.map_cons, List.map_nil, List.length_cons, List.length_nil, List.length_map, List.length_replicate, Nat.reduceAdd, Nat.reduceLT, Nat.reduceLeDiff, List.getElem?_toArray, List.getElem?_cons_zero, List.getElem?_cons_succ, Option.join_some, Option.join_none]
  repeat' (first | (with_reducible refine hK _ ?_; clear hK K) | with_reducible apply And.intro)
  refine call_pure (c_seen d z hm (by omega)) ?_
  simp (maxSteps := 4000000) only [sx, bne_self_eq_false, Nat.reduceEqDiff, hbT, evBuild, evLit, evMake, tab, List.nil_append, List.isEmpty_cons, List.isEmpty_nil, decide_true, decide_false, ne_eq, not_false_eq_true, List.drop_zero, List.drop_succ_cons, isShift, thenA, blockA, reduceCtorEq, eq_self, Option.isSome_some, if_true, if_false, reduceIte, List.contains_nil, List.contains_cons, Nat.reduceBEq, beq_self_eq_true, Int.reduceLE, Int.reduceToNat, List.map_cons, List.map_nil, List.length_cons, List.length_nil, List.length_map, List.length_replicate, Nat.reduceAdd, Nat.reduceLT, Nat.reduceLeDiff, List.getElem?_toArray, List.getElem?_cons_zero, List.getElem?_cons_succ, Option.join_some, Option.join_none]
  repeat' (first | (with_reducible refine hK _ ?_; clear hK K) | with_reducible apply And.intro)
  refine awp_ret ?_
  rw [e1, h0', Int.toNat_natCast]
  exact ret_tmps_le (.inr rfl) rfl rfl rfl (fun _ _ => rfl) rfl rfl (.rfl _) (.rfl _)

theorem c_rsync (d : Dsk) (h1 : d.sectors.length ≤ 1000) (h2 : d.waits.length ≤ 1000) : ACall Try.prog 29 [dskA d] [] (.tup [dskA (syncD d), i64 (if may d then 0 else 8)]) [] := by
  refine acall_of 2 Try.func29 rfl fun n out _ _ => ?_
  simp only [Try.ntmps29, List.length_cons, List.length_nil, List.length_map, List.length_replicate, rep_map, Nat.reduceAdd, Nat.reduceSub, List.replicate, List.cons_append, List.nil_append]
  refine awp_seq_k fun K hK => awp_ev tab_ok [] ?_
  simp (maxSteps := 4000000) only [sx, bne_self_eq_false, Nat.reduceEqDiff, hbT, evBuild, evLit, evMake, tab, List.nil_append, List.isEmpty_cons, List.isEmpty_nil, decide_true, decide_false, ne_eq, not_false_eq_true, List.drop_zero, List.drop_succ_cons, isShift, thenA, blockA, reduceCtorEq, eq_self, Option.isSome_some, if_true, if_false, reduceIte, List.contains_nil, List.contains_cons, Nat.reduceBEq, beq_self_eq_true, Int.reduceLE, Int.reduceToNat, List.map_cons, List.map_nil, List.length_cons, List.length_nil, List.length_map, List.length_replicate, Nat.reduceAdd, Nat.reduceLT, Nat.reduceLeDiff, List.getElem?_toArray, List.getElem?_cons_zero, List.getElem?_cons_succ, Option.join_some, Option.join_none, dskA, dskC]
  repeat' (first | (with_reducible refine hK _ ?_; clear hK K) | with_reducible apply And.intro)
  refine awp_seq_k fun K hK => awp_ev tab_ok [] ?_
  simp (maxSteps := 4000000) only [sx, bne_self_eq_false, Nat.reduceEqDiff, hbT, evBuild, evLit, evMake, tab, List.nil_append, List.isEmpty_cons, List.isEmpty_nil, decide_true, decide_false, ne_eq, not_false_eq_true, List.drop_zero, List.drop_succ_cons, isShift, thenA, blockA, reduceCtorEq, eq_self, Option.isSome_some, if_true, if_false, reduceIte, List.contains_nil, List.contains_cons, Nat.reduceBEq, beq_self_eq_true, Int.reduceLE, Int.reduceToNat, List.map_cons, List.map_nil, List.length_cons, List.length_nil, List.length_map, List.length_replicate, Nat.reduceAdd, Nat.reduceLT, Nat.reduceLeDiff, List.getElem?_toArray, List.getElem?_cons_zero, List.getElem?_cons_succ, Option.join_some, Option.join_none]
  repeat' (first | (with_reducible refine hK _ ?_; clear hK K) | with_reducible apply And.intro)
  refine call_pure (c_rcheck d h1 h2) ?_
  simp (maxSteps := 4000000) only [sx, bne_self_eq_false, Nat.reduceEqDiff, hbT, evBuild, evLit, evMake, tab, List.nil_append, List.isEmpty_cons, List.isEmpty_nil, decide_true, decide_false, ne_eq, not_false_eq_true, List.drop_zero, List.drop_succ_cons, isShift, thenA, blockA, reduceCtorEq, eq_self, Option.isSome_some, if_true, if_false, reduceIte, List.contains_nil, List.contains_cons, Nat.reduceBEq, beq_self_eq_true, Int.reduceLE, Int.reduceToNat, List.map_cons, List.map_nil, List.length_cons, List.length_nil, List.length_map, List.length_replicate, Nat.reduceAdd, Nat.reduceLT, Nat.reduceLeDiff, List.getElem?_toArray, List.getElem?_cons_zero, List.getElem?_cons_succ, Option.join_some, Option.join_none]
  repeat' (first | (with_reducible refine hK _ ?_; clear hK K) | with_reducible apply And.intro)
  refine awp_seq_k fun KB hKB => ?_
  by_cases hm : may d = true
  · have e : syncD d = comes kpAll d := by unfold syncD; rw [hm]; rfl
    refine awp_seq_k fun K hK => awp_ev tab_ok [] ?_
    simp (maxSteps := 4000000) only [sx, bne_self_eq_false, Nat.reduceEqDiff, hbT, evBuild, evLit, evMake, tab, List.nil_append, List.isEmpty_cons, List.isEmpty_nil, decide_true, decide_false, ne_eq, not_false_eq_true, List.drop_zero, List.drop_succ_cons, isShift, thenA, blockA, reduceCtorEq, eq_self, Option.isSome_some, if_true, if_false, reduceIte, List.contains_nil, List.contains_cons, Nat.reduceBEq, beq_self_eq_true, Int.reduceLE, Int.reduceToNat, List.map_cons, List.map_nil, List.length_cons, List.length_nil, List.length_map, List.length_replicate, Nat.reduceAdd, Nat.reduceLT, Nat.reduceLeDiff, List.getElem?_toArray, List.getElem?_cons_zero, List.getElem?_cons_succ, Option.join_some, Option.join_none, if_true, hm, Int.reduceBNe]
    repeat' (first | (with_reducible refine hK _ ?_; clear hK K) | with_reducible apply And.intro)
    refine awp_cond_f rfl (awp_skip (hKB _ ?_))
    clear hKB KB
    refine awp_seq_k fun K hK => awp_ev tab_ok [] ?_
    simp (maxSteps := 4000000) only [sx, bne_self_eq_false, Nat.reduceEqDiff, hbT, evBuild, evLit, evMake, tab, List.nil_append, List.isEmpty_cons, List.isEmpty_nil, decide_true, decide_false, ne_eq, not_false_eq_true, List.drop_zero, List.drop_succ_cons, isShift, thenA, blockA, reduceCtorEq, eq_self, Option.isSome_some, if_true, if_false, reduceIte, List.contains_nil, List.contains_cons, Nat.reduceBEq, beq_self_eq_true, Int.reduceLE, Int.reduceToNat, List.map_cons, List.map_nil, List.length_cons, List.length_nil, List.length_map, List.length_replicate, Nat.reduceAdd, Nat.reduceLT, Nat.reduceLeDiff, List.getElem?_toArray, List.getElem?_cons_zero, List.getElem?_cons_succ, Option.join_some, Option.join_none]
    repeat' (first | (with_reducible refine hK _ ?_; clear hK K) | with_reducible apply And.intro)
    refine call_pure (c_synced d hm) ?_
    simp (maxSteps := 4000000) only [sx, bne_self_eq_false, Nat.reduceEqDiff, hbT, evBuild, evLit, evMake, tab, List.nil_append, List.isEmpty_cons, List.isEmpty_nil, decide_true, decide_false, ne_eq, not_false_eq_true, List.drop_zero, List.drop_succ_cons, isShift, thenA, blockA, reduceCtorEq, eq_self, Option.isSome_some, if_true, if_false, reduceIte, List.contains_nil, List.contains_cons, Nat.reduceBEq, beq_self_eq_true, Int.reduceLE, Int.reduceToNat, List.map_cons, List.map_nil, List.length_cons, List.length_nil, List.length_map, List.length_replicate, Nat.reduceAdd, Nat.reduceLT, Nat.reduceLeDiff, List.getElem?_toArray, List.getElem?_cons_zero, List.getElem?_cons_succ, Option.join_some, Option.join_none, dskA, dskC]
    repeat' (first | (with_reducible refine hK _ ?_; clear hK K) | with_reducible apply And.intro)
    refine awp_ret ?_
    refine ret_ct (.inr rfl) rfl rfl rfl (fun _ _ => rfl) ok25 (k := n + 1) (off := 0) rfl (dom_loc _ (by simp)) (look_loc _ (Nat.le_refl _) 1) rfl rfl ?_
    rw [e, if_pos hm]
    simp only [dskA, dskC, Int.cast_ofNat_Int, List.drop_zero, List.drop_succ_cons, List.take_succ_cons, List.take_zero, g_0, g_s, patch, s_0, s_s, leL_cons, leL_nil, le_refl_iff, le_top_iff, le_nil_iff, le_nilo_iff, le_nilf_iff, le_sh_iff, le_slE_iff, le_slEs_iff, leE_refl_iff, leE_cons, leE_nil, leE_app, le_agg_iff, le_tup_iff, le_ref_iff, le_fn_iff, leL_refl_iff, leR_cons, leR_nil, leR_refl_iff, leR_box, leR_vec, true_and, and_true]
  · have e : syncD d = noDsk := by unfold syncD; rw [if_neg hm]
    refine awp_seq_k fun K hK => awp_ev tab_ok [] ?_
    simp (maxSteps := 4000000) only [sx, bne_self_eq_false, Nat.reduceEqDiff, hbT, evBuild, evLit, evMake, tab, List.nil_append, List.isEmpty_cons, List.isEmpty_nil, decide_true, decide_false, ne_eq, not_false_eq_true, List.drop_zero, List.drop_succ_cons, isShift, thenA, blockA, reduceCtorEq, eq_self, Option.isSome_some, if_true, if_false, reduceIte, List.contains_nil, List.contains_cons, Nat.reduceBEq, beq_self_eq_true, Int.reduceLE, Int.reduceToNat, List.map_cons, List.map_nil, List.length_cons, List.length_nil, List.length_map, List.length_replicate, Nat.reduceAdd, Nat.reduceLT, Nat.reduceLeDiff, List.getElem?_toArray, List.getElem?_cons_zero, List.getElem?_cons_succ, Option.join_some, Option.join_none, if_false, Bool.false_eq_true, Int.reduceBNe, hm]
    repeat' (first | (with_reducible refine hK _ ?_; clear hK K) | with_reducible apply And.intro)
    refine awp_cond_t rfl ?_
    refine awp_seq_k fun K hK => awp_ev tab_ok [] ?_
    simp (maxSteps := 4000000) only [sx, bne_self_eq_false, Nat.reduceEqDiff, hbT, evBuild, evLit, evMake, tab, List.nil_append, List.isEmpty_cons, List.isEmpty_nil, decide_true, decide_false, ne_eq, not_false_eq_true, List.drop_zero, List.drop_succ_cons, isShift, thenA, blockA, reduceCtorEq, eq_self, Option.isSome_some, if_true, if_false, reduceIte, List.contains_nil, List.contains_cons, Nat.reduceBEq, beq_self_eq_true, Int.reduceLE, Int.reduceToNat, List.map_cons, List.map_nil, List.length_cons, List.length_nil, List.length_map, List.length_replicate, Nat.reduceAdd, Nat.reduceLT, Nat.reduceLeDiff, List.getElem?_toArray, List.getElem?_cons_zero, List.getElem?_cons_succ, Option.join_some, Option.join_none]
    repeat' (first | (with_reducible refine hK _ ?_; clear hK K) | with_reducible apply And.intro)
    refine awp_ret ?_
    refine ret_ct (.inr rfl) rfl rfl rfl (fun _ _ => rfl) ok25 (k := n + 1) (off := 0) rfl (dom_loc _ (by simp)) (look_loc _ (Nat.le_refl _) 1) rfl rfl ?_
    rw [e, if_neg hm]
    simp only [dskA, dskC, noDsk, List.map_nil, Int.cast_ofNat_Int, List.drop_zero, List.drop_succ_cons, List.take_succ_cons, List.take_zero, g_0, g_s, patch, s_0, s_s, leL_cons, leL_nil, le_refl_iff, le_top_iff, le_nil_iff, le_nilo_iff, le_nilf_iff, le_sh_iff, le_slE_iff, le_slEs_iff, leE_refl_iff, leE_cons, leE_nil, leE_app, le_agg_iff, le_tup_iff, le_ref_iff, le_fn_iff, leL_refl_iff, leR_cons, leR_nil, leR_refl_iff, leR_box, leR_vec, true_and, and_true]

theorem c_rnew : ACall Try.prog 33 [] [] (dskA newD) [] := by
  refine acall_of 3 Try.func33 rfl fun n out _ _ => ?_
  simp only [Try.ntmps33, List.length_cons, List.length_nil, List.length_map, List.length_replicate, rep_map, Nat.reduceAdd, Nat.reduceSub, List.replicate, List.cons_append, List.nil_append]
  refine awp_seq_k fun K hK => awp_ev tab_ok [] ?_
  simp (maxSteps := 4000000) only [sx, bne_self_eq_false, Nat.reduceEqDiff, hbT, evBuild, evLit, evMake, tab, List.nil_append, List.isEmpty_cons, List.isEmpty_nil, decide_true, decide_false, ne_eq, not_false_eq_true, List.drop_zero, List.drop_succ_cons, isShift, thenA, blockA, reduceCtorEq, eq_self, Option.isSome_some, if_true, if_false, reduceIte, List.contains_nil, List.contains_cons, Nat.reduceBEq, beq_self_eq_true, Int.reduceLE, Int.reduceToNat, List.map_cons, List.map_nil, List.length_cons, List.length_nil, List.length_map, List.length_replicate, Nat.reduceAdd, Nat.reduceLT, Nat.reduceLeDiff, List.getElem?_toArray, List.getElem?_cons_zero, List.getElem?_cons_succ, Option.join_some, Option.join_none]
  repeat' (first | (with_reducible refine hK _ ?_; clear hK K) | with_reducible apply And.intro)
  refine awp_seq_k fun K hK => awp_ev tab_ok [] ?_
  simp (maxSteps := 4000000) only [sx, bne_self_eq_false, Nat.reduceEqDiff, hbT, evBuild, evLit, evMake, tab, List.nil_append, List.isEmpty_cons, List.isEmpty_nil, decide_true, decide_false, ne_eq, not_false_eq_true, List.drop_zero, List.drop_succ_cons, isShift, thenA, blockA, reduceCtorEq, eq_self, Option.isSome_some, if_true, if_false, reduceIte, List.contains_nil, List.contains_cons, Nat.reduceBEq, beq_self_eq_true, Int.reduceLE, Int.reduceToNat, List.map_cons, List.map_nil, List.length_cons, List.length_nil, List.length_map, List.length_replicate, Nat.reduceAdd, Nat.reduceLT, Nat.reduceLeDiff, List.getElem?_toArray, List.getElem?_cons_zero, List.getElem?_cons_succ, Option.join_some, Option.join_none]
  repeat' (first | (with_reducible refine hK _ ?_; clear hK K) | with_reducible apply And.intro)
  refine awp_le (le_row (i := 2) 37 1 rfl) ?_
  simp only [s_0, s_s]
  refine awp_seq_k fun KB hKB => ?_
  refine awp_block ?_
  refine awp_for_g (fun i : Nat => [(2, .top), (3, .top), (4, .top), (5, .top), (6, .top), (7, .top), (8, .top), (9, .top), (10, .top), (11, .top)]) (fun i => [some (.box 25 [.sl 0 [] .nil, .sl 0 [] .nil]), some (.box 25 [.sl 1 ((List.replicate i z128).map secC) (.own (n + 2)), .sl 0 [] .nil]), some (.row 37 1 i)]) (fun i => out) (fun i => i ≤ 32) (fun i => 32 - i) 0 (Nat.zero_le _) ?_ fun i hi => ?_
  · refine le_of_all ?_ ?_ (by first | rfl | (simp only [List.replicate_zero, List.map_nil, List.length_map, List.length_replicate]; rfl) | simp only [List.replicate_zero, List.map_nil, List.length_map, List.length_replicate]) rfl rfl rfl <;> simp only [Int.cast_ofNat_Int, List.drop_zero, List.drop_succ_cons, List.take_succ_cons, List.take_zero, g_0, g_s, patch, s_0, s_s, leL_cons, leL_nil, le_refl_iff, le_top_iff, le_nil_iff, le_nilo_iff, le_nilf_iff, le_sh_iff, le_slE_iff, le_slEs_iff, leE_refl_iff, leE_cons, leE_nil, leE_app, le_agg_iff, le_tup_iff, le_ref_iff, le_fn_iff, leL_refl_iff, leR_cons, leR_nil, leR_refl_iff, leR_box, leR_vec, true_and, and_true, List.replicate_zero, List.map_nil, List.length_map, List.length_replicate]
  simp only [patch, s_0, s_s]
  refine awp_seq_k fun KC hKC => ?_
  refine awp_seq_k fun K hK => awp_ev tab_ok [] ?_
  simp (maxSteps := 4000000) only [sx, bne_self_eq_false, Nat.reduceEqDiff, hbT, evBuild, evLit, evMake, tab, List.nil_append, List.isEmpty_cons, List.isEmpty_nil, decide_true, decide_false, ne_eq, not_false_eq_true, List.drop_zero, List.drop_succ_cons, isShift, thenA, blockA, reduceCtorEq, eq_self, Option.isSome_some, if_true, if_false, reduceIte, List.contains_nil, List.contains_cons, Nat.reduceBEq, beq_self_eq_true, Int.reduceLE, Int.reduceToNat, List.map_cons, List.map_nil, List.length_cons, List.length_nil, List.length_map, List.length_replicate, Nat.reduceAdd, Nat.reduceLT, Nat.reduceLeDiff, List.getElem?_toArray, List.getElem?_cons_zero, List.getElem?_cons_succ, Option.join_some, Option.join_none, List.replicate_zero, List.map_nil, List.length_map, List.length_replicate]
  repeat' (first | (with_reducible refine hK _ ?_; clear hK K) | with_reducible apply And.intro)
  refine awp_if rfl (fun ht => awp_skip (hKC _ ?_)) (fun hf => awp_exit (id ?_))
  rotate_left
  · simp only [thenA, blockA, if_true]
    refine hKB _ ?_
    clear hKB KB hKC KC
    have hi32 : i = 32 := by have := of_decide_eq_false hf; omega
    subst hi32
    refine awp_seq_k fun K hK => awp_ev tab_ok [] ?_
    simp (maxSteps := 4000000) only [sx, bne_self_eq_false, Nat.reduceEqDiff, hbT, evBuild, evLit, evMake, tab, List.nil_append, List.isEmpty_cons, List.isEmpty_nil, decide_true, decide_false, ne_eq, not_false_eq_true, List.drop_zero, List.drop_succ_cons, isShift, thenA, blockA, reduceCtorEq, eq_self, Option.isSome_some, if_true, if_false, reduceIte, List.contains_nil, List.contains_cons, Nat.reduceBEq, beq_self_eq_true, Int.reduceLE, Int.reduceToNat, List.map_cons, List.map_nil, List.length_cons, List.length_nil, List.length_map, List.length_replicate, Nat.reduceAdd, Nat.reduceLT, Nat.reduceLeDiff, List.getElem?_toArray, List.getElem?_cons_zero, List.getElem?_cons_succ, Option.join_some, Option.join_none]
    repeat' (first | (with_reducible refine hK _ ?_; clear hK K) | with_reducible apply And.intro)
    refine awp_ret ?_
    exact ret_cell_le (.inr rfl) rfl rfl rfl (fun _ _ => rfl) ok25 (k := n + 0) (off := 0) rfl (dom_loc _ (by simp)) (look_loc _ (Nat.le_refl _) 0) rfl (by simp only [dskA, dskC, newD, List.map_nil, Int.cast_ofNat_Int, List.drop_zero, List.drop_succ_cons, List.take_succ_cons, List.take_zero, g_0, g_s, patch, s_0, s_s, leL_cons, leL_nil, le_refl_iff, le_top_iff, le_nil_iff, le_nilo_iff, le_nilf_iff, le_sh_iff, le_slE_iff, le_slEs_iff, leE_refl_iff, leE_cons, leE_nil, leE_app, le_agg_iff, le_tup_iff, le_ref_iff, le_fn_iff, leL_refl_iff, leR_cons, leR_nil, leR_refl_iff, leR_box, leR_vec, true_and, and_true])
  clear hKC KC
  have hlt : i < 32 := by have := of_decide_eq_true ht; omega
  refine awp_block ?_
  have lit : ∀ (σ : AState) (K : AV → List (Nat × Res) → Prop), evLit tab σ K none 22 1 [(0, .sl 1 (bytesAV z128) .full)] = K (.sl 1 [[.sl 1 (bytesAV z128) .full]] .full) [] := fun σ K => evLit_one (T := tab) (ti := ti22) (te := ti37) rfl rfl rfl (by decide) (by decide) rfl rfl
  refine awp_ev_draw tab_ok [] [[], [1], [], [], [2], [], [1]] [[], [], [], [], [2], [], [1]] follows (by kernel_rfl) (by decide) (by decide) (by kernel_rfl) ?_
  simp (maxSteps := 4000000) only [sx, bne_self_eq_false, Nat.reduceEqDiff, hbT, evBuild, tab, List.nil_append, List.isEmpty_cons, List.isEmpty_nil, decide_true, decide_false, ne_eq, not_false_eq_true, List.drop_zero, List.drop_succ_cons, isShift, thenA, blockA, reduceCtorEq, eq_self, Option.isSome_some, if_true, if_false, reduceIte, List.contains_nil, List.contains_cons, Nat.reduceBEq, beq_self_eq_true, Int.reduceLE, Int.reduceToNat, List.map_cons, List.map_nil, List.length_cons, List.length_nil, List.length_map, List.length_replicate, Nat.reduceAdd, Nat.reduceLT, Nat.reduceLeDiff, List.getElem?_toArray, List.getElem?_cons_zero, List.getElem?_cons_succ, Option.join_some, Option.join_none, mk128, lit, List.length_map, List.length_replicate, show i + 1 ≤ 9223372036854775807 by omega]
  repeat refine And.intro (by omega) ?_
  refine ⟨i + 1, by omega, by omega, ?_⟩
  rw [List.replicate_succ', List.map_append]
  refine le_of_all ?_ ?_ rfl rfl rfl rfl <;> simp only [Int.cast_ofNat_Int, List.drop_zero, List.drop_succ_cons, List.take_succ_cons, List.take_zero, g_0, g_s, patch, s_0, s_s, leL_cons, leL_nil, le_refl_iff, le_top_iff, le_nil_iff, le_nilo_iff, le_nilf_iff, le_sh_iff, le_slE_iff, le_slEs_iff, leE_refl_iff, leE_cons, leE_nil, leE_app, le_agg_iff, le_tup_iff, le_ref_iff, le_fn_iff, leL_refl_iff, leR_cons, leR_nil, leR_refl_iff, leR_box, leR_vec, true_and, and_true, secC, List.map_cons, List.map_nil]
end Go.Proofs.Ytefkjdkalgemeaa
