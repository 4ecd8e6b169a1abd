/-
  The document's answer: a write.
-/
import Derived.Test.YtefkjdkalgemeaaD22
namespace Go.Proofs.Ytefkjdkalgemeaa
set_option linter.unusedVariables false
set_option linter.unusedSimpArgs false
open Go Go.VS Tab
set_option maxHeartbeats 2000000
set_option maxRecDepth 4000

theorem c_rwith (d : Dsk) (at' : Int) (b : List UInt8) (hd : Small d) (hb : b.length ≤ 1000000) : ACall Try.prog 66 [dskA d, i64 at', bs b] [] (dskA (wrote d at' b)) [] := by
  have h2 := hd.w
  refine acall_of 4 Try.func66 rfl fun n out _ _ => ?_
  simp only [Try.ntmps66, List.length_cons, List.length_nil, List.length_map, List.length_replicate, rep_map, Nat.reduceAdd, Nat.reduceSub, List.replicate, List.cons_append, List.nil_append]
  refine awp_seq_k fun K hK => awp_ev tab_ok [] ?_
  simp (maxSteps := 4000000) only [sx, bne_self_eq_false, Nat.reduceEqDiff, hbT, evBuild, evLit, evMake, tab, List.nil_append, List.isEmpty_cons, List.isEmpty_nil, decide_true, decide_false, ne_eq, not_false_eq_true, List.drop_zero, List.drop_succ_cons, isShift, thenA, blockA, reduceCtorEq, eq_self, Option.isSome_some, if_true, if_false, reduceIte, List.contains_nil, List.contains_cons, Nat.reduceBEq, beq_self_eq_true, Int.reduceLE, Int.reduceToNat, List.map_cons, List.map_nil, List.length_cons, List.length_nil, List.length_map, List.length_replicate, Nat.reduceAdd, Nat.reduceLT, Nat.reduceLeDiff, List.getElem?_toArray, List.getElem?_cons_zero, List.getElem?_cons_succ, Option.join_some, Option.join_none, dskA, dskC]
  repeat' (first | (with_reducible refine hK _ ?_; clear hK K) | with_reducible apply And.intro)
  refine awp_seq_k fun K hK => awp_ev tab_ok [] ?_
  simp (maxSteps := 4000000) only [sx, bne_self_eq_false, Nat.reduceEqDiff, hbT, evBuild, evLit, evMake, tab, List.nil_append, List.isEmpty_cons, List.isEmpty_nil, decide_true, decide_false, ne_eq, not_false_eq_true, List.drop_zero, List.drop_succ_cons, isShift, thenA, blockA, reduceCtorEq, eq_self, Option.isSome_some, if_true, if_false, reduceIte, List.contains_nil, List.contains_cons, Nat.reduceBEq, beq_self_eq_true, Int.reduceLE, Int.reduceToNat, List.map_cons, List.map_nil, List.length_cons, List.length_nil, List.length_map, List.length_replicate, Nat.reduceAdd, Nat.reduceLT, Nat.reduceLeDiff, List.getElem?_toArray, List.getElem?_cons_zero, List.getElem?_cons_succ, Option.join_some, Option.join_none]
  repeat' (first | (with_reducible refine hK _ ?_; clear hK K) | with_reducible apply And.intro)
  refine call_one (c_rtwin (n + 3) d hd) (look_loc _ (Nat.le_refl _) 3) (dom_loc _ (by simp)) (by simp) ?_
  simp (maxSteps := 4000000) only [sx, bne_self_eq_false, Nat.reduceEqDiff, hbT, evBuild, evLit, evMake, tab, List.nil_append, List.isEmpty_cons, List.isEmpty_nil, decide_true, decide_false, ne_eq, not_false_eq_true, List.drop_zero, List.drop_succ_cons, isShift, thenA, blockA, reduceCtorEq, eq_self, Option.isSome_some, if_true, if_false, reduceIte, List.contains_nil, List.contains_cons, Nat.reduceBEq, beq_self_eq_true, Int.reduceLE, Int.reduceToNat, List.map_cons, List.map_nil, List.length_cons, List.length_nil, List.length_map, List.length_replicate, Nat.reduceAdd, Nat.reduceLT, Nat.reduceLeDiff, List.getElem?_toArray, List.getElem?_cons_zero, List.getElem?_cons_succ, Option.join_some, Option.join_none]
  repeat' (first | (with_reducible refine hK _ ?_; clear hK K) | with_reducible apply And.intro)
  have lit : ∀ (σ : AState) (K : AV → List (Nat × Res) → Prop), evLit tab σ K none 23 1 [(0, .agg [i64 at', bs b])] = K (.sl 2 [wrC ⟨at', b⟩] .full) [] := fun σ K => evLit_one (T := tab) (ti := ti23) (te := ti52) rfl rfl rfl (by decide) (by decide) rfl rfl
  refine awp_seq_k fun K hK => awp_ev_draw tab_ok [] [[], [2], [], [], [], [], [], [3], [], [2]] [[], [], [], [], [], [], [], [3], [], [2]] follows (by kernel_rfl) (by decide) (by decide) (by kernel_rfl) ?_
  simp (maxSteps := 4000000) only [sx, bne_self_eq_false, Nat.reduceEqDiff, hbT, evBuild, evMake, tab, List.nil_append, List.isEmpty_cons, List.isEmpty_nil, decide_true, decide_false, ne_eq, not_false_eq_true, List.drop_zero, List.drop_succ_cons, isShift, thenA, blockA, reduceCtorEq, eq_self, Option.isSome_some, if_true, if_false, reduceIte, List.contains_nil, List.contains_cons, Nat.reduceBEq, beq_self_eq_true, Int.reduceLE, Int.reduceToNat, List.map_cons, List.map_nil, List.length_cons, List.length_nil, List.length_map, List.length_replicate, Nat.reduceAdd, Nat.reduceLT, Nat.reduceLeDiff, List.getElem?_toArray, List.getElem?_cons_zero, List.getElem?_cons_succ, Option.join_some, Option.join_none, bytes_length, show b.length ≤ 140737488355328 by omega, show b.length ≤ 9223372036854775807 by omega, lit, List.length_map, show d.waits.length + 1 ≤ 9223372036854775807 by omega]
  repeat' (first | (with_reducible refine hK _ ?_; clear hK K) | with_reducible apply And.intro)
  · omega
  refine awp_seq_k fun K hK => awp_ev tab_ok [] ?_
  simp (maxSteps := 4000000) only [sx, bne_self_eq_false, Nat.reduceEqDiff, hbT, evBuild, evLit, evMake, tab, List.nil_append, List.isEmpty_cons, List.isEmpty_nil, decide_true, decide_false, ne_eq, not_false_eq_true, List.drop_zero, List.drop_succ_cons, isShift, thenA, blockA, reduceCtorEq, eq_self, Option.isSome_some, if_true, if_false, reduceIte, List.contains_nil, List.contains_cons, Nat.reduceBEq, beq_self_eq_true, Int.reduceLE, Int.reduceToNat, List.map_cons, List.map_nil, List.length_cons, List.length_nil, List.length_map, List.length_replicate, Nat.reduceAdd, Nat.reduceLT, Nat.reduceLeDiff, List.getElem?_toArray, List.getElem?_cons_zero, List.getElem?_cons_succ, Option.join_some, Option.join_none]
  repeat' (first | (with_reducible refine hK _ ?_; clear hK K) | with_reducible apply And.intro)
  refine awp_ret ?_
  exact ret_cell_le (.inr rfl) rfl rfl rfl (fun _ _ => rfl) ok25 (k := n + 1) (off := 0) rfl (dom_loc _ (by simp)) (look_loc _ (Nat.le_refl _) 1) rfl (by simp only [dskA, dskC, wrote, List.map_append, List.map_cons, List.map_nil, Int.cast_ofNat_Int, List.drop_zero, List.drop_succ_cons, List.take_succ_cons, List.take_zero, g_0, g_s, patch, s_0, s_s, leL_cons, leL_nil, le_refl_iff, le_top_iff, le_nil_iff, le_nilo_iff, le_nilf_iff, le_sh_iff, le_slE_iff, le_slEs_iff, leE_refl_iff, leE_cons, leE_nil, leE_app, le_agg_iff, le_tup_iff, le_ref_iff, le_fn_iff, leL_refl_iff, leR_cons, leR_nil, leR_refl_iff, leR_box, leR_vec, true_and, and_true])

theorem c_rwrite (d : Dsk) (at' : Int) (b : List UInt8) (hd : Small d) (hb : b.length ≤ 1000000) : ACall Try.prog 27 [dskA d, i64 at', bs b] [] (.tup [dskA (writeD d at' b), i64 (writeE d at' b)]) [] := by
  have h2 := hd.w
  obtain ⟨e1, he1⟩ : ∃ e1 : Int, e1 = if may d then (if d.waits.length = 256 then 9 else 0) else 8 := ⟨_, rfl⟩
  obtain ⟨e2, he2⟩ : ∃ e2 : Int, e2 = if may d then (if b.length = 128 then e1 else 3) else 8 := ⟨_, rfl⟩
  have he3 : writeE d at' b = if may d then (if decide (0 ≤ at') && decide (at' < 32) then e2 else 2) else 8 := by
    rw [he2, he1]; unfold writeE
    cases may d <;> simp
  refine acall_of 2 Try.func27 rfl fun n out _ _ => ?_
  simp only [Try.ntmps27, List.length_cons, List.length_nil, List.length_map, List.length_replicate, rep_map, Nat.reduceAdd, Nat.reduceSub, List.replicate, List.cons_append, List.nil_append]
  refine awp_seq_k fun K hK => awp_ev tab_ok [] ?_
  simp (maxSteps := 4000000) only [sx, bne_self_eq_false, Nat.reduceEqDiff, hbT, evBuild, evLit, evMake, tab, List.nil_append, List.isEmpty_cons, List.isEmpty_nil, decide_true, decide_false, ne_eq, not_false_eq_true, List.drop_zero, List.drop_succ_cons, isShift, thenA, blockA, reduceCtorEq, eq_self, Option.isSome_some, if_true, if_false, reduceIte, List.contains_nil, List.contains_cons, Nat.reduceBEq, beq_self_eq_true, Int.reduceLE, Int.reduceToNat, List.map_cons, List.map_nil, List.length_cons, List.length_nil, List.length_map, List.length_replicate, Nat.reduceAdd, Nat.reduceLT, Nat.reduceLeDiff, List.getElem?_toArray, List.getElem?_cons_zero, List.getElem?_cons_succ, Option.join_some, Option.join_none, dskA, dskC]
  repeat' (first | (with_reducible refine hK _ ?_; clear hK K) | with_reducible apply And.intro)
  refine awp_seq_k fun K hK => awp_ev tab_ok [] ?_
  simp (maxSteps := 4000000) only [sx, bne_self_eq_false, Nat.reduceEqDiff, hbT, evBuild, evLit, evMake, tab, List.nil_append, List.isEmpty_cons, List.isEmpty_nil, decide_true, decide_false, ne_eq, not_false_eq_true, List.drop_zero, List.drop_succ_cons, isShift, thenA, blockA, reduceCtorEq, eq_self, Option.isSome_some, if_true, if_false, reduceIte, List.contains_nil, List.contains_cons, Nat.reduceBEq, beq_self_eq_true, Int.reduceLE, Int.reduceToNat, List.map_cons, List.map_nil, List.length_cons, List.length_nil, List.length_map, List.length_replicate, Nat.reduceAdd, Nat.reduceLT, Nat.reduceLeDiff, List.getElem?_toArray, List.getElem?_cons_zero, List.getElem?_cons_succ, Option.join_some, Option.join_none]
  repeat' (first | (with_reducible refine hK _ ?_; clear hK K) | with_reducible apply And.intro)
  refine call_pure (c_rcheck d hd.s hd.w) ?_
  simp (maxSteps := 4000000) only [sx, bne_self_eq_false, Nat.reduceEqDiff, hbT, evBuild, evLit, evMake, tab, List.nil_append, List.isEmpty_cons, List.isEmpty_nil, decide_true, decide_false, ne_eq, not_false_eq_true, List.drop_zero, List.drop_succ_cons, isShift, thenA, blockA, reduceCtorEq, eq_self, Option.isSome_some, if_true, if_false, reduceIte, List.contains_nil, List.contains_cons, Nat.reduceBEq, beq_self_eq_true, Int.reduceLE, Int.reduceToNat, List.map_cons, List.map_nil, List.length_cons, List.length_nil, List.length_map, List.length_replicate, Nat.reduceAdd, Nat.reduceLT, Nat.reduceLeDiff, List.getElem?_toArray, List.getElem?_cons_zero, List.getElem?_cons_succ, Option.join_some, Option.join_none]
  repeat' (first | (with_reducible refine hK _ ?_; clear hK K) | with_reducible apply And.intro)
  refine awp_seq_to [(8, i64 e1), (11, .top), (12, .top), (13, .top), (14, .top), (15, .top), (16, .top), (17, .top), (18, .top)] [some (.box 25 [.sl 1 (d.sectors.map secC) .sh, .sl 2 (d.waits.map wrC) .sh]), some (.box 25 [.sl 0 [] .nil, .sl 0 [] .nil])] out (id ?_) ?_
  rotate_left
  · by_cases hm : may d = true
    · rw [if_pos hm] at he1
      rw [if_pos hm]
      have hw := ((may_iff d).1 hm).2.1
      by_cases h256 : d.waits.length = 256
      · rw [if_pos h256] at he1
        have g : decide ((d.waits.length : Int) ≥ 256) = true := decide_eq_true (by omega)
        refine awp_seq_k fun K hK => awp_ev tab_ok [] ?_
        simp (maxSteps := 4000000) only [sx, bne_self_eq_false, Nat.reduceEqDiff, hbT, evBuild, evLit, evMake, tab, List.nil_append, List.isEmpty_cons, List.isEmpty_nil, decide_true, decide_false, ne_eq, not_false_eq_true, List.drop_zero, List.drop_succ_cons, isShift, thenA, blockA, reduceCtorEq, eq_self, Option.isSome_some, if_true, if_false, reduceIte, List.contains_nil, List.contains_cons, Nat.reduceBEq, beq_self_eq_true, Int.reduceLE, Int.reduceToNat, List.map_cons, List.map_nil, List.length_cons, List.length_nil, List.length_map, List.length_replicate, Nat.reduceAdd, Nat.reduceLT, Nat.reduceLeDiff, List.getElem?_toArray, List.getElem?_cons_zero, List.getElem?_cons_succ, Option.join_some, Option.join_none, Int.reduceBEq, List.length_map, g]
        repeat' (first | (with_reducible refine hK _ ?_; clear hK K) | with_reducible apply And.intro)
        refine awp_cond_t rfl ?_
        rw [he1]
        refine awp_ev tab_ok [] ?_
        simp (maxSteps := 4000000) only [sx, bne_self_eq_false, Nat.reduceEqDiff, hbT, evBuild, evLit, evMake, tab, List.nil_append, List.isEmpty_cons, List.isEmpty_nil, decide_true, decide_false, ne_eq, not_false_eq_true, List.drop_zero, List.drop_succ_cons, isShift, thenA, blockA, reduceCtorEq, eq_self, Option.isSome_some, if_true, if_false, reduceIte, List.contains_nil, List.contains_cons, Nat.reduceBEq, beq_self_eq_true, Int.reduceLE, Int.reduceToNat, List.map_cons, List.map_nil, List.length_cons, List.length_nil, List.length_map, List.length_replicate, Nat.reduceAdd, Nat.reduceLT, Nat.reduceLeDiff, List.getElem?_toArray, List.getElem?_cons_zero, List.getElem?_cons_succ, Option.join_some, Option.join_none]
        refine .inl ?_
        refine le_of_all ?_ ?_ rfl rfl rfl rfl <;> simp only [Int.cast_ofNat_Int, List.drop_zero, List.drop_succ_cons, List.take_succ_cons, List.take_zero, g_0, g_s, patch, s_0, s_s, leL_cons, leL_nil, le_refl_iff, le_top_iff, le_nil_iff, le_nilo_iff, le_nilf_iff, le_sh_iff, le_slE_iff, le_slEs_iff, leE_refl_iff, leE_cons, leE_nil, leE_app, le_agg_iff, le_tup_iff, le_ref_iff, le_fn_iff, leL_refl_iff, leR_cons, leR_nil, leR_refl_iff, leR_box, leR_vec, true_and, and_true]
      · rw [if_neg h256] at he1
        have g : decide ((d.waits.length : Int) ≥ 256) = false := decide_eq_false (by omega)
        refine awp_seq_k fun K hK => awp_ev tab_ok [] ?_
        simp (maxSteps := 4000000) only [sx, bne_self_eq_false, Nat.reduceEqDiff, hbT, evBuild, evLit, evMake, tab, List.nil_append, List.isEmpty_cons, List.isEmpty_nil, decide_true, decide_false, ne_eq, not_false_eq_true, List.drop_zero, List.drop_succ_cons, isShift, thenA, blockA, reduceCtorEq, eq_self, Option.isSome_some, if_true, if_false, reduceIte, List.contains_nil, List.contains_cons, Nat.reduceBEq, beq_self_eq_true, Int.reduceLE, Int.reduceToNat, List.map_cons, List.map_nil, List.length_cons, List.length_nil, List.length_map, List.length_replicate, Nat.reduceAdd, Nat.reduceLT, Nat.reduceLeDiff, List.getElem?_toArray, List.getElem?_cons_zero, List.getElem?_cons_succ, Option.join_some, Option.join_none, Int.reduceBEq, List.length_map, g]
        repeat' (first | (with_reducible refine hK _ ?_; clear hK K) | with_reducible apply And.intro)
        refine awp_cond_f rfl ?_
        rw [he1]
        refine awp_skip (.inl ⟨rfl, ?_⟩)
        refine le_of_all ?_ ?_ rfl rfl rfl rfl <;> simp only [Int.cast_ofNat_Int, List.drop_zero, List.drop_succ_cons, List.take_succ_cons, List.take_zero, g_0, g_s, patch, s_0, s_s, leL_cons, leL_nil, le_refl_iff, le_top_iff, le_nil_iff, le_nilo_iff, le_nilf_iff, le_sh_iff, le_slE_iff, le_slEs_iff, leE_refl_iff, leE_cons, leE_nil, leE_app, le_agg_iff, le_tup_iff, le_ref_iff, le_fn_iff, leL_refl_iff, leR_cons, leR_nil, leR_refl_iff, leR_box, leR_vec, true_and, and_true]
    · rw [if_neg hm] at he1
      rw [if_neg hm]
      refine awp_seq_k fun K hK => awp_ev tab_ok [] ?_
      simp (maxSteps := 4000000) only [sx, bne_self_eq_false, Nat.reduceEqDiff, hbT, evBuild, evLit, evMake, tab, List.nil_append, List.isEmpty_cons, List.isEmpty_nil, decide_true, decide_false, ne_eq, not_false_eq_true, List.drop_zero, List.drop_succ_cons, isShift, thenA, blockA, reduceCtorEq, eq_self, Option.isSome_some, if_true, if_false, reduceIte, List.contains_nil, List.contains_cons, Nat.reduceBEq, beq_self_eq_true, Int.reduceLE, Int.reduceToNat, List.map_cons, List.map_nil, List.length_cons, List.length_nil, List.length_map, List.length_replicate, Nat.reduceAdd, Nat.reduceLT, Nat.reduceLeDiff, List.getElem?_toArray, List.getElem?_cons_zero, List.getElem?_cons_succ, Option.join_some, Option.join_none, Int.reduceBEq]
      repeat' (first | (with_reducible refine hK _ ?_; clear hK K) | with_reducible apply And.intro)
      refine awp_cond_f rfl ?_
      rw [he1]
      refine awp_skip (.inl ⟨rfl, ?_⟩)
      refine le_of_all ?_ ?_ rfl rfl rfl rfl <;> simp only [Int.cast_ofNat_Int, List.drop_zero, List.drop_succ_cons, List.take_succ_cons, List.take_zero, g_0, g_s, patch, s_0, s_s, leL_cons, leL_nil, le_refl_iff, le_top_iff, le_nil_iff, le_nilo_iff, le_nilf_iff, le_sh_iff, le_slE_iff, le_slEs_iff, leE_refl_iff, leE_cons, leE_nil, leE_app, le_agg_iff, le_tup_iff, le_ref_iff, le_fn_iff, leL_refl_iff, leR_cons, leR_nil, leR_refl_iff, leR_box, leR_vec, true_and, and_true]
  simp only [patch, s_0, s_s]
  refine awp_seq_to [(8, i64 e2), (19, .top), (20, .top), (21, .top), (22, .top), (23, .top), (24, .top), (25, .top), (26, .top), (27, .top), (28, .top), (29, .top)] [some (.box 25 [.sl 1 (d.sectors.map secC) .sh, .sl 2 (d.waits.map wrC) .sh]), some (.box 25 [.sl 0 [] .nil, .sl 0 [] .nil])] out (id ?_) ?_
  rotate_left
  · by_cases hm : may d = true
    · rw [if_pos hm] at he2 he1
      by_cases h256 : d.waits.length = 256
      · rw [if_pos h256] at he1
        subst he1
        by_cases hl : b.length = 128
        · rw [if_pos hl] at he2
          have g : ((b.length : Int) != 128) = false := by simp; omega
          refine awp_seq_k fun K hK => awp_ev tab_ok [] ?_
          simp (maxSteps := 4000000) only [sx, bne_self_eq_false, Nat.reduceEqDiff, hbT, evBuild, evLit, evMake, tab, List.nil_append, List.isEmpty_cons, List.isEmpty_nil, decide_true, decide_false, ne_eq, not_false_eq_true, List.drop_zero, List.drop_succ_cons, isShift, thenA, blockA, reduceCtorEq, eq_self, Option.isSome_some, if_true, if_false, reduceIte, List.contains_nil, List.contains_cons, Nat.reduceBEq, beq_self_eq_true, Int.reduceLE, Int.reduceToNat, List.map_cons, List.map_nil, List.length_cons, List.length_nil, List.length_map, List.length_replicate, Nat.reduceAdd, Nat.reduceLT, Nat.reduceLeDiff, List.getElem?_toArray, List.getElem?_cons_zero, List.getElem?_cons_succ, Option.join_some, Option.join_none, Int.reduceBEq, bytes_length, g]
          repeat' (first | (with_reducible refine hK _ ?_; clear hK K) | with_reducible apply And.intro)
          refine awp_cond_f rfl ?_
          rw [he2]
          refine awp_skip (.inl ⟨rfl, ?_⟩)
          refine le_of_all ?_ ?_ rfl rfl rfl rfl <;> simp only [Int.cast_ofNat_Int, List.drop_zero, List.drop_succ_cons, List.take_succ_cons, List.take_zero, g_0, g_s, patch, s_0, s_s, leL_cons, leL_nil, le_refl_iff, le_top_iff, le_nil_iff, le_nilo_iff, le_nilf_iff, le_sh_iff, le_slE_iff, le_slEs_iff, leE_refl_iff, leE_cons, leE_nil, leE_app, le_agg_iff, le_tup_iff, le_ref_iff, le_fn_iff, leL_refl_iff, leR_cons, leR_nil, leR_refl_iff, leR_box, leR_vec, true_and, and_true]
        · rw [if_neg hl] at he2
          have g : ((b.length : Int) != 128) = true := by simp; omega
          refine awp_seq_k fun K hK => awp_ev tab_ok [] ?_
          simp (maxSteps := 4000000) only [sx, bne_self_eq_false, Nat.reduceEqDiff, hbT, evBuild, evLit, evMake, tab, List.nil_append, List.isEmpty_cons, List.isEmpty_nil, decide_true, decide_false, ne_eq, not_false_eq_true, List.drop_zero, List.drop_succ_cons, isShift, thenA, blockA, reduceCtorEq, eq_self, Option.isSome_some, if_true, if_false, reduceIte, List.contains_nil, List.contains_cons, Nat.reduceBEq, beq_self_eq_true, Int.reduceLE, Int.reduceToNat, List.map_cons, List.map_nil, List.length_cons, List.length_nil, List.length_map, List.length_replicate, Nat.reduceAdd, Nat.reduceLT, Nat.reduceLeDiff, List.getElem?_toArray, List.getElem?_cons_zero, List.getElem?_cons_succ, Option.join_some, Option.join_none, Int.reduceBEq, bytes_length, g]
          repeat' (first | (with_reducible refine hK _ ?_; clear hK K) | with_reducible apply And.intro)
          refine awp_cond_t rfl ?_
          rw [he2]
          refine awp_ev tab_ok [] ?_
          simp (maxSteps := 4000000) only [sx, bne_self_eq_false, Nat.reduceEqDiff, hbT, evBuild, evLit, evMake, tab, List.nil_append, List.isEmpty_cons, List.isEmpty_nil, decide_true, decide_false, ne_eq, not_false_eq_true, List.drop_zero, List.drop_succ_cons, isShift, thenA, blockA, reduceCtorEq, eq_self, Option.isSome_some, if_true, if_false, reduceIte, List.contains_nil, List.contains_cons, Nat.reduceBEq, beq_self_eq_true, Int.reduceLE, Int.reduceToNat, List.map_cons, List.map_nil, List.length_cons, List.length_nil, List.length_map, List.length_replicate, Nat.reduceAdd, Nat.reduceLT, Nat.reduceLeDiff, List.getElem?_toArray, List.getElem?_cons_zero, List.getElem?_cons_succ, Option.join_some, Option.join_none]
          refine .inl ?_
          refine le_of_all ?_ ?_ rfl rfl rfl rfl <;> simp only [Int.cast_ofNat_Int, List.drop_zero, List.drop_succ_cons, List.take_succ_cons, List.take_zero, g_0, g_s, patch, s_0, s_s, leL_cons, leL_nil, le_refl_iff, le_top_iff, le_nil_iff, le_nilo_iff, le_nilf_iff, le_sh_iff, le_slE_iff, le_slEs_iff, leE_refl_iff, leE_cons, leE_nil, leE_app, le_agg_iff, le_tup_iff, le_ref_iff, le_fn_iff, leL_refl_iff, leR_cons, leR_nil, leR_refl_iff, leR_box, leR_vec, true_and, and_true]
      · rw [if_neg h256] at he1
        subst he1
        by_cases hl : b.length = 128
        · rw [if_pos hl] at he2
          have g : ((b.length : Int) != 128) = false := by simp; omega
          refine awp_seq_k fun K hK => awp_ev tab_ok [] ?_
          simp (maxSteps := 4000000) only [sx, bne_self_eq_false, Nat.reduceEqDiff, hbT, evBuild, evLit, evMake, tab, List.nil_append, List.isEmpty_cons, List.isEmpty_nil, decide_true, decide_false, ne_eq, not_false_eq_true, List.drop_zero, List.drop_succ_cons, isShift, thenA, blockA, reduceCtorEq, eq_self, Option.isSome_some, if_true, if_false, reduceIte, List.contains_nil, List.contains_cons, Nat.reduceBEq, beq_self_eq_true, Int.reduceLE, Int.reduceToNat, List.map_cons, List.map_nil, List.length_cons, List.length_nil, List.length_map, List.length_replicate, Nat.reduceAdd, Nat.reduceLT, Nat.reduceLeDiff, List.getElem?_toArray, List.getElem?_cons_zero, List.getElem?_cons_succ, Option.join_some, Option.join_none, Int.reduceBEq, bytes_length, g]
          repeat' (first | (with_reducible refine hK _ ?_; clear hK K) | with_reducible apply And.intro)
          refine awp_cond_f rfl ?_
          rw [he2]
          refine awp_skip (.inl ⟨rfl, ?_⟩)
          refine le_of_all ?_ ?_ rfl rfl rfl rfl <;> simp only [Int.cast_ofNat_Int, List.drop_zero, List.drop_succ_cons, List.take_succ_cons, List.take_zero, g_0, g_s, patch, s_0, s_s, leL_cons, leL_nil, le_refl_iff, le_top_iff, le_nil_iff, le_nilo_iff, le_nilf_iff, le_sh_iff, le_slE_iff, le_slEs_iff, leE_refl_iff, leE_cons, leE_nil, leE_app, le_agg_iff, le_tup_iff, le_ref_iff, le_fn_iff, leL_refl_iff, leR_cons, leR_nil, leR_refl_iff, leR_box, leR_vec, true_and, and_true]
        · rw [if_neg hl] at he2
          have g : ((b.length : Int) != 128) = true := by simp; omega
          refine awp_seq_k fun K hK => awp_ev tab_ok [] ?_
          simp (maxSteps := 4000000) only [sx, bne_self_eq_false, Nat.reduceEqDiff, hbT, evBuild, evLit, evMake, tab, List.nil_append, List.isEmpty_cons, List.isEmpty_nil, decide_true, decide_false, ne_eq, not_false_eq_true, List.drop_zero, List.drop_succ_cons, isShift, thenA, blockA, reduceCtorEq, eq_self, Option.isSome_some, if_true, if_false, reduceIte, List.contains_nil, List.contains_cons, Nat.reduceBEq, beq_self_eq_true, Int.reduceLE, Int.reduceToNat, List.map_cons, List.map_nil, List.length_cons, List.length_nil, List.length_map, List.length_replicate, Nat.reduceAdd, Nat.reduceLT, Nat.reduceLeDiff, List.getElem?_toArray, List.getElem?_cons_zero, List.getElem?_cons_succ, Option.join_some, Option.join_none, Int.reduceBEq, bytes_length, g]
          repeat' (first | (with_reducible refine hK _ ?_; clear hK K) | with_reducible apply And.intro)
          refine awp_cond_t rfl ?_
          rw [he2]
          refine awp_ev tab_ok [] ?_
          simp (maxSteps := 4000000) only [sx, bne_self_eq_false, Nat.reduceEqDiff, hbT, evBuild, evLit, evMake, tab, List.nil_append, List.isEmpty_cons, List.isEmpty_nil, decide_true, decide_false, ne_eq, not_false_eq_true, List.drop_zero, List.drop_succ_cons, isShift, thenA, blockA, reduceCtorEq, eq_self, Option.isSome_some, if_true, if_false, reduceIte, List.contains_nil, List.contains_cons, Nat.reduceBEq, beq_self_eq_true, Int.reduceLE, Int.reduceToNat, List.map_cons, List.map_nil, List.length_cons, List.length_nil, List.length_map, List.length_replicate, Nat.reduceAdd, Nat.reduceLT, Nat.reduceLeDiff, List.getElem?_toArray, List.getElem?_cons_zero, List.getElem?_cons_succ, Option.join_some, Option.join_none]
          refine .inl ?_
          refine le_of_all ?_ ?_ rfl rfl rfl rfl <;> simp only [Int.cast_ofNat_Int, List.drop_zero, List.drop_succ_cons, List.take_succ_cons, List.take_zero, g_0, g_s, patch, s_0, s_s, leL_cons, leL_nil, le_refl_iff, le_top_iff, le_nil_iff, le_nilo_iff, le_nilf_iff, le_sh_iff, le_slE_iff, le_slEs_iff, leE_refl_iff, leE_cons, leE_nil, leE_app, le_agg_iff, le_tup_iff, le_ref_iff, le_fn_iff, leL_refl_iff, leR_cons, leR_nil, leR_refl_iff, leR_box, leR_vec, true_and, and_true]
    · rw [if_neg hm] at he2 he1
      subst he1
      refine awp_seq_k fun K hK => awp_ev tab_ok [] ?_
      simp (maxSteps := 4000000) only [sx, bne_self_eq_false, Nat.reduceEqDiff, hbT, evBuild, evLit, evMake, tab, List.nil_append, List.isEmpty_cons, List.isEmpty_nil, decide_true, decide_false, ne_eq, not_false_eq_true, List.drop_zero, List.drop_succ_cons, isShift, thenA, blockA, reduceCtorEq, eq_self, Option.isSome_some, if_true, if_false, reduceIte, List.contains_nil, List.contains_cons, Nat.reduceBEq, beq_self_eq_true, Int.reduceLE, Int.reduceToNat, List.map_cons, List.map_nil, List.length_cons, List.length_nil, List.length_map, List.length_replicate, Nat.reduceAdd, Nat.reduceLT, Nat.reduceLeDiff, List.getElem?_toArray, List.getElem?_cons_zero, List.getElem?_cons_succ, Option.join_some, Option.join_none, Int.reduceBEq]
      repeat' (first | (with_reducible refine hK _ ?_; clear hK K) | with_reducible apply And.intro)
      refine awp_cond_f rfl ?_
      rw [he2]
      refine awp_skip (.inl ⟨rfl, ?_⟩)
      refine le_of_all ?_ ?_ rfl rfl rfl rfl <;> simp only [Int.cast_ofNat_Int, List.drop_zero, List.drop_succ_cons, List.take_succ_cons, List.take_zero, g_0, g_s, patch, s_0, s_s, leL_cons, leL_nil, le_refl_iff, le_top_iff, le_nil_iff, le_nilo_iff, le_nilf_iff, le_sh_iff, le_slE_iff, le_slEs_iff, leE_refl_iff, leE_cons, leE_nil, leE_app, le_agg_iff, le_tup_iff, le_ref_iff, le_fn_iff, leL_refl_iff, leR_cons, leR_nil, leR_refl_iff, leR_box, leR_vec, true_and, and_true]
  simp only [patch, s_0, s_s]
  refine awp_seq_to [(8, i64 (writeE d at' b)), (30, .top), (31, .top), (32, .top), (33, .top), (34, .top), (35, .top), (36, .top)] [some (.box 25 [.sl 1 (d.sectors.map secC) .sh, .sl 2 (d.waits.map wrC) .sh]), some (.box 25 [.sl 0 [] .nil, .sl 0 [] .nil])] out (id ?_) ?_
  rotate_left
  · by_cases hm : may d = true
    · have h8 : e2 ≠ 8 := by
        rw [he2, he1, if_pos hm, if_pos hm]
        split
        · split <;> decide
        · decide
      have g8 : (e2 != 8) = true := by simpa using h8
      rw [if_pos hm] at he3
      refine awp_seq_k fun K hK => awp_ev tab_ok [] ?_
      simp (maxSteps := 4000000) only [sx, bne_self_eq_false, Nat.reduceEqDiff, hbT, evBuild, evLit, evMake, tab, List.nil_append, List.isEmpty_cons, List.isEmpty_nil, decide_true, decide_false, ne_eq, not_false_eq_true, List.drop_zero, List.drop_succ_cons, isShift, thenA, blockA, reduceCtorEq, eq_self, Option.isSome_some, if_true, if_false, reduceIte, List.contains_nil, List.contains_cons, Nat.reduceBEq, beq_self_eq_true, Int.reduceLE, Int.reduceToNat, List.map_cons, List.map_nil, List.length_cons, List.length_nil, List.length_map, List.length_replicate, Nat.reduceAdd, Nat.reduceLT, Nat.reduceLeDiff, List.getElem?_toArray, List.getElem?_cons_zero, List.getElem?_cons_succ, Option.join_some, Option.join_none, g8]
      repeat' (first | (with_reducible refine hK _ ?_; clear hK K) | with_reducible apply And.intro)
      refine call_pure (c_rnumber at' 32) ?_
      simp (maxSteps := 4000000) only [sx, bne_self_eq_false, Nat.reduceEqDiff, hbT, evBuild, evLit, evMake, tab, List.nil_append, List.isEmpty_cons, List.isEmpty_nil, decide_true, decide_false, ne_eq, not_false_eq_true, List.drop_zero, List.drop_succ_cons, isShift, thenA, blockA, reduceCtorEq, eq_self, Option.isSome_some, if_true, if_false, reduceIte, List.contains_nil, List.contains_cons, Nat.reduceBEq, beq_self_eq_true, Int.reduceLE, Int.reduceToNat, List.map_cons, List.map_nil, List.length_cons, List.length_nil, List.length_map, List.length_replicate, Nat.reduceAdd, Nat.reduceLT, Nat.reduceLeDiff, List.getElem?_toArray, List.getElem?_cons_zero, List.getElem?_cons_succ, Option.join_some, Option.join_none]
      repeat' (first | (with_reducible refine hK _ ?_; clear hK K) | with_reducible apply And.intro)
      cases hc : (decide (0 ≤ at') && decide (at' < 32)) with
      | true =>
        rw [hc, if_pos rfl] at he3
        refine awp_cond_f rfl ?_
        rw [he3]
        refine awp_skip (.inl ⟨rfl, ?_⟩)
        refine le_of_all ?_ ?_ rfl rfl rfl rfl <;> simp only [Int.cast_ofNat_Int, List.drop_zero, List.drop_succ_cons, List.take_succ_cons, List.take_zero, g_0, g_s, patch, s_0, s_s, leL_cons, leL_nil, le_refl_iff, le_top_iff, le_nil_iff, le_nilo_iff, le_nilf_iff, le_sh_iff, le_slE_iff, le_slEs_iff, leE_refl_iff, leE_cons, leE_nil, leE_app, le_agg_iff, le_tup_iff, le_ref_iff, le_fn_iff, leL_refl_iff, leR_cons, leR_nil, leR_refl_iff, leR_box, leR_vec, true_and, and_true]
      | false =>
        rw [hc, if_neg (by decide)] at he3
        refine awp_cond_t rfl ?_
        rw [he3]
        refine awp_ev tab_ok [] ?_
        simp (maxSteps := 4000000) only [sx, bne_self_eq_false, Nat.reduceEqDiff, hbT, evBuild, evLit, evMake, tab, List.nil_append, List.isEmpty_cons, List.isEmpty_nil, decide_true, decide_false, ne_eq, not_false_eq_true, List.drop_zero, List.drop_succ_cons, isShift, thenA, blockA, reduceCtorEq, eq_self, Option.isSome_some, if_true, if_false, reduceIte, List.contains_nil, List.contains_cons, Nat.reduceBEq, beq_self_eq_true, Int.reduceLE, Int.reduceToNat, List.map_cons, List.map_nil, List.length_cons, List.length_nil, List.length_map, List.length_replicate, Nat.reduceAdd, Nat.reduceLT, Nat.reduceLeDiff, List.getElem?_toArray, List.getElem?_cons_zero, List.getElem?_cons_succ, Option.join_some, Option.join_none]
        refine .inl ?_
        refine le_of_all ?_ ?_ rfl rfl rfl rfl <;> simp only [Int.cast_ofNat_Int, List.drop_zero, List.drop_succ_cons, List.take_succ_cons, List.take_zero, g_0, g_s, patch, s_0, s_s, leL_cons, leL_nil, le_refl_iff, le_top_iff, le_nil_iff, le_nilo_iff, le_nilf_iff, le_sh_iff, le_slE_iff, le_slEs_iff, leE_refl_iff, leE_cons, leE_nil, leE_app, le_agg_iff, le_tup_iff, le_ref_iff, le_fn_iff, leL_refl_iff, leR_cons, leR_nil, leR_refl_iff, leR_box, leR_vec, true_and, and_true]
    · have h8 : e2 = 8 := by rw [he2, if_neg hm]
      rw [if_neg hm] at he3
      subst h8
      refine awp_seq_k fun K hK => awp_ev tab_ok [] ?_
      simp (maxSteps := 4000000) only [sx, bne_self_eq_false, Nat.reduceEqDiff, hbT, evBuild, evLit, evMake, tab, List.nil_append, List.isEmpty_cons, List.isEmpty_nil, decide_true, decide_false, ne_eq, not_false_eq_true, List.drop_zero, List.drop_succ_cons, isShift, thenA, blockA, reduceCtorEq, eq_self, Option.isSome_some, if_true, if_false, reduceIte, List.contains_nil, List.contains_cons, Nat.reduceBEq, beq_self_eq_true, Int.reduceLE, Int.reduceToNat, List.map_cons, List.map_nil, List.length_cons, List.length_nil, List.length_map, List.length_replicate, Nat.reduceAdd, Nat.reduceLT, Nat.reduceLeDiff, List.getElem?_toArray, List.getElem?_cons_zero, List.getElem?_cons_succ, Option.join_some, Option.join_none, Int.reduceBNe]
      repeat' (first | (with_reducible refine hK _ ?_; clear hK K) | with_reducible apply And.intro)
      refine awp_cond_f rfl ?_
      rw [he3]
      refine awp_skip (.inl ⟨rfl, ?_⟩)
      refine le_of_all ?_ ?_ rfl rfl rfl rfl <;> simp only [Int.cast_ofNat_Int, List.drop_zero, List.drop_succ_cons, List.take_succ_cons, List.take_zero, g_0, g_s, patch, s_0, s_s, leL_cons, leL_nil, le_refl_iff, le_top_iff, le_nil_iff, le_nilo_iff, le_nilf_iff, le_sh_iff, le_slE_iff, le_slEs_iff, leE_refl_iff, leE_cons, leE_nil, leE_app, le_agg_iff, le_tup_iff, le_ref_iff, le_fn_iff, leL_refl_iff, leR_cons, leR_nil, leR_refl_iff, leR_box, leR_vec, true_and, and_true]
  simp only [patch, s_0, s_s]
  refine awp_seq_k fun KB hKB => ?_
  by_cases h0 : writeE d at' b ≠ 0
  · have g0 : (writeE d at' b != 0) = true := by simpa using h0
    have g1 : writeD d at' b = noDsk := by unfold writeD; rw [if_neg h0]
    refine awp_seq_k fun K hK => awp_ev tab_ok [] ?_
    simp (maxSteps := 4000000) only [sx, bne_self_eq_false, Nat.reduceEqDiff, hbT, evBuild, evLit, evMake, tab, List.nil_append, List.isEmpty_cons, List.isEmpty_nil, decide_true, decide_false, ne_eq, not_false_eq_true, List.drop_zero, List.drop_succ_cons, isShift, thenA, blockA, reduceCtorEq, eq_self, Option.isSome_some, if_true, if_false, reduceIte, List.contains_nil, List.contains_cons, Nat.reduceBEq, beq_self_eq_true, Int.reduceLE, Int.reduceToNat, List.map_cons, List.map_nil, List.length_cons, List.length_nil, List.length_map, List.length_replicate, Nat.reduceAdd, Nat.reduceLT, Nat.reduceLeDiff, List.getElem?_toArray, List.getElem?_cons_zero, List.getElem?_cons_succ, Option.join_some, Option.join_none, g0]
    repeat' (first | (with_reducible refine hK _ ?_; clear hK K) | with_reducible apply And.intro)
    refine awp_cond_t rfl ?_
    refine awp_seq_k fun K hK => awp_ev tab_ok [] ?_
    simp (maxSteps := 4000000) only [sx, bne_self_eq_false, Nat.reduceEqDiff, hbT, evBuild, evLit, evMake, tab, List.nil_append, List.isEmpty_cons, List.isEmpty_nil, decide_true, decide_false, ne_eq, not_false_eq_true, List.drop_zero, List.drop_succ_cons, isShift, thenA, blockA, reduceCtorEq, eq_self, Option.isSome_some, if_true, if_false, reduceIte, List.contains_nil, List.contains_cons, Nat.reduceBEq, beq_self_eq_true, Int.reduceLE, Int.reduceToNat, List.map_cons, List.map_nil, List.length_cons, List.length_nil, List.length_map, List.length_replicate, Nat.reduceAdd, Nat.reduceLT, Nat.reduceLeDiff, List.getElem?_toArray, List.getElem?_cons_zero, List.getElem?_cons_succ, Option.join_some, Option.join_none]
    repeat' (first | (with_reducible refine hK _ ?_; clear hK K) | with_reducible apply And.intro)
    refine awp_ret ?_
    refine ret_ct (.inr rfl) rfl rfl rfl (fun _ _ => rfl) ok25 (k := n + 1) (off := 0) rfl (dom_loc _ (by simp)) (look_loc _ (Nat.le_refl _) 1) rfl rfl ?_
    rw [g1]
    simp only [dskA, dskC, noDsk, List.map_nil, Int.cast_ofNat_Int, List.drop_zero, List.drop_succ_cons, List.take_succ_cons, List.take_zero, g_0, g_s, patch, s_0, s_s, leL_cons, leL_nil, le_refl_iff, le_top_iff, le_nil_iff, le_nilo_iff, le_nilf_iff, le_sh_iff, le_slE_iff, le_slEs_iff, leE_refl_iff, leE_cons, leE_nil, leE_app, le_agg_iff, le_tup_iff, le_ref_iff, le_fn_iff, leL_refl_iff, leR_cons, leR_nil, leR_refl_iff, leR_box, leR_vec, true_and, and_true]
  have h0 : writeE d at' b = 0 := by omega
  have g1 : writeD d at' b = wrote d at' b := by unfold writeD; rw [if_pos h0]
  have g0 : (writeE d at' b != 0) = false := by simpa using h0
  refine awp_seq_k fun K hK => awp_ev tab_ok [] ?_
  simp (maxSteps := 4000000) only [sx, bne_self_eq_false, Nat.reduceEqDiff, hbT, evBuild, evLit, evMake, tab, List.nil_append, List.isEmpty_cons, List.isEmpty_nil, decide_true, decide_false, ne_eq, not_false_eq_true, List.drop_zero, List.drop_succ_cons, isShift, thenA, blockA, reduceCtorEq, eq_self, Option.isSome_some, if_true, if_false, reduceIte, List.contains_nil, List.contains_cons, Nat.reduceBEq, beq_self_eq_true, Int.reduceLE, Int.reduceToNat, List.map_cons, List.map_nil, List.length_cons, List.length_nil, List.length_map, List.length_replicate, Nat.reduceAdd, Nat.reduceLT, Nat.reduceLeDiff, List.getElem?_toArray, List.getElem?_cons_zero, List.getElem?_cons_succ, Option.join_some, Option.join_none, g0]
  repeat' (first | (with_reducible refine hK _ ?_; clear hK K) | with_reducible apply And.intro)
  refine awp_cond_f rfl (awp_skip (hKB _ ?_))
  clear hKB KB
  refine awp_seq_k fun K hK => awp_ev tab_ok [] ?_
  simp (maxSteps := 4000000) only [sx, bne_self_eq_false, Nat.reduceEqDiff, hbT, evBuild, evLit, evMake, tab, List.nil_append, List.isEmpty_cons, List.isEmpty_nil, decide_true, decide_false, ne_eq, not_false_eq_true, List.drop_zero, List.drop_succ_cons, isShift, thenA, blockA, reduceCtorEq, eq_self, Option.isSome_some, if_true, if_false, reduceIte, List.contains_nil, List.contains_cons, Nat.reduceBEq, beq_self_eq_true, Int.reduceLE, Int.reduceToNat, List.map_cons, List.map_nil, List.length_cons, List.length_nil, List.length_map, List.length_replicate, Nat.reduceAdd, Nat.reduceLT, Nat.reduceLeDiff, List.getElem?_toArray, List.getElem?_cons_zero, List.getElem?_cons_succ, Option.join_some, Option.join_none]
  repeat' (first | (with_reducible refine hK _ ?_; clear hK K) | with_reducible apply And.intro)
  refine call_pure (c_rwith d at' b hd hb) ?_
  simp (maxSteps := 4000000) only [sx, bne_self_eq_false, Nat.reduceEqDiff, hbT, evBuild, evLit, evMake, tab, List.nil_append, List.isEmpty_cons, List.isEmpty_nil, decide_true, decide_false, ne_eq, not_false_eq_true, List.drop_zero, List.drop_succ_cons, isShift, thenA, blockA, reduceCtorEq, eq_self, Option.isSome_some, if_true, if_false, reduceIte, List.contains_nil, List.contains_cons, Nat.reduceBEq, beq_self_eq_true, Int.reduceLE, Int.reduceToNat, List.map_cons, List.map_nil, List.length_cons, List.length_nil, List.length_map, List.length_replicate, Nat.reduceAdd, Nat.reduceLT, Nat.reduceLeDiff, List.getElem?_toArray, List.getElem?_cons_zero, List.getElem?_cons_succ, Option.join_some, Option.join_none, dskA, dskC]
  repeat' (first | (with_reducible refine hK _ ?_; clear hK K) | with_reducible apply And.intro)
  refine awp_ret ?_
  refine ret_ct (.inr rfl) rfl rfl rfl (fun _ _ => rfl) ok25 (k := n + 1) (off := 0) rfl (dom_loc _ (by simp)) (look_loc _ (Nat.le_refl _) 1) rfl rfl ?_
  rw [g1, h0]
  simp only [dskA, dskC, Int.cast_ofNat_Int, List.drop_zero, List.drop_succ_cons, List.take_succ_cons, List.take_zero, g_0, g_s, patch, s_0, s_s, leL_cons, leL_nil, le_refl_iff, le_top_iff, le_nil_iff, le_nilo_iff, le_nilf_iff, le_sh_iff, le_slE_iff, le_slEs_iff, leE_refl_iff, leE_cons, leE_nil, leE_app, le_agg_iff, le_tup_iff, le_ref_iff, le_fn_iff, leL_refl_iff, leR_cons, leR_nil, leR_refl_iff, leR_box, leR_vec, true_and, and_true]
end Go.Proofs.Ytefkjdkalgemeaa
