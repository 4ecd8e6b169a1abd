/-
  The document's answer: disks copied, writes put behind.
-/
import Derived.Test.YtefkjdkalgemeaaD21
namespace Go.Proofs.Ytefkjdkalgemeaa
set_option linter.unusedVariables false
set_option linter.unusedSimpArgs false
open Go Go.VS Tab
set_option maxHeartbeats 2000000
set_option maxRecDepth 4000

theorem c_rtwin (k : Nat) (d : Dsk) (hd : Small d) : ACall Try.prog 38 [dskA d] [(k, none)] (.agg [.sl 1 (d.sectors.map secC) .sh, .sl 2 (d.waits.map wrC) (.own k)]) [(k, .row 52 2 d.waits.length)] := by
  have h1 := hd.s
  have h2 := hd.w
  refine acall_of 6 Try.func38 rfl fun n out _ _ => ?_
  simp only [Try.ntmps38, List.length_cons, List.length_nil, List.length_map, List.length_replicate, rep_map, Nat.reduceAdd, Nat.reduceSub, List.replicate, List.cons_append, List.nil_append]
  rename_i hneeds hgv
  obtain ⟨hk, _⟩ := hneeds
  obtain ⟨hkn, _⟩ := hgv
  refine awp_seq_k fun K hK => awp_ev tab_ok [] ?_
  simp (maxSteps := 4000000) only [sx, bne_self_eq_false, Nat.reduceEqDiff, hbT, evBuild, evLit, evMake, tab, List.nil_append, List.isEmpty_cons, List.isEmpty_nil, decide_true, decide_false, ne_eq, not_false_eq_true, List.drop_zero, List.drop_succ_cons, isShift, thenA, blockA, reduceCtorEq, eq_self, Option.isSome_some, if_true, if_false, reduceIte, List.contains_nil, List.contains_cons, Nat.reduceBEq, beq_self_eq_true, Int.reduceLE, Int.reduceToNat, List.map_cons, List.map_nil, List.length_cons, List.length_nil, List.length_map, List.length_replicate, Nat.reduceAdd, Nat.reduceLT, Nat.reduceLeDiff, List.getElem?_toArray, List.getElem?_cons_zero, List.getElem?_cons_succ, Option.join_some, Option.join_none, dskA, dskC]
  repeat' (first | (with_reducible refine hK _ ?_; clear hK K) | with_reducible apply And.intro)
  refine awp_seq_k fun K hK => awp_ev tab_ok [] ?_
  simp (maxSteps := 4000000) only [sx, bne_self_eq_false, Nat.reduceEqDiff, hbT, evBuild, evLit, evMake, tab, List.nil_append, List.isEmpty_cons, List.isEmpty_nil, decide_true, decide_false, ne_eq, not_false_eq_true, List.drop_zero, List.drop_succ_cons, isShift, thenA, blockA, reduceCtorEq, eq_self, Option.isSome_some, if_true, if_false, reduceIte, List.contains_nil, List.contains_cons, Nat.reduceBEq, beq_self_eq_true, Int.reduceLE, Int.reduceToNat, List.map_cons, List.map_nil, List.length_cons, List.length_nil, List.length_map, List.length_replicate, Nat.reduceAdd, Nat.reduceLT, Nat.reduceLeDiff, List.getElem?_toArray, List.getElem?_cons_zero, List.getElem?_cons_succ, Option.join_some, Option.join_none]
  repeat' (first | (with_reducible refine hK _ ?_; clear hK K) | with_reducible apply And.intro)
  refine awp_le (le_row (i := 3) 37 1 rfl) ?_
  refine awp_le (le_row (i := 4) 52 2 rfl) ?_
  simp only [s_0, s_s]
  refine awp_seq_k fun KB hKB => ?_
  refine awp_seq_k fun K hK => awp_ev tab_ok [] ?_
  simp (maxSteps := 4000000) only [sx, bne_self_eq_false, Nat.reduceEqDiff, hbT, evBuild, evLit, evMake, tab, List.nil_append, List.isEmpty_cons, List.isEmpty_nil, decide_true, decide_false, ne_eq, not_false_eq_true, List.drop_zero, List.drop_succ_cons, isShift, thenA, blockA, reduceCtorEq, eq_self, Option.isSome_some, if_true, if_false, reduceIte, List.contains_nil, List.contains_cons, Nat.reduceBEq, beq_self_eq_true, Int.reduceLE, Int.reduceToNat, List.map_cons, List.map_nil, List.length_cons, List.length_nil, List.length_map, List.length_replicate, Nat.reduceAdd, Nat.reduceLT, Nat.reduceLeDiff, List.getElem?_toArray, List.getElem?_cons_zero, List.getElem?_cons_succ, Option.join_some, Option.join_none]
  repeat' (first | (with_reducible refine hK _ ?_; clear hK K) | with_reducible apply And.intro)
  refine awp_block ?_
  refine awp_for_g (fun i : Nat => [(4, i64 (i : Int)), (7, .top), (8, .top), (9, .top), (10, .top), (11, .top), (12, .top), (13, .top), (14, .top), (15, .top), (16, .top), (17, .top), (18, .top), (19, .top), (20, .top), (21, .top), (22, .top), (23, .top), (24, .top)]) (fun i => [some (.box 25 [.sl 1 (d.sectors.map secC) .sh, .sl 2 (d.waits.map wrC) .sh]), some (.box 25 [.sl 0 [] .nil, .sl 0 [] .nil]), some (.box 25 [.sl 1 ((d.sectors.take i).map secC) (.own (n + 3)), .sl 0 [] .nil]), some (.row 37 1 i), some (.row 52 2 0), none]) (fun i => out) (fun i => i ≤ d.sectors.length) (fun i => d.sectors.length - i) 0 (Nat.zero_le _) ?_ fun i hi => ?_
  · refine le_of_all ?_ ?_ (by first | rfl | (simp only [List.take_zero, List.map_nil, List.length_map]; rfl) | simp only [List.take_zero, List.map_nil, List.length_map]) rfl rfl rfl <;> simp only [Int.cast_ofNat_Int, List.drop_zero, List.drop_succ_cons, List.take_succ_cons, List.take_zero, g_0, g_s, patch, s_0, s_s, leL_cons, leL_nil, le_refl_iff, le_top_iff, le_nil_iff, le_nilo_iff, le_nilf_iff, le_sh_iff, le_slE_iff, le_slEs_iff, leE_refl_iff, leE_cons, leE_nil, leE_app, le_agg_iff, le_tup_iff, le_ref_iff, le_fn_iff, leL_refl_iff, leR_cons, leR_nil, leR_refl_iff, leR_box, leR_vec, true_and, and_true, List.take_zero, List.map_nil, List.length_map]
  simp only [patch, s_0, s_s]
  refine awp_seq_k fun KC hKC => ?_
  refine awp_seq_k fun K hK => awp_ev tab_ok [] ?_
  simp (maxSteps := 4000000) only [sx, bne_self_eq_false, Nat.reduceEqDiff, hbT, evBuild, evLit, evMake, tab, List.nil_append, List.isEmpty_cons, List.isEmpty_nil, decide_true, decide_false, ne_eq, not_false_eq_true, List.drop_zero, List.drop_succ_cons, isShift, thenA, blockA, reduceCtorEq, eq_self, Option.isSome_some, if_true, if_false, reduceIte, List.contains_nil, List.contains_cons, Nat.reduceBEq, beq_self_eq_true, Int.reduceLE, Int.reduceToNat, List.map_cons, List.map_nil, List.length_cons, List.length_nil, List.length_map, List.length_replicate, Nat.reduceAdd, Nat.reduceLT, Nat.reduceLeDiff, List.getElem?_toArray, List.getElem?_cons_zero, List.getElem?_cons_succ, Option.join_some, Option.join_none, List.take_zero, List.map_nil, List.length_map]
  repeat' (first | (with_reducible refine hK _ ?_; clear hK K) | with_reducible apply And.intro)
  refine awp_if rfl (fun ht => awp_skip (hKC _ ?_)) (fun hf => awp_exit (id ?_))
  rotate_left
  · simp only [thenA, blockA, if_true]
    refine hKB _ ?_
    clear hKB KB hKC KC
    have h_ib : i = d.sectors.length := by have := of_decide_eq_false hf; omega
    subst h_ib
    rw [List.take_length]
    refine awp_seq_k fun KB hKB => ?_
    refine awp_seq_k fun K hK => awp_ev tab_ok [] ?_
    simp (maxSteps := 4000000) only [sx, bne_self_eq_false, Nat.reduceEqDiff, hbT, evBuild, evLit, evMake, tab, List.nil_append, List.isEmpty_cons, List.isEmpty_nil, decide_true, decide_false, ne_eq, not_false_eq_true, List.drop_zero, List.drop_succ_cons, isShift, thenA, blockA, reduceCtorEq, eq_self, Option.isSome_some, if_true, if_false, reduceIte, List.contains_nil, List.contains_cons, Nat.reduceBEq, beq_self_eq_true, Int.reduceLE, Int.reduceToNat, List.map_cons, List.map_nil, List.length_cons, List.length_nil, List.length_map, List.length_replicate, Nat.reduceAdd, Nat.reduceLT, Nat.reduceLeDiff, List.getElem?_toArray, List.getElem?_cons_zero, List.getElem?_cons_succ, Option.join_some, Option.join_none]
    repeat' (first | (with_reducible refine hK _ ?_; clear hK K) | with_reducible apply And.intro)
    refine awp_block ?_
    refine awp_for_mv (fun m (i : Nat) => [(1, .ptr (m + 0) 0), (2, .ptr (m + 1) 0), (3, .ptr (m + 2) 0), (5, i64 (i : Int)), (6, .top), (25, .top), (26, .top), (27, .top), (28, .top), (29, .top), (30, .top), (31, .top), (32, .top), (33, .top), (34, .top), (35, .top), (36, .top), (37, .top), (38, .top), (39, .top), (40, .top), (41, .top), (42, .top), (43, .top), (44, .top), (45, .top), (46, .top)]) (fun m i => [some (.box 25 [.sl 1 (d.sectors.map secC) .sh, .sl 2 (d.waits.map wrC) .sh]), some (.box 25 [.sl 0 [] .nil, .sl 0 [] .nil]), some (.box 25 [.sl 1 (d.sectors.map secC) (.own (m + 3)), .sl 2 ((d.waits.take i).map wrC) (.own (m + 4))]), some (.row 37 1 d.sectors.length), some (.row 52 2 i), none]) (fun i => out) (fun i => i ≤ d.waits.length) (fun i => d.waits.length - i) 0 (Nat.zero_le _) ?_ fun m i hm hi => ?_
    · refine le_of_all ?_ ?_ (by first | rfl | (simp only [List.take_zero, List.map_nil, List.length_map]; rfl) | simp only [List.take_zero, List.map_nil, List.length_map]) rfl rfl rfl <;> simp only [Int.cast_ofNat_Int, List.drop_zero, List.drop_succ_cons, List.take_succ_cons, List.take_zero, g_0, g_s, patch, s_0, s_s, leL_cons, leL_nil, le_refl_iff, le_top_iff, le_nil_iff, le_nilo_iff, le_nilf_iff, le_sh_iff, le_slE_iff, le_slEs_iff, leE_refl_iff, leE_cons, leE_nil, leE_app, le_agg_iff, le_tup_iff, le_ref_iff, le_fn_iff, leL_refl_iff, leR_cons, leR_nil, leR_refl_iff, leR_box, leR_vec, true_and, and_true, List.take_zero, List.map_nil, List.length_map]
    simp only [patch, s_0, s_s]
    refine awp_seq_k fun KC hKC => ?_
    refine awp_seq_k fun K hK => awp_ev tab_ok [] ?_
    simp (maxSteps := 4000000) only [sx, bne_self_eq_false, Nat.reduceEqDiff, hbT, evBuild, evLit, evMake, tab, List.nil_append, List.isEmpty_cons, List.isEmpty_nil, decide_true, decide_false, ne_eq, not_false_eq_true, List.drop_zero, List.drop_succ_cons, isShift, thenA, blockA, reduceCtorEq, eq_self, Option.isSome_some, if_true, if_false, reduceIte, List.contains_nil, List.contains_cons, Nat.reduceBEq, beq_self_eq_true, Int.reduceLE, Int.reduceToNat, List.map_cons, List.map_nil, List.length_cons, List.length_nil, List.length_map, List.length_replicate, Nat.reduceAdd, Nat.reduceLT, Nat.reduceLeDiff, List.getElem?_toArray, List.getElem?_cons_zero, List.getElem?_cons_succ, Option.join_some, Option.join_none, List.take_zero, List.map_nil, List.length_map, locM hm]
    repeat' (first | (with_reducible refine hK _ ?_; clear hK K) | with_reducible apply And.intro)
    refine awp_if rfl (fun ht => awp_skip (hKC _ ?_)) (fun hf => awp_exit (id ?_))
    rotate_left
    · simp only [thenA, blockA, if_true]
      refine hKB _ ?_
      clear hKB KB hKC KC
      have h_ib : i = d.waits.length := by have := of_decide_eq_false hf; omega
      subst h_ib
      rw [List.take_length]
      refine awp_seq_k fun K hK => awp_ev tab_ok [] ?_
      simp (maxSteps := 4000000) only [sx, bne_self_eq_false, Nat.reduceEqDiff, hbT, evBuild, evLit, evMake, tab, List.nil_append, List.isEmpty_cons, List.isEmpty_nil, decide_true, decide_false, ne_eq, not_false_eq_true, List.drop_zero, List.drop_succ_cons, isShift, thenA, blockA, reduceCtorEq, eq_self, Option.isSome_some, if_true, if_false, reduceIte, List.contains_nil, List.contains_cons, Nat.reduceBEq, beq_self_eq_true, Int.reduceLE, Int.reduceToNat, List.map_cons, List.map_nil, List.length_cons, List.length_nil, List.length_map, List.length_replicate, Nat.reduceAdd, Nat.reduceLT, Nat.reduceLeDiff, List.getElem?_toArray, List.getElem?_cons_zero, List.getElem?_cons_succ, Option.join_some, Option.join_none, locM hm]
      repeat' (first | (with_reducible refine hK _ ?_; clear hK K) | with_reducible apply And.intro)
      refine awp_le (le_toOut1 (i := 4) (k := k) rfl (by exact hkn) (by exact hk)) ?_
      simp only [List.map_cons, List.map_nil, Option.map_some, Option.map_none, Res.ren1, AV.ren1, Nat.add_left_cancel_iff, Nat.reduceEqDiff, Nat.one_ne_zero, reduceIte, zombie, s_0, s_s]
      refine awp_ret ?_
      exact ret_cell_le (.inr rfl) rfl rfl rfl (fun _ _ => rfl) ok25 (k := m + 1) (off := 0) rfl (dom_loc _ (by simp)) (look_loc _ hm 1) rfl (by simp only [Int.cast_ofNat_Int, List.drop_zero, List.drop_succ_cons, List.take_succ_cons, List.take_zero, g_0, g_s, patch, s_0, s_s, leL_cons, leL_nil, le_refl_iff, le_top_iff, le_nil_iff, le_nilo_iff, le_nilf_iff, le_sh_iff, le_slE_iff, le_slEs_iff, leE_refl_iff, leE_cons, leE_nil, leE_app, le_agg_iff, le_tup_iff, le_ref_iff, le_fn_iff, leL_refl_iff, leR_cons, leR_nil, leR_refl_iff, leR_box, leR_vec, true_and, and_true])
    clear hKC KC
    have hlt : i < d.waits.length := by have := of_decide_eq_true ht; omega
    refine awp_seq_k fun KC hKC => awp_block ?_
    have hgw := getD_map wrC d.waits i [] hlt
    have hwb := hd.wb _ (List.getElem_mem hlt)
    refine awp_seq_k fun K hK => awp_ev tab_ok [] ?_
    simp (maxSteps := 4000000) only [sx, bne_self_eq_false, Nat.reduceEqDiff, hbT, evBuild, evLit, evMake, tab, List.nil_append, List.isEmpty_cons, List.isEmpty_nil, decide_true, decide_false, ne_eq, not_false_eq_true, List.drop_zero, List.drop_succ_cons, isShift, thenA, blockA, reduceCtorEq, eq_self, Option.isSome_some, if_true, if_false, reduceIte, List.contains_nil, List.contains_cons, Nat.reduceBEq, beq_self_eq_true, Int.reduceLE, Int.reduceToNat, List.map_cons, List.map_nil, List.length_cons, List.length_nil, List.length_map, List.length_replicate, Nat.reduceAdd, Nat.reduceLT, Nat.reduceLeDiff, List.getElem?_toArray, List.getElem?_cons_zero, List.getElem?_cons_succ, Option.join_some, Option.join_none, locM hm, List.length_map, hlt, hgw, wrC]
    repeat' (first | (with_reducible refine hK _ ?_; clear hK K) | with_reducible apply And.intro)
    refine awp_seq_k fun K hK => awp_ev tab_ok [] ?_
    simp (maxSteps := 4000000) only [sx, bne_self_eq_false, Nat.reduceEqDiff, hbT, evBuild, evLit, evMake, tab, List.nil_append, List.isEmpty_cons, List.isEmpty_nil, decide_true, decide_false, ne_eq, not_false_eq_true, List.drop_zero, List.drop_succ_cons, isShift, thenA, blockA, reduceCtorEq, eq_self, Option.isSome_some, if_true, if_false, reduceIte, List.contains_nil, List.contains_cons, Nat.reduceBEq, beq_self_eq_true, Int.reduceLE, Int.reduceToNat, List.map_cons, List.map_nil, List.length_cons, List.length_nil, List.length_map, List.length_replicate, Nat.reduceAdd, Nat.reduceLT, Nat.reduceLeDiff, List.getElem?_toArray, List.getElem?_cons_zero, List.getElem?_cons_succ, Option.join_some, Option.join_none, locM hm, bytes_length, show (d.waits[i]).data.length ≤ 140737488355328 by omega, show (d.waits[i]).data.length ≤ 9223372036854775807 by omega]
    repeat' (first | (with_reducible refine hK _ ?_; clear hK K) | with_reducible apply And.intro)
    have lit : ∀ (σ : AState) (K : AV → List (Nat × Res) → Prop), evLit tab σ K none 23 1 [(0, .agg [i64 (d.waits[i]).at', bs (d.waits[i]).data])] = K (.sl 2 [wrC d.waits[i]] .full) [] := fun σ K => evLit_one (T := tab) (ti := ti23) (te := ti52) rfl rfl rfl (by decide) (by decide) rfl rfl
    refine awp_ev tab_ok [] ?_
    simp (maxSteps := 4000000) only [sx, bne_self_eq_false, Nat.reduceEqDiff, hbT, evBuild, evMake, tab, List.nil_append, List.isEmpty_cons, List.isEmpty_nil, decide_true, decide_false, ne_eq, not_false_eq_true, List.drop_zero, List.drop_succ_cons, isShift, thenA, blockA, reduceCtorEq, eq_self, Option.isSome_some, if_true, if_false, reduceIte, List.contains_nil, List.contains_cons, Nat.reduceBEq, beq_self_eq_true, Int.reduceLE, Int.reduceToNat, List.map_cons, List.map_nil, List.length_cons, List.length_nil, List.length_map, List.length_replicate, Nat.reduceAdd, Nat.reduceLT, Nat.reduceLeDiff, List.getElem?_toArray, List.getElem?_cons_zero, List.getElem?_cons_succ, Option.join_some, Option.join_none, locM hm, lit, List.length_map, List.length_take, Nat.min_eq_left hi, show i + 1 ≤ 9223372036854775807 by omega, map_snoc wrC d.waits i hlt]
    repeat refine And.intro (by omega) ?_
    refine hKC _ ?_
    clear hKC KC
    refine awp_ev tab_ok [] ?_
    simp (maxSteps := 4000000) only [sx, bne_self_eq_false, Nat.reduceEqDiff, hbT, evBuild, evLit, evMake, tab, List.nil_append, List.isEmpty_cons, List.isEmpty_nil, decide_true, decide_false, ne_eq, not_false_eq_true, List.drop_zero, List.drop_succ_cons, isShift, thenA, blockA, reduceCtorEq, eq_self, Option.isSome_some, if_true, if_false, reduceIte, List.contains_nil, List.contains_cons, Nat.reduceBEq, beq_self_eq_true, Int.reduceLE, Int.reduceToNat, List.map_cons, List.map_nil, List.length_cons, List.length_nil, List.length_map, List.length_replicate, Nat.reduceAdd, Nat.reduceLT, Nat.reduceLeDiff, List.getElem?_toArray, List.getElem?_cons_zero, List.getElem?_cons_succ, Option.join_some, Option.join_none, addw (n := i) 1 1 rfl (by omega)]
    refine ⟨i + 1, by omega, by omega, ?_⟩
    refine le_move [true, true, true, true, true, false] (fun n_ => ?_) (fun n_ => ?_) <;> simp only [Int.cast_ofNat_Int, patch, s_0, s_s, mvL_cons, mvL_nil, mv_le_iff, mv_top_iff, mv_nil_iff, mv_nilo_iff, mv_sh_iff, kept_0, kept_1, kept_2, kept_3, kept_4, kept_5, mv_own, mv_ptr, mv_bsl, mv_vsl, mvL_refl, mvR_t, mvR_f, mvR_nil, mvRes_row, mvRes_none, mvRes_dead, mvRes_box, mvRes_vec, mvRes_pin, true_and, and_true]
  clear hKC KC
  have hlt : i < d.sectors.length := by have := of_decide_eq_true ht; omega
  refine awp_seq_k fun KC hKC => awp_block ?_
  have hgs := getD_map secC d.sectors i [] hlt
  have hsb := hd.sb _ (List.getElem_mem hlt)
  have lit : ∀ (σ : AState) (K : AV → List (Nat × Res) → Prop), evLit tab σ K none 22 1 [(0, .sl 1 (bytesAV d.sectors[i]) .sh)] = K (.sl 1 [secC d.sectors[i]] .full) [] := fun σ K => evLit_one (T := tab) (ti := ti22) (te := ti37) rfl rfl rfl (by decide) (by decide) rfl rfl
  refine awp_ev_draw tab_ok [] [[], [2], [], [0], [], [], [], [], [], [3], [], [2]] [[], [], [], [], [], [], [], [], [], [3], [], [2]] follows (by kernel_rfl) (by decide) (by decide) (by kernel_rfl) ?_
  simp (maxSteps := 4000000) only [sx, bne_self_eq_false, Nat.reduceEqDiff, hbT, evBuild, evMake, tab, List.nil_append, List.isEmpty_cons, List.isEmpty_nil, decide_true, decide_false, ne_eq, not_false_eq_true, List.drop_zero, List.drop_succ_cons, isShift, thenA, blockA, reduceCtorEq, eq_self, Option.isSome_some, if_true, if_false, reduceIte, List.contains_nil, List.contains_cons, Nat.reduceBEq, beq_self_eq_true, Int.reduceLE, Int.reduceToNat, List.map_cons, List.map_nil, List.length_cons, List.length_nil, List.length_map, List.length_replicate, Nat.reduceAdd, Nat.reduceLT, Nat.reduceLeDiff, List.getElem?_toArray, List.getElem?_cons_zero, List.getElem?_cons_succ, Option.join_some, Option.join_none, List.length_map, hlt, hgs, secC, bytes_length, show (d.sectors[i]).length ≤ 140737488355328 by omega, show (d.sectors[i]).length ≤ 9223372036854775807 by omega, lit, List.length_take, Nat.min_eq_left hi, show i + 1 ≤ 9223372036854775807 by omega]
  repeat refine And.intro (by omega) ?_
  refine hKC _ ?_
  clear hKC KC
  have hsn := map_snoc secC d.sectors i hlt
  simp only [secC] at hsn ⊢
  rw [hsn]
  refine awp_ev tab_ok [] ?_
  simp (maxSteps := 4000000) only [sx, bne_self_eq_false, Nat.reduceEqDiff, hbT, evBuild, evLit, evMake, tab, List.nil_append, List.isEmpty_cons, List.isEmpty_nil, decide_true, decide_false, ne_eq, not_false_eq_true, List.drop_zero, List.drop_succ_cons, isShift, thenA, blockA, reduceCtorEq, eq_self, Option.isSome_some, if_true, if_false, reduceIte, List.contains_nil, List.contains_cons, Nat.reduceBEq, beq_self_eq_true, Int.reduceLE, Int.reduceToNat, List.map_cons, List.map_nil, List.length_cons, List.length_nil, List.length_map, List.length_replicate, Nat.reduceAdd, Nat.reduceLT, Nat.reduceLeDiff, List.getElem?_toArray, List.getElem?_cons_zero, List.getElem?_cons_succ, Option.join_some, Option.join_none, addw (n := i) 1 1 rfl (by omega)]
  refine ⟨i + 1, by omega, by omega, ?_⟩
  refine le_of_all ?_ ?_ rfl rfl rfl rfl <;> simp only [Int.cast_ofNat_Int, List.drop_zero, List.drop_succ_cons, List.take_succ_cons, List.take_zero, g_0, g_s, patch, s_0, s_s, leL_cons, leL_nil, le_refl_iff, le_top_iff, le_nil_iff, le_nilo_iff, le_nilf_iff, le_sh_iff, le_slE_iff, le_slEs_iff, leE_refl_iff, leE_cons, leE_nil, leE_app, le_agg_iff, le_tup_iff, le_ref_iff, le_fn_iff, leL_refl_iff, leR_cons, leR_nil, leR_refl_iff, leR_box, leR_vec, true_and, and_true]
end Go.Proofs.Ytefkjdkalgemeaa
