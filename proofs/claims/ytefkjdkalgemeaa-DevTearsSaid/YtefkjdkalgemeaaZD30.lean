/-
  The document's answer: a disk copied, one of its sectors in memory that may be written.
-/
import Derived.Test.YtefkjdkalgemeaaZD28
import Derived.Test.YtefkjdkalgemeaaZGA
import Derived.Test.YtefkjdkalgemeaaZD20
import Derived.Test.YtefkjdkalgemeaaZVsBox
namespace Go.Proofs.Ytefkjdkalgemeaa
set_option linter.unusedVariables false
set_option linter.unusedSimpArgs false
open Go Go.VS Tab
set_option maxHeartbeats 4000000
set_option maxRecDepth 4000
theorem mv_setB {keep : List Bool} {n n' : Nat} {S : List (List AV)} {z j len : Nat} {md : Md} (h : kept keep j) : Mv keep n n' (.sl 1 (S.set z [.bsl (n + j) 0 len false]) md) (.sl 1 (S.set z [.bsl (n' + j) 0 len false]) .sh) ↔ True :=
  ⟨fun _ => trivial, fun _ => mv_slE (mvE_set z ⟨(mv_bsl j 0 len false h).2 trivial, trivial⟩)⟩
theorem c_rtwinZ (kz : Nat) (d : Dsk) (hd : Small d) (z : Nat) (hz : z < d.sectors.length) (hz0 : 0 < (d.sectors[z]).length) : ACall Try.prog 38 [dskA d] [(kz, none)]
    (.agg [.sl 1 ((d.sectors.map secC).set z [.bsl kz 0 (d.sectors[z]).length false]) .sh, .sl 2 (d.waits.map wrC) .sh]) [(kz, .box 5 ((d.sectors[z]).map b8))] := by
  have h1 := hd.s
  have h2 := hd.w
  obtain ⟨B, hB⟩ : ∃ B, B = (d.sectors[z]).map b8 := ⟨_, rfl⟩
  obtain ⟨Z, hZ⟩ : ∃ Z, Z = (d.sectors[z]).length := ⟨_, rfl⟩
  rw [← hB, ← hZ]
  rw [← hZ] at hz0
  have hEl : ∀ k, ((d.sectors.map secC).set z [.bsl k 0 Z false]).length = d.sectors.length := fun k => by simp
  refine acall_of 7 Try.func38 rfl fun n out _ _ => ?_
  simp only [Try.ntmps38, List.length_cons, List.length_nil, List.length_map, List.length_replicate, rep_map, Nat.reduceAdd, Nat.reduceSub, List.replicate, List.cons_append, List.nil_append]
  rename_i hneeds hgv
  obtain ⟨hkz, _⟩ := hneeds
  obtain ⟨hkzn, _⟩ := hgv
  refine awp_seq_k fun K hK => awp_ev tab_ok [] ?_
  simp (maxSteps := 4000000) only [su, evLit, hbT, tab, thenA, blockA, reduceCtorEq, reduceIte, Nat.reduceEqDiff, Nat.reduceBEq, Int.reduceLE, Int.reduceToNat, Nat.reduceAdd, Nat.reduceLT, Nat.reduceLeDiff, dskA, dskC]
  repeat' (first | (with_reducible refine hK _ ?_; clear hK K) | with_reducible apply And.intro)
  refine awp_seq_k fun K hK => awp_ev tab_ok [] ?_
  simp (maxSteps := 4000000) only [su, evLit, hbT, tab, thenA, blockA, reduceCtorEq, reduceIte, Nat.reduceEqDiff, Nat.reduceBEq, Int.reduceLE, Int.reduceToNat, Nat.reduceAdd, Nat.reduceLT, Nat.reduceLeDiff]
  repeat' (first | (with_reducible refine hK _ ?_; clear hK K) | with_reducible apply And.intro)
  refine awp_le (le_row (i := 3) 37 1 rfl) ?_
  refine awp_le (le_row (i := 4) 52 2 rfl) ?_
  simp only [s_0, s_s]
  repeat' (first | (with_reducible first | refine awp_seq_k fun K hK => ?_ | refine awp_ev tab_ok [] ?_ | refine awp_block_s ?_ | refine awp_block_c ?_ | refine awp_block_r ?_ | refine awp_skip ?_ | apply And.intro | refine awp_ev_quiet tab_ok follows (by kernel_rfl) ?_) | ((with_reducible first | refine gE ?_ | refine gR ?_); simp (maxSteps := 4000000) only [su, evLit, hbT, tab, thenA, blockA, reduceCtorEq, reduceIte, Nat.reduceEqDiff, Nat.reduceBEq, Int.reduceLE, Int.reduceToNat, Nat.reduceAdd, Nat.reduceLT, Nat.reduceLeDiff]) | (show (_ : Nat) = (_ : Nat); rfl) | ((with_reducible refine awp_ret ?_); (first | refine ret_cell_le (.inr rfl) rfl rfl rfl (fun _ _ => rfl) ok25 (k := n + 1) (off := 0) rfl (dom_loc _ (by simp)) (look_loc _ (Nat.le_refl _) 1) rfl ?_ | refine ret_cell_le (.inr rfl) rfl rfl rfl (fun _ _ => rfl) ok25 (k := m + 1) (off := 0) rfl (dom_loc _ (by simp)) (look_loc _ hm 1) rfl ?_) <;> first | rfl | exact AV.le.rfl _ | (simp only [patch, sl, ti25, List.map_nil]; done) | rfl | skip) | ((with_reducible refine awp_exit ?_); simp only [thenA, blockA, if_true, if_false, reduceIte, Nat.reduceEqDiff]) | (refine hK _ ?_; clear hK K) | refine awp_cond_t rfl ?_ | refine awp_cond_f rfl ?_ | refine awp_if rfl (fun hg => ?_) (fun hg => ?_) | clear hK K)
  refine awp_block ?_
  refine awp_for_g (fun i : Nat => [(4, i64 (i : Int)), (7, .top), (8, .top), (9, .top), (10, .top), (11, .top), (12, .top), (13, .top), (14, .top), (15, .top), (16, .top), (17, .top), (18, .top), (19, .top), (20, .top), (21, .top), (22, .top), (23, .top), (24, .top)]) (fun i => [some (.box 25 [.sl 1 (d.sectors.map secC) .sh, .sl 2 (d.waits.map wrC) .sh]), some (.box 25 [.sl 0 [] .nil, .sl 0 [] .nil]), some (.box 25 [.sl 1 (((d.sectors.map secC).set z [.bsl (n + 5) 0 Z false]).take i) (.own (n + 3)), .sl 0 [] .nil]), some (.row 37 1 i), some (.row 52 2 0), (if i ≤ z then none else some (.box 5 B)), none]) (fun i => out) (fun i => i ≤ d.sectors.length) (fun i => d.sectors.length - i) 0 (Nat.zero_le _) ?_ fun i hi => ?_
  · refine le_of_all ?_ ?_ (by first | rfl | (simp only [List.take_zero, List.map_nil, List.length_map, Nat.zero_le, if_true]; rfl) | simp only [List.take_zero, List.map_nil, List.length_map, Nat.zero_le, if_true]) rfl rfl rfl <;> simp only [patch, sl, List.take_zero, List.map_nil, List.length_map, Nat.zero_le, if_true]
  simp only [patch, s_0, s_s]
  have hw := addw (n := i) 1 1 rfl (by omega)
  by_cases hlt : i < d.sectors.length
  · have hgs := getD_map secC d.sectors i [] hlt
    have hsb := hd.sb _ (List.getElem_mem hlt)
    have y1 : (d.sectors[i]).length ≤ 140737488355328 := by omega
    have y2 : (d.sectors[i]).length ≤ 9223372036854775807 := by omega
    have y3 : i ≤ 9223372036854775806 := by omega
    have y4 : (i + 1) * 24 ≤ 140737488355328 := by omega
    by_cases hiz : i = z
    · subst hiz
      rw [if_pos (Nat.le_refl i)]
      have hne : ¬ (bytesAV d.sectors[i] = []) := fun h => by simp [bytesAV] at h; rw [h] at hZ; simp at hZ; omega
      have hfl : (bytesAV d.sectors[i]).flatten = B := by
        rw [hB]
        clear hgs hsb y1 y2 hne hB
        induction d.sectors[i] with
        | nil => rfl
        | cons x xs ih => exact congrArg (b8 x :: ·) ih
      have hsn : ((d.sectors.map secC).set i [.bsl (n + 5) 0 Z false]).take i ++ [[.bsl (n + 5) 0 Z false]] = ((d.sectors.map secC).set i [.bsl (n + 5) 0 Z false]).take (i + 1) := by
        rw [List.take_succ_eq_append_getElem (by simp; omega), List.getElem_set_self]
      have lit : ∀ (σ : AState) (K : AV → List (Nat × Res) → Prop), evLit tab σ K none 22 1 [(0, .vsl (n + 5) Z)] = K (.sl 1 [[.vsl (n + 5) Z]] .full) [] := fun σ K => evLit_one (T := tab) (ti := ti22) (te := ti37) rfl rfl rfl (by decide) (by decide) rfl rfl
      repeat' (first | (with_reducible first | refine awp_seq_k fun K hK => ?_ | refine awp_ev tab_ok [(1021, none)] ?_ | refine awp_block_s ?_ | refine awp_block_c ?_ | refine awp_block_r ?_ | refine awp_skip ?_ | apply And.intro | refine awp_ev_draw (id := 5) tab_ok [(1021, none)] [[],[2],[],[0],[],[],[],[5],[],[3],[],[2]] [[],[],[],[],[],[],[],[5],[],[3],[],[2]] follows (by kernel_rfl) (by decide) (by decide) (by kernel_rfl) ?_ | refine awp_ev_quiet tab_ok follows (by kernel_rfl) ?_) | ((with_reducible first | refine gE ?_ | refine gR ?_ | refine gD ?_ | refine gF ?_); simp (maxSteps := 4000000) only [su, hbT, tab, thenA, blockA, reduceCtorEq, reduceIte, Nat.reduceEqDiff, Nat.reduceBEq, Int.reduceLE, Int.reduceToNat, Nat.reduceAdd, Nat.reduceLT, Nat.reduceLeDiff, List.length_map, hlt, hgs, secC, bytes_length, y1, y2, hne, hfl, splice_all, ← hZ]) | (show (_ : Nat) = (_ : Nat); rfl) | ((with_reducible refine awp_ret ?_); (first | refine ret_cell_le (.inr rfl) rfl rfl rfl (fun _ _ => rfl) ok25 (k := n + 1) (off := 0) rfl (dom_loc _ (by simp)) (look_loc _ (Nat.le_refl _) 1) rfl ?_ | refine ret_cell_le (.inr rfl) rfl rfl rfl (fun _ _ => rfl) ok25 (k := m + 1) (off := 0) rfl (dom_loc _ (by simp)) (look_loc _ hm 1) rfl ?_) <;> first | rfl | exact AV.le.rfl _ | (simp only [patch, sl, ti25, List.map_nil, List.length_map, hlt, hgs, secC, bytes_length, y1, y2, hne, hfl, splice_all, ← hZ]; done) | rfl | skip) | ((with_reducible refine awp_exit ?_); simp only [thenA, blockA, if_true, if_false, reduceIte, Nat.reduceEqDiff]) | (refine hK _ ?_; clear hK K) | refine awp_cond_t rfl ?_ | refine awp_cond_f rfl ?_ | refine awp_if rfl (fun hg => ?_) (fun hg => ?_) | clear hK K)
      · omega
      · omega
      simp (maxSteps := 4000000) only [su, hbT, tab, thenA, blockA, reduceCtorEq, reduceIte, Nat.reduceEqDiff, Nat.reduceBEq, Int.reduceLE, Int.reduceToNat, Nat.reduceAdd, Nat.reduceLT, Nat.reduceLeDiff, lit, List.length_take, List.length_set, List.length_map, Nat.min_eq_left hi, y3, y4, splice_all]
      repeat' (first | (with_reducible refine hK _ ?_; clear hK K) | with_reducible apply And.intro)
      refine awp_le (le_boxP (i := 5) (m := Z) (sz := 1) (e := 5) (cs := B) [] (lo1 := [some (.box 25 [.sl 1 (d.sectors.map secC) .sh, .sl 2 (d.waits.map wrC) .sh]), some (.box 25 [.sl 0 [] .nil, .sl 0 [] .nil]), some (.box 25 [.sl 1 (((d.sectors.map secC).set i [.bsl (n + 5) 0 Z false]).take i ++ [[.bsl (n + 5) 0 Z false]]) (.own (n + 3)), .sl 0 [] .nil]), some (.row 37 1 (i + 1)), some (.row 52 2 0), some (.vec 5 1 Z B), none]) rfl hz0 (bxL_refl _) ?_) ?_
      · have hx : Bx (n + 5) Z (.sl 1 (((d.sectors.map secC).set i [.bsl (n + 5) 0 Z false]).take i ++ [[.vsl (n + 5) Z]]) (.own (n + 3))) (.sl 1 (((d.sectors.map secC).set i [.bsl (n + 5) 0 Z false]).take i ++ [[.bsl (n + 5) 0 Z false]]) (.own (n + 3))) := bx_app ⟨.vsl, trivial⟩
        simp only [bxRL_cons, bxRL_nil, bxRes_same, bxRes_box, bxL_cons, bxL_nil, bx_same, hx, true_and, and_true]
      simp only [patch, s_0, s_s]
      repeat' (first | (with_reducible first | refine awp_seq_k fun K hK => ?_ | refine awp_ev tab_ok [] ?_ | refine awp_block_s ?_ | refine awp_block_c ?_ | refine awp_block_r ?_ | refine awp_skip ?_ | apply And.intro | refine awp_ev_quiet tab_ok follows (by kernel_rfl) ?_) | ((with_reducible first | refine gE ?_ | refine gR ?_); simp (maxSteps := 4000000) only [su, evLit, hbT, tab, thenA, blockA, reduceCtorEq, reduceIte, Nat.reduceEqDiff, Nat.reduceBEq, Int.reduceLE, Int.reduceToNat, Nat.reduceAdd, Nat.reduceLT, Nat.reduceLeDiff, hw]) | (show (_ : Nat) = (_ : Nat); rfl) | ((with_reducible refine awp_ret ?_); (first | refine ret_cell_le (.inr rfl) rfl rfl rfl (fun _ _ => rfl) ok25 (k := n + 1) (off := 0) rfl (dom_loc _ (by simp)) (look_loc _ (Nat.le_refl _) 1) rfl ?_ | refine ret_cell_le (.inr rfl) rfl rfl rfl (fun _ _ => rfl) ok25 (k := m + 1) (off := 0) rfl (dom_loc _ (by simp)) (look_loc _ hm 1) rfl ?_) <;> first | rfl | exact AV.le.rfl _ | (simp only [patch, sl, ti25, List.map_nil, hw]; done) | rfl | skip) | ((with_reducible refine awp_exit ?_); simp only [thenA, blockA, if_true, if_false, reduceIte, Nat.reduceEqDiff]) | (refine hK _ ?_; clear hK K) | refine awp_cond_t rfl ?_ | refine awp_cond_f rfl ?_ | refine awp_if rfl (fun hg => ?_) (fun hg => ?_) | clear hK K)
      rw [hsn]
      refine ⟨i + 1, by omega, by omega, ?_⟩
      rw [if_neg (by omega)]
      refine le_of_all ?_ ?_ rfl rfl rfl rfl <;> simp only [patch, sl, hlt, decide_true]
    · have hgE : ((d.sectors.map secC).set z [.bsl (n + 5) 0 Z false])[i]'(by simp; omega) = secC d.sectors[i] := by rw [List.getElem_set_ne (by omega)]; simp
      have hsn : ((d.sectors.map secC).set z [.bsl (n + 5) 0 Z false]).take i ++ [secC d.sectors[i]] = ((d.sectors.map secC).set z [.bsl (n + 5) 0 Z false]).take (i + 1) := by
        rw [List.take_succ_eq_append_getElem (by simp; omega), hgE]
      have hoo : (if i + 1 ≤ z then none else some (Res.box 5 B)) = (if i ≤ z then none else some (Res.box 5 B)) := by
        by_cases h : i ≤ z
        · rw [if_pos h, if_pos (by omega)]
        · rw [if_neg h, if_neg (by omega)]
      generalize (if i ≤ z then none else some (Res.box 5 B)) = O at hoo ⊢
      simp only [secC] at hsn
      have lit : ∀ (σ : AState) (K : AV → List (Nat × Res) → Prop), evLit tab σ K none 22 1 [(0, .sl 1 (bytesAV d.sectors[i]) .sh)] = K (.sl 1 [secC d.sectors[i]] .full) [] := fun σ K => evLit_one (T := tab) (ti := ti22) (te := ti37) rfl rfl rfl (by decide) (by decide) rfl rfl
      repeat' (first | (with_reducible first | refine awp_seq_k fun K hK => ?_ | refine awp_ev tab_ok [] ?_ | refine awp_block_s ?_ | refine awp_block_c ?_ | refine awp_block_r ?_ | refine awp_skip ?_ | apply And.intro | refine awp_ev_draw (id := 5) tab_ok [] [[],[2],[],[0],[],[],[],[],[],[3],[],[2]] [[],[],[],[],[],[],[],[],[],[3],[],[2]] follows (by kernel_rfl) (by decide) (by decide) (by kernel_rfl) ?_ | refine awp_ev_quiet tab_ok follows (by kernel_rfl) ?_) | ((with_reducible first | refine gE ?_ | refine gR ?_ | refine gD ?_ | refine gF ?_); simp (maxSteps := 4000000) only [su, hbT, tab, thenA, blockA, reduceCtorEq, reduceIte, Nat.reduceEqDiff, Nat.reduceBEq, Int.reduceLE, Int.reduceToNat, Nat.reduceAdd, Nat.reduceLT, Nat.reduceLeDiff, lit, List.length_map, hlt, hgs, secC, bytes_length, y1, y2, y3, y4, splice_all, List.length_take, List.length_set, Nat.min_eq_left hi, hw, hsn]) | (show (_ : Nat) = (_ : Nat); rfl) | ((with_reducible refine awp_ret ?_); (first | refine ret_cell_le (.inr rfl) rfl rfl rfl (fun _ _ => rfl) ok25 (k := n + 1) (off := 0) rfl (dom_loc _ (by simp)) (look_loc _ (Nat.le_refl _) 1) rfl ?_ | refine ret_cell_le (.inr rfl) rfl rfl rfl (fun _ _ => rfl) ok25 (k := m + 1) (off := 0) rfl (dom_loc _ (by simp)) (look_loc _ hm 1) rfl ?_) <;> first | rfl | exact AV.le.rfl _ | (simp only [patch, sl, ti25, List.map_nil, lit, List.length_map, hlt, hgs, secC, bytes_length, y1, y2, y3, y4, splice_all, List.length_take, List.length_set, Nat.min_eq_left hi, hw, hsn]; done) | rfl | skip) | ((with_reducible refine awp_exit ?_); simp only [thenA, blockA, if_true, if_false, reduceIte, Nat.reduceEqDiff]) | (refine hK _ ?_; clear hK K) | refine awp_cond_t rfl ?_ | refine awp_cond_f rfl ?_ | refine awp_if rfl (fun hg => ?_) (fun hg => ?_) | clear hK K)
      refine ⟨i + 1, by omega, by omega, ?_⟩
      rw [hoo]
      refine le_of_all ?_ ?_ rfl rfl rfl rfl <;> simp only [patch, sl, hlt, decide_true]
  · obtain rfl : i = d.sectors.length := by omega
    rw [List.take_of_length_le (by rw [hEl]; exact Nat.le_refl _), if_neg (by omega)]
    repeat' (first | (with_reducible first | refine awp_seq_k fun K hK => ?_ | refine awp_ev tab_ok [] ?_ | refine awp_block_s ?_ | refine awp_block_c ?_ | refine awp_block_r ?_ | refine awp_skip ?_ | apply And.intro | refine awp_ev_quiet tab_ok follows (by kernel_rfl) ?_) | ((with_reducible first | refine gE ?_ | refine gR ?_); simp (maxSteps := 4000000) only [su, evLit, hbT, tab, thenA, blockA, reduceCtorEq, reduceIte, Nat.reduceEqDiff, Nat.reduceBEq, Int.reduceLE, Int.reduceToNat, Nat.reduceAdd, Nat.reduceLT, Nat.reduceLeDiff, List.length_map, hlt]) | (show (_ : Nat) = (_ : Nat); rfl) | ((with_reducible refine awp_ret ?_); (first | refine ret_cell_le (.inr rfl) rfl rfl rfl (fun _ _ => rfl) ok25 (k := n + 1) (off := 0) rfl (dom_loc _ (by simp)) (look_loc _ (Nat.le_refl _) 1) rfl ?_ | refine ret_cell_le (.inr rfl) rfl rfl rfl (fun _ _ => rfl) ok25 (k := m + 1) (off := 0) rfl (dom_loc _ (by simp)) (look_loc _ hm 1) rfl ?_) <;> first | rfl | exact AV.le.rfl _ | (simp only [patch, sl, ti25, List.map_nil, List.length_map, hlt]; done) | rfl | skip) | ((with_reducible refine awp_exit ?_); simp only [thenA, blockA, if_true, if_false, reduceIte, Nat.reduceEqDiff]) | (refine hK _ ?_; clear hK K) | refine awp_cond_t rfl ?_ | refine awp_cond_f rfl ?_ | refine awp_if rfl (fun hg => ?_) (fun hg => ?_) | clear hK K)
    refine awp_block ?_
    refine awp_for_mv (fun m (i : Nat) => [(1, .ptr (m + 0) 0), (2, .ptr (m + 1) 0), (3, .ptr (m + 2) 0), (5, i64 (i : Int)), (6, .top), (25, .top), (26, .top), (27, .top), (28, .top), (29, .top), (30, .top), (31, .top), (32, .top), (33, .top), (34, .top), (35, .top), (36, .top), (37, .top), (38, .top), (39, .top), (40, .top), (41, .top), (42, .top), (43, .top), (44, .top), (45, .top), (46, .top)]) (fun m i => [some (.box 25 [.sl 1 (d.sectors.map secC) .sh, .sl 2 (d.waits.map wrC) .sh]), some (.box 25 [.sl 0 [] .nil, .sl 0 [] .nil]), some (.box 25 [.sl 1 ((d.sectors.map secC).set z [.bsl (m + 5) 0 Z false]) .sh, .sl 2 ((d.waits.take i).map wrC) (.own (m + 4))]), some (.row 37 1 d.sectors.length), some (.row 52 2 i), some (.box 5 B), none]) (fun i => out) (fun i => i ≤ d.waits.length) (fun i => d.waits.length - i) 0 (Nat.zero_le _) ?_ fun m i hm hi => ?_
    · refine le_of_all ?_ ?_ (by first | rfl | (simp only [List.take_zero, List.map_nil, List.length_map, mv_setB]; rfl) | simp only [List.take_zero, List.map_nil, List.length_map, mv_setB]) rfl rfl rfl <;> simp only [patch, sl, List.take_zero, List.map_nil, List.length_map, mv_setB]
    simp only [patch, s_0, s_s]
    have hw := addw (n := i) 1 1 rfl (by omega)
    by_cases hlt : i < d.waits.length
    · have hgw := getD_map wrC d.waits i [] hlt
      have hwb := hd.wb _ (List.getElem_mem hlt)
      have y1 : (d.waits[i]).data.length ≤ 140737488355328 := by omega
      have y2 : (d.waits[i]).data.length ≤ 9223372036854775807 := by omega
      have y3 : i ≤ 9223372036854775806 := by omega
      have y4 : (i + 1) * 32 ≤ 140737488355328 := by omega
      have lit : ∀ (σ : AState) (K : AV → List (Nat × Res) → Prop), evLit tab σ K none 23 1 [(0, .agg [i64 (d.waits[i]).at', bs (d.waits[i]).data])] = K (.sl 2 [wrC d.waits[i]] .full) [] := fun σ K => evLit_one (T := tab) (ti := ti23) (te := ti52) rfl rfl rfl (by decide) (by decide) rfl rfl
      have hsn := map_snoc wrC d.waits i hlt
      simp only [wrC] at hsn
      repeat' (first | (with_reducible first | refine awp_seq_k fun K hK => ?_ | refine awp_ev tab_ok [] ?_ | refine awp_block_s ?_ | refine awp_block_c ?_ | refine awp_block_r ?_ | refine awp_skip ?_ | apply And.intro | refine awp_ev_quiet tab_ok follows (by kernel_rfl) ?_) | ((with_reducible first | refine gE ?_ | refine gR ?_); simp (maxSteps := 4000000) only [su, hbT, tab, thenA, blockA, reduceCtorEq, reduceIte, Nat.reduceEqDiff, Nat.reduceBEq, Int.reduceLE, Int.reduceToNat, Nat.reduceAdd, Nat.reduceLT, Nat.reduceLeDiff, lit, locM hm, List.length_map, hlt, hgw, wrC, bytes_length, y1, y2, y3, y4, splice_all, List.length_take, Nat.min_eq_left hi, hw, hsn]) | (show (_ : Nat) = (_ : Nat); rfl) | ((with_reducible refine awp_ret ?_); (first | refine ret_cell_le (.inr rfl) rfl rfl rfl (fun _ _ => rfl) ok25 (k := n + 1) (off := 0) rfl (dom_loc _ (by simp)) (look_loc _ (Nat.le_refl _) 1) rfl ?_ | refine ret_cell_le (.inr rfl) rfl rfl rfl (fun _ _ => rfl) ok25 (k := m + 1) (off := 0) rfl (dom_loc _ (by simp)) (look_loc _ hm 1) rfl ?_) <;> first | rfl | exact AV.le.rfl _ | (simp only [patch, sl, ti25, List.map_nil, lit, locM hm, List.length_map, hlt, hgw, wrC, bytes_length, y1, y2, y3, y4, splice_all, List.length_take, Nat.min_eq_left hi, hw, hsn]; done) | rfl | skip) | ((with_reducible refine awp_exit ?_); simp only [thenA, blockA, if_true, if_false, reduceIte, Nat.reduceEqDiff]) | (refine hK _ ?_; clear hK K) | refine awp_cond_t rfl ?_ | refine awp_cond_f rfl ?_ | refine awp_if rfl (fun hg => ?_) (fun hg => ?_) | clear hK K)
      refine ⟨i + 1, by omega, by omega, ?_⟩
      refine le_move [true, true, true, true, true, true, false] (fun n_ => ?_) (fun n_ => ?_) <;> simp only [patch, sm, hlt, decide_true, mv_setB]
    · obtain rfl : i = d.waits.length := by omega
      rw [List.take_length]
      repeat' (first | (with_reducible first | refine awp_seq_k fun K hK => ?_ | refine awp_ev tab_ok [] ?_ | refine awp_block_s ?_ | refine awp_block_c ?_ | refine awp_block_r ?_ | refine awp_skip ?_ | apply And.intro | refine awp_ev_quiet tab_ok follows (by kernel_rfl) ?_) | ((with_reducible first | refine gE ?_ | refine gR ?_); simp (maxSteps := 4000000) only [su, evLit, hbT, tab, thenA, blockA, reduceCtorEq, reduceIte, Nat.reduceEqDiff, Nat.reduceBEq, Int.reduceLE, Int.reduceToNat, Nat.reduceAdd, Nat.reduceLT, Nat.reduceLeDiff, locM hm, List.length_map, hlt, splice_all]) | (show (_ : Nat) = (_ : Nat); rfl) | ((with_reducible refine awp_ret ?_); (first | refine ret_cell_le (.inr rfl) rfl rfl rfl (fun _ _ => rfl) ok25 (k := n + 1) (off := 0) rfl (dom_loc _ (by simp)) (look_loc _ (Nat.le_refl _) 1) rfl ?_ | refine ret_cell_le (.inr rfl) rfl rfl rfl (fun _ _ => rfl) ok25 (k := m + 1) (off := 0) rfl (dom_loc _ (by simp)) (look_loc _ hm 1) rfl ?_) <;> first | rfl | exact AV.le.rfl _ | (simp only [patch, sl, ti25, List.map_nil, locM hm, List.length_map, hlt, splice_all]; done) | rfl | skip) | ((with_reducible refine awp_exit ?_); simp only [thenA, blockA, if_true, if_false, reduceIte, Nat.reduceEqDiff]) | (refine hK _ ?_; clear hK K) | refine awp_cond_t rfl ?_ | refine awp_cond_f rfl ?_ | refine awp_if rfl (fun hg => ?_) (fun hg => ?_) | clear hK K)
      have hmv : Mv [true] (m + 5) kz (.sl 1 ((d.sectors.map secC).set z [.bsl (m + 5) 0 Z false]) .sh) (.sl 1 ((d.sectors.map secC).set z [.bsl kz 0 Z false]) .sh) := mv_slE (mvE_set z ⟨Mv.bsl (n := m + 5) (n' := kz) 0 0 _ false rfl, trivial⟩)
      refine awp_le (le_toOutP (i := 5) (k := kz) [] (lo1 := [some (.box 25 [.sl 1 (d.sectors.map secC) .sh, .sl 2 (d.waits.map wrC) .sh]), some (.box 25 [.sl 1 ((d.sectors.map secC).set z [.bsl kz 0 Z false]) .sh, .sl 2 (d.waits.map wrC) .sh]), some (.box 25 [.sl 1 ((d.sectors.map secC).set z [.bsl kz 0 Z false]) .sh, .sl 2 (d.waits.map wrC) .sh]), some (.row 37 1 d.sectors.length), some (.row 52 2 d.waits.length), some (.box 5 B), none]) rfl (by show kz < n; exact hkzn) hkz ((mvL_refl _).2 trivial) ?_) ?_
      · simp only [mvRL_cons, mvRL_nil, mvRes_same, mvRes_box, mvL_cons, mvL_nil, mvL_refl, mv_sh_iff, mv_le_iff, hmv, true_and, and_true]
      simp only [patch, s_0, s_s, zombie]
      refine awp_ret ?_
      exact ret_cell_le (.inr rfl) rfl rfl rfl (fun _ _ => rfl) ok25 (k := m + 1) (off := 0) rfl (dom_loc _ (by simp)) (look_loc _ hm 1) rfl (by simp only [patch, sl])
end Go.Proofs.Ytefkjdkalgemeaa
