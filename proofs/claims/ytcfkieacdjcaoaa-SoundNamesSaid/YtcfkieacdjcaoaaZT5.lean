/-
  The law SoundNames.
-/
import Derived.Test.YtcfkieacdjcaoaaZG0
import Derived.Test.YtcfkieacdjcaoaaZT3
namespace Go.Proofs.Ytcfkieacdjcaoaa.Pln
set_option linter.unusedVariables false
set_option linter.unusedSimpArgs false
open Go Go.VS Tab
set_option maxHeartbeats 16000000
set_option maxRecDepth 8000
theorem c_stationB (k : Nat) : ACall Try.prog 12 [] [(k, none)] (.agg [i64 1, i64 0, .sl 3 (tSs.map secC) .sh, .sl 2 (tPs.map jnC) .sh, .sl 3 (tGs.map sgC) .full, .bsl k 0 3 true]) [(k, .box 34 tRc)] := by
  refine acall_of 1 Try.func12 rfl fun n out _ _ => ?_
  simp only [Try.ntmps12, List.length_cons, List.length_nil, List.length_map, List.length_replicate, rep_map, Nat.reduceAdd, Nat.reduceSub, List.replicate, List.cons_append, List.nil_append]
  rename_i hneeds hgv
  obtain ⟨hk, _⟩ := hneeds
  obtain ⟨hkn, _⟩ := hgv
  repeat' (first | (with_reducible first | refine awp_seq_k fun K hK => ?_ | refine awp_ev tab_ok [(43, some k)] ?_ | refine awp_skip ?_ | apply And.intro) | ((with_reducible first | refine gE ?_ | refine gR ?_); simp (maxSteps := 4000000) only [su, hbT, tab, thenA, blockA, reduceCtorEq, reduceIte, Nat.reduceEqDiff, Nat.reduceBEq, Int.reduceLE, Int.reduceToNat, Nat.reduceAdd, Nat.reduceLT, Nat.reduceLeDiff, splice_all, tRc, tSs, tPs, tGs, tS1, tS2, tS3, tS4, tS5, tS6, secC, jnC, sgC, rtC, intC, List.map_cons, List.map_nil, lk_out hkn, dm_out hkn, nx_out0 hkn, hk, Nat.reduceEqDiff]) | (show (_ : Nat) = (_ : Nat); rfl) | ((with_reducible refine awp_ret ?_); (try refine Or.inr ⟨(by intro h; cases h), ?_⟩); (first | refine ret_cell_le (.inr rfl) rfl rfl rfl (fun _ _ => rfl) ok27 (k := n + 0) (off := 0) rfl (dom_loc _ (by simp)) (look_loc _ (Nat.le_refl _) 0) rfl ?_ | refine ret_cell_le (.inr rfl) rfl rfl rfl (fun _ _ => rfl) ok27 (k := m + 0) (off := 0) rfl (dom_loc _ (by simp)) (look_loc _ hm 0) rfl ?_) <;> first | rfl | exact AV.le.rfl _ | (simp only [patch, sl, ti27, List.map_nil, splice_all, tRc, tSs, tPs, tGs, tS1, tS2, tS3, tS4, tS5, tS6, secC, jnC, sgC, rtC, intC, List.map_cons, List.map_nil, lk_out hkn, dm_out hkn, nx_out0 hkn, hk, if_true, if_false, Nat.reduceEqDiff]; done) | rfl | skip) | (refine evLit_of 2 [[i64 0, i64 0], [i64 2, i64 0]] rfl ?_) | (refine evLit_of 2 [[i64 1, i64 1], [i64 3, i64 0], [i64 4, i64 0]] rfl ?_) | (refine evLit_of 2 [[i64 2, i64 1], [i64 5, i64 1]] rfl ?_) | (refine evLit_of 2 [[i64 2, i64 2], [i64 5, i64 2]] rfl ?_) | (refine evLit_of 2 [[i64 6, i64 0], [i64 3, i64 1], [i64 4, i64 1]] rfl ?_) | (refine evLit_of 2 [[i64 5, i64 0], [i64 0, i64 0]] rfl ?_) | (refine evLit_of 3 [[i64 1, i64 0, .sl 2 [[i64 0, i64 0], [i64 2, i64 0]] .full], [i64 2, i64 2, .sl 2 [[i64 1, i64 1], [i64 3, i64 0], [i64 4, i64 0]] .full], [i64 3, i64 0, .sl 2 [[i64 2, i64 1], [i64 5, i64 1]] .full], [i64 4, i64 0, .sl 2 [[i64 2, i64 2], [i64 5, i64 2]] .full], [i64 5, i64 5, .sl 2 [[i64 6, i64 0], [i64 3, i64 1], [i64 4, i64 1]] .full], [i64 6, i64 0, .sl 2 [[i64 5, i64 0], [i64 0, i64 0]] .full]] rfl ?_) | (refine evLit_of 2 [[i64 2, i64 2], [i64 5, i64 5]] rfl ?_) | (refine evLit_of 3 [[i64 1, i64 1, i64 1], [i64 3, i64 3, i64 1], [i64 4, i64 4, i64 1], [i64 6, i64 6, i64 0]] rfl ?_) | (refine evLit_of 1 [[i64 2], [i64 3]] rfl ?_) | (refine evLit_of 1 [[i64 5]] rfl ?_) | (refine evLit_of 1 [[i64 5], [i64 6]] rfl ?_) | (refine evLit_of 1 [[i64 5], [i64 4], [i64 2], [i64 1]] rfl ?_) | (refine evLit_box 34 tRc rfl (by rw [fn_some, dm_out hkn, lk_out hkn]; exact ⟨trivial, hk⟩) ?_) | (refine hK _ ?_; clear hK K) | ((first | show Program.eqGuardType _ _ _ = false | show numFieldsB _ _ _ = true | show Program.stoodInHeld _ _ = false); kernel_rfl) | clear hK K)
def tRa : List Rt := [tR1, ⟨3, 3, 0, [5, 6], [], [(2, 1)], 1⟩, tR6]
def tRb : List Rt := [⟨1, 1, 3, [2, 3], [5], [(2, 1)], 2⟩, tR3, tR6]
def exTa : Pl := ⟨1, 0, tSs, tPs, tGs, tRa⟩
def exTb : Pl := ⟨1, 0, tSs, tPs, tGs, tRb⟩
def exTc : Pl := ⟨1, 0, tSs, tPs, tGs ++ [(9, 2, 1)], exT.rts⟩
def exTd : Pl := ⟨1, 0, tSs, tPs, tGs ++ [(9, 5, 1)], exT.rts⟩
def tCellsA : List AV := [i64 1, i64 1, i64 3, .sl 1 [[i64 2], [i64 3]] .full, .sl 1 [[i64 5]] .full, .sl 0 [] .nil, i64 2, i64 3, i64 3, i64 0, .sl 1 [[i64 5], [i64 6]] .full, .sl 0 [] .nil, .sl 2 [[i64 2, i64 1]] .full, i64 1, i64 6, i64 6, i64 0, .sl 1 [[i64 5], [i64 4], [i64 2], [i64 1]] .full, .sl 0 [] .nil, .sl 0 [] .nil, i64 1]
def tCellsB : List AV := [i64 1, i64 1, i64 3, .sl 1 [[i64 2], [i64 3]] .full, .sl 1 [[i64 5]] .full, .sl 2 [[i64 2, i64 1]] .full, i64 2, i64 3, i64 3, i64 0, .sl 1 [[i64 5], [i64 6]] .full, .sl 0 [] .nil, .sl 0 [] .nil, i64 1, i64 6, i64 6, i64 0, .sl 1 [[i64 5], [i64 4], [i64 2], [i64 1]] .full, .sl 0 [] .nil, .sl 0 [] .nil, i64 1]
def tRowsA : List (List AV) := [[i64 1, i64 1, i64 3, .sl 1 [[i64 2], [i64 3]] .full, .sl 1 [[i64 5]] .full, .sl 0 [] .nil, i64 2], [i64 3, i64 3, i64 0, .sl 1 [[i64 5], [i64 6]] .full, .sl 0 [] .nil, .sl 2 [[i64 2, i64 1]] .full, i64 1], [i64 6, i64 6, i64 0, .sl 1 [[i64 5], [i64 4], [i64 2], [i64 1]] .full, .sl 0 [] .nil, .sl 0 [] .nil, i64 1]]
def tRowsB : List (List AV) := [[i64 1, i64 1, i64 3, .sl 1 [[i64 2], [i64 3]] .full, .sl 1 [[i64 5]] .full, .sl 2 [[i64 2, i64 1]] .full, i64 2], [i64 3, i64 3, i64 0, .sl 1 [[i64 5], [i64 6]] .full, .sl 0 [] .nil, .sl 0 [] .nil, i64 1], [i64 6, i64 6, i64 0, .sl 1 [[i64 5], [i64 4], [i64 2], [i64 1]] .full, .sl 0 [] .nil, .sl 0 [] .nil, i64 1]]
theorem c_lawSNames : ACall Try.prog 3 [] [] (bool true) [] := by
  have h5 : ACall Try.prog 14 [.agg [i64 1, i64 0, .sl 3 (tSs.map secC) .sh, .sl 2 (tPs.map jnC) .sh, .sl 3 (tGs.map sgC) .full, .sl 7 (tRowsA) .sh]] [] (i64 0) [] := by
    have h := c_soundC exTa ⟨by decide, by decide, by decide, by decide, by decide, by decide⟩
    rw [show soundE exTa = 0 by kernel_rfl] at h
    refine acall_le h ?_
    simp only [plA, plC, exTa, tRa, tRb, tR1, tR3, tR6, tRowsA, tRowsB, rtC, intC, jnC, List.map_append, List.map_cons, List.map_nil, patch, sl]
  have h6 : ACall Try.prog 14 [.agg [i64 1, i64 0, .sl 3 (tSs.map secC) .sh, .sl 2 (tPs.map jnC) .sh, .sl 3 (tGs.map sgC) .full, .sl 7 (tRowsB) .sh]] [] (i64 100) [] := by
    have h := c_soundC exTb ⟨by decide, by decide, by decide, by decide, by decide, by decide⟩
    rw [show soundE exTb = 100 by kernel_rfl] at h
    refine acall_le h ?_
    simp only [plA, plC, exTb, tRa, tRb, tR1, tR3, tR6, tRowsA, tRowsB, rtC, intC, jnC, List.map_append, List.map_cons, List.map_nil, patch, sl]
  have h7 : ACall Try.prog 14 [.agg [i64 1, i64 0, .sl 3 (tSs.map secC) .sh, .sl 2 (tPs.map jnC) .sh, .sl 3 (tGs.map sgC ++ [[i64 9, i64 2, i64 1]]) .sh, .sl 7 (exT.rts.map rtC) .sh]] [] (i64 100) [] := by
    have h := c_soundC exTc ⟨by decide, by decide, by decide, by decide, by decide, by decide⟩
    rw [show soundE exTc = 100 by kernel_rfl] at h
    refine acall_le h ?_
    simp only [plA, plC, exTc, sgC, List.map_append, List.map_cons, List.map_nil, patch, sl]
  have h8 : ACall Try.prog 14 [.agg [i64 1, i64 0, .sl 3 (tSs.map secC) .sh, .sl 2 (tPs.map jnC) .sh, .sl 3 (tGs.map sgC ++ [[i64 9, i64 5, i64 1]]) .sh, .sl 7 (exT.rts.map rtC) .sh]] [] (i64 0) [] := by
    have h := c_soundC exTd ⟨by decide, by decide, by decide, by decide, by decide, by decide⟩
    rw [show soundE exTd = 0 by kernel_rfl] at h
    refine acall_le h ?_
    simp only [plA, plC, exTd, sgC, List.map_append, List.map_cons, List.map_nil, patch, sl]
  have o1 := c_stationB
  have o2 := c_station10
  obtain ⟨S, hS⟩ : ∃ S, S = tSs.map secC := ⟨_, rfl⟩
  obtain ⟨Pt, hPt⟩ : ∃ Pt, Pt = tPs.map jnC := ⟨_, rfl⟩
  obtain ⟨G, hG⟩ : ∃ G, G = tGs.map sgC := ⟨_, rfl⟩
  obtain ⟨RT, hRT⟩ : ∃ RT, RT = exT.rts.map rtC := ⟨_, rfl⟩
  rw [← hS, ← hPt, ← hG, ← hRT] at o2
  rw [← hS, ← hPt, ← hG] at h5 h6
  rw [← hS, ← hPt, ← hG, ← hRT] at h7 h8
  simp only [← hS, ← hPt, ← hG] at o1
  refine acall_of 7 Try.func3 rfl fun n out _ _ => ?_
  simp only [Try.ntmps3, List.length_cons, List.length_nil, List.length_map, List.length_replicate, rep_map, Nat.reduceAdd, Nat.reduceSub, List.replicate, List.cons_append, List.nil_append]
  have hGl : G.length = 4 := by rw [hG]; rfl
  repeat' (first | (with_reducible first | refine awp_seq_k fun K hK => ?_ | refine awp_ev tab_ok [] ?_ | refine awp_skip ?_ | apply And.intro) | ((with_reducible first | refine gE ?_ | refine gR ?_); simp (maxSteps := 4000000) only [su, hbT, tab, thenA, blockA, reduceCtorEq, reduceIte, Nat.reduceEqDiff, Nat.reduceBEq, Int.reduceLE, Int.reduceToNat, Nat.reduceAdd, Nat.reduceLT, Nat.reduceLeDiff, splice_all, tRc, hGl, Int.cast_ofNat_Int, Int.reduceLT, Nat.reduceMul]) | (show (_ : Nat) = (_ : Nat); rfl) | ((with_reducible refine awp_ret ?_); (try refine Or.inr ⟨(by intro h; cases h), ?_⟩); refine ret_tmp (.inr rfl) rfl rfl rfl (fun _ _ => rfl) ?_ <;> first | rfl | skip) | (refine call_one (o1 (n + 4)) (look_loc _ (Nat.le_refl _) 4) (dom_loc _ (by simp)) (by simp) ?_) | (refine call_one (o1 (n + 5)) (look_loc _ (Nat.le_refl _) 5) (dom_loc _ (by simp)) (by simp) ?_) | (refine call_pure (o2) ?_) | (refine evLit_of 2 [[i64 2, i64 1]] rfl ?_) | (refine evLit_of 3 [[i64 9, i64 2, i64 1]] rfl ?_) | ((with_reducible refine gsel_case (fun hg => ?_) (fun hg => ?_)) <;> (try simp only [nb] at hg) <;> simp (maxSteps := 4000000) only [su, hbT, tab, thenA, blockA, reduceCtorEq, reduceIte, Nat.reduceEqDiff, Nat.reduceBEq, Int.reduceLE, Int.reduceToNat, Nat.reduceAdd, Nat.reduceLT, Nat.reduceLeDiff, hg, splice_all, tRc, hGl, Int.cast_ofNat_Int, Int.reduceLT, Nat.reduceMul]) | (refine hK _ ?_; clear hK K) | ((first | show Program.eqGuardType _ _ _ = false | show numFieldsB _ _ _ = true | show Program.stoodInHeld _ _ = false); kernel_rfl) | clear hK K)
  refine evLit_of 3 [[i64 9, i64 5, i64 1]] rfl ?_
  simp (maxSteps := 4000000) only [su, evLit, hbT, tab, thenA, blockA, reduceCtorEq, reduceIte, Nat.reduceEqDiff, Nat.reduceBEq, Int.reduceLE, Int.reduceToNat, Nat.reduceAdd, Nat.reduceLT, Nat.reduceLeDiff, hGl, Int.cast_ofNat_Int, Int.reduceLT, Nat.reduceMul, splice_all]
  repeat' (first | (with_reducible refine hK _ ?_; clear hK K) | with_reducible apply And.intro)
  obtain ⟨ca, hca⟩ : ∃ ca, ca = tCellsA := ⟨_, rfl⟩
  obtain ⟨cb, hcb⟩ : ∃ cb, cb = tCellsB := ⟨_, rfl⟩
  have f5 : Fz (n + 4) 7 ca (.bsl (n + 4) 0 3 true) (.sl 7 tRowsA .sh) ↔ True := ⟨fun _ => trivial, fun _ => by subst hca; exact .bsl 0 3 true ⟨by decide, by decide⟩⟩
  have f6 : Fz (n + 5) 7 cb (.bsl (n + 5) 0 3 true) (.sl 7 tRowsB .sh) ↔ True := ⟨fun _ => trivial, fun _ => by subst hcb; exact .bsl 0 3 true ⟨by decide, by decide⟩⟩
  unfold tCellsA at hca
  unfold tCellsB at hcb
  rw [← hca, ← hcb]
  refine awp_le (le_freezeP (i := 4) 7 [] (lo1 := [some (.box 27 [i64 1, i64 0, .sl 3 S .sh, .sl 2 Pt .sh, .sl 3 G .full, .sl 7 tRowsA .sh]), some (.box 27 [i64 1, i64 0, .sl 3 S .sh, .sl 2 Pt .sh, .sl 3 G .full, .bsl (n + 5) 0 3 true]), some (.box 27 [i64 1, i64 0, .sl 3 S .sh, .sl 2 Pt .sh, .sl 3 (G ++ [[i64 9, i64 2, i64 1]]) .sh, .sl 7 RT .sh]), some (.box 27 [i64 1, i64 0, .sl 3 S .sh, .sl 2 Pt .sh, .sl 3 (G ++ [[i64 9, i64 5, i64 1]]) .sh, .sl 7 RT .sh]), some (.box 34 ca), some (.box 34 cb), none]) rfl ?_ ?_) ?_
  · simp only [patch, s_0, s_s, fzRL_cons, fzRL_nil, fzRes_same, fzRes_box, fzL_cons, fzL_nil, fz_same, true_and, and_true, f5, fzL_refl_iff]
  · simp only [patch, s_0, s_s, fzRL_cons, fzRL_nil, fzRes_same, fzRes_box, fzL_cons, fzL_nil, fz_same, true_and, and_true, f5, fzL_refl_iff]
  simp only [patch, s_0, s_s]
  refine awp_le (le_freezeP (i := 5) 7 [] (lo1 := [some (.box 27 [i64 1, i64 0, .sl 3 S .sh, .sl 2 Pt .sh, .sl 3 G .full, .sl 7 tRowsA .sh]), some (.box 27 [i64 1, i64 0, .sl 3 S .sh, .sl 2 Pt .sh, .sl 3 G .full, .sl 7 tRowsB .sh]), some (.box 27 [i64 1, i64 0, .sl 3 S .sh, .sl 2 Pt .sh, .sl 3 (G ++ [[i64 9, i64 2, i64 1]]) .sh, .sl 7 RT .sh]), some (.box 27 [i64 1, i64 0, .sl 3 S .sh, .sl 2 Pt .sh, .sl 3 (G ++ [[i64 9, i64 5, i64 1]]) .sh, .sl 7 RT .sh]), some .dead, some (.box 34 cb), none]) rfl ?_ ?_) ?_
  · simp only [patch, s_0, s_s, fzRL_cons, fzRL_nil, fzRes_same, fzRes_box, fzL_cons, fzL_nil, fz_same, true_and, and_true, f6, fzL_refl_iff]
  · simp only [patch, s_0, s_s, fzRL_cons, fzRL_nil, fzRes_same, fzRes_box, fzL_cons, fzL_nil, fz_same, true_and, and_true, f6, fzL_refl_iff]
  simp only [patch, s_0, s_s]
  repeat' (first | (with_reducible first | refine awp_seq_k fun K hK => ?_ | refine awp_ev tab_ok [] ?_ | refine awp_skip ?_ | apply And.intro) | ((with_reducible first | refine gE ?_ | refine gR ?_); simp (maxSteps := 4000000) only [su, evLit, hbT, tab, thenA, blockA, reduceCtorEq, reduceIte, Nat.reduceEqDiff, Nat.reduceBEq, Int.reduceLE, Int.reduceToNat, Nat.reduceAdd, Nat.reduceLT, Nat.reduceLeDiff, splice_all, Int.reduceBEq]) | (show (_ : Nat) = (_ : Nat); rfl) | ((with_reducible refine awp_ret ?_); (try refine Or.inr ⟨(by intro h; cases h), ?_⟩); refine ret_tmp (.inr rfl) rfl rfl rfl (fun _ _ => rfl) ?_ <;> first | rfl | skip) | (refine call_pure (c_salive) ?_) | (refine call_pure (h5) ?_) | (refine call_pure (h6) ?_) | (refine call_pure (h7) ?_) | (refine call_pure (h8) ?_) | ((with_reducible refine gsel_case (fun hg => ?_) (fun hg => ?_)) <;> (try simp only [nb] at hg) <;> simp (maxSteps := 4000000) only [su, evLit, hbT, tab, thenA, blockA, reduceCtorEq, reduceIte, Nat.reduceEqDiff, Nat.reduceBEq, Int.reduceLE, Int.reduceToNat, Nat.reduceAdd, Nat.reduceLT, Nat.reduceLeDiff, hg, splice_all, Int.reduceBEq]) | (refine hK _ ?_; clear hK K) | ((first | show Program.eqGuardType _ _ _ = false | show numFieldsB _ _ _ = true | show Program.stoodInHeld _ _ = false); kernel_rfl) | clear hK K)
end Go.Proofs.Ytcfkieacdjcaoaa.Pln
