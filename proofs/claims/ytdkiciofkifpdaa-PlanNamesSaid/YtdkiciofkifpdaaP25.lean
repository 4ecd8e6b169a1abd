/-
  The law PlanNames.
-/
import Derived.Test.YtdkiciofkifpdaaP24
namespace Go.Proofs.Ytdkiciofkifpdaa.Pln
set_option linter.unusedVariables false
set_option linter.unusedSimpArgs false
open Go Go.VS Tab
set_option maxHeartbeats 8000000
set_option maxRecDepth 8000

def exPa : Pl := ⟨2, 2, [exS1, exS2, exS3], [(5, 2)], [(4, 1, 0)], [exR]⟩
def exRb : Rt := ⟨8, 4, 0, [1, 2], [], [], 3⟩
def exPb : Pl := ⟨2, 1, [exS1, exS2, exS3], [(5, 2)], [(4, 1, 0)], [exRb]⟩
def exRc : Rt := ⟨8, 4, 0, [2, 3], [], [], 10⟩
def exPc : Pl := ⟨2, 1, [exS1, exS2, exS3], [(5, 2)], [(4, 1, 0)], [exRc]⟩
theorem c_lawNames : ACall Try.prog 6 [] [] (bool true) [] := by
  have s1 := c_pStands exP exP_sm 2 0
  rw [show stL exP 2 0 = 0 by kernel_rfl, show stE exP 2 0 = 0 by kernel_rfl] at s1
  have s2 := c_pStands exP exP_sm 9 0
  rw [show stE exP 9 0 = 6 by kernel_rfl] at s2
  have s3 := c_pStands exP exP_sm 1 2
  rw [show stE exP 1 2 = 2 by kernel_rfl] at s3
  have r9 := c_pRoute exP exP_sm 9
  rw [show elE (mayP exP) (getR exP.rts 9) = 6 by kernel_rfl] at r9
  generalize elD (mayP exP) (getR exP.rts 9) noRt = R9 at r9
  have h5 := c_pcheck exPa ⟨by decide, by decide, by decide, by decide, by decide, by decide⟩
  rw [show mayP exPa = false by kernel_rfl] at h5
  have h6 := c_pcheck exPb ⟨by decide, by decide, by decide, by decide, by decide, by decide⟩
  rw [show mayP exPb = false by kernel_rfl] at h6
  have h7 := c_pcheck exPc ⟨by decide, by decide, by decide, by decide, by decide, by decide⟩
  rw [show mayP exPc = false by kernel_rfl] at h7
  replace h5 : ACall Try.prog 20 [.agg [i64 exP.ver, i64 2, .sl 3 (exP.secs.map secC) .sh, .sl 2 (exP.pts.map jnC) .sh, .sl 3 (exP.sgs.map sgC) .sh, .sl 7 (exP.rts.map rtC) .sh]] [] (i64 8) [] := h5
  obtain ⟨S, hS⟩ : ∃ S, S = exP.secs.map secC := ⟨_, rfl⟩
  obtain ⟨Pt, hPt⟩ : ∃ Pt, Pt = exP.pts.map jnC := ⟨_, rfl⟩
  obtain ⟨G, hG⟩ : ∃ G, G = exP.sgs.map sgC := ⟨_, rfl⟩
  replace h6 : ACall Try.prog 20 [.agg [i64 2, i64 1, .sl 3 S .sh, .sl 2 Pt .sh, .sl 3 G .sh, .sl 7 [[i64 8, i64 4, i64 0, .sl 1 [[i64 1], [i64 2]] .full, .sl 0 [] .nil, .sl 0 [] .nil, i64 3]] .sh]] [] (i64 8) [] := by
    subst hS; subst hPt; subst hG
    refine acall_le h6 ?_
    simp only [plA, plC, exPb, exP, exRb, rtC, intC, List.map_cons, List.map_nil, patch, sl]
  replace h7 : ACall Try.prog 20 [.agg [i64 2, i64 1, .sl 3 S .sh, .sl 2 Pt .sh, .sl 3 G .sh, .sl 7 [[i64 8, i64 4, i64 0, .sl 1 [[i64 2], [i64 3]] .full, .sl 0 [] .nil, .sl 0 [] .nil, i64 10]] .sh]] [] (i64 8) [] := by
    subst hS; subst hPt; subst hG
    refine acall_le h7 ?_
    simp only [plA, plC, exPc, exP, exRc, rtC, intC, List.map_cons, List.map_nil, patch, sl]
  refine acall_of 8 Try.func6 rfl fun n out _ _ => ?_
  simp only [Try.ntmps6, List.length_cons, List.length_nil, List.length_map, List.length_replicate, rep_map, Nat.reduceAdd, Nat.reduceSub, List.replicate, List.cons_append, List.nil_append]
  refine awp_seq_k fun K hK => awp_ev tab_ok [] ?_
  simp (maxSteps := 4000000) only [sx, sy, ne_eq, eq_self, if_true, if_false, Nat.reduceEqDiff, hbT, evBuild, evLit, evMake, tab, isShift, thenA, blockA, reduceCtorEq, reduceIte, Nat.reduceBEq, Int.reduceLE, Int.reduceToNat, Nat.reduceAdd, Nat.reduceLT, Nat.reduceLeDiff]
  repeat' (first | (with_reducible refine hK _ ?_; clear hK K) | with_reducible apply And.intro)
  refine awp_seq_k fun K hK => awp_ev tab_ok [] ?_
  simp (maxSteps := 4000000) only [sx, sy, ne_eq, eq_self, if_true, if_false, Nat.reduceEqDiff, hbT, evBuild, evLit, evMake, tab, isShift, thenA, blockA, reduceCtorEq, reduceIte, Nat.reduceBEq, Int.reduceLE, Int.reduceToNat, Nat.reduceAdd, Nat.reduceLT, Nat.reduceLeDiff]
  repeat' (first | (with_reducible refine hK _ ?_; clear hK K) | with_reducible apply And.intro)
  refine call_pure c_one ?_
  simp (maxSteps := 4000000) only [sx, sy, ne_eq, eq_self, if_true, if_false, Nat.reduceEqDiff, hbT, evBuild, evLit, evMake, tab, isShift, thenA, blockA, reduceCtorEq, reduceIte, Nat.reduceBEq, Int.reduceLE, Int.reduceToNat, Nat.reduceAdd, Nat.reduceLT, Nat.reduceLeDiff]
  refine call_pure s1 ?_
  simp (maxSteps := 4000000) only [sx, sy, ne_eq, eq_self, if_true, if_false, Nat.reduceEqDiff, hbT, evBuild, evLit, evMake, tab, isShift, thenA, blockA, reduceCtorEq, reduceIte, Nat.reduceBEq, Int.reduceLE, Int.reduceToNat, Nat.reduceAdd, Nat.reduceLT, Nat.reduceLeDiff]
  repeat' (first | (with_reducible refine hK _ ?_; clear hK K) | with_reducible apply And.intro)
  refine awp_seq_k fun K hK => awp_ev tab_ok [] ?_
  simp (maxSteps := 4000000) only [sx, sy, ne_eq, eq_self, if_true, if_false, Nat.reduceEqDiff, hbT, evBuild, evLit, evMake, tab, isShift, thenA, blockA, reduceCtorEq, reduceIte, Nat.reduceBEq, Int.reduceLE, Int.reduceToNat, Nat.reduceAdd, Nat.reduceLT, Nat.reduceLeDiff]
  repeat' (first | (with_reducible refine hK _ ?_; clear hK K) | with_reducible apply And.intro)
  refine call_pure c_one ?_
  simp (maxSteps := 4000000) only [sx, sy, ne_eq, eq_self, if_true, if_false, Nat.reduceEqDiff, hbT, evBuild, evLit, evMake, tab, isShift, thenA, blockA, reduceCtorEq, reduceIte, Nat.reduceBEq, Int.reduceLE, Int.reduceToNat, Nat.reduceAdd, Nat.reduceLT, Nat.reduceLeDiff]
  refine call_pure r9 ?_
  simp (maxSteps := 4000000) only [sx, sy, ne_eq, eq_self, if_true, if_false, Nat.reduceEqDiff, hbT, evBuild, evLit, evMake, tab, isShift, thenA, blockA, reduceCtorEq, reduceIte, Nat.reduceBEq, Int.reduceLE, Int.reduceToNat, Nat.reduceAdd, Nat.reduceLT, Nat.reduceLeDiff, rtA, rtC, splice_all]
  repeat' (first | (with_reducible refine hK _ ?_; clear hK K) | with_reducible apply And.intro)
  refine awp_seq_k fun K hK => awp_ev tab_ok [] ?_
  simp (maxSteps := 4000000) only [sx, sy, ne_eq, eq_self, if_true, if_false, Nat.reduceEqDiff, hbT, evBuild, evLit, evMake, tab, isShift, thenA, blockA, reduceCtorEq, reduceIte, Nat.reduceBEq, Int.reduceLE, Int.reduceToNat, Nat.reduceAdd, Nat.reduceLT, Nat.reduceLeDiff]
  repeat' (first | (with_reducible refine hK _ ?_; clear hK K) | with_reducible apply And.intro)
  refine call_pure c_one ?_
  simp (maxSteps := 4000000) only [sx, sy, ne_eq, eq_self, if_true, if_false, Nat.reduceEqDiff, hbT, evBuild, evLit, evMake, tab, isShift, thenA, blockA, reduceCtorEq, reduceIte, Nat.reduceBEq, Int.reduceLE, Int.reduceToNat, Nat.reduceAdd, Nat.reduceLT, Nat.reduceLeDiff]
  refine call_pure s2 ?_
  simp (maxSteps := 4000000) only [sx, sy, ne_eq, eq_self, if_true, if_false, Nat.reduceEqDiff, hbT, evBuild, evLit, evMake, tab, isShift, thenA, blockA, reduceCtorEq, reduceIte, Nat.reduceBEq, Int.reduceLE, Int.reduceToNat, Nat.reduceAdd, Nat.reduceLT, Nat.reduceLeDiff]
  repeat' (first | (with_reducible refine hK _ ?_; clear hK K) | with_reducible apply And.intro)
  refine awp_seq_k fun K hK => awp_ev tab_ok [] ?_
  simp (maxSteps := 4000000) only [sx, sy, ne_eq, eq_self, if_true, if_false, Nat.reduceEqDiff, hbT, evBuild, evLit, evMake, tab, isShift, thenA, blockA, reduceCtorEq, reduceIte, Nat.reduceBEq, Int.reduceLE, Int.reduceToNat, Nat.reduceAdd, Nat.reduceLT, Nat.reduceLeDiff]
  repeat' (first | (with_reducible refine hK _ ?_; clear hK K) | with_reducible apply And.intro)
  refine call_pure c_one ?_
  simp (maxSteps := 4000000) only [sx, sy, ne_eq, eq_self, if_true, if_false, Nat.reduceEqDiff, hbT, evBuild, evLit, evMake, tab, isShift, thenA, blockA, reduceCtorEq, reduceIte, Nat.reduceBEq, Int.reduceLE, Int.reduceToNat, Nat.reduceAdd, Nat.reduceLT, Nat.reduceLeDiff]
  refine call_pure s3 ?_
  simp (maxSteps := 4000000) only [sx, sy, ne_eq, eq_self, if_true, if_false, Nat.reduceEqDiff, hbT, evBuild, evLit, evMake, tab, isShift, thenA, blockA, reduceCtorEq, reduceIte, Nat.reduceBEq, Int.reduceLE, Int.reduceToNat, Nat.reduceAdd, Nat.reduceLT, Nat.reduceLeDiff]
  repeat' (first | (with_reducible refine hK _ ?_; clear hK K) | with_reducible apply And.intro)
  refine awp_seq_k fun K hK => awp_ev tab_ok [] ?_
  simp (maxSteps := 4000000) only [sx, sy, ne_eq, eq_self, if_true, if_false, Nat.reduceEqDiff, hbT, evBuild, evLit, evMake, tab, isShift, thenA, blockA, reduceCtorEq, reduceIte, Nat.reduceBEq, Int.reduceLE, Int.reduceToNat, Nat.reduceAdd, Nat.reduceLT, Nat.reduceLeDiff]
  repeat' (first | (with_reducible refine hK _ ?_; clear hK K) | with_reducible apply And.intro)
  refine call_pure c_one ?_
  simp (maxSteps := 4000000) only [sx, sy, ne_eq, eq_self, if_true, if_false, Nat.reduceEqDiff, hbT, evBuild, evLit, evMake, tab, isShift, thenA, blockA, reduceCtorEq, reduceIte, Nat.reduceBEq, Int.reduceLE, Int.reduceToNat, Nat.reduceAdd, Nat.reduceLT, Nat.reduceLeDiff, plA, plC, splice_all]
  repeat' (first | (with_reducible refine hK _ ?_; clear hK K) | with_reducible apply And.intro)
  refine awp_seq_k fun K hK => awp_ev tab_ok [] ?_
  simp (maxSteps := 4000000) only [sx, sy, ne_eq, eq_self, if_true, if_false, Nat.reduceEqDiff, hbT, evBuild, evLit, evMake, tab, isShift, thenA, blockA, reduceCtorEq, reduceIte, Nat.reduceBEq, Int.reduceLE, Int.reduceToNat, Nat.reduceAdd, Nat.reduceLT, Nat.reduceLeDiff]
  repeat' (first | (with_reducible refine hK _ ?_; clear hK K) | with_reducible apply And.intro)
  have o1 := fun k => c_oneB k
  simp only [← hS, ← hPt, ← hG] at o1
  refine awp_seq_k fun K hK => awp_ev tab_ok [] ?_
  simp (maxSteps := 4000000) only [sx, sy, ne_eq, eq_self, if_true, if_false, Nat.reduceEqDiff, hbT, evBuild, evLit, evMake, tab, isShift, thenA, blockA, reduceCtorEq, reduceIte, Nat.reduceBEq, Int.reduceLE, Int.reduceToNat, Nat.reduceAdd, Nat.reduceLT, Nat.reduceLeDiff]
  repeat' (first | (with_reducible refine hK _ ?_; clear hK K) | with_reducible apply And.intro)
  refine call_one (o1 (n + 5)) (look_loc _ (Nat.le_refl _) 5) (dom_loc _ (by simp)) (by simp) ?_
  simp (maxSteps := 4000000) only [sx, sy, ne_eq, eq_self, if_true, if_false, Nat.reduceEqDiff, hbT, evBuild, evLit, evMake, tab, isShift, thenA, blockA, reduceCtorEq, reduceIte, Nat.reduceBEq, Int.reduceLE, Int.reduceToNat, Nat.reduceAdd, Nat.reduceLT, Nat.reduceLeDiff, splice_all]
  repeat' (first | (with_reducible refine hK _ ?_; clear hK K) | with_reducible apply And.intro)
  refine awp_seq_k fun K hK => awp_ev tab_ok [] ?_
  simp (maxSteps := 4000000) only [sx, sy, ne_eq, eq_self, if_true, if_false, Nat.reduceEqDiff, hbT, evBuild, evMake, tab, isShift, thenA, blockA, reduceCtorEq, reduceIte, Nat.reduceBEq, Int.reduceLE, Int.reduceToNat, Nat.reduceAdd, Nat.reduceLT, Nat.reduceLeDiff]
  repeat' (first | (with_reducible refine hK _ ?_; clear hK K) | with_reducible apply And.intro)
  refine evLit_of 1 [[i64 1], [i64 2]] rfl ?_
  simp (maxSteps := 4000000) only [sx, sy, ne_eq, eq_self, if_true, if_false, Nat.reduceEqDiff, hbT, evBuild, evLit, evMake, tab, isShift, thenA, blockA, reduceCtorEq, reduceIte, Nat.reduceBEq, Int.reduceLE, Int.reduceToNat, Nat.reduceAdd, Nat.reduceLT, Nat.reduceLeDiff]
  repeat' (first | (with_reducible refine hK _ ?_; clear hK K) | with_reducible apply And.intro)
  · decide
  refine awp_seq_k fun K hK => awp_ev tab_ok [] ?_
  simp (maxSteps := 4000000) only [sx, sy, ne_eq, eq_self, if_true, if_false, Nat.reduceEqDiff, hbT, evBuild, evLit, evMake, tab, isShift, thenA, blockA, reduceCtorEq, reduceIte, Nat.reduceBEq, Int.reduceLE, Int.reduceToNat, Nat.reduceAdd, Nat.reduceLT, Nat.reduceLeDiff]
  repeat' (first | (with_reducible refine hK _ ?_; clear hK K) | with_reducible apply And.intro)
  refine call_one (o1 (n + 6)) (look_loc _ (Nat.le_refl _) 6) (dom_loc _ (by simp)) (by simp) ?_
  simp (maxSteps := 4000000) only [sx, sy, ne_eq, eq_self, if_true, if_false, Nat.reduceEqDiff, hbT, evBuild, evLit, evMake, tab, isShift, thenA, blockA, reduceCtorEq, reduceIte, Nat.reduceBEq, Int.reduceLE, Int.reduceToNat, Nat.reduceAdd, Nat.reduceLT, Nat.reduceLeDiff, splice_all]
  repeat' (first | (with_reducible refine hK _ ?_; clear hK K) | with_reducible apply And.intro)
  refine awp_seq_k fun K hK => awp_ev tab_ok [] ?_
  simp (maxSteps := 4000000) only [sx, sy, ne_eq, eq_self, if_true, if_false, Nat.reduceEqDiff, hbT, evBuild, evLit, evMake, tab, isShift, thenA, blockA, reduceCtorEq, reduceIte, Nat.reduceBEq, Int.reduceLE, Int.reduceToNat, Nat.reduceAdd, Nat.reduceLT, Nat.reduceLeDiff]
  repeat' (first | (with_reducible refine hK _ ?_; clear hK K) | with_reducible apply And.intro)
  · decide
  obtain ⟨cb, hcb⟩ : ∃ cb, cb = [i64 8, i64 4, i64 0, .sl 1 [[i64 1], [i64 2]] .full, .sl 0 [] .nil, .sl 0 [] .nil, i64 3] := ⟨_, rfl⟩
  obtain ⟨cc, hcc⟩ : ∃ cc, cc = [i64 8, i64 4, i64 0, .sl 1 [[i64 2], [i64 3]] .full, .sl 0 [] .nil, .sl 0 [] .nil, i64 10] := ⟨_, rfl⟩
  have f5 : Fz (n + 5) 7 cb (.bsl (n + 5) 0 1 true) (.sl 7 [cb] .sh) ↔ True := ⟨fun _ => trivial, fun _ => by subst hcb; exact .bsl 0 1 true ⟨by decide, by decide⟩⟩
  have f6 : Fz (n + 6) 7 cc (.bsl (n + 6) 0 1 true) (.sl 7 [cc] .sh) ↔ True := ⟨fun _ => trivial, fun _ => by subst hcc; exact .bsl 0 1 true ⟨by decide, by decide⟩⟩
  rw [← hcb] at h6 ⊢
  rw [← hcc] at h7 ⊢
  refine awp_le (le_freezeP (i := 5) 7 [] (lo1 := [some (.box 34 [i64 R9.id, i64 R9.entry, i64 R9.ex, .sl 1 (R9.path.map intC) .sh, .sl 1 (R9.over.map intC) .sh, .sl 2 (R9.flanks.map jnC) .sh, i64 R9.timer]), some (.box 27 [i64 exP.ver, i64 2, .sl 3 (exP.secs.map secC) .sh, .sl 2 (exP.pts.map jnC) .sh, .sl 3 (exP.sgs.map sgC) .sh, .sl 7 (exP.rts.map rtC) .sh]), some (.box 27 [i64 2, i64 1, .sl 3 S .sh, .sl 2 Pt .sh, .sl 3 G .sh, .sl 7 [cb] .sh]), some (.box 27 [i64 2, i64 1, .sl 3 S .sh, .sl 2 Pt .sh, .sl 3 G .sh, .bsl (n + 6) 0 1 true]), none, some (.box 34 cb), some (.box 34 cc), none]) rfl ?_ ?_) ?_
  · simp only [patch, s_0, s_s, fzRL_cons, fzRL_nil, fzRes_same, fzRes_box, fzL_cons, fzL_nil, fz_same, true_and, and_true, f5, fzL_refl_iff]
  · simp only [patch, s_0, s_s, fzRL_cons, fzRL_nil, fzRes_same, fzRes_box, fzL_cons, fzL_nil, fz_same, true_and, and_true, f5, fzL_refl_iff]
  simp only [patch, s_0, s_s]
  refine awp_le (le_freezeP (i := 6) 7 [] (lo1 := [some (.box 34 [i64 R9.id, i64 R9.entry, i64 R9.ex, .sl 1 (R9.path.map intC) .sh, .sl 1 (R9.over.map intC) .sh, .sl 2 (R9.flanks.map jnC) .sh, i64 R9.timer]), some (.box 27 [i64 exP.ver, i64 2, .sl 3 (exP.secs.map secC) .sh, .sl 2 (exP.pts.map jnC) .sh, .sl 3 (exP.sgs.map sgC) .sh, .sl 7 (exP.rts.map rtC) .sh]), some (.box 27 [i64 2, i64 1, .sl 3 S .sh, .sl 2 Pt .sh, .sl 3 G .sh, .sl 7 [cb] .sh]), some (.box 27 [i64 2, i64 1, .sl 3 S .sh, .sl 2 Pt .sh, .sl 3 G .sh, .sl 7 [cc] .sh]), none, some .dead, some (.box 34 cc), none]) rfl ?_ ?_) ?_
  · simp only [patch, s_0, s_s, fzRL_cons, fzRL_nil, fzRes_same, fzRes_box, fzL_cons, fzL_nil, fz_same, true_and, and_true, f6, fzL_refl_iff]
  · simp only [patch, s_0, s_s, fzRL_cons, fzRL_nil, fzRes_same, fzRes_box, fzL_cons, fzL_nil, fz_same, true_and, and_true, f6, fzL_refl_iff]
  simp only [patch, s_0, s_s]
  repeat' (first
    | with_reducible refine awp_seq_k fun K hK => ?_
    | ((with_reducible refine awp_ev tab_ok [] ?_); simp (maxSteps := 4000000) only [sx, sy, ne_eq, eq_self, if_true, if_false, Nat.reduceEqDiff, hbT, evBuild, evLit, evMake, tab, isShift, thenA, blockA, reduceCtorEq, reduceIte, Nat.reduceBEq, Int.reduceLE, Int.reduceToNat, Nat.reduceAdd, Nat.reduceLT, Nat.reduceLeDiff, Int.reduceBEq])
    | ((with_reducible refine awp_ev_quiet tab_ok follows (by kernel_rfl) ?_); simp (maxSteps := 4000000) only [sx, sy, ne_eq, eq_self, if_true, if_false, Nat.reduceEqDiff, hbT, evBuild, evLit, evMake, tab, isShift, thenA, blockA, reduceCtorEq, reduceIte, Nat.reduceBEq, Int.reduceLE, Int.reduceToNat, Nat.reduceAdd, Nat.reduceLT, Nat.reduceLeDiff, Int.reduceBEq])
    | with_reducible refine awp_block_s ?_
    | with_reducible refine awp_block_c ?_
    | with_reducible refine awp_block_r ?_
    | with_reducible refine awp_skip ?_
    | with_reducible apply And.intro
    | (show Program.eqGuardType _ _ _ = false; kernel_rfl)
    | (show numFieldsB _ _ _ = true; kernel_rfl)
    | (show Program.stoodInHeld _ _ = false; kernel_rfl)
    | (show (_ : Nat) = (_ : Nat); rfl)
    | ((with_reducible refine awp_ret ?_); refine ret_tmp (.inr rfl) rfl rfl rfl (fun _ _ => rfl) ?_ <;> first | rfl | rfl | skip)
    | ((with_reducible refine awp_ret ?_); refine Or.inr ⟨(by intro h; cases h), ?_⟩; refine ret_tmp (.inr rfl) rfl rfl rfl (fun _ _ => rfl) ?_ <;> first | rfl | rfl | skip)
    | (refine call_pure (c_alive) ?_; simp (maxSteps := 4000000) only [sx, sy, ne_eq, eq_self, if_true, if_false, Nat.reduceEqDiff, hbT, evBuild, evLit, evMake, tab, isShift, thenA, blockA, reduceCtorEq, reduceIte, Nat.reduceBEq, Int.reduceLE, Int.reduceToNat, Nat.reduceAdd, Nat.reduceLT, Nat.reduceLeDiff, Int.reduceBEq])
    | (refine call_pure (h5) ?_; simp (maxSteps := 4000000) only [sx, sy, ne_eq, eq_self, if_true, if_false, Nat.reduceEqDiff, hbT, evBuild, evLit, evMake, tab, isShift, thenA, blockA, reduceCtorEq, reduceIte, Nat.reduceBEq, Int.reduceLE, Int.reduceToNat, Nat.reduceAdd, Nat.reduceLT, Nat.reduceLeDiff, Int.reduceBEq])
    | (refine call_pure (h6) ?_; simp (maxSteps := 4000000) only [sx, sy, ne_eq, eq_self, if_true, if_false, Nat.reduceEqDiff, hbT, evBuild, evLit, evMake, tab, isShift, thenA, blockA, reduceCtorEq, reduceIte, Nat.reduceBEq, Int.reduceLE, Int.reduceToNat, Nat.reduceAdd, Nat.reduceLT, Nat.reduceLeDiff, Int.reduceBEq])
    | (refine call_pure (h7) ?_; simp (maxSteps := 4000000) only [sx, sy, ne_eq, eq_self, if_true, if_false, Nat.reduceEqDiff, hbT, evBuild, evLit, evMake, tab, isShift, thenA, blockA, reduceCtorEq, reduceIte, Nat.reduceBEq, Int.reduceLE, Int.reduceToNat, Nat.reduceAdd, Nat.reduceLT, Nat.reduceLeDiff, Int.reduceBEq])
    | ((with_reducible refine gsel_case (fun hg => ?_) (fun hg => ?_)) <;> (try simp only [Bool.not_eq_true', Bool.not_eq_false'] at hg) <;> simp (maxSteps := 4000000) only [sx, sy, ne_eq, eq_self, if_true, if_false, Nat.reduceEqDiff, hbT, evBuild, evLit, evMake, tab, isShift, thenA, blockA, reduceCtorEq, reduceIte, Nat.reduceBEq, Int.reduceLE, Int.reduceToNat, Nat.reduceAdd, Nat.reduceLT, Nat.reduceLeDiff, hg, Int.reduceBEq])
    | ((with_reducible refine awp_exit ?_); simp only [thenA, blockA, if_true, if_false, reduceIte, Nat.reduceEqDiff])
    | (refine hK _ ?_; clear hK K)
    | refine awp_cond_t rfl ?_
    | refine awp_cond_f rfl ?_
    | refine awp_if rfl (fun hg => ?_) (fun hg => ?_)
    | (refine Or.inl ⟨rfl, ?_⟩; refine le_of_all ?_ ?_ rfl rfl rfl rfl <;> simp only [patch, sl, Int.reduceBEq])
    | clear hK K)
end Go.Proofs.Ytdkiciofkifpdaa.Pln
