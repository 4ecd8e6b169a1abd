/-
  Sectors seen; writes settled; what a loss of power leaves; a disk of noughts.
-/
import Derived.Test.YtefkjdkalgemeaaZGA
import Derived.Test.YtefkjdkalgemeaaZD9
namespace Go.Proofs.Ytefkjdkalgemeaa
set_option linter.unusedVariables false
set_option linter.unusedSimpArgs false
open Go Go.VS Tab
set_option maxHeartbeats 1000000
set_option maxRecDepth 4000
def kpAll : Nat → Nat := fun _ => 128
def readE (d : Dsk) (at' : Int) : Int := if may d then (if decide (0 ≤ at') && decide (at' < 32) then 0 else 2) else 8
def readB (d : Dsk) (at' : Int) : List UInt8 := if readE d at' = 0 then (comesS kpAll d d.waits.length).getD at'.toNat [] else []
theorem readE_0 {d : Dsk} {at' : Int} : readE d at' = 0 ↔ may d = true ∧ 0 ≤ at' ∧ at' < 32 := by
  unfold readE
  cases may d <;> simp
theorem c_read (d : Dsk) (at' : Int) (h1 : d.sectors.length ≤ 1000) (h2 : d.waits.length ≤ 1000) : ACall Try.prog 24 [dskA d, i64 at'] [] (.tup [bs (readB d at'), i64 (readE d at')]) [] := by
  refine acall_of 1 Try.func24 rfl fun n out _ _ => ?_
  simp only [Try.ntmps24, List.length_cons, List.length_nil, List.length_map, List.length_replicate, rep_map, Nat.reduceAdd, Nat.reduceSub, List.replicate, List.cons_append, List.nil_append]
  refine awp_seq_k fun K hK => awp_ev tab_ok [] ?_
  simp (maxSteps := 4000000) only [su, evLit, hbT, tab, thenA, blockA, reduceCtorEq, reduceIte, Nat.reduceEqDiff, Nat.reduceBEq, Int.reduceLE, Int.reduceToNat, Nat.reduceAdd, Nat.reduceLT, Nat.reduceLeDiff, dskA, dskC]
  repeat' (first | (with_reducible refine hK _ ?_; clear hK K) | with_reducible apply And.intro)
  refine awp_seq_k fun KB hKB => ?_
  refine awp_seq_k fun K hK => awp_ev_draw tab_ok [] [[0], [], [], [], []] [[], [], [], [], []] follows (by kernel_rfl) (by decide) (by decide) (by kernel_rfl) ?_
  simp (maxSteps := 4000000) only [su, evLit, hbT, tab, thenA, blockA, reduceCtorEq, reduceIte, Nat.reduceEqDiff, Nat.reduceBEq, Int.reduceLE, Int.reduceToNat, Nat.reduceAdd, Nat.reduceLT, Nat.reduceLeDiff]
  repeat' (first | (with_reducible refine hK _ ?_; clear hK K) | with_reducible apply And.intro)
  refine call_pure (c_below at' 32) ?_
  simp (maxSteps := 4000000) only [su, evLit, hbT, tab, thenA, blockA, reduceCtorEq, reduceIte, Nat.reduceEqDiff, Nat.reduceBEq, Int.reduceLE, Int.reduceToNat, Nat.reduceAdd, Nat.reduceLT, Nat.reduceLeDiff]
  refine call_pure (c_asked d _ h1 h2) ?_
  simp (maxSteps := 4000000) only [su, evLit, hbT, tab, thenA, blockA, reduceCtorEq, reduceIte, Nat.reduceEqDiff, Nat.reduceBEq, Int.reduceLE, Int.reduceToNat, Nat.reduceAdd, Nat.reduceLT, Nat.reduceLeDiff]
  repeat' (first | (with_reducible refine hK _ ?_; clear hK K) | with_reducible apply And.intro)
  by_cases h0 : readE d at' ≠ 0
  · have e0 : (readE d at' != 0) = true := by simpa using h0
    have e1 : readB d at' = [] := by unfold readB; rw [if_neg h0]
    unfold readE at e0
    refine awp_seq_k fun K hK => awp_ev tab_ok [] ?_
    simp (maxSteps := 4000000) only [su, evLit, hbT, tab, thenA, blockA, reduceCtorEq, reduceIte, Nat.reduceEqDiff, Nat.reduceBEq, Int.reduceLE, Int.reduceToNat, Nat.reduceAdd, Nat.reduceLT, Nat.reduceLeDiff, e0]
    repeat' (first | (with_reducible refine hK _ ?_; clear hK K) | with_reducible apply And.intro)
    refine awp_cond_t rfl ?_
    refine awp_seq_k fun K hK => awp_ev tab_ok [] ?_
    simp (maxSteps := 4000000) only [su, evLit, hbT, tab, thenA, blockA, reduceCtorEq, reduceIte, Nat.reduceEqDiff, Nat.reduceBEq, Int.reduceLE, Int.reduceToNat, Nat.reduceAdd, Nat.reduceLT, Nat.reduceLeDiff]
    repeat' (first | (with_reducible refine hK _ ?_; clear hK K) | with_reducible apply And.intro)
    refine awp_ret ?_
    rw [e1]
    exact ret_tmps_le (.inr rfl) rfl rfl rfl (fun _ _ => rfl) rfl rfl ((le_nil_iff _ _).2 trivial) (.rfl _)
  have h0' : readE d at' = 0 := by omega
  have e1 : readB d at' = (comesS kpAll d d.waits.length).getD at'.toNat [] := by unfold readB; rw [if_pos h0']
  obtain ⟨hm, ha1, ha2⟩ := readE_0.1 h0'
  have h0'' := h0'
  unfold readE at h0''
  refine awp_seq_k fun K hK => awp_ev tab_ok [] ?_
  simp (maxSteps := 4000000) only [su, evLit, hbT, tab, thenA, blockA, reduceCtorEq, reduceIte, Nat.reduceEqDiff, Nat.reduceBEq, Int.reduceLE, Int.reduceToNat, Nat.reduceAdd, Nat.reduceLT, Nat.reduceLeDiff, h0'']
  repeat' (first | (with_reducible refine hK _ ?_; clear hK K) | with_reducible apply And.intro)
  refine awp_cond_f rfl (awp_skip (hKB _ ?_))
  clear hKB KB
  have hl := comesS_len kpAll d d.waits.length
  have h32 := ((may_iff d).1 hm).1
  obtain ⟨z, hz⟩ : ∃ z : Nat, at' = (z : Int) := ⟨at'.toNat, by omega⟩
  subst hz
  have hz32 : z < (comesS kpAll d d.waits.length).length := by omega
  have hg : (comesS kpAll d d.waits.length).getD z [] = (comesS kpAll d d.waits.length)[z] := by simp [List.getD_eq_getElem?_getD, hz32]
  refine awp_seq_k fun K hK => awp_ev tab_ok [] ?_
  simp (maxSteps := 4000000) only [su, evLit, hbT, tab, thenA, blockA, reduceCtorEq, reduceIte, Nat.reduceEqDiff, Nat.reduceBEq, Int.reduceLE, Int.reduceToNat, Nat.reduceAdd, Nat.reduceLT, Nat.reduceLeDiff]
  repeat' (first | (with_reducible refine hK _ ?_; clear hK K) | with_reducible apply And.intro)
  refine call_pure (c_comes d _ [] kpAll hm (hb0 _ (by decide) (by decide)) fun i hi => ⟨Nat.le_refl _, c_whole _⟩) ?_
  simp (maxSteps := 4000000) only [su, evLit, hbT, tab, thenA, blockA, reduceCtorEq, reduceIte, Nat.reduceEqDiff, Nat.reduceBEq, Int.reduceLE, Int.reduceToNat, Nat.reduceAdd, Nat.reduceLT, Nat.reduceLeDiff, comes, dskA, dskC, hz32, List.length_map, getD_map secC (comesS kpAll d d.waits.length) z [] hz32, secC]
  repeat' (first | (with_reducible refine hK _ ?_; clear hK K) | with_reducible apply And.intro)
  refine awp_ret ?_
  rw [e1, h0', Int.toNat_natCast, hg]
  exact ret_tmps_le (.inr rfl) rfl rfl rfl (fun _ _ => rfl) rfl rfl (.rfl _) (.rfl _)
theorem c_crash1 (x : Int) : ACall Try.prog 55 [i64 x] [] (bool (!(decide (0 ≤ x) && decide (x < 129)))) [] := by
  refine acall_of 0 Try.func55 rfl fun n out _ _ => ?_
  simp only [Try.ntmps55, List.length_cons, List.length_nil, List.length_map, List.length_replicate, rep_map, Nat.reduceAdd, Nat.reduceSub, List.replicate, List.cons_append, List.nil_append]
  refine awp_seq_k fun K hK => awp_ev tab_ok [] ?_
  simp (maxSteps := 4000000) only [su, evLit, hbT, tab, thenA, blockA, reduceCtorEq, reduceIte, Nat.reduceEqDiff, Nat.reduceBEq, Int.reduceLE, Int.reduceToNat, Nat.reduceAdd, Nat.reduceLT, Nat.reduceLeDiff]
  repeat' (first | (with_reducible refine hK _ ?_; clear hK K) | with_reducible apply And.intro)
  refine awp_seq_k fun K hK => awp_ev tab_ok [] ?_
  simp (maxSteps := 4000000) only [su, evLit, hbT, tab, thenA, blockA, reduceCtorEq, reduceIte, Nat.reduceEqDiff, Nat.reduceBEq, Int.reduceLE, Int.reduceToNat, Nat.reduceAdd, Nat.reduceLT, Nat.reduceLeDiff]
  repeat' (first | (with_reducible refine hK _ ?_; clear hK K) | with_reducible apply And.intro)
  refine call_pure (c_below x 129) ?_
  simp (maxSteps := 4000000) only [su, evLit, hbT, tab, thenA, blockA, reduceCtorEq, reduceIte, Nat.reduceEqDiff, Nat.reduceBEq, Int.reduceLE, Int.reduceToNat, Nat.reduceAdd, Nat.reduceLT, Nat.reduceLeDiff]
  repeat' (first | (with_reducible refine hK _ ?_; clear hK K) | with_reducible apply And.intro)
  refine awp_ret ?_
  exact ret_tmp (.inr rfl) rfl rfl rfl (fun _ _ => rfl) rfl
theorem c_crash2 (kp : List Int) (i : Nat) (h : i < kp.length) : ACall Try.prog 58 [i64 (i : Int), .ref [.sl 1 (kp.map intC) .sh]] [] (i64 kp[i]) [] := by
  refine acall_of 0 Try.func58 rfl fun n out _ _ => ?_
  simp only [Try.ntmps58, List.length_cons, List.length_nil, List.length_map, List.length_replicate, rep_map, Nat.reduceAdd, Nat.reduceSub, List.replicate, List.cons_append, List.nil_append]
  refine awp_seq_k fun K hK => awp_ev tab_ok [] ?_
  simp (maxSteps := 4000000) only [su, evLit, hbT, tab, thenA, blockA, reduceCtorEq, reduceIte, Nat.reduceEqDiff, Nat.reduceBEq, Int.reduceLE, Int.reduceToNat, Nat.reduceAdd, Nat.reduceLT, Nat.reduceLeDiff]
  repeat' (first | (with_reducible refine hK _ ?_; clear hK K) | with_reducible apply And.intro)
  refine awp_seq_k fun K hK => awp_ev tab_ok [] ?_
  simp (maxSteps := 4000000) only [su, evLit, hbT, tab, thenA, blockA, reduceCtorEq, reduceIte, Nat.reduceEqDiff, Nat.reduceBEq, Int.reduceLE, Int.reduceToNat, Nat.reduceAdd, Nat.reduceLT, Nat.reduceLeDiff, h, List.length_map, getD_map intC kp i [] h, intC]
  repeat' (first | (with_reducible refine hK _ ?_; clear hK K) | with_reducible apply And.intro)
  refine awp_ret ?_
  exact ret_tmp (.inr rfl) rfl rfl rfl (fun _ _ => rfl) rfl
def crashE (d : Dsk) (kp : List Int) : Int := if may d then (if kp.length = d.waits.length then (if kp.all fun x => decide (0 ≤ x) && decide (x < 129) then 0 else 2) else 4) else 8
def crashD (d : Dsk) (kp : List Int) : Dsk := if crashE d kp = 0 then comes (fun i => (kp.getD i 0).toNat) d else noDsk
theorem c_crash (d : Dsk) (kp : List Int) (h1 : d.sectors.length ≤ 1000) (h2 : d.waits.length ≤ 1000) (h3 : kp.length ≤ 1000000) :
    ACall Try.prog 19 [dskA d, .sl 1 (kp.map intC) .sh] [] (.tup [dskA (crashD d kp), i64 (crashE d kp)]) [] := by
  refine acall_of 3 Try.func19 rfl fun n out _ _ => ?_
  simp only [Try.ntmps19, List.length_cons, List.length_nil, List.length_map, List.length_replicate, rep_map, Nat.reduceAdd, Nat.reduceSub, List.replicate, List.cons_append, List.nil_append]
  refine awp_seq_k fun K hK => awp_ev tab_ok [] ?_
  simp (maxSteps := 4000000) only [su, evLit, hbT, tab, thenA, blockA, reduceCtorEq, reduceIte, Nat.reduceEqDiff, Nat.reduceBEq, Int.reduceLE, Int.reduceToNat, Nat.reduceAdd, Nat.reduceLT, Nat.reduceLeDiff, dskA, dskC]
  repeat' (first | (with_reducible refine hK _ ?_; clear hK K) | with_reducible apply And.intro)
  have bad : ∀ e : Int, e ≠ 0 → crashE d kp = e → AV.le (.tup [.agg [.sl 0 [] .nil, .sl 0 [] .nil], i64 e]) (.tup [dskA (crashD d kp), i64 (crashE d kp)]) := fun e h h' => by
    have h2 : crashD d kp = noDsk := by unfold crashD; rw [h', if_neg h]
    rw [h2, h']
    simp only [dskA, dskC, noDsk, List.map_nil, patch, sl]
  refine awp_seq_k fun KB hKB => ?_
  refine awp_seq_k fun K hK => awp_ev tab_ok [] ?_
  simp (maxSteps := 4000000) only [su, evLit, hbT, tab, thenA, blockA, reduceCtorEq, reduceIte, Nat.reduceEqDiff, Nat.reduceBEq, Int.reduceLE, Int.reduceToNat, Nat.reduceAdd, Nat.reduceLT, Nat.reduceLeDiff]
  repeat' (first | (with_reducible refine hK _ ?_; clear hK K) | with_reducible apply And.intro)
  refine call_pure (c_check d h1 h2) ?_
  simp (maxSteps := 4000000) only [su, evLit, hbT, tab, thenA, blockA, reduceCtorEq, reduceIte, Nat.reduceEqDiff, Nat.reduceBEq, Int.reduceLE, Int.reduceToNat, Nat.reduceAdd, Nat.reduceLT, Nat.reduceLeDiff]
  repeat' (first | (with_reducible refine hK _ ?_; clear hK K) | with_reducible apply And.intro)
  by_cases hm : ¬ may d = true
  · refine awp_seq_k fun K hK => awp_ev tab_ok [] ?_
    simp (maxSteps := 4000000) only [su, evLit, hbT, tab, thenA, blockA, reduceCtorEq, reduceIte, Nat.reduceEqDiff, Nat.reduceBEq, Int.reduceLE, Int.reduceToNat, Nat.reduceAdd, Nat.reduceLT, Nat.reduceLeDiff, Bool.false_eq_true, Int.reduceBNe, hm]
    repeat' (first | (with_reducible refine hK _ ?_; clear hK K) | with_reducible apply And.intro)
    refine awp_cond_t rfl (awp_ret ?_)
    refine ret_ct (.inr rfl) rfl rfl rfl (fun _ _ => rfl) ok25 (k := n + 2) (off := 0) rfl (dom_loc _ (by simp)) (look_loc _ (Nat.le_refl _) 2) rfl rfl (bad 8 (by decide) (by simp [crashE, hm]))
  have hm : may d = true := by simpa using hm
  refine awp_seq_k fun K hK => awp_ev tab_ok [] ?_
  simp (maxSteps := 4000000) only [su, evLit, hbT, tab, thenA, blockA, reduceCtorEq, reduceIte, Nat.reduceEqDiff, Nat.reduceBEq, Int.reduceLE, Int.reduceToNat, Nat.reduceAdd, Nat.reduceLT, Nat.reduceLeDiff, hm]
  repeat' (first | (with_reducible refine hK _ ?_; clear hK K) | with_reducible apply And.intro)
  refine awp_cond_f rfl (awp_skip (hKB _ ?_))
  clear hKB KB
  by_cases hl : kp.length ≠ d.waits.length
  · have g : ((kp.length : Int) != (d.waits.length : Int)) = true := by simp; omega
    refine awp_seq_k fun KB hKB => ?_
    refine awp_seq_k fun K hK => awp_ev tab_ok [] ?_
    simp (maxSteps := 4000000) only [su, evLit, hbT, tab, thenA, blockA, reduceCtorEq, reduceIte, Nat.reduceEqDiff, Nat.reduceBEq, Int.reduceLE, Int.reduceToNat, Nat.reduceAdd, Nat.reduceLT, Nat.reduceLeDiff, List.length_map, g]
    repeat' (first | (with_reducible refine hK _ ?_; clear hK K) | with_reducible apply And.intro)
    refine awp_cond_t rfl ?_
    refine awp_seq_k fun K hK => awp_ev tab_ok [] ?_
    simp (maxSteps := 4000000) only [su, evLit, hbT, tab, thenA, blockA, reduceCtorEq, reduceIte, Nat.reduceEqDiff, Nat.reduceBEq, Int.reduceLE, Int.reduceToNat, Nat.reduceAdd, Nat.reduceLT, Nat.reduceLeDiff]
    repeat' (first | (with_reducible refine hK _ ?_; clear hK K) | with_reducible apply And.intro)
    refine awp_ret ?_
    refine ret_ct (.inr rfl) rfl rfl rfl (fun _ _ => rfl) ok25 (k := n + 2) (off := 0) rfl (dom_loc _ (by simp)) (look_loc _ (Nat.le_refl _) 2) rfl rfl (bad 4 (by decide) (by simp [crashE, hm, hl]))
  have hl : kp.length = d.waits.length := by omega
  have g : ((kp.length : Int) != (d.waits.length : Int)) = false := by simp; omega
  refine awp_seq_k fun KB hKB => ?_
  refine awp_seq_k fun K hK => awp_ev tab_ok [] ?_
  simp (maxSteps := 4000000) only [su, evLit, hbT, tab, thenA, blockA, reduceCtorEq, reduceIte, Nat.reduceEqDiff, Nat.reduceBEq, Int.reduceLE, Int.reduceToNat, Nat.reduceAdd, Nat.reduceLT, Nat.reduceLeDiff, List.length_map, g]
  repeat' (first | (with_reducible refine hK _ ?_; clear hK K) | with_reducible apply And.intro)
  refine awp_cond_f rfl (awp_skip (hKB _ ?_))
  clear hKB KB
  refine awp_seq_k fun KB hKB => ?_
  refine awp_seq_k fun K hK => awp_ev tab_ok [] ?_
  simp (maxSteps := 4000000) only [su, evLit, hbT, tab, thenA, blockA, reduceCtorEq, reduceIte, Nat.reduceEqDiff, Nat.reduceBEq, Int.reduceLE, Int.reduceToNat, Nat.reduceAdd, Nat.reduceLT, Nat.reduceLeDiff]
  repeat' (first | (with_reducible refine hK _ ?_; clear hK K) | with_reducible apply And.intro)
  refine call_pure (c_containsFunc_ints intC i64 kp _ [] (fun x => !(decide (0 ≤ x) && decide (x < 129))) (hb0 _ (by decide) (by decide)) (by omega) pick_int fun x _ => c_crash1 x) ?_
  have key : (kp.any fun x => !(decide (0 ≤ x) && decide (x < 129))) = !(kp.all fun x => decide (0 ≤ x) && decide (x < 129)) := by simp [List.any_eq_not_all_not]
  rw [key]
  simp (maxSteps := 4000000) only [su, evLit, hbT, tab, thenA, blockA, reduceCtorEq, reduceIte, Nat.reduceEqDiff, Nat.reduceBEq, Int.reduceLE, Int.reduceToNat, Nat.reduceAdd, Nat.reduceLT, Nat.reduceLeDiff]
  repeat' (first | (with_reducible refine hK _ ?_; clear hK K) | with_reducible apply And.intro)
  by_cases ha : (kp.all fun x => decide (0 ≤ x) && decide (x < 129)) = false
  · rw [ha]
    refine awp_cond_t rfl ?_
    refine awp_seq_k fun K hK => awp_ev tab_ok [] ?_
    simp (maxSteps := 4000000) only [su, evLit, hbT, tab, thenA, blockA, reduceCtorEq, reduceIte, Nat.reduceEqDiff, Nat.reduceBEq, Int.reduceLE, Int.reduceToNat, Nat.reduceAdd, Nat.reduceLT, Nat.reduceLeDiff]
    repeat' (first | (with_reducible refine hK _ ?_; clear hK K) | with_reducible apply And.intro)
    refine awp_ret ?_
    refine ret_ct (.inr rfl) rfl rfl rfl (fun _ _ => rfl) ok25 (k := n + 2) (off := 0) rfl (dom_loc _ (by simp)) (look_loc _ (Nat.le_refl _) 2) rfl rfl (bad 2 (by decide) (by simp only [crashE, hm, hl, ha, if_true, if_false, Bool.false_eq_true]))
  have ha : (kp.all fun x => decide (0 ≤ x) && decide (x < 129)) = true := by simpa using ha
  rw [ha]
  refine awp_cond_f rfl (awp_skip (hKB _ ?_))
  clear hKB KB
  have e : crashE d kp = 0 := by simp only [crashE, hm, hl, ha, if_true]
  have e' : crashD d kp = comes (fun i => (kp.getD i 0).toNat) d := by unfold crashD; rw [if_pos e]
  refine awp_le (le_freezeAt (i := 1) (t := 3) (e := 26) (cs := [.sl 1 (kp.map intC) .sh]) 1 (.ref [.sl 1 (kp.map intC) .sh]) rfl rfl (Fz.ptr 0)) ?_
  simp only [s_0, s_s]
  refine awp_seq_k fun K hK => awp_ev tab_ok [] ?_
  simp (maxSteps := 4000000) only [su, evLit, hbT, tab, thenA, blockA, reduceCtorEq, reduceIte, Nat.reduceEqDiff, Nat.reduceBEq, Int.reduceLE, Int.reduceToNat, Nat.reduceAdd, Nat.reduceLT, Nat.reduceLeDiff]
  repeat' (first | (with_reducible refine hK _ ?_; clear hK K) | with_reducible apply And.intro)
  refine call_pure (c_comes d _ [.ref [.sl 1 (kp.map intC) .sh]] (fun i => (kp.getD i 0).toNat) hm (hb0 _ (by decide) (by decide)) fun i hi => ?_) ?_
  · have hi' : i < kp.length := by omega
    have hg : kp.getD i 0 = kp[i] := by simp [List.getD_eq_getElem?_getD, hi']
    have h5 := List.all_eq_true.1 ha _ (List.getElem_mem hi')
    simp only [Bool.and_eq_true, decide_eq_true_eq] at h5
    simp only [hg]
    refine ⟨by omega, ?_⟩
    have h6 := c_crash2 kp i hi'
    rw [show ((kp[i].toNat : Nat) : Int) = kp[i] by omega]
    exact h6
  simp (maxSteps := 4000000) only [su, evLit, hbT, tab, thenA, blockA, reduceCtorEq, reduceIte, Nat.reduceEqDiff, Nat.reduceBEq, Int.reduceLE, Int.reduceToNat, Nat.reduceAdd, Nat.reduceLT, Nat.reduceLeDiff, dskA, dskC]
  repeat' (first | (with_reducible refine hK _ ?_; clear hK K) | with_reducible apply And.intro)
  refine awp_ret ?_
  refine ret_ct (.inr rfl) rfl rfl rfl (fun _ _ => rfl) ok25 (k := n + 2) (off := 0) rfl (dom_loc _ (by simp)) (look_loc _ (Nat.le_refl _) 2) rfl rfl ?_
  rw [e, e']
  simp only [dskA, dskC, patch, sl]
end Go.Proofs.Ytefkjdkalgemeaa
