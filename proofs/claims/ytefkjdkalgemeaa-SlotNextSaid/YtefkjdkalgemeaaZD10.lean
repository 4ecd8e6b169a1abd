/-
  Sectors seen; writes settled; what a loss of power leaves; a disk of noughts.
-/
import Derived.Test.YtefkjdkalgemeaaZGA
import Derived.Test.YtefkjdkalgemeaaZD9
namespace Go.Proofs.Ytefkjdkalgemeaa
set_option linter.unusedVariables false
set_option linter.unusedSimpArgs false
open Go Go.VS Tab
set_option maxHeartbeats 1000000
set_option maxRecDepth 4000
def kpAll : Nat → Nat := fun _ => 128
def readE (d : Dsk) (at' : Int) : Int := if may d then (if decide (0 ≤ at') && decide (at' < 32) then 0 else 2) else 8
def readB (d : Dsk) (at' : Int) : List UInt8 := if readE d at' = 0 then (comesS kpAll d d.waits.length).getD at'.toNat [] else []
theorem readE_0 {d : Dsk} {at' : Int} : readE d at' = 0 ↔ may d = true ∧ 0 ≤ at' ∧ at' < 32 := by
  unfold readE
  cases may d <;> simp
theorem c_read (d : Dsk) (at' : Int) (h1 : d.sectors.length ≤ 1000) (h2 : d.waits.length ≤ 1000) : ACall Try.prog 24 [dskA d, i64 at'] [] (.tup [bs (readB d at'), i64 (readE d at')]) [] := by
  refine acall_of 1 Try.func24 rfl fun n out _ _ => ?_
  simp only [Try.ntmps24, List.length_cons, List.length_nil, List.length_map, List.length_replicate, rep_map, Nat.reduceAdd, Nat.reduceSub, List.replicate, List.cons_append, List.nil_append]
  refine awp_seq_k fun K hK => awp_ev tab_ok [] ?_
  simp (maxSteps := 4000000) only [su, evLit, hbT, tab, thenA, blockA, reduceCtorEq, reduceIte, Nat.reduceEqDiff, Nat.reduceBEq, Int.reduceLE, Int.reduceToNat, Nat.reduceAdd, Nat.reduceLT, Nat.reduceLeDiff, dskA, dskC]
  repeat' (first | (with_reducible refine hK _ ?_; clear hK K) | with_reducible apply And.intro)
  refine awp_seq_k fun KB hKB => ?_
  refine awp_seq_k fun K hK => awp_ev_draw tab_ok [] [[0], [], [], [], []] [[], [], [], [], []] follows (by kernel_rfl) (by decide) (by decide) (by kernel_rfl) ?_
  simp (maxSteps := 4000000) only [su, evLit, hbT, tab, thenA, blockA, reduceCtorEq, reduceIte, Nat.reduceEqDiff, Nat.reduceBEq, Int.reduceLE, Int.reduceToNat, Nat.reduceAdd, Nat.reduceLT, Nat.reduceLeDiff]
  repeat' (first | (with_reducible refine hK _ ?_; clear hK K) | with_reducible apply And.intro)
  refine call_pure (c_below at' 32) ?_
  simp (maxSteps := 4000000) only [su, evLit, hbT, tab, thenA, blockA, reduceCtorEq, reduceIte, Nat.reduceEqDiff, Nat.reduceBEq, Int.reduceLE, Int.reduceToNat, Nat.reduceAdd, Nat.reduceLT, Nat.reduceLeDiff]
  refine call_pure (c_asked d _ h1 h2) ?_
  simp (maxSteps := 4000000) only [su, evLit, hbT, tab, thenA, blockA, reduceCtorEq, reduceIte, Nat.reduceEqDiff, Nat.reduceBEq, Int.reduceLE, Int.reduceToNat, Nat.reduceAdd, Nat.reduceLT, Nat.reduceLeDiff]
  repeat' (first | (with_reducible refine hK _ ?_; clear hK K) | with_reducible apply And.intro)
  by_cases h0 : readE d at' ≠ 0
  · have e0 : (readE d at' != 0) = true := by simpa using h0
    have e1 : readB d at' = [] := by unfold readB; rw [if_neg h0]
    unfold readE at e0
    refine awp_seq_k fun K hK => awp_ev tab_ok [] ?_
    simp (maxSteps := 4000000) only [su, evLit, hbT, tab, thenA, blockA, reduceCtorEq, reduceIte, Nat.reduceEqDiff, Nat.reduceBEq, Int.reduceLE, Int.reduceToNat, Nat.reduceAdd, Nat.reduceLT, Nat.reduceLeDiff, e0]
    repeat' (first | (with_reducible refine hK _ ?_; clear hK K) | with_reducible apply And.intro)
    refine awp_cond_t rfl ?_
    refine awp_seq_k fun K hK => awp_ev tab_ok [] ?_
    simp (maxSteps := 4000000) only [su, evLit, hbT, tab, thenA, blockA, reduceCtorEq, reduceIte, Nat.reduceEqDiff, Nat.reduceBEq, Int.reduceLE, Int.reduceToNat, Nat.reduceAdd, Nat.reduceLT, Nat.reduceLeDiff]
    repeat' (first | (with_reducible refine hK _ ?_; clear hK K) | with_reducible apply And.intro)
    refine awp_ret ?_
    rw [e1]
    exact ret_tmps_le (.inr rfl) rfl rfl rfl (fun _ _ => rfl) rfl rfl ((le_nil_iff _ _).2 trivial) (.rfl _)
  have h0' : readE d at' = 0 := by omega
  have e1 : readB d at' = (comesS kpAll d d.waits.length).getD at'.toNat [] := by unfold readB; rw [if_pos h0']
  obtain ⟨hm, ha1, ha2⟩ := readE_0.1 h0'
  have h0'' := h0'
  unfold readE at h0''
  refine awp_seq_k fun K hK => awp_ev tab_ok [] ?_
  simp (maxSteps := 4000000) only [su, evLit, hbT, tab, thenA, blockA, reduceCtorEq, reduceIte, Nat.reduceEqDiff, Nat.reduceBEq, Int.reduceLE, Int.reduceToNat, Nat.reduceAdd, Nat.reduceLT, Nat.reduceLeDiff, h0'']
  repeat' (first | (with_reducible refine hK _ ?_; clear hK K) | with_reducible apply And.intro)
  refine awp_cond_f rfl (awp_skip (hKB _ ?_))
  clear hKB KB
  have hl := comesS_len kpAll d d.waits.length
  have h32 := ((may_iff d).1 hm).1
  obtain ⟨z, hz⟩ : ∃ z : Nat, at' = (z : Int) := ⟨at'.toNat, by omega⟩
  subst hz
  have hz32 : z < (comesS kpAll d d.waits.length).length := by omega
  have hg : (comesS kpAll d d.waits.length).getD z [] = (comesS kpAll d d.waits.length)[z] := by simp [List.getD_eq_getElem?_getD, hz32]
  refine awp_seq_k fun K hK => awp_ev tab_ok [] ?_
  simp (maxSteps := 4000000) only [su, evLit, hbT, tab, thenA, blockA, reduceCtorEq, reduceIte, Nat.reduceEqDiff, Nat.reduceBEq, Int.reduceLE, Int.reduceToNat, Nat.reduceAdd, Nat.reduceLT, Nat.reduceLeDiff]
  repeat' (first | (with_reducible refine hK _ ?_; clear hK K) | with_reducible apply And.intro)
  refine call_pure (c_comes d _ [] kpAll hm (hb0 _ (by decide) (by decide)) fun i hi => ⟨Nat.le_refl _, c_whole _⟩) ?_
  simp (maxSteps := 4000000) only [su, evLit, hbT, tab, thenA, blockA, reduceCtorEq, reduceIte, Nat.reduceEqDiff, Nat.reduceBEq, Int.reduceLE, Int.reduceToNat, Nat.reduceAdd, Nat.reduceLT, Nat.reduceLeDiff, comes, dskA, dskC, hz32, List.length_map, getD_map secC (comesS kpAll d d.waits.length) z [] hz32, secC]
  repeat' (first | (with_reducible refine hK _ ?_; clear hK K) | with_reducible apply And.intro)
  refine awp_ret ?_
  rw [e1, h0', Int.toNat_natCast, hg]
  exact ret_tmps_le (.inr rfl) rfl rfl rfl (fun _ _ => rfl) rfl rfl (.rfl _) (.rfl _)
end Go.Proofs.Ytefkjdkalgemeaa
