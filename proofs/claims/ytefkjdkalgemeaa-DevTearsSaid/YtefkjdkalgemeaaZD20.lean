/-
  The document's answer: sectors seen, disks copied, what is written and settled.
-/
import Derived.Test.YtefkjdkalgemeaaZGA
import Derived.Test.YtefkjdkalgemeaaZD19
namespace Go.Proofs.Ytefkjdkalgemeaa
set_option linter.unusedVariables false
set_option linter.unusedSimpArgs false
open Go Go.VS Tab
set_option maxHeartbeats 2000000
set_option maxRecDepth 4000
theorem c_rcomes (d : Dsk) (kp : List Int) (hm : may d = true) (hkp : kp = [] ∨ kp.length = d.waits.length) (hk : ∀ x, x ∈ kp → 0 ≤ x ∧ x < 129) :
    ACall Try.prog 60 [dskA d, .sl 1 (kp.map intC) .sh] [] (dskA (comes (kq kp) d)) [] := by
  obtain ⟨S, hS⟩ : ∃ S, S = comesS (kq kp) d d.waits.length := ⟨_, rfl⟩
  have hSl : S.length = 32 := by rw [hS, comesS_len]; exact ((may_iff d).1 hm).1
  refine acall_of 4 Try.func60 rfl fun n out _ _ => ?_
  simp only [Try.ntmps60, List.length_cons, List.length_nil, List.length_map, List.length_replicate, rep_map, Nat.reduceAdd, Nat.reduceSub, List.replicate, List.cons_append, List.nil_append]
  refine awp_seq_k fun K hK => awp_ev tab_ok [] ?_
  simp (maxSteps := 4000000) only [su, evLit, hbT, tab, thenA, blockA, reduceCtorEq, reduceIte, Nat.reduceEqDiff, Nat.reduceBEq, Int.reduceLE, Int.reduceToNat, Nat.reduceAdd, Nat.reduceLT, Nat.reduceLeDiff, dskA, dskC]
  repeat' (first | (with_reducible refine hK _ ?_; clear hK K) | with_reducible apply And.intro)
  refine awp_seq_k fun K hK => awp_ev tab_ok [] ?_
  simp (maxSteps := 4000000) only [su, evLit, hbT, tab, thenA, blockA, reduceCtorEq, reduceIte, Nat.reduceEqDiff, Nat.reduceBEq, Int.reduceLE, Int.reduceToNat, Nat.reduceAdd, Nat.reduceLT, Nat.reduceLeDiff]
  repeat' (first | (with_reducible refine hK _ ?_; clear hK K) | with_reducible apply And.intro)
  refine awp_le (le_row (i := 3) 37 1 rfl) ?_
  simp only [s_0, s_s]
  refine awp_seq_k fun KB hKB => ?_
  refine awp_seq_k fun K hK => awp_ev tab_ok [] ?_
  simp (maxSteps := 4000000) only [su, evLit, hbT, tab, thenA, blockA, reduceCtorEq, reduceIte, Nat.reduceEqDiff, Nat.reduceBEq, Int.reduceLE, Int.reduceToNat, Nat.reduceAdd, Nat.reduceLT, Nat.reduceLeDiff]
  repeat' (first | (with_reducible refine hK _ ?_; clear hK K) | with_reducible apply And.intro)
  refine awp_block ?_
  refine awp_for_g (fun i : Nat => [(6, i64 (i : Int)), (7, .top), (8, .top), (9, .top), (10, .top), (11, .top), (12, .top), (13, .top), (14, .top), (15, .top), (16, .top), (17, .top), (18, .top), (19, .top)]) (fun i => [some (.box 25 [.sl 1 (d.sectors.map secC) .sh, .sl 2 (d.waits.map wrC) .sh]), some (.box 25 [.sl 0 [] .nil, .sl 0 [] .nil]), some (.box 25 [.sl 1 ((S.take i).map secC) (.own (n + 3)), .sl 0 [] .nil]), some (.row 37 1 i)]) (fun i => out) (fun i => i ≤ 32) (fun i => 32 - i) 0 (Nat.zero_le _) ?_ fun i hi => ?_
  · refine le_of_all ?_ ?_ (by first | rfl | (simp only [List.take_zero, List.map_nil]; rfl) | simp only [List.take_zero, List.map_nil]) rfl rfl rfl <;> simp only [patch, sl, List.take_zero, List.map_nil]
  simp only [patch, s_0, s_s]
  refine awp_seq_k fun KC hKC => ?_
  refine awp_seq_k fun K hK => awp_ev tab_ok [] ?_
  simp (maxSteps := 4000000) only [su, evLit, hbT, tab, thenA, blockA, reduceCtorEq, reduceIte, Nat.reduceEqDiff, Nat.reduceBEq, Int.reduceLE, Int.reduceToNat, Nat.reduceAdd, Nat.reduceLT, Nat.reduceLeDiff, List.take_zero, List.map_nil]
  repeat' (first | (with_reducible refine hK _ ?_; clear hK K) | with_reducible apply And.intro)
  refine awp_if rfl (fun ht => awp_skip (hKC _ ?_)) (fun hf => awp_exit (id ?_))
  rotate_left
  · simp only [thenA, blockA, if_true]
    refine hKB _ ?_
    clear hKB KB hKC KC
    have hi32 : i = 32 := by have := of_decide_eq_false hf; omega
    subst hi32
    rw [List.take_of_length_le (by omega)]
    refine awp_seq_k fun K hK => awp_ev tab_ok [] ?_
    simp (maxSteps := 4000000) only [su, evLit, hbT, tab, thenA, blockA, reduceCtorEq, reduceIte, Nat.reduceEqDiff, Nat.reduceBEq, Int.reduceLE, Int.reduceToNat, Nat.reduceAdd, Nat.reduceLT, Nat.reduceLeDiff]
    repeat' (first | (with_reducible refine hK _ ?_; clear hK K) | with_reducible apply And.intro)
    refine awp_ret ?_
    exact ret_cell_le (.inr rfl) rfl rfl rfl (fun _ _ => rfl) ok25 (k := n + 1) (off := 0) rfl (dom_loc _ (by simp)) (look_loc _ (Nat.le_refl _) 1) rfl (by rw [hS]; simp only [dskA, dskC, comes, List.map_nil, patch, sl])
  clear hKC KC
  have hlt : i < 32 := by have := of_decide_eq_true ht; omega
  have hiS : i < S.length := by omega
  have hg : S.getD i [] = S[i] := by simp [List.getD_eq_getElem?_getD, hiS]
  have hrow := c_row d kp i hm hkp hk hlt
  rw [← hS, hg] at hrow
  refine awp_seq_k fun KC hKC => awp_block ?_
  have lit : ∀ (σ : AState) (K : AV → List (Nat × Res) → Prop), evLit tab σ K none 22 1 [(0, bs S[i])] = K (.sl 1 [secC S[i]] .full) [] := fun σ K => evLit_one (T := tab) (ti := ti22) (te := ti37) rfl rfl rfl (by decide) (by decide) rfl rfl
  refine awp_ev_draw tab_ok [] [[], [2], [0], [], [], [], [], [3], [], [2]] [[], [], [], [], [], [], [], [3], [], [2]] follows (by kernel_rfl) (by decide) (by decide) (by kernel_rfl) ?_
  simp (maxSteps := 4000000) only [su, hbT, tab, thenA, blockA, reduceCtorEq, reduceIte, Nat.reduceEqDiff, Nat.reduceBEq, Int.reduceLE, Int.reduceToNat, Nat.reduceAdd, Nat.reduceLT, Nat.reduceLeDiff]
  refine call_pure hrow ?_
  simp (maxSteps := 4000000) only [su, hbT, tab, thenA, blockA, reduceCtorEq, reduceIte, Nat.reduceEqDiff, Nat.reduceBEq, Int.reduceLE, Int.reduceToNat, Nat.reduceAdd, Nat.reduceLT, Nat.reduceLeDiff, lit, List.length_map, List.length_take, Nat.min_eq_left hi, Nat.min_eq_left (show i ≤ S.length by omega), show i + 1 ≤ 9223372036854775807 by omega, map_snoc secC S i hiS]
  repeat refine And.intro (by omega) ?_
  refine hKC _ ?_
  clear hKC KC
  refine awp_ev tab_ok [] ?_
  simp (maxSteps := 4000000) only [su, evLit, hbT, tab, thenA, blockA, reduceCtorEq, reduceIte, Nat.reduceEqDiff, Nat.reduceBEq, Int.reduceLE, Int.reduceToNat, Nat.reduceAdd, Nat.reduceLT, Nat.reduceLeDiff, addw (n := i) 1 1 rfl (by omega)]
  refine ⟨i + 1, by omega, by omega, ?_⟩
  refine le_of_all ?_ ?_ rfl rfl rfl rfl <;> simp only [patch, sl]
end Go.Proofs.Ytefkjdkalgemeaa
