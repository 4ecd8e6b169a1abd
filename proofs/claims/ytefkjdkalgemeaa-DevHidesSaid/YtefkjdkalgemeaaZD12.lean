/-
  Which disks are great.
-/
import Derived.Test.YtefkjdkalgemeaaZGA
import Derived.Test.YtefkjdkalgemeaaZD11
namespace Go.Proofs.Ytefkjdkalgemeaa
set_option linter.unusedVariables false
set_option linter.unusedSimpArgs false
open Go Go.VS Tab
set_option maxHeartbeats 2000000
set_option maxRecDepth 4000
def acc (l : List Nat) (s i : Nat) : Nat := s + (l.take i).sum
theorem acc_succ (l : List Nat) (s i : Nat) (h : i < l.length) : acc l s (i + 1) = acc l s i + l[i] := by
  rw [acc, acc, List.take_succ_eq_append_getElem h, List.sum_append]; simp; omega
theorem runs_step {l : List Nat} {s i : Nat} (h : i < l.length) (hn : acc l s i ≤ 200000) (hq : runs l s = runs (l.drop i) (acc l s i)) : runs l s = runs (l.drop (i + 1)) (acc l s (i + 1)) := by
  rw [hq, List.drop_eq_getElem_cons h, runs, if_pos hn, acc_succ l s i h]
theorem runs_top : ∀ (l : List Nat) (s : Nat), s ≤ 281474976910656 → (∀ x, x ∈ l → x ≤ 140737488351232) → runs l s ≤ 281474976910656
  | [], s, h, _ => h
  | x :: l, s, h, hx => by
    rw [runs]
    split
    · exact runs_top l _ (by have := hx x (by simp); omega) fun y hy => hx y (by simp [hy])
    · exact h
def reach : Nat := 140737488351232
theorem c_great (d : Dsk) (h1 : d.sectors.length ≤ reach) (h2 : d.waits.length ≤ reach) (h3 : ∀ b, b ∈ d.sectors → b.length ≤ reach) (h4 : ∀ w, w ∈ d.waits → w.data.length ≤ reach) : ACall Try.prog 18 [dskA d] [] (bool (great d)) [] := by
  unfold reach at *
  refine acall_of 1 Try.func18 rfl fun n out _ _ => ?_
  simp only [Try.ntmps18, List.length_cons, List.length_nil, List.length_map, List.length_replicate, rep_map, Nat.reduceAdd, Nat.reduceSub, List.replicate, List.cons_append, List.nil_append]
  obtain ⟨sle, hsl⟩ : ∃ sle, sle = d.sectors.map List.length := ⟨_, rfl⟩
  obtain ⟨wl, hwl⟩ : ∃ wl, wl = d.waits.map fun w => w.data.length := ⟨_, rfl⟩
  have hsn : sle.length = d.sectors.length := by rw [hsl, List.length_map]
  have hwn : wl.length = d.waits.length := by rw [hwl, List.length_map]
  obtain ⟨s0, hs0⟩ : ∃ s0, s0 = d.sectors.length + d.waits.length := ⟨_, rfl⟩
  refine awp_seq_k fun K hK => awp_ev tab_ok [] ?_
  simp (maxSteps := 4000000) only [su, evLit, hbT, tab, thenA, blockA, reduceCtorEq, reduceIte, Nat.reduceEqDiff, Nat.reduceBEq, Int.reduceLE, Int.reduceToNat, Nat.reduceAdd, Nat.reduceLT, Nat.reduceLeDiff, dskA, dskC]
  repeat' (first | (with_reducible refine hK _ ?_; clear hK K) | with_reducible apply And.intro)
  refine awp_seq_k fun K hK => awp_ev tab_ok [] ?_
  simp (maxSteps := 4000000) only [su, evLit, hbT, tab, thenA, blockA, reduceCtorEq, reduceIte, Nat.reduceEqDiff, Nat.reduceBEq, Int.reduceLE, Int.reduceToNat, Nat.reduceAdd, Nat.reduceLT, Nat.reduceLeDiff, List.length_map, addw (n := d.sectors.length) (d.waits.length : Int) d.waits.length rfl (by omega)]
  repeat' (first | (with_reducible refine hK _ ?_; clear hK K) | with_reducible apply And.intro)
  rw [← hs0]
  refine awp_seq_k fun KB hKB => ?_
  refine awp_seq_k fun K hK => awp_ev tab_ok [] ?_
  simp (maxSteps := 4000000) only [su, evLit, hbT, tab, thenA, blockA, reduceCtorEq, reduceIte, Nat.reduceEqDiff, Nat.reduceBEq, Int.reduceLE, Int.reduceToNat, Nat.reduceAdd, Nat.reduceLT, Nat.reduceLeDiff]
  repeat' (first | (with_reducible refine hK _ ?_; clear hK K) | with_reducible apply And.intro)
  refine awp_block_to [(3, i64 ((runs sle s0 : Nat) : Int)), (4, .top), (13, .top), (14, .top), (15, .top), (16, .top), (17, .top), (18, .top), (19, .top), (20, .top), (21, .top), (22, .top), (23, .top), (24, .top), (25, .top), (26, .top), (27, .top), (28, .top), (29, .top), (30, .top), (31, .top)] [some (.box 25 [.sl 1 (d.sectors.map secC) .sh, .sl 2 (d.waits.map wrC) .sh])] out (id ?_) (awp_for_g (fun i : Nat => [(3, i64 ((acc sle s0 i : Nat) : Int)), (4, i64 (i : Int)), (13, .top), (14, .top), (15, .top), (16, .top), (17, .top), (18, .top), (19, .top), (20, .top), (21, .top), (22, .top), (23, .top), (24, .top), (25, .top), (26, .top), (27, .top), (28, .top), (29, .top), (30, .top), (31, .top)]) (fun i => [some (.box 25 [.sl 1 (d.sectors.map secC) .sh, .sl 2 (d.waits.map wrC) .sh])]) (fun i => out) (fun i => i ≤ d.sectors.length ∧ runs sle s0 = runs (sle.drop i) (acc sle s0 i)) (fun i => d.sectors.length - i) 0 ⟨Nat.zero_le _, ?_⟩ ?_ fun i hi => ?_)
  rotate_left
  · rw [List.drop_zero, acc, List.take_zero]; rfl
  · refine le_of_all ?_ ?_ rfl rfl rfl rfl <;> simp only [patch, sl, dskC, acc, List.take_zero, List.sum_nil, Nat.add_zero]
  · obtain ⟨hi, hq⟩ := hi
    simp only [patch, s_0, s_s]
    refine awp_seq_k fun KC hKC => ?_
    by_cases hlt : i < d.sectors.length
    · have hg : ∀ h, sle[i]'h = (d.sectors[i]).length := fun h => by simp [hsl]
      have e1 : decide ((i : Int) < (d.sectors.length : Int)) = true := decide_eq_true (by omega)
      by_cases hn : acc sle s0 i ≤ 200000
      · have e2 : decide (((acc sle s0 i : Nat) : Int) ≤ 200000) = true := decide_eq_true (by omega)
        have hb := h3 _ (List.getElem_mem hlt)
        refine awp_seq_k fun K hK => awp_ev tab_ok [] ?_
        simp (maxSteps := 4000000) only [su, evLit, hbT, tab, thenA, blockA, reduceCtorEq, reduceIte, Nat.reduceEqDiff, Nat.reduceBEq, Int.reduceLE, Int.reduceToNat, Nat.reduceAdd, Nat.reduceLT, Nat.reduceLeDiff, dskC, List.length_map, hlt, e2]
        repeat' (first | (with_reducible refine hK _ ?_; clear hK K) | with_reducible apply And.intro)
        refine awp_cond_t rfl (awp_skip (hKC _ ?_))
        clear hKC KC
        refine awp_seq_k fun KC hKC => awp_block ?_
        refine awp_ev tab_ok [] ?_
        simp (maxSteps := 4000000) only [su, evLit, hbT, tab, thenA, blockA, reduceCtorEq, reduceIte, Nat.reduceEqDiff, Nat.reduceBEq, Int.reduceLE, Int.reduceToNat, Nat.reduceAdd, Nat.reduceLT, Nat.reduceLeDiff, hlt, List.length_map, getD_map secC d.sectors i [] hlt, secC, bytes_length, hg, addw (n := acc sle s0 i) ((d.sectors[i]).length : Int) (d.sectors[i]).length rfl (by omega)]
        refine hKC _ ?_
        clear hKC KC
        refine awp_ev tab_ok [] ?_
        simp (maxSteps := 4000000) only [su, evLit, hbT, tab, thenA, blockA, reduceCtorEq, reduceIte, Nat.reduceEqDiff, Nat.reduceBEq, Int.reduceLE, Int.reduceToNat, Nat.reduceAdd, Nat.reduceLT, Nat.reduceLeDiff, addw (n := i) 1 1 rfl (by omega)]
        refine ⟨i + 1, ⟨by omega, runs_step (by omega) hn hq⟩, by omega, ?_⟩
        rw [acc_succ sle s0 i (by omega), hg]
        refine le_of_all ?_ ?_ rfl rfl rfl rfl <;> simp only [patch, sl]
      · have e2 : decide (((acc sle s0 i : Nat) : Int) ≤ 200000) = false := decide_eq_false (by omega)
        refine awp_seq_k fun K hK => awp_ev tab_ok [] ?_
        simp (maxSteps := 4000000) only [su, evLit, hbT, tab, thenA, blockA, reduceCtorEq, reduceIte, Nat.reduceEqDiff, Nat.reduceBEq, Int.reduceLE, Int.reduceToNat, Nat.reduceAdd, Nat.reduceLT, Nat.reduceLeDiff, dskC, List.length_map, hlt, e2]
        repeat' (first | (with_reducible refine hK _ ?_; clear hK K) | with_reducible apply And.intro)
        refine awp_cond_f rfl (awp_exit ?_)
        rw [hq, runs_big _ hn]
        simp only [thenA, blockA, if_true]
        refine .inl ⟨by trivial, ?_⟩
        refine le_of_all ?_ ?_ rfl rfl rfl rfl <;> simp only [patch, sl]
    · have hil : i = d.sectors.length := by omega
      refine awp_seq_k fun K hK => awp_ev tab_ok [] ?_
      simp (maxSteps := 4000000) only [su, evLit, hbT, tab, thenA, blockA, reduceCtorEq, reduceIte, Nat.reduceEqDiff, Nat.reduceBEq, Int.reduceLE, Int.reduceToNat, Nat.reduceAdd, Nat.reduceLT, Nat.reduceLeDiff, dskC, List.length_map, hlt]
      repeat' (first | (with_reducible refine hK _ ?_; clear hK K) | with_reducible apply And.intro)
      refine awp_cond_f rfl (awp_exit ?_)
      rw [hq, List.drop_of_length_le (by omega), runs]
      simp only [thenA, blockA, if_true]
      refine .inl ⟨by trivial, ?_⟩
      refine le_of_all ?_ ?_ rfl rfl rfl rfl <;> simp only [patch, sl]
  refine hKB _ ?_
  clear hKB KB
  simp only [patch, s_0, s_s]
  obtain ⟨s1, hs1⟩ : ∃ s1, s1 = runs sle s0 := ⟨_, rfl⟩
  rw [← hs1]
  have hb1 : s1 ≤ 281474976910656 := by
    rw [hs1]
    refine runs_top sle s0 (by omega) fun x hx => ?_
    rw [hsl] at hx
    obtain ⟨b, hb, rfl⟩ := List.mem_map.1 hx
    exact h3 b hb
  refine awp_seq_k fun KB hKB => ?_
  refine awp_seq_k fun K hK => awp_ev tab_ok [] ?_
  simp (maxSteps := 4000000) only [su, evLit, hbT, tab, thenA, blockA, reduceCtorEq, reduceIte, Nat.reduceEqDiff, Nat.reduceBEq, Int.reduceLE, Int.reduceToNat, Nat.reduceAdd, Nat.reduceLT, Nat.reduceLeDiff]
  repeat' (first | (with_reducible refine hK _ ?_; clear hK K) | with_reducible apply And.intro)
  refine awp_block_to [(3, i64 ((runs wl s1 : Nat) : Int)), (5, .top), (32, .top), (33, .top), (34, .top), (35, .top), (36, .top), (37, .top), (38, .top), (39, .top), (40, .top), (41, .top), (42, .top), (43, .top), (44, .top), (45, .top), (46, .top), (47, .top), (48, .top), (49, .top), (50, .top), (51, .top)] [some (.box 25 [.sl 1 (d.sectors.map secC) .sh, .sl 2 (d.waits.map wrC) .sh])] out (id ?_) (awp_for_g (fun i : Nat => [(3, i64 ((acc wl s1 i : Nat) : Int)), (5, i64 (i : Int)), (32, .top), (33, .top), (34, .top), (35, .top), (36, .top), (37, .top), (38, .top), (39, .top), (40, .top), (41, .top), (42, .top), (43, .top), (44, .top), (45, .top), (46, .top), (47, .top), (48, .top), (49, .top), (50, .top), (51, .top)]) (fun i => [some (.box 25 [.sl 1 (d.sectors.map secC) .sh, .sl 2 (d.waits.map wrC) .sh])]) (fun i => out) (fun i => i ≤ d.waits.length ∧ runs wl s1 = runs (wl.drop i) (acc wl s1 i)) (fun i => d.waits.length - i) 0 ⟨Nat.zero_le _, ?_⟩ ?_ fun i hi => ?_)
  rotate_left
  · rw [List.drop_zero, acc, List.take_zero]; rfl
  · refine le_of_all ?_ ?_ rfl rfl rfl rfl <;> simp only [patch, sl, acc, List.take_zero, List.sum_nil, Nat.add_zero]
  · obtain ⟨hi, hq⟩ := hi
    simp only [patch, s_0, s_s]
    refine awp_seq_k fun KC hKC => ?_
    by_cases hlt : i < d.waits.length
    · have hg : ∀ h, wl[i]'h = (d.waits[i]).data.length := fun h => by simp [hwl]
      by_cases hn : acc wl s1 i ≤ 200000
      · have e2 : decide (((acc wl s1 i : Nat) : Int) ≤ 200000) = true := decide_eq_true (by omega)
        have hb := h4 _ (List.getElem_mem hlt)
        refine awp_seq_k fun K hK => awp_ev tab_ok [] ?_
        simp (maxSteps := 4000000) only [su, evLit, hbT, tab, thenA, blockA, reduceCtorEq, reduceIte, Nat.reduceEqDiff, Nat.reduceBEq, Int.reduceLE, Int.reduceToNat, Nat.reduceAdd, Nat.reduceLT, Nat.reduceLeDiff, List.length_map, hlt, e2]
        repeat' (first | (with_reducible refine hK _ ?_; clear hK K) | with_reducible apply And.intro)
        refine awp_cond_t rfl (awp_skip (hKC _ ?_))
        clear hKC KC
        refine awp_seq_k fun KC hKC => awp_block ?_
        refine awp_ev tab_ok [] ?_
        simp (maxSteps := 4000000) only [su, evLit, hbT, tab, thenA, blockA, reduceCtorEq, reduceIte, Nat.reduceEqDiff, Nat.reduceBEq, Int.reduceLE, Int.reduceToNat, Nat.reduceAdd, Nat.reduceLT, Nat.reduceLeDiff, hlt, List.length_map, getD_map wrC d.waits i [] hlt, wrC, bytes_length, addw (n := acc wl s1 i) ((d.waits[i]).data.length : Int) (d.waits[i]).data.length rfl (by omega)]
        refine hKC _ ?_
        clear hKC KC
        refine awp_ev tab_ok [] ?_
        simp (maxSteps := 4000000) only [su, evLit, hbT, tab, thenA, blockA, reduceCtorEq, reduceIte, Nat.reduceEqDiff, Nat.reduceBEq, Int.reduceLE, Int.reduceToNat, Nat.reduceAdd, Nat.reduceLT, Nat.reduceLeDiff, addw (n := i) 1 1 rfl (by omega)]
        refine ⟨i + 1, ⟨by omega, runs_step (by omega) hn hq⟩, by omega, ?_⟩
        rw [acc_succ wl s1 i (by omega), hg]
        refine le_of_all ?_ ?_ rfl rfl rfl rfl <;> simp only [patch, sl]
      · have e2 : decide (((acc wl s1 i : Nat) : Int) ≤ 200000) = false := decide_eq_false (by omega)
        refine awp_seq_k fun K hK => awp_ev tab_ok [] ?_
        simp (maxSteps := 4000000) only [su, evLit, hbT, tab, thenA, blockA, reduceCtorEq, reduceIte, Nat.reduceEqDiff, Nat.reduceBEq, Int.reduceLE, Int.reduceToNat, Nat.reduceAdd, Nat.reduceLT, Nat.reduceLeDiff, List.length_map, hlt, e2]
        repeat' (first | (with_reducible refine hK _ ?_; clear hK K) | with_reducible apply And.intro)
        refine awp_cond_f rfl (awp_exit ?_)
        rw [hq, runs_big _ hn]
        simp only [thenA, blockA, if_true]
        refine .inl ⟨by trivial, ?_⟩
        refine le_of_all ?_ ?_ rfl rfl rfl rfl <;> simp only [patch, sl]
    · have hil : i = d.waits.length := by omega
      refine awp_seq_k fun K hK => awp_ev tab_ok [] ?_
      simp (maxSteps := 4000000) only [su, evLit, hbT, tab, thenA, blockA, reduceCtorEq, reduceIte, Nat.reduceEqDiff, Nat.reduceBEq, Int.reduceLE, Int.reduceToNat, Nat.reduceAdd, Nat.reduceLT, Nat.reduceLeDiff, List.length_map, hlt]
      repeat' (first | (with_reducible refine hK _ ?_; clear hK K) | with_reducible apply And.intro)
      refine awp_cond_f rfl (awp_exit ?_)
      rw [hq, List.drop_of_length_le (by omega), runs]
      simp only [thenA, blockA, if_true]
      refine .inl ⟨by trivial, ?_⟩
      refine le_of_all ?_ ?_ rfl rfl rfl rfl <;> simp only [patch, sl]
  refine hKB _ ?_
  clear hKB KB
  simp only [patch, s_0, s_s]
  have hgr : great d = (decide (((runs wl s1 : Nat) : Int) > 200000) || decide (((d.sectors.length + d.waits.length : Nat) : Int) > 600)) := by
    rw [great, ← hsl, ← hwl, ← hs0, ← hs1, hs0]
    congr 1
    · exact decide_eq_decide.2 (by omega)
    · exact decide_eq_decide.2 (by omega)
  rw [hgr]
  cases hc : decide (((runs wl s1 : Nat) : Int) > 200000) with
  | true =>
    refine awp_seq_k fun K hK => awp_ev tab_ok [] ?_
    simp (maxSteps := 4000000) only [su, evLit, hbT, tab, thenA, blockA, reduceCtorEq, reduceIte, Nat.reduceEqDiff, Nat.reduceBEq, Int.reduceLE, Int.reduceToNat, Nat.reduceAdd, Nat.reduceLT, Nat.reduceLeDiff, hc]
    repeat' (first | (with_reducible refine hK _ ?_; clear hK K) | with_reducible apply And.intro)
    refine awp_ret ?_
    exact ret_tmp (.inr rfl) rfl rfl rfl (fun _ _ => rfl) rfl
  | false =>
    refine awp_seq_k fun K hK => awp_ev tab_ok [] ?_
    simp (maxSteps := 4000000) only [su, evLit, hbT, tab, thenA, blockA, reduceCtorEq, reduceIte, Nat.reduceEqDiff, Nat.reduceBEq, Int.reduceLE, Int.reduceToNat, Nat.reduceAdd, Nat.reduceLT, Nat.reduceLeDiff, hc, List.length_map, addw (n := d.sectors.length) (d.waits.length : Int) d.waits.length rfl (by omega)]
    repeat' (first | (with_reducible refine hK _ ?_; clear hK K) | with_reducible apply And.intro)
    refine awp_ret ?_
    exact ret_tmp (.inr rfl) rfl rfl rfl (fun _ _ => rfl) rfl
end Go.Proofs.Ytefkjdkalgemeaa
