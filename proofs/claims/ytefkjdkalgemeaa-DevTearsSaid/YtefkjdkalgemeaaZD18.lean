/-
  The document's answer: disks that may be.
-/
import Derived.Test.YtefkjdkalgemeaaZGA
import Derived.Test.YtefkjdkalgemeaaZD15
namespace Go.Proofs.Ytefkjdkalgemeaa
set_option linter.unusedVariables false
set_option linter.unusedSimpArgs false
open Go Go.VS Tab
set_option maxHeartbeats 2000000
set_option maxRecDepth 4000
theorem c_rnumber (a m : Int) : ACall Try.prog 59 [i64 a, i64 m] [] (bool (decide (0 ≤ a) && decide (a < m))) [] := by
  refine acall_of 0 Try.func59 rfl fun n out _ _ => ?_
  simp only [Try.ntmps59, List.length_cons, List.length_nil, List.length_map, List.length_replicate, rep_map, Nat.reduceAdd, Nat.reduceSub, List.replicate, List.cons_append, List.nil_append]
  refine awp_seq_k fun K hK => awp_ev tab_ok [] ?_
  simp (maxSteps := 4000000) only [su, evLit, hbT, tab, thenA, blockA, reduceCtorEq, reduceIte, Nat.reduceEqDiff, Nat.reduceBEq, Int.reduceLE, Int.reduceToNat, Nat.reduceAdd, Nat.reduceLT, Nat.reduceLeDiff]
  repeat' (first | (with_reducible refine hK _ ?_; clear hK K) | with_reducible apply And.intro)
  by_cases h : 0 ≤ a
  · have e : decide (a ≥ 0) = true := decide_eq_true h
    refine awp_seq_k fun K hK => awp_ev tab_ok [] ?_
    simp (maxSteps := 4000000) only [su, evLit, hbT, tab, thenA, blockA, reduceCtorEq, reduceIte, Nat.reduceEqDiff, Nat.reduceBEq, Int.reduceLE, Int.reduceToNat, Nat.reduceAdd, Nat.reduceLT, Nat.reduceLeDiff, e]
    repeat' (first | (with_reducible refine hK _ ?_; clear hK K) | with_reducible apply And.intro)
    rw [show decide (0 ≤ a) = true from e, Bool.true_and]
    refine awp_ret ?_
    exact ret_tmp (.inr rfl) rfl rfl rfl (fun _ _ => rfl) rfl
  · have e : decide (a ≥ 0) = false := decide_eq_false h
    refine awp_seq_k fun K hK => awp_ev tab_ok [] ?_
    simp (maxSteps := 4000000) only [su, evLit, hbT, tab, thenA, blockA, reduceCtorEq, reduceIte, Nat.reduceEqDiff, Nat.reduceBEq, Int.reduceLE, Int.reduceToNat, Nat.reduceAdd, Nat.reduceLT, Nat.reduceLeDiff, e]
    repeat' (first | (with_reducible refine hK _ ?_; clear hK K) | with_reducible apply And.intro)
    rw [show decide (0 ≤ a) = false from e, Bool.false_and]
    refine awp_ret ?_
    exact ret_tmp (.inr rfl) rfl rfl rfl (fun _ _ => rfl) rfl
def am {α : Type} (b : Bool) (p : α → Bool) (l : List α) (i : Nat) : Bool := b && (l.take i).all p
theorem am_succ {α : Type} {b : Bool} {p : α → Bool} {l : List α} {i : Nat} (h : i < l.length) (ha : am b p l i = true) : am b p l (i + 1) = p l[i] := by
  unfold am at *
  rw [Bool.and_eq_true] at ha
  rw [List.take_succ_eq_append_getElem h, List.all_append, ha.1, ha.2]; simp
theorem am_all {α : Type} {b : Bool} {p : α → Bool} {l : List α} {i : Nat} (h : i = l.length ∨ am b p l i = false) : am b p l i = (b && l.all p) := by
  rcases h with rfl | h
  · rw [am, List.take_length]
  · rw [h]
    unfold am at h
    cases b with
    | false => rfl
    | true =>
      rw [Bool.true_and] at h ⊢
      have h2 : ¬ (l.take i).all p = true := by rw [h]; decide
      symm
      rw [Bool.eq_false_iff]
      intro h3
      exact h2 (List.all_eq_true.2 fun x hx => List.all_eq_true.1 h3 x (List.mem_of_mem_take hx))
theorem c_rmay (d : Dsk) (h1 : d.sectors.length ≤ 1000) (h2 : d.waits.length ≤ 1000) : ACall Try.prog 76 [dskA d] [] (bool (may d)) [] := by
  refine acall_of 1 Try.func76 rfl fun n out _ _ => ?_
  simp only [Try.ntmps76, List.length_cons, List.length_nil, List.length_map, List.length_replicate, rep_map, Nat.reduceAdd, Nat.reduceSub, List.replicate, List.cons_append, List.nil_append]
  refine awp_seq_k fun K hK => awp_ev tab_ok [] ?_
  simp (maxSteps := 4000000) only [su, evLit, hbT, tab, thenA, blockA, reduceCtorEq, reduceIte, Nat.reduceEqDiff, Nat.reduceBEq, Int.reduceLE, Int.reduceToNat, Nat.reduceAdd, Nat.reduceLT, Nat.reduceLeDiff, dskA, dskC]
  repeat' (first | (with_reducible refine hK _ ?_; clear hK K) | with_reducible apply And.intro)
  obtain ⟨b0, hb0⟩ : ∃ b0, b0 = (decide (d.sectors.length = 32) && decide (d.waits.length ≤ 256)) := ⟨_, rfl⟩
  obtain ⟨p1, hp1⟩ : ∃ p1 : List UInt8 → Bool, p1 = fun b => decide (b.length = 128) := ⟨_, rfl⟩
  have key : may d = (b0 && d.sectors.all p1 && d.waits.all mayW) := by
    rw [hb0, hp1]; rfl
  have g32 : ((d.sectors.length : Int) == 32) = decide (d.sectors.length = 32) := by
    rw [Bool.eq_iff_iff]; simp; omega
  rw [key]
  obtain ⟨box, hbox⟩ : ∃ box, box = some (Res.box 25 [.sl 1 (d.sectors.map secC) .sh, .sl 2 (d.waits.map wrC) .sh]) := ⟨_, rfl⟩
  refine awp_seq_to [(3, bool b0), (6, .top), (7, .top), (8, .top), (9, .top), (10, .top), (11, .top), (12, .top), (13, .top), (14, .top), (15, .top)] [some (.box 25 [.sl 1 (d.sectors.map secC) .sh, .sl 2 (d.waits.map wrC) .sh])] out (id ?_) ?_
  rotate_left
  · rw [hb0]
    by_cases h32 : d.sectors.length = 32
    · have e : decide (d.sectors.length = 32) = true := decide_eq_true h32
      have e3 : decide ((d.waits.length : Int) ≤ 256) = decide (d.waits.length ≤ 256) := decide_eq_decide.2 (by omega)
      rw [e, Bool.true_and]
      refine awp_ev tab_ok [] ?_
      simp (maxSteps := 4000000) only [su, evLit, hbT, tab, thenA, blockA, reduceCtorEq, reduceIte, Nat.reduceEqDiff, Nat.reduceBEq, Int.reduceLE, Int.reduceToNat, Nat.reduceAdd, Nat.reduceLT, Nat.reduceLeDiff, List.length_map, g32, e, e3]
      refine .inl ?_
      refine le_of_all ?_ ?_ rfl rfl rfl rfl <;> simp only [patch, sl]
    · have e : decide (d.sectors.length = 32) = false := decide_eq_false h32
      rw [e, Bool.false_and]
      refine awp_ev tab_ok [] ?_
      simp (maxSteps := 4000000) only [su, evLit, hbT, tab, thenA, blockA, reduceCtorEq, reduceIte, Nat.reduceEqDiff, Nat.reduceBEq, Int.reduceLE, Int.reduceToNat, Nat.reduceAdd, Nat.reduceLT, Nat.reduceLeDiff, List.length_map, g32, e]
      refine .inl ?_
      refine le_of_all ?_ ?_ rfl rfl rfl rfl <;> simp only [patch, sl]
  simp only [patch, s_0, s_s]
  refine awp_seq_k fun KB hKB => ?_
  refine awp_seq_k fun K hK => awp_ev tab_ok [] ?_
  simp (maxSteps := 4000000) only [su, evLit, hbT, tab, thenA, blockA, reduceCtorEq, reduceIte, Nat.reduceEqDiff, Nat.reduceBEq, Int.reduceLE, Int.reduceToNat, Nat.reduceAdd, Nat.reduceLT, Nat.reduceLeDiff]
  repeat' (first | (with_reducible refine hK _ ?_; clear hK K) | with_reducible apply And.intro)
  refine awp_block_to [(3, bool (b0 && d.sectors.all p1)), (4, .top), (16, .top), (17, .top), (18, .top), (19, .top), (20, .top), (21, .top), (22, .top), (23, .top), (24, .top), (25, .top), (26, .top), (27, .top), (28, .top), (29, .top), (30, .top), (31, .top), (32, .top)] [some (.box 25 [.sl 1 (d.sectors.map secC) .sh, .sl 2 (d.waits.map wrC) .sh])] out (id ?_) (awp_for_g (fun i : Nat => [(3, bool (am b0 p1 d.sectors i)), (4, i64 (i : Int)), (16, .top), (17, .top), (18, .top), (19, .top), (20, .top), (21, .top), (22, .top), (23, .top), (24, .top), (25, .top), (26, .top), (27, .top), (28, .top), (29, .top), (30, .top), (31, .top), (32, .top)]) (fun i => [some (.box 25 [.sl 1 (d.sectors.map secC) .sh, .sl 2 (d.waits.map wrC) .sh])]) (fun i => out) (fun i => i ≤ d.sectors.length ∧ True) (fun i => d.sectors.length - i) 0 ⟨Nat.zero_le _, ?_⟩ ?_ fun i hi => ?_)
  rotate_left
  · trivial
  · refine le_of_all ?_ ?_ rfl rfl rfl rfl <;> simp only [patch, sl, am, List.take_zero, List.all_nil, Bool.and_true]
  · obtain ⟨hi, hq⟩ := hi
    simp only [patch, s_0, s_s]
    refine awp_seq_k fun KC hKC => ?_
    by_cases hlt : i < d.sectors.length
    · cases ha : am b0 p1 d.sectors i with
      | true =>
        have e5 : (((d.sectors[i]).length : Int) == 128) = am b0 p1 d.sectors (i + 1) := by
          rw [am_succ hlt ha, hp1, Bool.eq_iff_iff]; simp; omega
        refine awp_seq_k fun K hK => awp_ev tab_ok [] ?_
        simp (maxSteps := 4000000) only [su, evLit, hbT, tab, thenA, blockA, reduceCtorEq, reduceIte, Nat.reduceEqDiff, Nat.reduceBEq, Int.reduceLE, Int.reduceToNat, Nat.reduceAdd, Nat.reduceLT, Nat.reduceLeDiff, List.length_map, hlt]
        repeat' (first | (with_reducible refine hK _ ?_; clear hK K) | with_reducible apply And.intro)
        refine awp_cond_t rfl (awp_skip (hKC _ ?_))
        clear hKC KC
        refine awp_seq_k fun KC hKC => awp_block ?_
        refine awp_ev tab_ok [] ?_
        simp (maxSteps := 4000000) only [su, evLit, hbT, tab, thenA, blockA, reduceCtorEq, reduceIte, Nat.reduceEqDiff, Nat.reduceBEq, Int.reduceLE, Int.reduceToNat, Nat.reduceAdd, Nat.reduceLT, Nat.reduceLeDiff, hlt, List.length_map, getD_map secC d.sectors i [] hlt, secC, bytes_length, e5]
        refine hKC _ ?_
        clear hKC KC
        refine awp_ev tab_ok [] ?_
        simp (maxSteps := 4000000) only [su, evLit, hbT, tab, thenA, blockA, reduceCtorEq, reduceIte, Nat.reduceEqDiff, Nat.reduceBEq, Int.reduceLE, Int.reduceToNat, Nat.reduceAdd, Nat.reduceLT, Nat.reduceLeDiff, addw (n := i) 1 1 rfl (by omega)]
        refine ⟨i + 1, by omega, by omega, ?_⟩
        refine le_of_all ?_ ?_ rfl rfl rfl rfl <;> simp only [patch, sl]
      | false =>
        refine awp_seq_k fun K hK => awp_ev tab_ok [] ?_
        simp (maxSteps := 4000000) only [su, evLit, hbT, tab, thenA, blockA, reduceCtorEq, reduceIte, Nat.reduceEqDiff, Nat.reduceBEq, Int.reduceLE, Int.reduceToNat, Nat.reduceAdd, Nat.reduceLT, Nat.reduceLeDiff, List.length_map, hlt]
        repeat' (first | (with_reducible refine hK _ ?_; clear hK K) | with_reducible apply And.intro)
        refine awp_cond_f rfl (awp_exit ?_)
        have e6 := am_all (b := b0) (p := p1) (l := d.sectors) (i := i) (.inr ha)
        rw [← e6, ha]
        simp only [thenA, blockA, if_true]
        refine .inl ⟨by trivial, ?_⟩
        refine le_of_all ?_ ?_ rfl rfl rfl rfl <;> simp only [patch, sl]
    · have e6 := am_all (b := b0) (p := p1) (l := d.sectors) (i := i) (.inl (by omega))
      rw [e6]
      refine awp_seq_k fun K hK => awp_ev tab_ok [] ?_
      simp (maxSteps := 4000000) only [su, evLit, hbT, tab, thenA, blockA, reduceCtorEq, reduceIte, Nat.reduceEqDiff, Nat.reduceBEq, Int.reduceLE, Int.reduceToNat, Nat.reduceAdd, Nat.reduceLT, Nat.reduceLeDiff, List.length_map, hlt]
      repeat' (first | (with_reducible refine hK _ ?_; clear hK K) | with_reducible apply And.intro)
      refine awp_cond_f rfl (awp_exit ?_)
      simp only [thenA, blockA, if_true]
      refine .inl ⟨by trivial, ?_⟩
      refine le_of_all ?_ ?_ rfl rfl rfl rfl <;> simp only [patch, sl]
  refine hKB _ ?_
  clear hKB KB
  simp only [patch, s_0, s_s]
  obtain ⟨b1, hb1⟩ : ∃ b1, b1 = (b0 && d.sectors.all p1) := ⟨_, rfl⟩
  rw [← hb1]
  refine awp_seq_k fun KB hKB => ?_
  refine awp_seq_k fun K hK => awp_ev tab_ok [] ?_
  simp (maxSteps := 4000000) only [su, evLit, hbT, tab, thenA, blockA, reduceCtorEq, reduceIte, Nat.reduceEqDiff, Nat.reduceBEq, Int.reduceLE, Int.reduceToNat, Nat.reduceAdd, Nat.reduceLT, Nat.reduceLeDiff]
  repeat' (first | (with_reducible refine hK _ ?_; clear hK K) | with_reducible apply And.intro)
  refine awp_block_to [(3, bool (b1 && d.waits.all mayW)), (5, .top), (33, .top), (34, .top), (35, .top), (36, .top), (37, .top), (38, .top), (39, .top), (40, .top), (41, .top), (42, .top), (43, .top), (44, .top), (45, .top), (46, .top), (47, .top), (48, .top), (49, .top), (50, .top), (51, .top), (52, .top), (53, .top), (54, .top), (55, .top), (56, .top), (57, .top), (58, .top), (59, .top)] [some (.box 25 [.sl 1 (d.sectors.map secC) .sh, .sl 2 (d.waits.map wrC) .sh])] out (id ?_) (awp_for_g (fun i : Nat => [(3, bool (am b1 mayW d.waits i)), (5, i64 (i : Int)), (33, .top), (34, .top), (35, .top), (36, .top), (37, .top), (38, .top), (39, .top), (40, .top), (41, .top), (42, .top), (43, .top), (44, .top), (45, .top), (46, .top), (47, .top), (48, .top), (49, .top), (50, .top), (51, .top), (52, .top), (53, .top), (54, .top), (55, .top), (56, .top), (57, .top), (58, .top), (59, .top)]) (fun i => [some (.box 25 [.sl 1 (d.sectors.map secC) .sh, .sl 2 (d.waits.map wrC) .sh])]) (fun i => out) (fun i => i ≤ d.waits.length ∧ True) (fun i => d.waits.length - i) 0 ⟨Nat.zero_le _, ?_⟩ ?_ fun i hi => ?_)
  rotate_left
  · trivial
  · refine le_of_all ?_ ?_ rfl rfl rfl rfl <;> simp only [patch, sl, am, List.take_zero, List.all_nil, Bool.and_true]
  · obtain ⟨hi, hq⟩ := hi
    simp only [patch, s_0, s_s]
    refine awp_seq_k fun KC hKC => ?_
    by_cases hlt : i < d.waits.length
    · cases ha : am b1 mayW d.waits i with
      | true =>
        have e5 : (((d.waits[i]).data.length : Int) == 128) = decide ((d.waits[i]).data.length = 128) := by
          rw [Bool.eq_iff_iff]; simp; omega
        have e6 := am_succ (b := b1) (p := mayW) hlt ha
        refine awp_seq_k fun K hK => awp_ev tab_ok [] ?_
        simp (maxSteps := 4000000) only [su, evLit, hbT, tab, thenA, blockA, reduceCtorEq, reduceIte, Nat.reduceEqDiff, Nat.reduceBEq, Int.reduceLE, Int.reduceToNat, Nat.reduceAdd, Nat.reduceLT, Nat.reduceLeDiff, List.length_map, hlt]
        repeat' (first | (with_reducible refine hK _ ?_; clear hK K) | with_reducible apply And.intro)
        refine awp_cond_t rfl (awp_skip (hKC _ ?_))
        clear hKC KC
        refine awp_seq_k fun KC hKC => awp_block ?_
        have hgw := getD_map wrC d.waits i [] hlt
        refine awp_ev tab_ok [] ?_
        simp (maxSteps := 4000000) only [su, evLit, hbT, tab, thenA, blockA, reduceCtorEq, reduceIte, Nat.reduceEqDiff, Nat.reduceBEq, Int.reduceLE, Int.reduceToNat, Nat.reduceAdd, Nat.reduceLT, Nat.reduceLeDiff, hlt, List.length_map, hgw, wrC]
        refine call_pure (c_rnumber _ 32) ?_
        cases hn : (decide (0 ≤ (d.waits[i]).at') && decide ((d.waits[i]).at' < 32)) with
        | true =>
          have e7 : decide ((d.waits[i]).data.length = 128) = am b1 mayW d.waits (i + 1) := by rw [e6, mayW, hn, Bool.true_and]
          simp (maxSteps := 4000000) only [su, evLit, hbT, tab, thenA, blockA, reduceCtorEq, reduceIte, Nat.reduceEqDiff, Nat.reduceBEq, Int.reduceLE, Int.reduceToNat, Nat.reduceAdd, Nat.reduceLT, Nat.reduceLeDiff, hlt, List.length_map, hgw, wrC, bytes_length, e5, e7]
          refine hKC _ ?_
          clear hKC KC
          refine awp_ev tab_ok [] ?_
          simp (maxSteps := 4000000) only [su, evLit, hbT, tab, thenA, blockA, reduceCtorEq, reduceIte, Nat.reduceEqDiff, Nat.reduceBEq, Int.reduceLE, Int.reduceToNat, Nat.reduceAdd, Nat.reduceLT, Nat.reduceLeDiff, addw (n := i) 1 1 rfl (by omega)]
          refine ⟨i + 1, by omega, by omega, ?_⟩
          refine le_of_all ?_ ?_ rfl rfl rfl rfl <;> simp only [patch, sl]
        | false =>
          have e7 : am b1 mayW d.waits (i + 1) = false := by rw [e6, mayW, hn, Bool.false_and]
          simp (maxSteps := 4000000) only [su, evLit, hbT, tab, thenA, blockA, reduceCtorEq, reduceIte, Nat.reduceEqDiff, Nat.reduceBEq, Int.reduceLE, Int.reduceToNat, Nat.reduceAdd, Nat.reduceLT, Nat.reduceLeDiff]
          refine hKC _ ?_
          clear hKC KC
          refine awp_ev tab_ok [] ?_
          simp (maxSteps := 4000000) only [su, evLit, hbT, tab, thenA, blockA, reduceCtorEq, reduceIte, Nat.reduceEqDiff, Nat.reduceBEq, Int.reduceLE, Int.reduceToNat, Nat.reduceAdd, Nat.reduceLT, Nat.reduceLeDiff, addw (n := i) 1 1 rfl (by omega)]
          refine ⟨i + 1, by omega, by omega, ?_⟩
          rw [e7]
          refine le_of_all ?_ ?_ rfl rfl rfl rfl <;> simp only [patch, sl]
      | false =>
        refine awp_seq_k fun K hK => awp_ev tab_ok [] ?_
        simp (maxSteps := 4000000) only [su, evLit, hbT, tab, thenA, blockA, reduceCtorEq, reduceIte, Nat.reduceEqDiff, Nat.reduceBEq, Int.reduceLE, Int.reduceToNat, Nat.reduceAdd, Nat.reduceLT, Nat.reduceLeDiff, List.length_map, hlt]
        repeat' (first | (with_reducible refine hK _ ?_; clear hK K) | with_reducible apply And.intro)
        refine awp_cond_f rfl (awp_exit ?_)
        have e6 := am_all (b := b1) (p := mayW) (l := d.waits) (i := i) (.inr ha)
        rw [← e6, ha]
        simp only [thenA, blockA, if_true]
        refine .inl ⟨by trivial, ?_⟩
        refine le_of_all ?_ ?_ rfl rfl rfl rfl <;> simp only [patch, sl]
    · have e6 := am_all (b := b1) (p := mayW) (l := d.waits) (i := i) (.inl (by omega))
      rw [e6]
      refine awp_seq_k fun K hK => awp_ev tab_ok [] ?_
      simp (maxSteps := 4000000) only [su, evLit, hbT, tab, thenA, blockA, reduceCtorEq, reduceIte, Nat.reduceEqDiff, Nat.reduceBEq, Int.reduceLE, Int.reduceToNat, Nat.reduceAdd, Nat.reduceLT, Nat.reduceLeDiff, List.length_map, hlt]
      repeat' (first | (with_reducible refine hK _ ?_; clear hK K) | with_reducible apply And.intro)
      refine awp_cond_f rfl (awp_exit ?_)
      simp only [thenA, blockA, if_true]
      refine .inl ⟨by trivial, ?_⟩
      refine le_of_all ?_ ?_ rfl rfl rfl rfl <;> simp only [patch, sl]
  refine hKB _ ?_
  clear hKB KB
  simp only [patch, s_0, s_s]
  refine awp_seq_k fun K hK => awp_ev tab_ok [] ?_
  simp (maxSteps := 4000000) only [su, evLit, hbT, tab, thenA, blockA, reduceCtorEq, reduceIte, Nat.reduceEqDiff, Nat.reduceBEq, Int.reduceLE, Int.reduceToNat, Nat.reduceAdd, Nat.reduceLT, Nat.reduceLeDiff]
  repeat' (first | (with_reducible refine hK _ ?_; clear hK K) | with_reducible apply And.intro)
  refine awp_ret ?_
  exact ret_tmp (.inr rfl) rfl rfl rfl (fun _ _ => rfl) rfl
theorem c_rcheck (d : Dsk) (h1 : d.sectors.length ≤ 1000) (h2 : d.waits.length ≤ 1000) : ACall Try.prog 31 [dskA d] [] (i64 (if may d then 0 else 8)) [] := by
  refine acall_of 1 Try.func31 rfl fun n out _ _ => ?_
  simp only [Try.ntmps31, List.length_cons, List.length_nil, List.length_map, List.length_replicate, rep_map, Nat.reduceAdd, Nat.reduceSub, List.replicate, List.cons_append, List.nil_append]
  refine awp_seq_k fun K hK => awp_ev tab_ok [] ?_
  simp (maxSteps := 4000000) only [su, evLit, hbT, tab, thenA, blockA, reduceCtorEq, reduceIte, Nat.reduceEqDiff, Nat.reduceBEq, Int.reduceLE, Int.reduceToNat, Nat.reduceAdd, Nat.reduceLT, Nat.reduceLeDiff, dskA, dskC]
  repeat' (first | (with_reducible refine hK _ ?_; clear hK K) | with_reducible apply And.intro)
  refine awp_seq_k fun KB hKB => ?_
  refine awp_seq_k fun K hK => awp_ev tab_ok [] ?_
  simp (maxSteps := 4000000) only [su, evLit, hbT, tab, thenA, blockA, reduceCtorEq, reduceIte, Nat.reduceEqDiff, Nat.reduceBEq, Int.reduceLE, Int.reduceToNat, Nat.reduceAdd, Nat.reduceLT, Nat.reduceLeDiff]
  repeat' (first | (with_reducible refine hK _ ?_; clear hK K) | with_reducible apply And.intro)
  refine call_pure (c_rmay d h1 h2) ?_
  simp (maxSteps := 4000000) only [su, evLit, hbT, tab, thenA, blockA, reduceCtorEq, reduceIte, Nat.reduceEqDiff, Nat.reduceBEq, Int.reduceLE, Int.reduceToNat, Nat.reduceAdd, Nat.reduceLT, Nat.reduceLeDiff]
  repeat' (first | (with_reducible refine hK _ ?_; clear hK K) | with_reducible apply And.intro)
  by_cases hm : may d = true
  · rw [hm]
    refine awp_cond_t rfl ?_
    refine awp_seq_k fun K hK => awp_ev tab_ok [] ?_
    simp (maxSteps := 4000000) only [su, evLit, hbT, tab, thenA, blockA, reduceCtorEq, reduceIte, Nat.reduceEqDiff, Nat.reduceBEq, Int.reduceLE, Int.reduceToNat, Nat.reduceAdd, Nat.reduceLT, Nat.reduceLeDiff]
    repeat' (first | (with_reducible refine hK _ ?_; clear hK K) | with_reducible apply And.intro)
    refine awp_ret ?_
    exact ret_tmp (.inr rfl) rfl rfl rfl (fun _ _ => rfl) rfl
  · rw [show may d = false by simpa using hm]
    refine awp_cond_f rfl (awp_skip (hKB _ ?_))
    refine awp_seq_k fun K hK => awp_ev tab_ok [] ?_
    simp (maxSteps := 4000000) only [su, evLit, hbT, tab, thenA, blockA, reduceCtorEq, reduceIte, Nat.reduceEqDiff, Nat.reduceBEq, Int.reduceLE, Int.reduceToNat, Nat.reduceAdd, Nat.reduceLT, Nat.reduceLeDiff]
    repeat' (first | (with_reducible refine hK _ ?_; clear hK K) | with_reducible apply And.intro)
    refine awp_ret ?_
    rw [if_neg hm]
    exact ret_tmp (.inr rfl) rfl rfl rfl (fun _ _ => rfl) rfl
end Go.Proofs.Ytefkjdkalgemeaa
