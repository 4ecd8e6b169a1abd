/-
  The law DevSplit.
-/
import Derived.Test.YtefkjdkalgemeaaD14
namespace Go.Proofs.Ytefkjdkalgemeaa
set_option linter.unusedVariables false
set_option linter.unusedSimpArgs false
open Go Go.VS Tab
set_option maxHeartbeats 2000000
set_option maxRecDepth 4000

/-- Disks that may come. -/
structure DOk (d : Dsk) : Prop where
  s : d.sectors.length ≤ reach
  w : d.waits.length ≤ reach
  sb : ∀ b, b ∈ d.sectors → b.length ≤ reach
  wb : ∀ w, w ∈ d.waits → w.data.length ≤ reach
theorem c_great' (d : Dsk) (h : DOk d) : ACall Try.prog 18 [dskA d] [] (bool (great d)) [] := c_great d h.s h.w h.sb h.wb
theorem ints_drop (l : List Int) (m : Nat) : (l.map intC).drop m = (l.drop m).map intC := by simp
theorem ints_take (l : List Int) (m : Nat) : (l.map intC).take m = (l.take m).map intC := by simp
theorem wrs_drop (l : List Wr) (m : Nat) : (l.map wrC).drop m = (l.drop m).map wrC := by simp
theorem wrs_take (l : List Wr) (m : Nat) : (l.map wrC).take m = (l.take m).map wrC := by simp

theorem c_lawSplit (d : Dsk) (kp : List Int) (a : Int) (hd : DOk d) (hk : kp.length ≤ reach) : ACall Try.prog 7 [dskA d, .sl 1 (kp.map intC) .sh, i64 a] [] (bool true) [] := by
  unfold reach at hk
  refine acall_of 4 Try.func7 rfl fun n out _ _ => ?_
  simp only [Try.ntmps7, List.length_cons, List.length_nil, List.length_map, List.length_replicate, rep_map, Nat.reduceAdd, Nat.reduceSub, List.replicate, List.cons_append, List.nil_append]
  refine awp_seq_k fun K hK => awp_ev tab_ok [] ?_
  simp (maxSteps := 4000000) only [sx, bne_self_eq_false, Nat.reduceEqDiff, hbT, evBuild, evLit, evMake, tab, List.nil_append, List.isEmpty_cons, List.isEmpty_nil, decide_true, decide_false, ne_eq, not_false_eq_true, List.drop_zero, List.drop_succ_cons, isShift, thenA, blockA, reduceCtorEq, eq_self, Option.isSome_some, if_true, if_false, reduceIte, List.contains_nil, List.contains_cons, Nat.reduceBEq, beq_self_eq_true, Int.reduceLE, Int.reduceToNat, List.map_cons, List.map_nil, List.length_cons, List.length_nil, List.length_map, List.length_replicate, Nat.reduceAdd, Nat.reduceLT, Nat.reduceLeDiff, List.getElem?_toArray, List.getElem?_cons_zero, List.getElem?_cons_succ, Option.join_some, Option.join_none, dskA, dskC]
  repeat' (first | (with_reducible refine hK _ ?_; clear hK K) | with_reducible apply And.intro)
  refine awp_seq_k fun K hK => awp_ev tab_ok [] ?_
  simp (maxSteps := 4000000) only [sx, bne_self_eq_false, Nat.reduceEqDiff, hbT, evBuild, evLit, evMake, tab, List.nil_append, List.isEmpty_cons, List.isEmpty_nil, decide_true, decide_false, ne_eq, not_false_eq_true, List.drop_zero, List.drop_succ_cons, isShift, thenA, blockA, reduceCtorEq, eq_self, Option.isSome_some, if_true, if_false, reduceIte, List.contains_nil, List.contains_cons, Nat.reduceBEq, beq_self_eq_true, Int.reduceLE, Int.reduceToNat, List.map_cons, List.map_nil, List.length_cons, List.length_nil, List.length_map, List.length_replicate, Nat.reduceAdd, Nat.reduceLT, Nat.reduceLeDiff, List.getElem?_toArray, List.getElem?_cons_zero, List.getElem?_cons_succ, Option.join_some, Option.join_none]
  repeat' (first | (with_reducible refine hK _ ?_; clear hK K) | with_reducible apply And.intro)
  refine call_pure c_alive ?_
  simp (maxSteps := 4000000) only [sx, bne_self_eq_false, Nat.reduceEqDiff, hbT, evBuild, evLit, evMake, tab, List.nil_append, List.isEmpty_cons, List.isEmpty_nil, decide_true, decide_false, ne_eq, not_false_eq_true, List.drop_zero, List.drop_succ_cons, isShift, thenA, blockA, reduceCtorEq, eq_self, Option.isSome_some, if_true, if_false, reduceIte, List.contains_nil, List.contains_cons, Nat.reduceBEq, beq_self_eq_true, Int.reduceLE, Int.reduceToNat, List.map_cons, List.map_nil, List.length_cons, List.length_nil, List.length_map, List.length_replicate, Nat.reduceAdd, Nat.reduceLT, Nat.reduceLeDiff, List.getElem?_toArray, List.getElem?_cons_zero, List.getElem?_cons_succ, Option.join_some, Option.join_none]
  repeat' (first | (with_reducible refine hK _ ?_; clear hK K) | with_reducible apply And.intro)
  refine awp_seq_k fun KB hKB => ?_
  refine awp_seq_k fun K hK => awp_ev tab_ok [] ?_
  simp (maxSteps := 4000000) only [sx, bne_self_eq_false, Nat.reduceEqDiff, hbT, evBuild, evLit, evMake, tab, List.nil_append, List.isEmpty_cons, List.isEmpty_nil, decide_true, decide_false, ne_eq, not_false_eq_true, List.drop_zero, List.drop_succ_cons, isShift, thenA, blockA, reduceCtorEq, eq_self, Option.isSome_some, if_true, if_false, reduceIte, List.contains_nil, List.contains_cons, Nat.reduceBEq, beq_self_eq_true, Int.reduceLE, Int.reduceToNat, List.map_cons, List.map_nil, List.length_cons, List.length_nil, List.length_map, List.length_replicate, Nat.reduceAdd, Nat.reduceLT, Nat.reduceLeDiff, List.getElem?_toArray, List.getElem?_cons_zero, List.getElem?_cons_succ, Option.join_some, Option.join_none]
  repeat' (first | (with_reducible refine hK _ ?_; clear hK K) | with_reducible apply And.intro)
  refine call_pure (c_great' d hd) ?_
  by_cases g1 : great d = true
  · rw [g1]
    simp (maxSteps := 4000000) only [sx, bne_self_eq_false, Nat.reduceEqDiff, hbT, evBuild, evLit, evMake, tab, List.nil_append, List.isEmpty_cons, List.isEmpty_nil, decide_true, decide_false, ne_eq, not_false_eq_true, List.drop_zero, List.drop_succ_cons, isShift, thenA, blockA, reduceCtorEq, eq_self, Option.isSome_some, if_true, if_false, reduceIte, List.contains_nil, List.contains_cons, Nat.reduceBEq, beq_self_eq_true, Int.reduceLE, Int.reduceToNat, List.map_cons, List.map_nil, List.length_cons, List.length_nil, List.length_map, List.length_replicate, Nat.reduceAdd, Nat.reduceLT, Nat.reduceLeDiff, List.getElem?_toArray, List.getElem?_cons_zero, List.getElem?_cons_succ, Option.join_some, Option.join_none]
    repeat' (first | (with_reducible refine hK _ ?_; clear hK K) | with_reducible apply And.intro)
    refine awp_cond_t rfl ?_
    refine awp_seq_k fun K hK => awp_ev tab_ok [] ?_
    simp (maxSteps := 4000000) only [sx, bne_self_eq_false, Nat.reduceEqDiff, hbT, evBuild, evLit, evMake, tab, List.nil_append, List.isEmpty_cons, List.isEmpty_nil, decide_true, decide_false, ne_eq, not_false_eq_true, List.drop_zero, List.drop_succ_cons, isShift, thenA, blockA, reduceCtorEq, eq_self, Option.isSome_some, if_true, if_false, reduceIte, List.contains_nil, List.contains_cons, Nat.reduceBEq, beq_self_eq_true, Int.reduceLE, Int.reduceToNat, List.map_cons, List.map_nil, List.length_cons, List.length_nil, List.length_map, List.length_replicate, Nat.reduceAdd, Nat.reduceLT, Nat.reduceLeDiff, List.getElem?_toArray, List.getElem?_cons_zero, List.getElem?_cons_succ, Option.join_some, Option.join_none]
    repeat' (first | (with_reducible refine hK _ ?_; clear hK K) | with_reducible apply And.intro)
    refine awp_ret ?_
    exact ret_tmp (.inr rfl) rfl rfl rfl (fun _ _ => rfl) rfl
  have g1 : great d = false := by simpa using g1
  rw [g1]
  obtain ⟨hsm, hsw⟩ := small_of g1
  by_cases g2 : 1000 < kp.length
  · have g3 : decide ((kp.length : Int) > 1000) = true := decide_eq_true (by omega)
    simp (maxSteps := 4000000) only [sx, bne_self_eq_false, Nat.reduceEqDiff, hbT, evBuild, evLit, evMake, tab, List.nil_append, List.isEmpty_cons, List.isEmpty_nil, decide_true, decide_false, ne_eq, not_false_eq_true, List.drop_zero, List.drop_succ_cons, isShift, thenA, blockA, reduceCtorEq, eq_self, Option.isSome_some, if_true, if_false, reduceIte, List.contains_nil, List.contains_cons, Nat.reduceBEq, beq_self_eq_true, Int.reduceLE, Int.reduceToNat, List.map_cons, List.map_nil, List.length_cons, List.length_nil, List.length_map, List.length_replicate, Nat.reduceAdd, Nat.reduceLT, Nat.reduceLeDiff, List.getElem?_toArray, List.getElem?_cons_zero, List.getElem?_cons_succ, Option.join_some, Option.join_none, List.length_map, g3]
    repeat' (first | (with_reducible refine hK _ ?_; clear hK K) | with_reducible apply And.intro)
    refine awp_cond_t rfl ?_
    refine awp_seq_k fun K hK => awp_ev tab_ok [] ?_
    simp (maxSteps := 4000000) only [sx, bne_self_eq_false, Nat.reduceEqDiff, hbT, evBuild, evLit, evMake, tab, List.nil_append, List.isEmpty_cons, List.isEmpty_nil, decide_true, decide_false, ne_eq, not_false_eq_true, List.drop_zero, List.drop_succ_cons, isShift, thenA, blockA, reduceCtorEq, eq_self, Option.isSome_some, if_true, if_false, reduceIte, List.contains_nil, List.contains_cons, Nat.reduceBEq, beq_self_eq_true, Int.reduceLE, Int.reduceToNat, List.map_cons, List.map_nil, List.length_cons, List.length_nil, List.length_map, List.length_replicate, Nat.reduceAdd, Nat.reduceLT, Nat.reduceLeDiff, List.getElem?_toArray, List.getElem?_cons_zero, List.getElem?_cons_succ, Option.join_some, Option.join_none]
    repeat' (first | (with_reducible refine hK _ ?_; clear hK K) | with_reducible apply And.intro)
    refine awp_ret ?_
    exact ret_tmp (.inr rfl) rfl rfl rfl (fun _ _ => rfl) rfl
  have g3 : decide ((kp.length : Int) > 1000) = false := decide_eq_false (by omega)
  simp (maxSteps := 4000000) only [sx, bne_self_eq_false, Nat.reduceEqDiff, hbT, evBuild, evLit, evMake, tab, List.nil_append, List.isEmpty_cons, List.isEmpty_nil, decide_true, decide_false, ne_eq, not_false_eq_true, List.drop_zero, List.drop_succ_cons, isShift, thenA, blockA, reduceCtorEq, eq_self, Option.isSome_some, if_true, if_false, reduceIte, List.contains_nil, List.contains_cons, Nat.reduceBEq, beq_self_eq_true, Int.reduceLE, Int.reduceToNat, List.map_cons, List.map_nil, List.length_cons, List.length_nil, List.length_map, List.length_replicate, Nat.reduceAdd, Nat.reduceLT, Nat.reduceLeDiff, List.getElem?_toArray, List.getElem?_cons_zero, List.getElem?_cons_succ, Option.join_some, Option.join_none, List.length_map, g3]
  repeat' (first | (with_reducible refine hK _ ?_; clear hK K) | with_reducible apply And.intro)
  refine awp_cond_f rfl (awp_skip (hKB _ ?_))
  clear hKB KB
  have hcr := c_crash d kp hsm.s hsm.w (by omega)
  obtain ⟨X, hX⟩ : ∃ X, X = crashD d kp := ⟨_, rfl⟩
  obtain ⟨E, hE⟩ : ∃ E, E = crashE d kp := ⟨_, rfl⟩
  rw [← hX, ← hE] at hcr
  refine awp_seq_k fun K hK => awp_ev tab_ok [] ?_
  simp (maxSteps := 4000000) only [sx, bne_self_eq_false, Nat.reduceEqDiff, hbT, evBuild, evLit, evMake, tab, List.nil_append, List.isEmpty_cons, List.isEmpty_nil, decide_true, decide_false, ne_eq, not_false_eq_true, List.drop_zero, List.drop_succ_cons, isShift, thenA, blockA, reduceCtorEq, eq_self, Option.isSome_some, if_true, if_false, reduceIte, List.contains_nil, List.contains_cons, Nat.reduceBEq, beq_self_eq_true, Int.reduceLE, Int.reduceToNat, List.map_cons, List.map_nil, List.length_cons, List.length_nil, List.length_map, List.length_replicate, Nat.reduceAdd, Nat.reduceLT, Nat.reduceLeDiff, List.getElem?_toArray, List.getElem?_cons_zero, List.getElem?_cons_succ, Option.join_some, Option.join_none]
  repeat' (first | (with_reducible refine hK _ ?_; clear hK K) | with_reducible apply And.intro)
  refine call_pure hcr ?_
  simp (maxSteps := 4000000) only [sx, bne_self_eq_false, Nat.reduceEqDiff, hbT, evBuild, evLit, evMake, tab, List.nil_append, List.isEmpty_cons, List.isEmpty_nil, decide_true, decide_false, ne_eq, not_false_eq_true, List.drop_zero, List.drop_succ_cons, isShift, thenA, blockA, reduceCtorEq, eq_self, Option.isSome_some, if_true, if_false, reduceIte, List.contains_nil, List.contains_cons, Nat.reduceBEq, beq_self_eq_true, Int.reduceLE, Int.reduceToNat, List.map_cons, List.map_nil, List.length_cons, List.length_nil, List.length_map, List.length_replicate, Nat.reduceAdd, Nat.reduceLT, Nat.reduceLeDiff, List.getElem?_toArray, List.getElem?_cons_zero, List.getElem?_cons_succ, Option.join_some, Option.join_none, dskA, dskC]
  repeat' (first | (with_reducible refine hK _ ?_; clear hK K) | with_reducible apply And.intro)
  refine awp_seq_k fun KB hKB => ?_
  by_cases h0 : E ≠ 0
  · have e0 : (E != 0) = true := by simpa using h0
    have e1 : (E == 0) = false := by simpa using h0
    have hXe : X.sectors = [] := by
      rw [hX]; unfold crashD; rw [if_neg (by rw [← hE]; exact h0)]; rfl
    refine awp_seq_k fun K hK => awp_ev tab_ok [] ?_
    simp (maxSteps := 4000000) only [sx, bne_self_eq_false, Nat.reduceEqDiff, hbT, evBuild, evLit, evMake, tab, List.nil_append, List.isEmpty_cons, List.isEmpty_nil, decide_true, decide_false, ne_eq, not_false_eq_true, List.drop_zero, List.drop_succ_cons, isShift, thenA, blockA, reduceCtorEq, eq_self, Option.isSome_some, if_true, if_false, reduceIte, List.contains_nil, List.contains_cons, Nat.reduceBEq, beq_self_eq_true, Int.reduceLE, Int.reduceToNat, List.map_cons, List.map_nil, List.length_cons, List.length_nil, List.length_map, List.length_replicate, Nat.reduceAdd, Nat.reduceLT, Nat.reduceLeDiff, List.getElem?_toArray, List.getElem?_cons_zero, List.getElem?_cons_succ, Option.join_some, Option.join_none, e0]
    repeat' (first | (with_reducible refine hK _ ?_; clear hK K) | with_reducible apply And.intro)
    refine awp_cond_t rfl ?_
    refine awp_seq_k fun K hK => awp_ev tab_ok [] ?_
    simp (maxSteps := 4000000) only [sx, bne_self_eq_false, Nat.reduceEqDiff, hbT, evBuild, evLit, evMake, tab, List.nil_append, List.isEmpty_cons, List.isEmpty_nil, decide_true, decide_false, ne_eq, not_false_eq_true, List.drop_zero, List.drop_succ_cons, isShift, thenA, blockA, reduceCtorEq, eq_self, Option.isSome_some, if_true, if_false, reduceIte, List.contains_nil, List.contains_cons, Nat.reduceBEq, beq_self_eq_true, Int.reduceLE, Int.reduceToNat, List.map_cons, List.map_nil, List.length_cons, List.length_nil, List.length_map, List.length_replicate, Nat.reduceAdd, Nat.reduceLT, Nat.reduceLeDiff, List.getElem?_toArray, List.getElem?_cons_zero, List.getElem?_cons_succ, Option.join_some, Option.join_none, e1, hXe, List.map_nil, List.length_nil, Int.cast_ofNat_Int, Int.reduceBEq]
    repeat' (first | (with_reducible refine hK _ ?_; clear hK K) | with_reducible apply And.intro)
    refine awp_ret ?_
    exact ret_tmp (.inr rfl) rfl rfl rfl (fun _ _ => rfl) rfl
  have h0 : E = 0 := by omega
  have hE0 : crashE d kp = 0 := by omega
  subst h0
  by_cases ha : a < 0
  · have e0 : decide (a < 0) = true := decide_eq_true ha
    refine awp_seq_k fun K hK => awp_ev tab_ok [] ?_
    simp (maxSteps := 4000000) only [sx, bne_self_eq_false, Nat.reduceEqDiff, hbT, evBuild, evLit, evMake, tab, List.nil_append, List.isEmpty_cons, List.isEmpty_nil, decide_true, decide_false, ne_eq, not_false_eq_true, List.drop_zero, List.drop_succ_cons, isShift, thenA, blockA, reduceCtorEq, eq_self, Option.isSome_some, if_true, if_false, reduceIte, List.contains_nil, List.contains_cons, Nat.reduceBEq, beq_self_eq_true, Int.reduceLE, Int.reduceToNat, List.map_cons, List.map_nil, List.length_cons, List.length_nil, List.length_map, List.length_replicate, Nat.reduceAdd, Nat.reduceLT, Nat.reduceLeDiff, List.getElem?_toArray, List.getElem?_cons_zero, List.getElem?_cons_succ, Option.join_some, Option.join_none, Int.reduceBNe, e0]
    repeat' (first | (with_reducible refine hK _ ?_; clear hK K) | with_reducible apply And.intro)
    refine awp_cond_t rfl ?_
    refine awp_seq_k fun K hK => awp_ev tab_ok [] ?_
    simp (maxSteps := 4000000) only [sx, bne_self_eq_false, Nat.reduceEqDiff, hbT, evBuild, evLit, evMake, tab, List.nil_append, List.isEmpty_cons, List.isEmpty_nil, decide_true, decide_false, ne_eq, not_false_eq_true, List.drop_zero, List.drop_succ_cons, isShift, thenA, blockA, reduceCtorEq, eq_self, Option.isSome_some, if_true, if_false, reduceIte, List.contains_nil, List.contains_cons, Nat.reduceBEq, beq_self_eq_true, Int.reduceLE, Int.reduceToNat, List.map_cons, List.map_nil, List.length_cons, List.length_nil, List.length_map, List.length_replicate, Nat.reduceAdd, Nat.reduceLT, Nat.reduceLeDiff, List.getElem?_toArray, List.getElem?_cons_zero, List.getElem?_cons_succ, Option.join_some, Option.join_none, Int.reduceBEq]
    repeat' (first | (with_reducible refine hK _ ?_; clear hK K) | with_reducible apply And.intro)
    refine awp_ret ?_
    exact ret_tmp (.inr rfl) rfl rfl rfl (fun _ _ => rfl) rfl
  have e0 : decide (a < 0) = false := decide_eq_false ha
  by_cases hb : (kp.length : Int) < a
  · have e1 : decide (a > (kp.length : Int)) = true := decide_eq_true (by omega)
    refine awp_seq_k fun K hK => awp_ev tab_ok [] ?_
    simp (maxSteps := 4000000) only [sx, bne_self_eq_false, Nat.reduceEqDiff, hbT, evBuild, evLit, evMake, tab, List.nil_append, List.isEmpty_cons, List.isEmpty_nil, decide_true, decide_false, ne_eq, not_false_eq_true, List.drop_zero, List.drop_succ_cons, isShift, thenA, blockA, reduceCtorEq, eq_self, Option.isSome_some, if_true, if_false, reduceIte, List.contains_nil, List.contains_cons, Nat.reduceBEq, beq_self_eq_true, Int.reduceLE, Int.reduceToNat, List.map_cons, List.map_nil, List.length_cons, List.length_nil, List.length_map, List.length_replicate, Nat.reduceAdd, Nat.reduceLT, Nat.reduceLeDiff, List.getElem?_toArray, List.getElem?_cons_zero, List.getElem?_cons_succ, Option.join_some, Option.join_none, Int.reduceBNe, e0, List.length_map, e1]
    repeat' (first | (with_reducible refine hK _ ?_; clear hK K) | with_reducible apply And.intro)
    refine awp_cond_t rfl ?_
    refine awp_seq_k fun K hK => awp_ev tab_ok [] ?_
    simp (maxSteps := 4000000) only [sx, bne_self_eq_false, Nat.reduceEqDiff, hbT, evBuild, evLit, evMake, tab, List.nil_append, List.isEmpty_cons, List.isEmpty_nil, decide_true, decide_false, ne_eq, not_false_eq_true, List.drop_zero, List.drop_succ_cons, isShift, thenA, blockA, reduceCtorEq, eq_self, Option.isSome_some, if_true, if_false, reduceIte, List.contains_nil, List.contains_cons, Nat.reduceBEq, beq_self_eq_true, Int.reduceLE, Int.reduceToNat, List.map_cons, List.map_nil, List.length_cons, List.length_nil, List.length_map, List.length_replicate, Nat.reduceAdd, Nat.reduceLT, Nat.reduceLeDiff, List.getElem?_toArray, List.getElem?_cons_zero, List.getElem?_cons_succ, Option.join_some, Option.join_none, Int.reduceBEq]
    repeat' (first | (with_reducible refine hK _ ?_; clear hK K) | with_reducible apply And.intro)
    refine awp_ret ?_
    exact ret_tmp (.inr rfl) rfl rfl rfl (fun _ _ => rfl) rfl
  have e1 : decide (a > (kp.length : Int)) = false := decide_eq_false (by omega)
  refine awp_seq_k fun K hK => awp_ev tab_ok [] ?_
  simp (maxSteps := 4000000) only [sx, bne_self_eq_false, Nat.reduceEqDiff, hbT, evBuild, evLit, evMake, tab, List.nil_append, List.isEmpty_cons, List.isEmpty_nil, decide_true, decide_false, ne_eq, not_false_eq_true, List.drop_zero, List.drop_succ_cons, isShift, thenA, blockA, reduceCtorEq, eq_self, Option.isSome_some, if_true, if_false, reduceIte, List.contains_nil, List.contains_cons, Nat.reduceBEq, beq_self_eq_true, Int.reduceLE, Int.reduceToNat, List.map_cons, List.map_nil, List.length_cons, List.length_nil, List.length_map, List.length_replicate, Nat.reduceAdd, Nat.reduceLT, Nat.reduceLeDiff, List.getElem?_toArray, List.getElem?_cons_zero, List.getElem?_cons_succ, Option.join_some, Option.join_none, Int.reduceBNe, e0, List.length_map, e1]
  repeat' (first | (with_reducible refine hK _ ?_; clear hK K) | with_reducible apply And.intro)
  refine awp_cond_f rfl (awp_skip (hKB _ ?_))
  clear hKB KB
  obtain ⟨m, rfl⟩ : ∃ m : Nat, a = (m : Int) := ⟨a.toNat, by omega⟩
  have hm : m ≤ kp.length := by omega
  obtain ⟨q1, q2, q3, q4, q5⟩ := split_law hE0 m hm
  obtain ⟨p1, p2, p3⟩ := crashE_0.1 hE0
  have hmw : m ≤ d.waits.length := by omega
  have hc1 := c_crash ⟨d.sectors, d.waits.take m⟩ (kp.take m) hsm.s (by simp; have := hsm.w; omega) (by simp; omega)
  rw [q1] at hc1
  obtain ⟨X1, hX1⟩ : ∃ X1, X1 = crashD ⟨d.sectors, d.waits.take m⟩ (kp.take m) := ⟨_, rfl⟩
  rw [← hX1] at hc1 q2 q3
  have hX1l : X1.sectors.length ≤ 1000 := by
    have := (may_iff _).1 (crashE_0.1 q2).1
    have h5 : X1.sectors.length = 32 := this.1
    omega
  have hc2 := c_crash ⟨X1.sectors, d.waits.drop m⟩ (kp.drop m) hX1l (by simp; have := hsm.w; omega) (by simp; omega)
  rw [q2] at hc2
  obtain ⟨X2, hX2⟩ : ∃ X2, X2 = crashD ⟨X1.sectors, d.waits.drop m⟩ (kp.drop m) := ⟨_, rfl⟩
  rw [← hX2] at hc2 q3
  rw [← hX] at q3 q4 q5
  refine awp_seq_k fun K hK => awp_ev_draw tab_ok [] [[], [0], [], [0], [], [], [], [], [], [], [], [], [], [], [2], [2], []] [[], [], [], [], [], [], [], [], [], [], [], [], [], [], [2], [2], []] follows (by kernel_rfl) (by decide) (by decide) (by kernel_rfl) ?_
  simp (maxSteps := 4000000) only [sx, bne_self_eq_false, Nat.reduceEqDiff, hbT, evBuild, evLit, evMake, tab, List.nil_append, List.isEmpty_cons, List.isEmpty_nil, decide_true, decide_false, ne_eq, not_false_eq_true, List.drop_zero, List.drop_succ_cons, isShift, thenA, blockA, reduceCtorEq, eq_self, Option.isSome_some, if_true, if_false, reduceIte, List.contains_nil, List.contains_cons, Nat.reduceBEq, beq_self_eq_true, Int.reduceLE, Int.reduceToNat, List.map_cons, List.map_nil, List.length_cons, List.length_nil, List.length_map, List.length_replicate, Nat.reduceAdd, Nat.reduceLT, Nat.reduceLeDiff, List.getElem?_toArray, List.getElem?_cons_zero, List.getElem?_cons_succ, Option.join_some, Option.join_none, loOf, hiOf, List.length_map, Nat.zero_le, hmw, hm, Nat.sub_zero, ints_take, wrs_take]
  repeat' (first | (with_reducible refine hK _ ?_; clear hK K) | with_reducible apply And.intro)
  refine call_pure hc1 ?_
  simp (maxSteps := 4000000) only [sx, bne_self_eq_false, Nat.reduceEqDiff, hbT, evBuild, evLit, evMake, tab, List.nil_append, List.isEmpty_cons, List.isEmpty_nil, decide_true, decide_false, ne_eq, not_false_eq_true, List.drop_zero, List.drop_succ_cons, isShift, thenA, blockA, reduceCtorEq, eq_self, Option.isSome_some, if_true, if_false, reduceIte, List.contains_nil, List.contains_cons, Nat.reduceBEq, beq_self_eq_true, Int.reduceLE, Int.reduceToNat, List.map_cons, List.map_nil, List.length_cons, List.length_nil, List.length_map, List.length_replicate, Nat.reduceAdd, Nat.reduceLT, Nat.reduceLeDiff, List.getElem?_toArray, List.getElem?_cons_zero, List.getElem?_cons_succ, Option.join_some, Option.join_none, dskA, dskC]
  repeat' (first | (with_reducible refine hK _ ?_; clear hK K) | with_reducible apply And.intro)
  have t1 : List.take (d.waits.length - m) ((d.waits.drop m).map wrC) = (d.waits.drop m).map wrC := List.take_of_length_le (by simp)
  have t2 : List.take (kp.length - m) ((kp.drop m).map intC) = (kp.drop m).map intC := List.take_of_length_le (by simp)
  refine awp_seq_k fun K hK => awp_ev_draw tab_ok [] [[], [2], [], [0], [], [], [], [], [], [], [], [], [], [], [3], [3], []] [[], [], [], [], [], [], [], [], [], [], [], [], [], [], [3], [3], []] follows (by kernel_rfl) (by decide) (by decide) (by kernel_rfl) ?_
  simp (maxSteps := 4000000) only [sx, bne_self_eq_false, Nat.reduceEqDiff, hbT, evBuild, evLit, evMake, tab, List.nil_append, List.isEmpty_cons, List.isEmpty_nil, decide_true, decide_false, ne_eq, not_false_eq_true, List.drop_zero, List.drop_succ_cons, isShift, thenA, blockA, reduceCtorEq, eq_self, Option.isSome_some, if_true, if_false, reduceIte, List.contains_nil, List.contains_cons, Nat.reduceBEq, beq_self_eq_true, Int.reduceLE, Int.reduceToNat, List.map_cons, List.map_nil, List.length_cons, List.length_nil, List.length_map, List.length_replicate, Nat.reduceAdd, Nat.reduceLT, Nat.reduceLeDiff, List.getElem?_toArray, List.getElem?_cons_zero, List.getElem?_cons_succ, Option.join_some, Option.join_none, loOf, hiOf, List.length_map, Nat.le_refl, hmw, hm, Nat.sub_zero, ints_drop, wrs_drop, t1, t2]
  repeat' (first | (with_reducible refine hK _ ?_; clear hK K) | with_reducible apply And.intro)
  refine call_pure hc2 ?_
  simp (maxSteps := 4000000) only [sx, bne_self_eq_false, Nat.reduceEqDiff, hbT, evBuild, evLit, evMake, tab, List.nil_append, List.isEmpty_cons, List.isEmpty_nil, decide_true, decide_false, ne_eq, not_false_eq_true, List.drop_zero, List.drop_succ_cons, isShift, thenA, blockA, reduceCtorEq, eq_self, Option.isSome_some, if_true, if_false, reduceIte, List.contains_nil, List.contains_cons, Nat.reduceBEq, beq_self_eq_true, Int.reduceLE, Int.reduceToNat, List.map_cons, List.map_nil, List.length_cons, List.length_nil, List.length_map, List.length_replicate, Nat.reduceAdd, Nat.reduceLT, Nat.reduceLeDiff, List.getElem?_toArray, List.getElem?_cons_zero, List.getElem?_cons_succ, Option.join_some, Option.join_none, dskA, dskC]
  repeat' (first | (with_reducible refine hK _ ?_; clear hK K) | with_reducible apply And.intro)
  have hXl : X.sectors.length = 32 := ((may_iff _).1 q5).1
  have hX2l : X2.sectors.length ≤ 1000 ∧ X2.waits.length ≤ 1000 := by
    have h1 := comesS_len (kf (kp.drop m)) ⟨X1.sectors, d.waits.drop m⟩ (d.waits.drop m).length
    rw [hX2, crashD, if_pos q2]
    exact ⟨by show (comesS _ _ _).length ≤ 1000; rw [h1]; exact hX1l, by show (0 : Nat) ≤ 1000; omega⟩
  refine awp_seq_k fun K hK => awp_ev tab_ok [] ?_
  simp (maxSteps := 4000000) only [sx, bne_self_eq_false, Nat.reduceEqDiff, hbT, evBuild, evLit, evMake, tab, List.nil_append, List.isEmpty_cons, List.isEmpty_nil, decide_true, decide_false, ne_eq, not_false_eq_true, List.drop_zero, List.drop_succ_cons, isShift, thenA, blockA, reduceCtorEq, eq_self, Option.isSome_some, if_true, if_false, reduceIte, List.contains_nil, List.contains_cons, Nat.reduceBEq, beq_self_eq_true, Int.reduceLE, Int.reduceToNat, List.map_cons, List.map_nil, List.length_cons, List.length_nil, List.length_map, List.length_replicate, Nat.reduceAdd, Nat.reduceLT, Nat.reduceLeDiff, List.getElem?_toArray, List.getElem?_cons_zero, List.getElem?_cons_succ, Option.join_some, Option.join_none, Int.reduceBEq]
  repeat' (first | (with_reducible refine hK _ ?_; clear hK K) | with_reducible apply And.intro)
  refine call_pure (c_same X X2 (by rw [q4]; decide) (by omega)) ?_
  rw [q3]
  simp (maxSteps := 4000000) only [sx, bne_self_eq_false, Nat.reduceEqDiff, hbT, evBuild, evLit, evMake, tab, List.nil_append, List.isEmpty_cons, List.isEmpty_nil, decide_true, decide_false, ne_eq, not_false_eq_true, List.drop_zero, List.drop_succ_cons, isShift, thenA, blockA, reduceCtorEq, eq_self, Option.isSome_some, if_true, if_false, reduceIte, List.contains_nil, List.contains_cons, Nat.reduceBEq, beq_self_eq_true, Int.reduceLE, Int.reduceToNat, List.map_cons, List.map_nil, List.length_cons, List.length_nil, List.length_map, List.length_replicate, Nat.reduceAdd, Nat.reduceLT, Nat.reduceLeDiff, List.getElem?_toArray, List.getElem?_cons_zero, List.getElem?_cons_succ, Option.join_some, Option.join_none, q4, List.map_nil, List.length_nil, Int.cast_ofNat_Int, Int.reduceBEq]
  have hck := c_check X (by omega) (by rw [q4]; decide)
  rw [q5, if_pos rfl, dskA, dskC, q4, List.map_nil] at hck
  refine call_pure hck ?_
  simp (maxSteps := 4000000) only [sx, bne_self_eq_false, Nat.reduceEqDiff, hbT, evBuild, evLit, evMake, tab, List.nil_append, List.isEmpty_cons, List.isEmpty_nil, decide_true, decide_false, ne_eq, not_false_eq_true, List.drop_zero, List.drop_succ_cons, isShift, thenA, blockA, reduceCtorEq, eq_self, Option.isSome_some, if_true, if_false, reduceIte, List.contains_nil, List.contains_cons, Nat.reduceBEq, beq_self_eq_true, Int.reduceLE, Int.reduceToNat, List.map_cons, List.map_nil, List.length_cons, List.length_nil, List.length_map, List.length_replicate, Nat.reduceAdd, Nat.reduceLT, Nat.reduceLeDiff, List.getElem?_toArray, List.getElem?_cons_zero, List.getElem?_cons_succ, Option.join_some, Option.join_none, Int.reduceBEq]
  repeat' (first | (with_reducible refine hK _ ?_; clear hK K) | with_reducible apply And.intro)
  refine awp_ret ?_
  exact ret_tmp (.inr rfl) rfl rfl rfl (fun _ _ => rfl) rfl
end Go.Proofs.Ytefkjdkalgemeaa
