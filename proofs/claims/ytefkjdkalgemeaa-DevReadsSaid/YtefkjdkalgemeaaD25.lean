/-
  The law DevReads.
-/
import Derived.Test.YtefkjdkalgemeaaD15
import Derived.Test.YtefkjdkalgemeaaD24
namespace Go.Proofs.Ytefkjdkalgemeaa
set_option linter.unusedVariables false
set_option linter.unusedSimpArgs false
open Go Go.VS Tab
set_option maxHeartbeats 2000000
set_option maxRecDepth 4000

theorem noDsk_small : Small noDsk := ⟨by decide, by decide, fun b hb => by simp [noDsk] at hb, fun w hw => by simp [noDsk] at hw⟩
theorem writeD_small {d : Dsk} {at' : Int} {b : List UInt8} (hd : Small d) (hb : b.length ≤ 1000000) : Small (writeD d at' b) := by
  unfold writeD
  by_cases h : writeE d at' b = 0
  · rw [if_pos h]
    obtain ⟨hm, _, _, _⟩ : may d = true ∧ True ∧ True ∧ True := by
      refine ⟨?_, trivial, trivial, trivial⟩
      unfold writeE at h
      by_cases hm : may d = true
      · exact hm
      · rw [if_neg hm] at h; omega
    have h2 := ((may_iff d).1 hm).2.1
    refine ⟨hd.s, ?_, hd.sb, fun w hw => ?_⟩
    · show (d.waits ++ _).length ≤ 1000
      rw [List.length_append]; simp; omega
    · rcases List.mem_append.1 hw with h1 | h1
      · exact hd.wb w h1
      · simp at h1; subst h1; exact hb
  · rw [if_neg h]; exact noDsk_small
theorem syncD_small {d : Dsk} (hd : Small d) : Small (syncD d) := by
  unfold syncD
  by_cases hm : may d = true
  · rw [if_pos hm]
    obtain ⟨d1, d2, d3, d4⟩ := (may_iff d).1 hm
    refine ⟨?_, by simp [comes], fun b hb => ?_, fun w hw => by simp [comes] at hw⟩
    · show (comesS kpAll d d.waits.length).length ≤ 1000
      rw [comesS_len]; exact hd.s
    · have := comesS_rows hm (kp := kpAll) (fun i _ => by simp [kpAll]) _ b hb; omega
  · rw [if_neg hm]; exact noDsk_small
theorem c_lawReads (d : Dsk) (a : Int) (b : List UInt8) (hd : DOk d) (hb : b.length ≤ reach) : ACall Try.prog 4 [dskA d, i64 a, bs b] [] (bool true) [] := by
  refine acall_of 5 Try.func4 rfl fun n out _ _ => ?_
  simp only [Try.ntmps4, List.length_cons, List.length_nil, List.length_map, List.length_replicate, rep_map, Nat.reduceAdd, Nat.reduceSub, List.replicate, List.cons_append, List.nil_append]
  refine awp_seq_k fun K hK => awp_ev tab_ok [] ?_
  simp (maxSteps := 4000000) only [sx, bne_self_eq_false, Nat.reduceEqDiff, hbT, evBuild, evLit, evMake, tab, List.nil_append, List.isEmpty_cons, List.isEmpty_nil, decide_true, decide_false, ne_eq, not_false_eq_true, List.drop_zero, List.drop_succ_cons, isShift, thenA, blockA, reduceCtorEq, eq_self, Option.isSome_some, if_true, if_false, reduceIte, List.contains_nil, List.contains_cons, Nat.reduceBEq, beq_self_eq_true, Int.reduceLE, Int.reduceToNat, List.map_cons, List.map_nil, List.length_cons, List.length_nil, List.length_map, List.length_replicate, Nat.reduceAdd, Nat.reduceLT, Nat.reduceLeDiff, List.getElem?_toArray, List.getElem?_cons_zero, List.getElem?_cons_succ, Option.join_some, Option.join_none, dskA, dskC]
  repeat' (first | (with_reducible refine hK _ ?_; clear hK K) | with_reducible apply And.intro)
  refine awp_seq_k fun KB hKB => ?_
  refine awp_seq_k fun K hK => awp_ev tab_ok [] ?_
  simp (maxSteps := 4000000) only [sx, bne_self_eq_false, Nat.reduceEqDiff, hbT, evBuild, evLit, evMake, tab, List.nil_append, List.isEmpty_cons, List.isEmpty_nil, decide_true, decide_false, ne_eq, not_false_eq_true, List.drop_zero, List.drop_succ_cons, isShift, thenA, blockA, reduceCtorEq, eq_self, Option.isSome_some, if_true, if_false, reduceIte, List.contains_nil, List.contains_cons, Nat.reduceBEq, beq_self_eq_true, Int.reduceLE, Int.reduceToNat, List.map_cons, List.map_nil, List.length_cons, List.length_nil, List.length_map, List.length_replicate, Nat.reduceAdd, Nat.reduceLT, Nat.reduceLeDiff, List.getElem?_toArray, List.getElem?_cons_zero, List.getElem?_cons_succ, Option.join_some, Option.join_none]
  repeat' (first | (with_reducible refine hK _ ?_; clear hK K) | with_reducible apply And.intro)
  refine call_pure (c_great' d hd) ?_
  by_cases g1 : great d = true
  · rw [g1]
    simp (maxSteps := 4000000) only [sx, bne_self_eq_false, Nat.reduceEqDiff, hbT, evBuild, evLit, evMake, tab, List.nil_append, List.isEmpty_cons, List.isEmpty_nil, decide_true, decide_false, ne_eq, not_false_eq_true, List.drop_zero, List.drop_succ_cons, isShift, thenA, blockA, reduceCtorEq, eq_self, Option.isSome_some, if_true, if_false, reduceIte, List.contains_nil, List.contains_cons, Nat.reduceBEq, beq_self_eq_true, Int.reduceLE, Int.reduceToNat, List.map_cons, List.map_nil, List.length_cons, List.length_nil, List.length_map, List.length_replicate, Nat.reduceAdd, Nat.reduceLT, Nat.reduceLeDiff, List.getElem?_toArray, List.getElem?_cons_zero, List.getElem?_cons_succ, Option.join_some, Option.join_none]
    repeat' (first | (with_reducible refine hK _ ?_; clear hK K) | with_reducible apply And.intro)
    refine awp_cond_t rfl ?_
    refine awp_seq_k fun K hK => awp_ev tab_ok [] ?_
    simp (maxSteps := 4000000) only [sx, bne_self_eq_false, Nat.reduceEqDiff, hbT, evBuild, evLit, evMake, tab, List.nil_append, List.isEmpty_cons, List.isEmpty_nil, decide_true, decide_false, ne_eq, not_false_eq_true, List.drop_zero, List.drop_succ_cons, isShift, thenA, blockA, reduceCtorEq, eq_self, Option.isSome_some, if_true, if_false, reduceIte, List.contains_nil, List.contains_cons, Nat.reduceBEq, beq_self_eq_true, Int.reduceLE, Int.reduceToNat, List.map_cons, List.map_nil, List.length_cons, List.length_nil, List.length_map, List.length_replicate, Nat.reduceAdd, Nat.reduceLT, Nat.reduceLeDiff, List.getElem?_toArray, List.getElem?_cons_zero, List.getElem?_cons_succ, Option.join_some, Option.join_none]
    repeat' (first | (with_reducible refine hK _ ?_; clear hK K) | with_reducible apply And.intro)
    refine awp_ret ?_
    exact ret_tmp (.inr rfl) rfl rfl rfl (fun _ _ => rfl) rfl
  have g1 : great d = false := by simpa using g1
  rw [g1]
  obtain ⟨hsm, hsw⟩ := small_of g1
  by_cases a1 : (b.length : Int) > 10000
  · have e1 : decide ((b.length : Int) > 10000) = true := decide_eq_true a1
    simp (maxSteps := 4000000) only [sx, bne_self_eq_false, Nat.reduceEqDiff, hbT, evBuild, evLit, evMake, tab, List.nil_append, List.isEmpty_cons, List.isEmpty_nil, decide_true, decide_false, ne_eq, not_false_eq_true, List.drop_zero, List.drop_succ_cons, isShift, thenA, blockA, reduceCtorEq, eq_self, Option.isSome_some, if_true, if_false, reduceIte, List.contains_nil, List.contains_cons, Nat.reduceBEq, beq_self_eq_true, Int.reduceLE, Int.reduceToNat, List.map_cons, List.map_nil, List.length_cons, List.length_nil, List.length_map, List.length_replicate, Nat.reduceAdd, Nat.reduceLT, Nat.reduceLeDiff, List.getElem?_toArray, List.getElem?_cons_zero, List.getElem?_cons_succ, Option.join_some, Option.join_none, e1, bytes_length]
    repeat' (first | (with_reducible refine hK _ ?_; clear hK K) | with_reducible apply And.intro)
    refine awp_cond_t rfl ?_
    refine awp_seq_k fun K hK => awp_ev tab_ok [] ?_
    simp (maxSteps := 4000000) only [sx, bne_self_eq_false, Nat.reduceEqDiff, hbT, evBuild, evLit, evMake, tab, List.nil_append, List.isEmpty_cons, List.isEmpty_nil, decide_true, decide_false, ne_eq, not_false_eq_true, List.drop_zero, List.drop_succ_cons, isShift, thenA, blockA, reduceCtorEq, eq_self, Option.isSome_some, if_true, if_false, reduceIte, List.contains_nil, List.contains_cons, Nat.reduceBEq, beq_self_eq_true, Int.reduceLE, Int.reduceToNat, List.map_cons, List.map_nil, List.length_cons, List.length_nil, List.length_map, List.length_replicate, Nat.reduceAdd, Nat.reduceLT, Nat.reduceLeDiff, List.getElem?_toArray, List.getElem?_cons_zero, List.getElem?_cons_succ, Option.join_some, Option.join_none]
    repeat' (first | (with_reducible refine hK _ ?_; clear hK K) | with_reducible apply And.intro)
    refine awp_ret ?_
    exact ret_tmp (.inr rfl) rfl rfl rfl (fun _ _ => rfl) rfl
  have e1 : decide ((b.length : Int) > 10000) = false := decide_eq_false a1
  simp (maxSteps := 4000000) only [sx, bne_self_eq_false, Nat.reduceEqDiff, hbT, evBuild, evLit, evMake, tab, List.nil_append, List.isEmpty_cons, List.isEmpty_nil, decide_true, decide_false, ne_eq, not_false_eq_true, List.drop_zero, List.drop_succ_cons, isShift, thenA, blockA, reduceCtorEq, eq_self, Option.isSome_some, if_true, if_false, reduceIte, List.contains_nil, List.contains_cons, Nat.reduceBEq, beq_self_eq_true, Int.reduceLE, Int.reduceToNat, List.map_cons, List.map_nil, List.length_cons, List.length_nil, List.length_map, List.length_replicate, Nat.reduceAdd, Nat.reduceLT, Nat.reduceLeDiff, List.getElem?_toArray, List.getElem?_cons_zero, List.getElem?_cons_succ, Option.join_some, Option.join_none, e1, bytes_length]
  repeat' (first | (with_reducible refine hK _ ?_; clear hK K) | with_reducible apply And.intro)
  refine awp_cond_f rfl (awp_skip (hKB _ ?_))
  clear hKB KB
  have hb' : b.length ≤ 1000000 := by omega
  have hs1 := writeD_small (at' := a) hsm hb'
  have hs2 := syncD_small hsm
  have c1 := c_read d a hsm.s hsm.w
  have c2 := c_rread d a hsm.s hsm.w
  have c3 := c_write d a b hsm hb'
  have c4 := c_rwrite d a b hsm hb'
  have c5 := c_sync d hsm.s hsm.w
  have c6 := c_rsync d hsm.s hsm.w
  have c7 := c_check d hsm.s hsm.w
  have c8 := c_rcheck d hsm.s hsm.w
  have c9 := c_rsame _ _ hs1 hs1
  have c10 := c_rsame _ _ hs2 hs2
  have c11 := c_rsame _ _ newD_small newD_small
  rw [rsame_refl] at c9 c10 c11
  have q0 : ∀ l : List UInt8, (l == l) = true := fun l => beq_self_eq_true l
  have q1 : ∀ w : Int, (w == w) = true := fun w => beq_self_eq_true w
  generalize writeD d a b = W at *
  generalize syncD d = Y at *
  have c12 := c_new
  have c13 := c_rnew
  generalize newD = Z at c11 c12 c13
  generalize readB d a = rb at *
  generalize readE d a = re at *
  generalize writeE d a b = we at *
  generalize (if may d then (0 : Int) else 8) = se at *
  simp only [dskA, dskC] at c1 c2 c3 c4 c5 c6 c7 c8 c9 c10 c11
  refine awp_seq_k fun K hK => awp_ev tab_ok [] ?_
  simp (maxSteps := 4000000) only [sx, bne_self_eq_false, Nat.reduceEqDiff, hbT, evBuild, evLit, evMake, tab, List.nil_append, List.isEmpty_cons, List.isEmpty_nil, decide_true, decide_false, ne_eq, not_false_eq_true, List.drop_zero, List.drop_succ_cons, isShift, thenA, blockA, reduceCtorEq, eq_self, Option.isSome_some, if_true, if_false, reduceIte, List.contains_nil, List.contains_cons, Nat.reduceBEq, beq_self_eq_true, Int.reduceLE, Int.reduceToNat, List.map_cons, List.map_nil, List.length_cons, List.length_nil, List.length_map, List.length_replicate, Nat.reduceAdd, Nat.reduceLT, Nat.reduceLeDiff, List.getElem?_toArray, List.getElem?_cons_zero, List.getElem?_cons_succ, Option.join_some, Option.join_none]
  repeat' (first | (with_reducible refine hK _ ?_; clear hK K) | with_reducible apply And.intro)
  refine call_pure c1 ?_
  simp (maxSteps := 4000000) only [sx, bne_self_eq_false, Nat.reduceEqDiff, hbT, evBuild, evLit, evMake, tab, List.nil_append, List.isEmpty_cons, List.isEmpty_nil, decide_true, decide_false, ne_eq, not_false_eq_true, List.drop_zero, List.drop_succ_cons, isShift, thenA, blockA, reduceCtorEq, eq_self, Option.isSome_some, if_true, if_false, reduceIte, List.contains_nil, List.contains_cons, Nat.reduceBEq, beq_self_eq_true, Int.reduceLE, Int.reduceToNat, List.map_cons, List.map_nil, List.length_cons, List.length_nil, List.length_map, List.length_replicate, Nat.reduceAdd, Nat.reduceLT, Nat.reduceLeDiff, List.getElem?_toArray, List.getElem?_cons_zero, List.getElem?_cons_succ, Option.join_some, Option.join_none]
  repeat' (first | (with_reducible refine hK _ ?_; clear hK K) | with_reducible apply And.intro)
  refine awp_seq_k fun K hK => awp_ev tab_ok [] ?_
  simp (maxSteps := 4000000) only [sx, bne_self_eq_false, Nat.reduceEqDiff, hbT, evBuild, evLit, evMake, tab, List.nil_append, List.isEmpty_cons, List.isEmpty_nil, decide_true, decide_false, ne_eq, not_false_eq_true, List.drop_zero, List.drop_succ_cons, isShift, thenA, blockA, reduceCtorEq, eq_self, Option.isSome_some, if_true, if_false, reduceIte, List.contains_nil, List.contains_cons, Nat.reduceBEq, beq_self_eq_true, Int.reduceLE, Int.reduceToNat, List.map_cons, List.map_nil, List.length_cons, List.length_nil, List.length_map, List.length_replicate, Nat.reduceAdd, Nat.reduceLT, Nat.reduceLeDiff, List.getElem?_toArray, List.getElem?_cons_zero, List.getElem?_cons_succ, Option.join_some, Option.join_none]
  repeat' (first | (with_reducible refine hK _ ?_; clear hK K) | with_reducible apply And.intro)
  refine call_pure c2 ?_
  simp (maxSteps := 4000000) only [sx, bne_self_eq_false, Nat.reduceEqDiff, hbT, evBuild, evLit, evMake, tab, List.nil_append, List.isEmpty_cons, List.isEmpty_nil, decide_true, decide_false, ne_eq, not_false_eq_true, List.drop_zero, List.drop_succ_cons, isShift, thenA, blockA, reduceCtorEq, eq_self, Option.isSome_some, if_true, if_false, reduceIte, List.contains_nil, List.contains_cons, Nat.reduceBEq, beq_self_eq_true, Int.reduceLE, Int.reduceToNat, List.map_cons, List.map_nil, List.length_cons, List.length_nil, List.length_map, List.length_replicate, Nat.reduceAdd, Nat.reduceLT, Nat.reduceLeDiff, List.getElem?_toArray, List.getElem?_cons_zero, List.getElem?_cons_succ, Option.join_some, Option.join_none]
  repeat' (first | (with_reducible refine hK _ ?_; clear hK K) | with_reducible apply And.intro)
  refine awp_seq_k fun K hK => awp_ev tab_ok [] ?_
  simp (maxSteps := 4000000) only [sx, bne_self_eq_false, Nat.reduceEqDiff, hbT, evBuild, evLit, evMake, tab, List.nil_append, List.isEmpty_cons, List.isEmpty_nil, decide_true, decide_false, ne_eq, not_false_eq_true, List.drop_zero, List.drop_succ_cons, isShift, thenA, blockA, reduceCtorEq, eq_self, Option.isSome_some, if_true, if_false, reduceIte, List.contains_nil, List.contains_cons, Nat.reduceBEq, beq_self_eq_true, Int.reduceLE, Int.reduceToNat, List.map_cons, List.map_nil, List.length_cons, List.length_nil, List.length_map, List.length_replicate, Nat.reduceAdd, Nat.reduceLT, Nat.reduceLeDiff, List.getElem?_toArray, List.getElem?_cons_zero, List.getElem?_cons_succ, Option.join_some, Option.join_none]
  repeat' (first | (with_reducible refine hK _ ?_; clear hK K) | with_reducible apply And.intro)
  refine call_pure c3 ?_
  simp (maxSteps := 4000000) only [sx, bne_self_eq_false, Nat.reduceEqDiff, hbT, evBuild, evLit, evMake, tab, List.nil_append, List.isEmpty_cons, List.isEmpty_nil, decide_true, decide_false, ne_eq, not_false_eq_true, List.drop_zero, List.drop_succ_cons, isShift, thenA, blockA, reduceCtorEq, eq_self, Option.isSome_some, if_true, if_false, reduceIte, List.contains_nil, List.contains_cons, Nat.reduceBEq, beq_self_eq_true, Int.reduceLE, Int.reduceToNat, List.map_cons, List.map_nil, List.length_cons, List.length_nil, List.length_map, List.length_replicate, Nat.reduceAdd, Nat.reduceLT, Nat.reduceLeDiff, List.getElem?_toArray, List.getElem?_cons_zero, List.getElem?_cons_succ, Option.join_some, Option.join_none]
  repeat' (first | (with_reducible refine hK _ ?_; clear hK K) | with_reducible apply And.intro)
  refine awp_seq_k fun K hK => awp_ev tab_ok [] ?_
  simp (maxSteps := 4000000) only [sx, bne_self_eq_false, Nat.reduceEqDiff, hbT, evBuild, evLit, evMake, tab, List.nil_append, List.isEmpty_cons, List.isEmpty_nil, decide_true, decide_false, ne_eq, not_false_eq_true, List.drop_zero, List.drop_succ_cons, isShift, thenA, blockA, reduceCtorEq, eq_self, Option.isSome_some, if_true, if_false, reduceIte, List.contains_nil, List.contains_cons, Nat.reduceBEq, beq_self_eq_true, Int.reduceLE, Int.reduceToNat, List.map_cons, List.map_nil, List.length_cons, List.length_nil, List.length_map, List.length_replicate, Nat.reduceAdd, Nat.reduceLT, Nat.reduceLeDiff, List.getElem?_toArray, List.getElem?_cons_zero, List.getElem?_cons_succ, Option.join_some, Option.join_none]
  repeat' (first | (with_reducible refine hK _ ?_; clear hK K) | with_reducible apply And.intro)
  refine call_pure c4 ?_
  simp (maxSteps := 4000000) only [sx, bne_self_eq_false, Nat.reduceEqDiff, hbT, evBuild, evLit, evMake, tab, List.nil_append, List.isEmpty_cons, List.isEmpty_nil, decide_true, decide_false, ne_eq, not_false_eq_true, List.drop_zero, List.drop_succ_cons, isShift, thenA, blockA, reduceCtorEq, eq_self, Option.isSome_some, if_true, if_false, reduceIte, List.contains_nil, List.contains_cons, Nat.reduceBEq, beq_self_eq_true, Int.reduceLE, Int.reduceToNat, List.map_cons, List.map_nil, List.length_cons, List.length_nil, List.length_map, List.length_replicate, Nat.reduceAdd, Nat.reduceLT, Nat.reduceLeDiff, List.getElem?_toArray, List.getElem?_cons_zero, List.getElem?_cons_succ, Option.join_some, Option.join_none]
  repeat' (first | (with_reducible refine hK _ ?_; clear hK K) | with_reducible apply And.intro)
  refine awp_seq_k fun K hK => awp_ev tab_ok [] ?_
  simp (maxSteps := 4000000) only [sx, bne_self_eq_false, Nat.reduceEqDiff, hbT, evBuild, evLit, evMake, tab, List.nil_append, List.isEmpty_cons, List.isEmpty_nil, decide_true, decide_false, ne_eq, not_false_eq_true, List.drop_zero, List.drop_succ_cons, isShift, thenA, blockA, reduceCtorEq, eq_self, Option.isSome_some, if_true, if_false, reduceIte, List.contains_nil, List.contains_cons, Nat.reduceBEq, beq_self_eq_true, Int.reduceLE, Int.reduceToNat, List.map_cons, List.map_nil, List.length_cons, List.length_nil, List.length_map, List.length_replicate, Nat.reduceAdd, Nat.reduceLT, Nat.reduceLeDiff, List.getElem?_toArray, List.getElem?_cons_zero, List.getElem?_cons_succ, Option.join_some, Option.join_none]
  repeat' (first | (with_reducible refine hK _ ?_; clear hK K) | with_reducible apply And.intro)
  refine call_pure c5 ?_
  simp (maxSteps := 4000000) only [sx, bne_self_eq_false, Nat.reduceEqDiff, hbT, evBuild, evLit, evMake, tab, List.nil_append, List.isEmpty_cons, List.isEmpty_nil, decide_true, decide_false, ne_eq, not_false_eq_true, List.drop_zero, List.drop_succ_cons, isShift, thenA, blockA, reduceCtorEq, eq_self, Option.isSome_some, if_true, if_false, reduceIte, List.contains_nil, List.contains_cons, Nat.reduceBEq, beq_self_eq_true, Int.reduceLE, Int.reduceToNat, List.map_cons, List.map_nil, List.length_cons, List.length_nil, List.length_map, List.length_replicate, Nat.reduceAdd, Nat.reduceLT, Nat.reduceLeDiff, List.getElem?_toArray, List.getElem?_cons_zero, List.getElem?_cons_succ, Option.join_some, Option.join_none]
  repeat' (first | (with_reducible refine hK _ ?_; clear hK K) | with_reducible apply And.intro)
  refine awp_seq_k fun K hK => awp_ev tab_ok [] ?_
  simp (maxSteps := 4000000) only [sx, bne_self_eq_false, Nat.reduceEqDiff, hbT, evBuild, evLit, evMake, tab, List.nil_append, List.isEmpty_cons, List.isEmpty_nil, decide_true, decide_false, ne_eq, not_false_eq_true, List.drop_zero, List.drop_succ_cons, isShift, thenA, blockA, reduceCtorEq, eq_self, Option.isSome_some, if_true, if_false, reduceIte, List.contains_nil, List.contains_cons, Nat.reduceBEq, beq_self_eq_true, Int.reduceLE, Int.reduceToNat, List.map_cons, List.map_nil, List.length_cons, List.length_nil, List.length_map, List.length_replicate, Nat.reduceAdd, Nat.reduceLT, Nat.reduceLeDiff, List.getElem?_toArray, List.getElem?_cons_zero, List.getElem?_cons_succ, Option.join_some, Option.join_none]
  repeat' (first | (with_reducible refine hK _ ?_; clear hK K) | with_reducible apply And.intro)
  refine call_pure c6 ?_
  simp (maxSteps := 4000000) only [sx, bne_self_eq_false, Nat.reduceEqDiff, hbT, evBuild, evLit, evMake, tab, List.nil_append, List.isEmpty_cons, List.isEmpty_nil, decide_true, decide_false, ne_eq, not_false_eq_true, List.drop_zero, List.drop_succ_cons, isShift, thenA, blockA, reduceCtorEq, eq_self, Option.isSome_some, if_true, if_false, reduceIte, List.contains_nil, List.contains_cons, Nat.reduceBEq, beq_self_eq_true, Int.reduceLE, Int.reduceToNat, List.map_cons, List.map_nil, List.length_cons, List.length_nil, List.length_map, List.length_replicate, Nat.reduceAdd, Nat.reduceLT, Nat.reduceLeDiff, List.getElem?_toArray, List.getElem?_cons_zero, List.getElem?_cons_succ, Option.join_some, Option.join_none]
  repeat' (first | (with_reducible refine hK _ ?_; clear hK K) | with_reducible apply And.intro)
  refine awp_seq_k fun K hK => awp_ev_quiet tab_ok follows (by kernel_rfl) ?_
  simp (maxSteps := 4000000) only [sx, bne_self_eq_false, Nat.reduceEqDiff, hbT, evBuild, evLit, evMake, tab, List.nil_append, List.isEmpty_cons, List.isEmpty_nil, decide_true, decide_false, ne_eq, not_false_eq_true, List.drop_zero, List.drop_succ_cons, isShift, thenA, blockA, reduceCtorEq, eq_self, Option.isSome_some, if_true, if_false, reduceIte, List.contains_nil, List.contains_cons, Nat.reduceBEq, beq_self_eq_true, Int.reduceLE, Int.reduceToNat, List.map_cons, List.map_nil, List.length_cons, List.length_nil, List.length_map, List.length_replicate, Nat.reduceAdd, Nat.reduceLT, Nat.reduceLeDiff, List.getElem?_toArray, List.getElem?_cons_zero, List.getElem?_cons_succ, Option.join_some, Option.join_none, q1]
  repeat' (first | (with_reducible refine hK _ ?_; clear hK K) | with_reducible apply And.intro)
  refine call_pure c7 ?_
  simp (maxSteps := 4000000) only [sx, bne_self_eq_false, Nat.reduceEqDiff, hbT, evBuild, evLit, evMake, tab, List.nil_append, List.isEmpty_cons, List.isEmpty_nil, decide_true, decide_false, ne_eq, not_false_eq_true, List.drop_zero, List.drop_succ_cons, isShift, thenA, blockA, reduceCtorEq, eq_self, Option.isSome_some, if_true, if_false, reduceIte, List.contains_nil, List.contains_cons, Nat.reduceBEq, beq_self_eq_true, Int.reduceLE, Int.reduceToNat, List.map_cons, List.map_nil, List.length_cons, List.length_nil, List.length_map, List.length_replicate, Nat.reduceAdd, Nat.reduceLT, Nat.reduceLeDiff, List.getElem?_toArray, List.getElem?_cons_zero, List.getElem?_cons_succ, Option.join_some, Option.join_none]
  refine call_pure c8 ?_
  simp (maxSteps := 4000000) only [sx, bne_self_eq_false, Nat.reduceEqDiff, hbT, evBuild, evLit, evMake, tab, List.nil_append, List.isEmpty_cons, List.isEmpty_nil, decide_true, decide_false, ne_eq, not_false_eq_true, List.drop_zero, List.drop_succ_cons, isShift, thenA, blockA, reduceCtorEq, eq_self, Option.isSome_some, if_true, if_false, reduceIte, List.contains_nil, List.contains_cons, Nat.reduceBEq, beq_self_eq_true, Int.reduceLE, Int.reduceToNat, List.map_cons, List.map_nil, List.length_cons, List.length_nil, List.length_map, List.length_replicate, Nat.reduceAdd, Nat.reduceLT, Nat.reduceLeDiff, List.getElem?_toArray, List.getElem?_cons_zero, List.getElem?_cons_succ, Option.join_some, Option.join_none, q1]
  repeat' (first | (with_reducible refine hK _ ?_; clear hK K) | with_reducible apply And.intro)
  refine awp_seq_k fun K hK => awp_ev tab_ok [] ?_
  simp (maxSteps := 4000000) only [sx, bne_self_eq_false, Nat.reduceEqDiff, hbT, evBuild, evLit, evMake, tab, List.nil_append, List.isEmpty_cons, List.isEmpty_nil, decide_true, decide_false, ne_eq, not_false_eq_true, List.drop_zero, List.drop_succ_cons, isShift, thenA, blockA, reduceCtorEq, eq_self, Option.isSome_some, if_true, if_false, reduceIte, List.contains_nil, List.contains_cons, Nat.reduceBEq, beq_self_eq_true, Int.reduceLE, Int.reduceToNat, List.map_cons, List.map_nil, List.length_cons, List.length_nil, List.length_map, List.length_replicate, Nat.reduceAdd, Nat.reduceLT, Nat.reduceLeDiff, List.getElem?_toArray, List.getElem?_cons_zero, List.getElem?_cons_succ, Option.join_some, Option.join_none, ex_bytes, str_eq, q0]
  repeat' (first | (with_reducible refine hK _ ?_; clear hK K) | with_reducible apply And.intro)
  refine call_pure c9 ?_
  simp (maxSteps := 4000000) only [sx, bne_self_eq_false, Nat.reduceEqDiff, hbT, evBuild, evLit, evMake, tab, List.nil_append, List.isEmpty_cons, List.isEmpty_nil, decide_true, decide_false, ne_eq, not_false_eq_true, List.drop_zero, List.drop_succ_cons, isShift, thenA, blockA, reduceCtorEq, eq_self, Option.isSome_some, if_true, if_false, reduceIte, List.contains_nil, List.contains_cons, Nat.reduceBEq, beq_self_eq_true, Int.reduceLE, Int.reduceToNat, List.map_cons, List.map_nil, List.length_cons, List.length_nil, List.length_map, List.length_replicate, Nat.reduceAdd, Nat.reduceLT, Nat.reduceLeDiff, List.getElem?_toArray, List.getElem?_cons_zero, List.getElem?_cons_succ, Option.join_some, Option.join_none]
  refine call_pure c10 ?_
  simp (maxSteps := 4000000) only [sx, bne_self_eq_false, Nat.reduceEqDiff, hbT, evBuild, evLit, evMake, tab, List.nil_append, List.isEmpty_cons, List.isEmpty_nil, decide_true, decide_false, ne_eq, not_false_eq_true, List.drop_zero, List.drop_succ_cons, isShift, thenA, blockA, reduceCtorEq, eq_self, Option.isSome_some, if_true, if_false, reduceIte, List.contains_nil, List.contains_cons, Nat.reduceBEq, beq_self_eq_true, Int.reduceLE, Int.reduceToNat, List.map_cons, List.map_nil, List.length_cons, List.length_nil, List.length_map, List.length_replicate, Nat.reduceAdd, Nat.reduceLT, Nat.reduceLeDiff, List.getElem?_toArray, List.getElem?_cons_zero, List.getElem?_cons_succ, Option.join_some, Option.join_none]
  refine call_pure c12 ?_
  simp (maxSteps := 4000000) only [sx, bne_self_eq_false, Nat.reduceEqDiff, hbT, evBuild, evLit, evMake, tab, List.nil_append, List.isEmpty_cons, List.isEmpty_nil, decide_true, decide_false, ne_eq, not_false_eq_true, List.drop_zero, List.drop_succ_cons, isShift, thenA, blockA, reduceCtorEq, eq_self, Option.isSome_some, if_true, if_false, reduceIte, List.contains_nil, List.contains_cons, Nat.reduceBEq, beq_self_eq_true, Int.reduceLE, Int.reduceToNat, List.map_cons, List.map_nil, List.length_cons, List.length_nil, List.length_map, List.length_replicate, Nat.reduceAdd, Nat.reduceLT, Nat.reduceLeDiff, List.getElem?_toArray, List.getElem?_cons_zero, List.getElem?_cons_succ, Option.join_some, Option.join_none, dskA, dskC]
  refine call_pure c13 ?_
  simp (maxSteps := 4000000) only [sx, bne_self_eq_false, Nat.reduceEqDiff, hbT, evBuild, evLit, evMake, tab, List.nil_append, List.isEmpty_cons, List.isEmpty_nil, decide_true, decide_false, ne_eq, not_false_eq_true, List.drop_zero, List.drop_succ_cons, isShift, thenA, blockA, reduceCtorEq, eq_self, Option.isSome_some, if_true, if_false, reduceIte, List.contains_nil, List.contains_cons, Nat.reduceBEq, beq_self_eq_true, Int.reduceLE, Int.reduceToNat, List.map_cons, List.map_nil, List.length_cons, List.length_nil, List.length_map, List.length_replicate, Nat.reduceAdd, Nat.reduceLT, Nat.reduceLeDiff, List.getElem?_toArray, List.getElem?_cons_zero, List.getElem?_cons_succ, Option.join_some, Option.join_none, dskA, dskC]
  refine call_pure c11 ?_
  simp (maxSteps := 4000000) only [sx, bne_self_eq_false, Nat.reduceEqDiff, hbT, evBuild, evLit, evMake, tab, List.nil_append, List.isEmpty_cons, List.isEmpty_nil, decide_true, decide_false, ne_eq, not_false_eq_true, List.drop_zero, List.drop_succ_cons, isShift, thenA, blockA, reduceCtorEq, eq_self, Option.isSome_some, if_true, if_false, reduceIte, List.contains_nil, List.contains_cons, Nat.reduceBEq, beq_self_eq_true, Int.reduceLE, Int.reduceToNat, List.map_cons, List.map_nil, List.length_cons, List.length_nil, List.length_map, List.length_replicate, Nat.reduceAdd, Nat.reduceLT, Nat.reduceLeDiff, List.getElem?_toArray, List.getElem?_cons_zero, List.getElem?_cons_succ, Option.join_some, Option.join_none]
  repeat' (first | (with_reducible refine hK _ ?_; clear hK K) | with_reducible apply And.intro)
  refine awp_ret ?_
  exact ret_tmp (.inr rfl) rfl rfl rfl (fun _ _ => rfl) rfl
end Go.Proofs.Ytefkjdkalgemeaa
