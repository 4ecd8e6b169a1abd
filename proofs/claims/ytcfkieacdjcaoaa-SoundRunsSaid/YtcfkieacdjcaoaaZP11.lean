/-
  Sections found by the program; elements' numbers.
-/
import Derived.Test.YtcfkieacdjcaoaaZG0
import Derived.Test.YtcfkieacdjcaoaaZP10
namespace Go.Proofs.Ytcfkieacdjcaoaa.Pln
set_option linter.unusedVariables false
set_option linter.unusedSimpArgs false
open Go Go.VS Tab
set_option maxHeartbeats 4000000
set_option maxRecDepth 4000
theorem mayS_iff {l : List Sec} : mayS l = true ↔ l.length ≤ 16 ∧ (∀ i (hi : i < l.length), okS (l.take i) l[i] = true) ∧ ∀ s, s ∈ l → ∀ e, e < s.ends.length → joined l s e = true := by
  unfold mayS
  rw [Bool.and_eq_true, Bool.and_eq_true, decide_eq_true_eq, allP_iff, List.all_eq_true, and_assoc]
  refine and_congr_right fun _ => and_congr_right fun _ => ?_
  simp only [List.all_eq_true, List.mem_range]
theorem mayS_rising {l : List Sec} (h : mayS l = true) : Rising l := rising_of (mayS_iff.1 h).2.1
theorem mayS_sec {l : List Sec} (h : mayS l = true) {s : Sec} (hs : s ∈ l) : numb s.id = true ∧ shaped s = true := by
  obtain ⟨i, hi, rfl⟩ := List.getElem_of_mem hs
  have := (okS_take hi).1 ((mayS_iff.1 h).2.1 i hi)
  exact ⟨this.1, this.2.1⟩
theorem c_tfind (l : List Sec) (b : Int) (hl : l.length ≤ 1000) (he : ∀ s, s ∈ l → s.ends.length ≤ 1000) : ACall Try.prog 30 [secsA l, i64 b] [] (.tup [secA (findD l b), i64 (findE l b)]) [] := by
  have cc := c_tcheck l hl he
  cases hm : mayS l with
  | false =>
    have e1 : findD l b = noSec := by simp [findD, hm]
    have e2 : findE l b = 8 := by simp [findE, hm]
    rw [hm] at cc
    rw [e1, e2]
    refine acall_of 2 Try.func30 rfl fun n out _ _ => ?_
    simp only [Try.ntmps30, List.length_cons, List.length_nil, List.length_map, List.length_replicate, rep_map, Nat.reduceAdd, Nat.reduceSub, List.replicate, List.cons_append, List.nil_append]
    repeat' (first | (with_reducible first | refine awp_seq_k fun K hK => ?_ | refine awp_ev tab_ok [] ?_ | refine awp_skip ?_ | apply And.intro) | ((with_reducible first | refine gE ?_ | refine gR ?_); simp (maxSteps := 4000000) only [su, evLit, hbT, tab, thenA, blockA, reduceCtorEq, reduceIte, Nat.reduceEqDiff, Nat.reduceBEq, Int.reduceLE, Int.reduceToNat, Nat.reduceAdd, Nat.reduceLT, Nat.reduceLeDiff, secA, secC, noSec, Bool.false_eq_true, Int.reduceBNe]) | (show (_ : Nat) = (_ : Nat); rfl) | ((with_reducible refine awp_ret ?_); (try refine Or.inr ⟨(by intro h; cases h), ?_⟩); (first | refine ret_ct (.inr rfl) rfl rfl rfl (fun _ _ => rfl) ok73 (k := n + 0) (off := 0) rfl (dom_loc _ (by simp)) (look_loc _ (Nat.le_refl _) 0) rfl rfl ?_ | refine ret_ct (.inr rfl) rfl rfl rfl (fun _ _ => rfl) ok73 (k := m + 0) (off := 0) rfl (dom_loc _ (by simp)) (look_loc _ hm 0) rfl rfl ?_) <;> first | rfl | exact AV.le.rfl _ | (simp only [patch, sl, ti73, List.map_nil, secA, secC, noSec, Bool.false_eq_true, if_false, Int.reduceBNe]; done) | rfl | skip) | (refine call_pure (cc) ?_) | (refine hK _ ?_; clear hK K) | refine awp_cond_t rfl ?_ | refine awp_cond_f rfl ?_ | refine awp_if rfl (fun hg => ?_) (fun hg => ?_) | ((first | show Program.eqGuardType _ _ _ = false | show numFieldsB _ _ _ = true | show Program.stoodInHeld _ _ = false); kernel_rfl) | clear hK K)
  | true =>
    rw [hm] at cc
    have hr := mayS_rising hm
    have cp := c_place l b (by omega) hr
    have hg := lower_getS hr b
    by_cases hf : lower l b < l.length ∧ (l.getD (lower l b) noSec).id = b
    · rw [if_pos hf] at hg
      rw [decide_eq_true hf] at cp
      generalize lower l b = k at *
      have hkl := hf.1
      have hkg : l.getD k noSec = l[k] := by simp [List.getD_eq_getElem?_getD, hkl]
      rw [hkg] at hg
      have e1 : findD l b = l[k] := by simp [findD, hm, hg]
      have e2 : findE l b = 0 := by simp [findE, hm, hg]
      have gk := getD_map secC l k [] hkl
      have ct := c_clone_jn (l[k].ends.map jnC) (by have := he _ (List.getElem_mem hkl); simp; omega)
      rw [e1, e2]
      refine acall_of 2 Try.func30 rfl fun n out _ _ => ?_
      simp only [Try.ntmps30, List.length_cons, List.length_nil, List.length_map, List.length_replicate, rep_map, Nat.reduceAdd, Nat.reduceSub, List.replicate, List.cons_append, List.nil_append]
      repeat' (first | (with_reducible first | refine awp_seq_k fun K hK => ?_ | refine awp_ev tab_ok [] ?_ | refine awp_skip ?_ | apply And.intro) | ((with_reducible first | refine gE ?_ | refine gR ?_); simp (maxSteps := 4000000) only [su, evLit, hbT, tab, thenA, blockA, reduceCtorEq, reduceIte, Nat.reduceEqDiff, Nat.reduceBEq, Int.reduceLE, Int.reduceToNat, Nat.reduceAdd, Nat.reduceLT, Nat.reduceLeDiff, secA, secC, Int.reduceBNe, List.length_map, hkl, gk, splice_all]) | (show (_ : Nat) = (_ : Nat); rfl) | ((with_reducible refine awp_ret ?_); (try refine Or.inr ⟨(by intro h; cases h), ?_⟩); (first | refine ret_ct (.inr rfl) rfl rfl rfl (fun _ _ => rfl) ok73 (k := n + 0) (off := 0) rfl (dom_loc _ (by simp)) (look_loc _ (Nat.le_refl _) 0) rfl rfl ?_ | refine ret_ct (.inr rfl) rfl rfl rfl (fun _ _ => rfl) ok73 (k := m + 0) (off := 0) rfl (dom_loc _ (by simp)) (look_loc _ hm 0) rfl rfl ?_) <;> first | rfl | exact AV.le.rfl _ | (simp only [patch, sl, ti73, List.map_nil, secA, secC, if_true, Int.reduceBNe, List.length_map, hkl, gk, splice_all]; done) | rfl | skip) | (refine call_pure (cc) ?_) | (refine call_pure (cp) ?_) | (refine call_pure (ct) ?_) | (refine hK _ ?_; clear hK K) | refine awp_cond_t rfl ?_ | refine awp_cond_f rfl ?_ | refine awp_if rfl (fun hg => ?_) (fun hg => ?_) | ((first | show Program.eqGuardType _ _ _ = false | show numFieldsB _ _ _ = true | show Program.stoodInHeld _ _ = false); kernel_rfl) | clear hK K)
    · rw [if_neg hf] at hg
      rw [decide_eq_false hf] at cp
      have e1 : findD l b = noSec := by simp [findD, hg]
      have e2 : findE l b = 6 := by simp [findE, hm, hg]
      rw [e1, e2]
      refine acall_of 2 Try.func30 rfl fun n out _ _ => ?_
      simp only [Try.ntmps30, List.length_cons, List.length_nil, List.length_map, List.length_replicate, rep_map, Nat.reduceAdd, Nat.reduceSub, List.replicate, List.cons_append, List.nil_append]
      repeat' (first | (with_reducible first | refine awp_seq_k fun K hK => ?_ | refine awp_ev tab_ok [] ?_ | refine awp_skip ?_ | apply And.intro) | ((with_reducible first | refine gE ?_ | refine gR ?_); simp (maxSteps := 4000000) only [su, evLit, hbT, tab, thenA, blockA, reduceCtorEq, reduceIte, Nat.reduceEqDiff, Nat.reduceBEq, Int.reduceLE, Int.reduceToNat, Nat.reduceAdd, Nat.reduceLT, Nat.reduceLeDiff, secA, secC, noSec, Int.reduceBNe]) | (show (_ : Nat) = (_ : Nat); rfl) | ((with_reducible refine awp_ret ?_); (try refine Or.inr ⟨(by intro h; cases h), ?_⟩); (first | refine ret_ct (.inr rfl) rfl rfl rfl (fun _ _ => rfl) ok73 (k := n + 0) (off := 0) rfl (dom_loc _ (by simp)) (look_loc _ (Nat.le_refl _) 0) rfl rfl ?_ | refine ret_ct (.inr rfl) rfl rfl rfl (fun _ _ => rfl) ok73 (k := m + 0) (off := 0) rfl (dom_loc _ (by simp)) (look_loc _ hm 0) rfl rfl ?_) <;> first | rfl | exact AV.le.rfl _ | (simp only [patch, sl, ti73, List.map_nil, secA, secC, noSec, if_true, Int.reduceBNe]; done) | rfl | skip) | (refine call_pure (cc) ?_) | (refine call_pure (cp) ?_) | (refine hK _ ?_; clear hK K) | refine awp_cond_t rfl ?_ | refine awp_cond_f rfl ?_ | refine awp_if rfl (fun hg => ?_) (fun hg => ?_) | ((first | show Program.eqGuardType _ _ _ = false | show numFieldsB _ _ _ = true | show Program.stoodInHeld _ _ = false); kernel_rfl) | clear hK K)
theorem c_tnext (l : List Sec) (b e : Int) (hl : l.length ≤ 1000) (he : ∀ s, s ∈ l → s.ends.length ≤ 1000) : ACall Try.prog 29 [secsA l, i64 b, i64 e] [] (.tup [jnA (nextD l b e), i64 (nextE l b e)]) [] := by
  have cf := c_tfind l b hl he
  unfold nextD nextE
  generalize findD l b = s at *
  generalize findE l b = r at *
  simp only [secA, secC] at cf
  by_cases hr : r = 0
  · subst hr
    by_cases hb : 0 ≤ e ∧ e < s.ends.length
    · obtain ⟨ne, rfl⟩ := Int.eq_ofNat_of_zero_le hb.1
      have hn : ne < s.ends.length := by omega
      have gn := getD_map jnC s.ends ne [] hn
      have gd : s.ends.getD (ne : Int).toNat (0, 0) = s.ends[ne] := by simp [List.getD_eq_getElem?_getD, hn]
      have q1 : decide ((ne : Int) < 0) = false := decide_eq_false (by omega)
      have q2 : decide ((ne : Int) ≥ (s.ends.length : Int)) = false := decide_eq_false (by omega)
      rw [if_pos ⟨rfl, hb.1⟩, if_pos rfl, if_pos hb, gd]
      refine acall_of 2 Try.func29 rfl fun n out _ _ => ?_
      simp only [Try.ntmps29, List.length_cons, List.length_nil, List.length_map, List.length_replicate, rep_map, Nat.reduceAdd, Nat.reduceSub, List.replicate, List.cons_append, List.nil_append]
      repeat' (first | (with_reducible first | refine awp_seq_k fun K hK => ?_ | refine awp_ev tab_ok [] ?_ | refine awp_block_s ?_ | refine awp_block_c ?_ | refine awp_block_r ?_ | refine awp_skip ?_ | apply And.intro) | ((with_reducible first | refine gE ?_ | refine gR ?_); simp (maxSteps := 4000000) only [su, evLit, hbT, tab, thenA, blockA, reduceCtorEq, reduceIte, Nat.reduceEqDiff, Nat.reduceBEq, Int.reduceLE, Int.reduceToNat, Nat.reduceAdd, Nat.reduceLT, Nat.reduceLeDiff, secA, secC, jnA, jnC, List.length_map, hn, gn, q1, q2, splice_all, Int.reduceBNe]) | (show (_ : Nat) = (_ : Nat); rfl) | ((with_reducible refine awp_ret ?_); (try refine Or.inr ⟨(by intro h; cases h), ?_⟩); (first | refine ret_ct (.inr rfl) rfl rfl rfl (fun _ _ => rfl) ok68 (k := n + 0) (off := 0) rfl (dom_loc _ (by simp)) (look_loc _ (Nat.le_refl _) 0) rfl rfl ?_ | refine ret_ct (.inr rfl) rfl rfl rfl (fun _ _ => rfl) ok68 (k := m + 0) (off := 0) rfl (dom_loc _ (by simp)) (look_loc _ hm 0) rfl rfl ?_) <;> first | rfl | exact AV.le.rfl _ | (simp only [patch, sl, ti68, List.map_nil, secA, secC, jnA, jnC, List.length_map, hn, gn, q1, q2, splice_all, Int.reduceBNe]; done) | rfl | skip) | (refine call_pure (cf) ?_) | ((with_reducible refine gsel_case (fun hg => ?_) (fun hg => ?_)) <;> (try simp only [nb] at hg) <;> simp (maxSteps := 4000000) only [su, evLit, hbT, tab, thenA, blockA, reduceCtorEq, reduceIte, Nat.reduceEqDiff, Nat.reduceBEq, Int.reduceLE, Int.reduceToNat, Nat.reduceAdd, Nat.reduceLT, Nat.reduceLeDiff, hg, secA, secC, jnA, jnC, List.length_map, hn, gn, q1, q2, splice_all, Int.reduceBNe]) | (refine hK _ ?_; clear hK K) | refine awp_cond_t rfl ?_ | refine awp_cond_f rfl ?_ | refine awp_if rfl (fun hg => ?_) (fun hg => ?_) | ((first | show Program.eqGuardType _ _ _ = false | show numFieldsB _ _ _ = true | show Program.stoodInHeld _ _ = false); kernel_rfl) | clear hK K)
    · have hd : (if (0 : Int) = 0 ∧ 0 ≤ e then s.ends.getD e.toNat (0, 0) else ((0 : Int), (0 : Int))) = (0, 0) := by
        by_cases h : 0 ≤ e
        · rw [if_pos ⟨rfl, h⟩, List.getD_eq_getElem?_getD, List.getElem?_eq_none (by omega)]; rfl
        · rw [if_neg fun h' => h h'.2]
      rw [hd, if_pos rfl, if_neg hb]
      refine acall_of 2 Try.func29 rfl fun n out _ _ => ?_
      simp only [Try.ntmps29, List.length_cons, List.length_nil, List.length_map, List.length_replicate, rep_map, Nat.reduceAdd, Nat.reduceSub, List.replicate, List.cons_append, List.nil_append]
      repeat' (first | (with_reducible first | refine awp_seq_k fun K hK => ?_ | refine awp_ev tab_ok [] ?_ | refine awp_block_s ?_ | refine awp_block_c ?_ | refine awp_block_r ?_ | refine awp_skip ?_ | apply And.intro) | ((with_reducible first | refine gE ?_ | refine gR ?_); simp (maxSteps := 4000000) only [su, evLit, hbT, tab, thenA, blockA, reduceCtorEq, reduceIte, Nat.reduceEqDiff, Nat.reduceBEq, Int.reduceLE, Int.reduceToNat, Nat.reduceAdd, Nat.reduceLT, Nat.reduceLeDiff, secA, secC, jnA, jnC, List.length_map, splice_all, Int.reduceBNe]) | (show (_ : Nat) = (_ : Nat); rfl) | ((with_reducible refine awp_ret ?_); (try refine Or.inr ⟨(by intro h; cases h), ?_⟩); (first | refine ret_ct (.inr rfl) rfl rfl rfl (fun _ _ => rfl) ok68 (k := n + 0) (off := 0) rfl (dom_loc _ (by simp)) (look_loc _ (Nat.le_refl _) 0) rfl rfl ?_ | refine ret_ct (.inr rfl) rfl rfl rfl (fun _ _ => rfl) ok68 (k := m + 0) (off := 0) rfl (dom_loc _ (by simp)) (look_loc _ hm 0) rfl rfl ?_) <;> first | rfl | exact AV.le.rfl _ | (simp only [patch, sl, ti68, List.map_nil, secA, secC, jnA, jnC, List.length_map, splice_all, Int.reduceBNe]; done) | rfl | skip) | (refine call_pure (cf) ?_) | ((with_reducible refine gsel_case (fun hg => ?_) (fun hg => ?_)) <;> (try simp only [nb] at hg) <;> simp (maxSteps := 4000000) only [su, evLit, hbT, tab, thenA, blockA, reduceCtorEq, reduceIte, Nat.reduceEqDiff, Nat.reduceBEq, Int.reduceLE, Int.reduceToNat, Nat.reduceAdd, Nat.reduceLT, Nat.reduceLeDiff, hg, secA, secC, jnA, jnC, List.length_map, splice_all, Int.reduceBNe]) | (refine hK _ ?_; clear hK K) | refine awp_cond_t rfl ?_ | refine awp_cond_f rfl ?_ | refine awp_if rfl (fun hg => ?_) (fun hg => ?_) | ((first | show Program.eqGuardType _ _ _ = false | show numFieldsB _ _ _ = true | show Program.stoodInHeld _ _ = false); kernel_rfl) | clear hK K)
      all_goals (exfalso; simp at *; omega)
  · have q : (r != 0) = true := by simpa using hr
    rw [if_neg fun h => hr h.1, if_neg hr]
    refine acall_of 2 Try.func29 rfl fun n out _ _ => ?_
    simp only [Try.ntmps29, List.length_cons, List.length_nil, List.length_map, List.length_replicate, rep_map, Nat.reduceAdd, Nat.reduceSub, List.replicate, List.cons_append, List.nil_append]
    repeat' (first | (with_reducible first | refine awp_seq_k fun K hK => ?_ | refine awp_ev tab_ok [] ?_ | refine awp_block_s ?_ | refine awp_block_c ?_ | refine awp_block_r ?_ | refine awp_skip ?_ | apply And.intro) | ((with_reducible first | refine gE ?_ | refine gR ?_); simp (maxSteps := 4000000) only [su, evLit, hbT, tab, thenA, blockA, reduceCtorEq, reduceIte, Nat.reduceEqDiff, Nat.reduceBEq, Int.reduceLE, Int.reduceToNat, Nat.reduceAdd, Nat.reduceLT, Nat.reduceLeDiff, secA, secC, jnA, jnC, List.length_map, splice_all, q]) | (show (_ : Nat) = (_ : Nat); rfl) | ((with_reducible refine awp_ret ?_); (try refine Or.inr ⟨(by intro h; cases h), ?_⟩); (first | refine ret_ct (.inr rfl) rfl rfl rfl (fun _ _ => rfl) ok68 (k := n + 0) (off := 0) rfl (dom_loc _ (by simp)) (look_loc _ (Nat.le_refl _) 0) rfl rfl ?_ | refine ret_ct (.inr rfl) rfl rfl rfl (fun _ _ => rfl) ok68 (k := m + 0) (off := 0) rfl (dom_loc _ (by simp)) (look_loc _ hm 0) rfl rfl ?_) <;> first | rfl | exact AV.le.rfl _ | (simp only [patch, sl, ti68, List.map_nil, secA, secC, jnA, jnC, List.length_map, splice_all, q]; done) | rfl | skip) | (refine call_pure (cf) ?_) | ((with_reducible refine gsel_case (fun hg => ?_) (fun hg => ?_)) <;> (try simp only [nb] at hg) <;> simp (maxSteps := 4000000) only [su, evLit, hbT, tab, thenA, blockA, reduceCtorEq, reduceIte, Nat.reduceEqDiff, Nat.reduceBEq, Int.reduceLE, Int.reduceToNat, Nat.reduceAdd, Nat.reduceLT, Nat.reduceLeDiff, hg, secA, secC, jnA, jnC, List.length_map, splice_all, q]) | (refine hK _ ?_; clear hK K) | refine awp_cond_t rfl ?_ | refine awp_cond_f rfl ?_ | refine awp_if rfl (fun hg => ?_) (fun hg => ?_) | ((first | show Program.eqGuardType _ _ _ = false | show numFieldsB _ _ _ = true | show Program.stoodInHeld _ _ = false); kernel_rfl) | clear hK K)
end Go.Proofs.Ytcfkieacdjcaoaa.Pln
