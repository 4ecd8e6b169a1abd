/-
  The document's answer: plans that may run; the law SoundTells.
-/
import Derived.Test.YtcfkieacdjcaoaaZGA
import Derived.Test.YtcfkieacdjcaoaaZRB
import Derived.Test.YtcfkieacdjcaoaaZR5
import Derived.Test.YtcfkieacdjcaoaaZW12
import Derived.Test.YtcfkieacdjcaoaaZPF3
namespace Go.Proofs.Ytcfkieacdjcaoaa.Pln
set_option linter.unusedVariables false
set_option linter.unusedSimpArgs false
open Go Go.VS Tab
set_option maxHeartbeats 8000000
set_option maxRecDepth 4000
def mayX (p : Pl) : Bool := mayP p && p.rts.all (soundX p)
theorem folE_lost {p : Pl} {r : Rt} : folE p r = 0 ↔ (endW p r).lost = false := by
  unfold folE
  cases (endW p r).lost <;> simp
theorem soundE_may (p : Pl) : soundE p = if mayX p = true then 0 else 100 := by
  by_cases h : soundE p = 0
  · obtain ⟨h1, h2⟩ := sound_zero h
    have : mayX p = true := by
      unfold mayX
      rw [h1, Bool.true_and, List.all_eq_true]
      intro r hr
      obtain ⟨x, y⟩ := h2 r hr
      unfold soundX
      rw [folE_lost.1 x, y]; rfl
    rw [h, this, if_pos rfl]
  · have : mayX p = false := by
      rw [Bool.eq_false_iff]
      intro hx
      apply h
      unfold mayX at hx
      rw [Bool.and_eq_true, List.all_eq_true] at hx
      obtain ⟨h1, h2⟩ := hx
      have hE : allE p = 0 := by
        unfold allE
        rw [h1, if_pos rfl]
        rw [show p.rts.find? (fun r => folE p r != 0) = none from by
          rw [List.find?_eq_none]
          intro r hr
          have := h2 r hr
          unfold soundX at this
          rw [Bool.and_eq_true, Bool.not_eq_true'] at this
          simp [folE_lost.2 this.1]]
      unfold soundE
      rw [if_pos ⟨hE, List.all_eq_true.2 fun r hr => by
        have := h2 r hr
        unfold soundX at this
        rw [Bool.and_eq_true] at this
        exact this.2⟩]
    rw [this, if_neg (by decide)]
    unfold soundE
    unfold soundE at h
    split
    · rename_i hc; rw [if_pos hc] at h; exact absurd rfl h
    · rfl
theorem c_rmayX (p : Pl) (hs : Sm p) : ACall Try.prog 39 [plA p] [] (bool (mayX p)) [] := by
  have cm := c_rmay p hs
  have hrl := hs.rts
  simp only [plA, plC] at cm
  cases hmy : mayP p with
  | false =>
    have e : mayX p = false := by unfold mayX; rw [hmy]; rfl
    rw [hmy] at cm
    rw [e]
    refine acall_of 1 Try.func39 rfl fun n out _ _ => ?_
    simp only [Try.ntmps39, List.length_cons, List.length_nil, List.length_map, List.length_replicate, rep_map, Nat.reduceAdd, Nat.reduceSub, List.replicate, List.cons_append, List.nil_append]
    repeat' (first | (with_reducible first | refine awp_seq_k fun K hK => ?_ | refine awp_ev tab_ok [] ?_ | refine awp_block_s ?_ | refine awp_block_c ?_ | refine awp_block_r ?_ | refine awp_skip ?_ | apply And.intro | refine awp_ev_quiet tab_ok follows (by kernel_rfl) ?_) | ((with_reducible first | refine gE ?_ | refine gR ?_); simp (maxSteps := 4000000) only [su, evLit, hbT, tab, thenA, blockA, reduceCtorEq, reduceIte, Nat.reduceEqDiff, Nat.reduceBEq, Int.reduceLE, Int.reduceToNat, Nat.reduceAdd, Nat.reduceLT, Nat.reduceLeDiff, plA, plC, Bool.not_false]) | (show (_ : Nat) = (_ : Nat); rfl) | ((with_reducible refine awp_ret ?_); refine ret_tmp (.inr rfl) rfl rfl rfl (fun _ _ => rfl) ?_ <;> first | rfl | skip) | (refine call_pure (cm) ?_) | ((with_reducible refine awp_exit ?_); simp only [thenA, blockA, if_true, if_false, reduceIte, Nat.reduceEqDiff]) | (refine hK _ ?_; clear hK K) | refine awp_cond_t rfl ?_ | refine awp_cond_f rfl ?_ | refine awp_if rfl (fun hg => ?_) (fun hg => ?_) | clear hK K)
  | true =>
    have e : mayX p = p.rts.all (soundX p) := by unfold mayX; rw [hmy]; rfl
    rw [hmy] at cm
    obtain ⟨B, hB⟩ : ∃ B, B = p.rts.all (soundX p) := ⟨_, rfl⟩
    rw [e, ← hB]
    have cS := fun i (hi : i < p.rts.length) => c_rsound p hs hmy p.rts[i] (List.getElem_mem hi)
    simp only [plA, plC, rtA, rtC] at cS
    refine acall_of 1 Try.func39 rfl fun n out _ _ => ?_
    simp only [Try.ntmps39, List.length_cons, List.length_nil, List.length_map, List.length_replicate, rep_map, Nat.reduceAdd, Nat.reduceSub, List.replicate, List.cons_append, List.nil_append]
    repeat' (first | (with_reducible first | refine awp_seq_k fun K hK => ?_ | refine awp_ev tab_ok [] ?_ | refine awp_block_s ?_ | refine awp_block_c ?_ | refine awp_block_r ?_ | refine awp_skip ?_ | apply And.intro | refine awp_ev_quiet tab_ok follows (by kernel_rfl) ?_) | ((with_reducible first | refine gE ?_ | refine gR ?_); simp (maxSteps := 4000000) only [su, evLit, hbT, tab, thenA, blockA, reduceCtorEq, reduceIte, Nat.reduceEqDiff, Nat.reduceBEq, Int.reduceLE, Int.reduceToNat, Nat.reduceAdd, Nat.reduceLT, Nat.reduceLeDiff, plA, plC, Bool.not_true]) | (show (_ : Nat) = (_ : Nat); rfl) | ((with_reducible refine awp_ret ?_); refine ret_tmp (.inr rfl) rfl rfl rfl (fun _ _ => rfl) ?_ <;> first | rfl | skip) | (refine call_pure (cm) ?_) | ((with_reducible refine awp_exit ?_); simp only [thenA, blockA, if_true, if_false, reduceIte, Nat.reduceEqDiff]) | (refine hK _ ?_; clear hK K) | refine awp_cond_t rfl ?_ | refine awp_cond_f rfl ?_ | refine awp_if rfl (fun hg => ?_) (fun hg => ?_) | clear hK K)
    refine awp_block ?_
    refine awp_for_mv (fun m (i : Nat) => [(3, i64 (i : Int)), (1, .ptr (m + 0) 0), (2, .top), (7, .top), (8, .top), (9, .top), (10, .top), (11, .top), (12, .top), (13, .top), (14, .top), (15, .top), (16, .top), (17, .top), (18, .top), (19, .top), (20, .top), (21, .top)]) (fun m i => [some (.box 27 (plC p))]) (fun i => out) (fun i => i ≤ p.rts.length ∧ (∀ j (hj : j < p.rts.length), j < i → soundX p p.rts[j] = true)) (fun i => p.rts.length - i) 0 ⟨Nat.zero_le _, by intros; omega⟩ ?_ fun m i hm hi => ?_
    · refine le_of_all ?_ ?_ (by first | rfl | (simp only [plC]; rfl) | simp only [plC]) rfl rfl rfl <;> simp only [patch, sl, plC]
    obtain ⟨hi, hq⟩ := hi
    simp only [patch, s_0, s_s]
    have hw := addw (n := i) 1 1 rfl (by omega)
    by_cases hlt : i < p.rts.length
    · have gi := getD_map rtC p.rts i [] hlt
      have cSi := cS i hlt
      cases hb : soundX p p.rts[i] with
      | false =>
        rw [hb] at cSi
        have hF : B = false := by rw [hB]; exact all_false hlt hb
        repeat' (first | (with_reducible first | refine awp_seq_k fun K hK => ?_ | refine awp_ev tab_ok [] ?_ | refine awp_block_s ?_ | refine awp_block_c ?_ | refine awp_block_r ?_ | refine awp_skip ?_ | apply And.intro | refine awp_ev_quiet tab_ok follows (by kernel_rfl) ?_) | ((with_reducible first | refine gE ?_ | refine gR ?_); simp (maxSteps := 4000000) only [su, evLit, hbT, tab, thenA, blockA, reduceCtorEq, reduceIte, Nat.reduceEqDiff, Nat.reduceBEq, Int.reduceLE, Int.reduceToNat, Nat.reduceAdd, Nat.reduceLT, Nat.reduceLeDiff, locM hm, plC, rtC, List.length_map, hlt, gi, splice_all, Bool.not_false]) | (show (_ : Nat) = (_ : Nat); rfl) | ((with_reducible refine awp_ret ?_); refine ret_tmp (.inr rfl) rfl rfl rfl (fun _ _ => rfl) ?_ <;> first | rfl | (rw [hF]; rfl) | skip) | (refine call_pure (cSi) ?_) | ((with_reducible refine awp_exit ?_); simp only [thenA, blockA, if_true, if_false, reduceIte, Nat.reduceEqDiff]) | (refine hK _ ?_; clear hK K) | refine awp_cond_t rfl ?_ | refine awp_cond_f rfl ?_ | refine awp_if rfl (fun hg => ?_) (fun hg => ?_) | clear hK K)
      | true =>
        rw [hb] at cSi
        repeat' (first | (with_reducible first | refine awp_seq_k fun K hK => ?_ | refine awp_ev tab_ok [] ?_ | refine awp_block_s ?_ | refine awp_block_c ?_ | refine awp_block_r ?_ | refine awp_skip ?_ | apply And.intro | refine awp_ev_quiet tab_ok follows (by kernel_rfl) ?_) | ((with_reducible first | refine gE ?_ | refine gR ?_); simp (maxSteps := 4000000) only [su, evLit, hbT, tab, thenA, blockA, reduceCtorEq, reduceIte, Nat.reduceEqDiff, Nat.reduceBEq, Int.reduceLE, Int.reduceToNat, Nat.reduceAdd, Nat.reduceLT, Nat.reduceLeDiff, locM hm, plC, rtC, List.length_map, hlt, gi, splice_all, Bool.not_true, hw]) | (show (_ : Nat) = (_ : Nat); rfl) | ((with_reducible refine awp_ret ?_); refine ret_tmp (.inr rfl) rfl rfl rfl (fun _ _ => rfl) ?_ <;> first | rfl | skip) | (refine call_pure (cSi) ?_) | ((with_reducible refine awp_exit ?_); simp only [thenA, blockA, if_true, if_false, reduceIte, Nat.reduceEqDiff]) | (refine hK _ ?_; clear hK K) | refine awp_cond_t rfl ?_ | refine awp_cond_f rfl ?_ | refine awp_if rfl (fun hg => ?_) (fun hg => ?_) | clear hK K)
        refine ⟨i + 1, ⟨by omega, fun j hj hji => ?_⟩, by omega, ?_⟩
        · by_cases h : j = i
          · subst h; exact hb
          · exact hq j hj (by omega)
        refine le_move [true] (fun n_ => ?_) (fun n_ => ?_) <;> simp only [patch, sm, plC, hlt, decide_true]
    · have hT : B = true := by rw [hB]; exact all_true fun j hj => hq j hj (by omega)
      repeat' (first | (with_reducible first | refine awp_seq_k fun K hK => ?_ | refine awp_ev tab_ok [] ?_ | refine awp_block_s ?_ | refine awp_block_c ?_ | refine awp_block_r ?_ | refine awp_skip ?_ | apply And.intro | refine awp_ev_quiet tab_ok follows (by kernel_rfl) ?_) | ((with_reducible first | refine gE ?_ | refine gR ?_); simp (maxSteps := 4000000) only [su, evLit, hbT, tab, thenA, blockA, reduceCtorEq, reduceIte, Nat.reduceEqDiff, Nat.reduceBEq, Int.reduceLE, Int.reduceToNat, Nat.reduceAdd, Nat.reduceLT, Nat.reduceLeDiff, locM hm, plC, splice_all, List.length_map, hlt]) | (show (_ : Nat) = (_ : Nat); rfl) | ((with_reducible refine awp_ret ?_); refine ret_tmp (.inr rfl) rfl rfl rfl (fun _ _ => rfl) ?_ <;> first | rfl | (rw [hT]; rfl) | skip) | ((with_reducible refine awp_exit ?_); simp only [thenA, blockA, if_true, if_false, reduceIte, Nat.reduceEqDiff]) | (refine hK _ ?_; clear hK K) | refine awp_cond_t rfl ?_ | refine awp_cond_f rfl ?_ | refine awp_if rfl (fun hg => ?_) (fun hg => ?_) | clear hK K)
theorem c_rcheck10 (p : Pl) (hs : Sm p) : ACall Try.prog 17 [plA p] [] (i64 (soundE p)) [] := by
  have cm := c_rmayX p hs
  simp only [plA, plC] at cm
  rw [soundE_may]
  cases hm : mayX p with
  | false =>
    rw [hm] at cm
    refine acall_of 1 Try.func17 rfl fun n out _ _ => ?_
    simp only [Try.ntmps17, List.length_cons, List.length_nil, List.length_map, List.length_replicate, rep_map, Nat.reduceAdd, Nat.reduceSub, List.replicate, List.cons_append, List.nil_append]
    repeat' (first | (with_reducible first | refine awp_seq_k fun K hK => ?_ | refine awp_ev tab_ok [] ?_ | refine awp_skip ?_ | apply And.intro) | ((with_reducible first | refine gE ?_ | refine gR ?_); simp (maxSteps := 4000000) only [su, evLit, hbT, tab, thenA, blockA, reduceCtorEq, reduceIte, Nat.reduceEqDiff, Nat.reduceBEq, Int.reduceLE, Int.reduceToNat, Nat.reduceAdd, Nat.reduceLT, Nat.reduceLeDiff, plA, plC, Bool.not_false, Bool.false_eq_true]) | (show (_ : Nat) = (_ : Nat); rfl) | ((with_reducible refine awp_ret ?_); refine ret_tmp (.inr rfl) rfl rfl rfl (fun _ _ => rfl) ?_ <;> first | rfl | skip) | (refine call_pure (cm) ?_) | (refine hK _ ?_; clear hK K) | refine awp_cond_t rfl ?_ | refine awp_cond_f rfl ?_ | refine awp_if rfl (fun hg => ?_) (fun hg => ?_) | clear hK K)
  | true =>
    rw [hm] at cm
    refine acall_of 1 Try.func17 rfl fun n out _ _ => ?_
    simp only [Try.ntmps17, List.length_cons, List.length_nil, List.length_map, List.length_replicate, rep_map, Nat.reduceAdd, Nat.reduceSub, List.replicate, List.cons_append, List.nil_append]
    repeat' (first | (with_reducible first | refine awp_seq_k fun K hK => ?_ | refine awp_ev tab_ok [] ?_ | refine awp_skip ?_ | apply And.intro) | ((with_reducible first | refine gE ?_ | refine gR ?_); simp (maxSteps := 4000000) only [su, evLit, hbT, tab, thenA, blockA, reduceCtorEq, reduceIte, Nat.reduceEqDiff, Nat.reduceBEq, Int.reduceLE, Int.reduceToNat, Nat.reduceAdd, Nat.reduceLT, Nat.reduceLeDiff, plA, plC, Bool.not_true]) | (show (_ : Nat) = (_ : Nat); rfl) | ((with_reducible refine awp_ret ?_); refine ret_tmp (.inr rfl) rfl rfl rfl (fun _ _ => rfl) ?_ <;> first | rfl | skip) | (refine call_pure (cm) ?_) | (refine hK _ ?_; clear hK K) | refine awp_cond_t rfl ?_ | refine awp_cond_f rfl ?_ | refine awp_if rfl (fun hg => ?_) (fun hg => ?_) | clear hK K)
theorem c_rroute10 (p : Pl) (hs : Sm p) (id : Int) : ACall Try.prog 19 [plA p, i64 id] [] (i64 (soundF p id)) [] := by
  have cm := c_rmay p hs
  simp only [plA, plC] at cm
  cases hmy : mayP p with
  | false =>
    have e1 : rtE p id = 8 := by unfold rtE elE; rw [hmy]; rfl
    have e2 : soundF p id = 8 := by unfold soundF; rw [e1, if_neg (by decide)]
    rw [hmy] at cm
    rw [e2]
    refine acall_of 1 Try.func19 rfl fun n out _ _ => ?_
    simp only [Try.ntmps19, List.length_cons, List.length_nil, List.length_map, List.length_replicate, rep_map, Nat.reduceAdd, Nat.reduceSub, List.replicate, List.cons_append, List.nil_append]
    repeat' (first | (with_reducible first | refine awp_seq_k fun K hK => ?_ | refine awp_ev tab_ok [] ?_ | refine awp_skip ?_ | apply And.intro | refine awp_ev_quiet tab_ok follows (by kernel_rfl) ?_) | ((with_reducible first | refine gE ?_ | refine gR ?_); simp (maxSteps := 4000000) only [su, evLit, hbT, tab, thenA, blockA, reduceCtorEq, reduceIte, Nat.reduceEqDiff, Nat.reduceBEq, Int.reduceLE, Int.reduceToNat, Nat.reduceAdd, Nat.reduceLT, Nat.reduceLeDiff, plA, plC, Bool.not_false]) | (show (_ : Nat) = (_ : Nat); rfl) | ((with_reducible refine awp_ret ?_); refine ret_tmp (.inr rfl) rfl rfl rfl (fun _ _ => rfl) ?_ <;> first | rfl | skip) | (refine call_pure (cm) ?_) | (refine hK _ ?_; clear hK K) | refine awp_cond_t rfl ?_ | refine awp_cond_f rfl ?_ | refine awp_if rfl (fun hg => ?_) (fun hg => ?_) | clear hK K)
  | true =>
    rw [hmy] at cm
    have cR := c_rRouteAt p.rts id (by have := hs.rts; omega)
    cases hg : getR p.rts id with
    | none =>
      have e1 : rtE p id = 6 := by unfold rtE elE; rw [hmy, hg]; rfl
      have e2 : soundF p id = 6 := by unfold soundF; rw [e1, if_neg (by decide)]
      rw [e2]
      rcases idx_cases (fun x : Rt => x.id == id) p.rts with ⟨z1, z2, z3⟩ | ⟨k, hk, z1, z2, z3, z4⟩
      · rw [z1] at cR
        refine acall_of 1 Try.func19 rfl fun n out _ _ => ?_
        simp only [Try.ntmps19, List.length_cons, List.length_nil, List.length_map, List.length_replicate, rep_map, Nat.reduceAdd, Nat.reduceSub, List.replicate, List.cons_append, List.nil_append]
        repeat' (first | (with_reducible first | refine awp_seq_k fun K hK => ?_ | refine awp_ev tab_ok [] ?_ | refine awp_skip ?_ | apply And.intro | refine awp_ev_quiet tab_ok follows (by kernel_rfl) ?_) | ((with_reducible first | refine gE ?_ | refine gR ?_); simp (maxSteps := 4000000) only [su, evLit, hbT, tab, thenA, blockA, reduceCtorEq, reduceIte, Nat.reduceEqDiff, Nat.reduceBEq, Int.reduceLE, Int.reduceToNat, Nat.reduceAdd, Nat.reduceLT, Nat.reduceLeDiff, plA, plC, Bool.not_true, Int.reduceNeg, Int.reduceLT]) | (show (_ : Nat) = (_ : Nat); rfl) | ((with_reducible refine awp_ret ?_); refine ret_tmp (.inr rfl) rfl rfl rfl (fun _ _ => rfl) ?_ <;> first | rfl | skip) | (refine call_pure (cm) ?_) | (refine call_pure (cR) ?_) | (refine hK _ ?_; clear hK K) | refine awp_cond_t rfl ?_ | refine awp_cond_f rfl ?_ | refine awp_if rfl (fun hg => ?_) (fun hg => ?_) | clear hK K)
      · unfold getR at hg; rw [z2] at hg; cases hg
    | some r =>
      obtain ⟨k, hk, z1, z2⟩ := idx_rt hg
      rw [z1] at cR
      have e1 : rtE p id = 0 := by unfold rtE elE; rw [hmy, hg]; rfl
      have e3 : rtO p id = r := by unfold rtO elD; rw [hmy, hg]; rfl
      have hr : r ∈ p.rts := by rw [← z2]; exact List.getElem_mem hk
      have gk := getD_map rtC p.rts k [] hk
      rw [z2] at gk
      have cS := c_rsound p hs hmy r hr
      simp only [plA, plC, rtA, rtC] at cS
      have hk0 : decide ((k : Int) < 0) = false := decide_eq_false (by omega)
      have e2 : soundF p id = if soundX p r = true then 0 else 100 := by
        unfold soundF ofE
        rw [e1, e3, if_pos rfl, if_pos rfl]
        unfold soundX
        by_cases hl : (endW p r).lost = false
        · rw [folE_lost.2 hl, hl]; simp
        · rw [if_neg fun h => hl (folE_lost.1 h.1)]
          have : (endW p r).lost = true := by simpa using hl
          rw [this]; rfl
      rw [e2]
      cases hb : soundX p r with
      | false =>
        rw [hb] at cS
        refine acall_of 1 Try.func19 rfl fun n out _ _ => ?_
        simp only [Try.ntmps19, List.length_cons, List.length_nil, List.length_map, List.length_replicate, rep_map, Nat.reduceAdd, Nat.reduceSub, List.replicate, List.cons_append, List.nil_append]
        repeat' (first | (with_reducible first | refine awp_seq_k fun K hK => ?_ | refine awp_ev tab_ok [] ?_ | refine awp_skip ?_ | apply And.intro | refine awp_ev_quiet tab_ok follows (by kernel_rfl) ?_) | ((with_reducible first | refine gE ?_ | refine gR ?_); simp (maxSteps := 4000000) only [su, evLit, hbT, tab, thenA, blockA, reduceCtorEq, reduceIte, Nat.reduceEqDiff, Nat.reduceBEq, Int.reduceLE, Int.reduceToNat, Nat.reduceAdd, Nat.reduceLT, Nat.reduceLeDiff, plA, plC, rtC, splice_all, List.length_map, Bool.not_true, Bool.not_false, hk0, hk, gk, Bool.false_eq_true]) | (show (_ : Nat) = (_ : Nat); rfl) | ((with_reducible refine awp_ret ?_); refine ret_tmp (.inr rfl) rfl rfl rfl (fun _ _ => rfl) ?_ <;> first | rfl | skip) | (refine call_pure (cm) ?_) | (refine call_pure (cR) ?_) | (refine call_pure (cS) ?_) | (refine hK _ ?_; clear hK K) | refine awp_cond_t rfl ?_ | refine awp_cond_f rfl ?_ | refine awp_if rfl (fun hg => ?_) (fun hg => ?_) | clear hK K)
      | true =>
        rw [hb] at cS
        refine acall_of 1 Try.func19 rfl fun n out _ _ => ?_
        simp only [Try.ntmps19, List.length_cons, List.length_nil, List.length_map, List.length_replicate, rep_map, Nat.reduceAdd, Nat.reduceSub, List.replicate, List.cons_append, List.nil_append]
        repeat' (first | (with_reducible first | refine awp_seq_k fun K hK => ?_ | refine awp_ev tab_ok [] ?_ | refine awp_skip ?_ | apply And.intro | refine awp_ev_quiet tab_ok follows (by kernel_rfl) ?_) | ((with_reducible first | refine gE ?_ | refine gR ?_); simp (maxSteps := 4000000) only [su, evLit, hbT, tab, thenA, blockA, reduceCtorEq, reduceIte, Nat.reduceEqDiff, Nat.reduceBEq, Int.reduceLE, Int.reduceToNat, Nat.reduceAdd, Nat.reduceLT, Nat.reduceLeDiff, plA, plC, rtC, splice_all, List.length_map, Bool.not_true, hk0, hk, gk]) | (show (_ : Nat) = (_ : Nat); rfl) | ((with_reducible refine awp_ret ?_); refine ret_tmp (.inr rfl) rfl rfl rfl (fun _ _ => rfl) ?_ <;> first | rfl | skip) | (refine call_pure (cm) ?_) | (refine call_pure (cR) ?_) | (refine call_pure (cS) ?_) | (refine hK _ ?_; clear hK K) | refine awp_cond_t rfl ?_ | refine awp_cond_f rfl ?_ | refine awp_if rfl (fun hg => ?_) (fun hg => ?_) | clear hK K)
theorem c_lawSTells (p : Pl) (id : Int) : ACall Try.prog 4 [plA p, i64 id] [] (bool true) [] := by
  have cg := c_rgreat p
  simp only [plA, plC] at cg
  cases hG : greatP p with
  | true =>
    rw [hG] at cg
    refine acall_of 2 Try.func4 rfl fun n out _ _ => ?_
    simp only [Try.ntmps4, List.length_cons, List.length_nil, List.length_map, List.length_replicate, rep_map, Nat.reduceAdd, Nat.reduceSub, List.replicate, List.cons_append, List.nil_append]
    repeat' (first | (with_reducible first | refine awp_seq_k fun K hK => ?_ | refine awp_ev tab_ok [] ?_ | refine awp_skip ?_ | apply And.intro | refine awp_ev_quiet tab_ok follows (by kernel_rfl) ?_) | ((with_reducible first | refine gE ?_ | refine gR ?_); simp (maxSteps := 4000000) only [su, evLit, hbT, tab, thenA, blockA, reduceCtorEq, reduceIte, Nat.reduceEqDiff, Nat.reduceBEq, Int.reduceLE, Int.reduceToNat, Nat.reduceAdd, Nat.reduceLT, Nat.reduceLeDiff, plA, plC]) | (show (_ : Nat) = (_ : Nat); rfl) | ((with_reducible refine awp_ret ?_); refine ret_tmp (.inr rfl) rfl rfl rfl (fun _ _ => rfl) ?_ <;> first | rfl | skip) | (refine call_pure (cg) ?_) | ((with_reducible refine gsel_case (fun hg => ?_) (fun hg => ?_)) <;> (try simp only [nb] at hg) <;> simp (maxSteps := 4000000) only [su, evLit, hbT, tab, thenA, blockA, reduceCtorEq, reduceIte, Nat.reduceEqDiff, Nat.reduceBEq, Int.reduceLE, Int.reduceToNat, Nat.reduceAdd, Nat.reduceLT, Nat.reduceLeDiff, hg, plA, plC]) | (refine hK _ ?_; clear hK K) | refine awp_cond_t rfl ?_ | refine awp_cond_f rfl ?_ | refine awp_if rfl (fun hg => ?_) (fun hg => ?_) | clear hK K)
  | false =>
    rw [hG] at cg
    have hs := small_of hG
    have c1 := c_soundC p hs
    have c2 := c_soundR p hs id
    have c3 := c_rtwinP p hs
    have c4 := c_rsameP p p hs
    have c5 := c_rcheck10 p hs
    have c6 := c_rroute10 p hs id
    rw [sameP_refl] at c4
    simp only [plA, plC] at c1 c2 c3 c4 c5 c6
    generalize soundE p = E at *
    generalize soundF p id = F at *
    refine acall_of 2 Try.func4 rfl fun n out _ _ => ?_
    simp only [Try.ntmps4, List.length_cons, List.length_nil, List.length_map, List.length_replicate, rep_map, Nat.reduceAdd, Nat.reduceSub, List.replicate, List.cons_append, List.nil_append]
    repeat' (first | (with_reducible first | refine awp_seq_k fun K hK => ?_ | refine awp_ev tab_ok [] ?_ | refine awp_skip ?_ | apply And.intro | refine awp_ev_quiet tab_ok follows (by kernel_rfl) ?_) | ((with_reducible first | refine gE ?_ | refine gR ?_); simp (maxSteps := 4000000) only [su, evLit, hbT, tab, thenA, blockA, reduceCtorEq, reduceIte, Nat.reduceEqDiff, Nat.reduceBEq, Int.reduceLE, Int.reduceToNat, Nat.reduceAdd, Nat.reduceLT, Nat.reduceLeDiff, plA, plC, splice_all, beq_self_eq_true, Bool.and_self]) | (show (_ : Nat) = (_ : Nat); rfl) | ((with_reducible refine awp_ret ?_); refine ret_tmp (.inr rfl) rfl rfl rfl (fun _ _ => rfl) ?_ <;> first | rfl | skip) | (refine call_pure (cg) ?_) | (refine call_pure (c1) ?_) | (refine call_pure (c2) ?_) | (refine call_pure (c3) ?_) | (refine call_pure (c4) ?_) | (refine call_pure (c5) ?_) | (refine call_pure (c6) ?_) | ((with_reducible refine gsel_case (fun hg => ?_) (fun hg => ?_)) <;> (try simp only [nb] at hg) <;> simp (maxSteps := 4000000) only [su, evLit, hbT, tab, thenA, blockA, reduceCtorEq, reduceIte, Nat.reduceEqDiff, Nat.reduceBEq, Int.reduceLE, Int.reduceToNat, Nat.reduceAdd, Nat.reduceLT, Nat.reduceLeDiff, hg, plA, plC, splice_all, beq_self_eq_true, Bool.and_self]) | (refine hK _ ?_; clear hK K) | refine awp_cond_t rfl ?_ | refine awp_cond_f rfl ?_ | refine awp_if rfl (fun hg => ?_) (fun hg => ?_) | clear hK K)
end Go.Proofs.Ytcfkieacdjcaoaa.Pln
