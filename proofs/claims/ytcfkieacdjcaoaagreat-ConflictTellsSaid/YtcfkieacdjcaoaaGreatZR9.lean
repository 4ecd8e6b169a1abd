/-
  The document's answer: plans that may run; the law SoundTells.
-/
import Derived.Test.YtcfkieacdjcaoaaGreatZGA
import Derived.Test.YtcfkieacdjcaoaaGreatZRB
import Derived.Test.YtcfkieacdjcaoaaGreatZR5
import Derived.Test.YtcfkieacdjcaoaaGreatZW12
import Derived.Test.YtcfkieacdjcaoaaGreatZPQ
namespace Go.Proofs.YtcfkieacdjcaoaaGreat.Pln
set_option linter.unusedVariables false
set_option linter.unusedSimpArgs false
open Go Go.VS Tab
set_option maxHeartbeats 8000000
set_option maxRecDepth 4000
def mayX (p : Pl) : Bool := mayP p && p.rts.all (soundX p)
theorem folE_lost {p : Pl} {r : Rt} : folE p r = 0 ↔ (endW p r).lost = false := by
  unfold folE
  cases (endW p r).lost <;> simp
theorem soundE_may (p : Pl) : soundE p = if mayX p = true then 0 else 100 := by
  by_cases h : soundE p = 0
  · obtain ⟨h1, h2⟩ := sound_zero h
    have : mayX p = true := by
      unfold mayX
      rw [h1, Bool.true_and, List.all_eq_true]
      intro r hr
      obtain ⟨x, y⟩ := h2 r hr
      unfold soundX
      rw [folE_lost.1 x, y]; rfl
    rw [h, this, if_pos rfl]
  · have : mayX p = false := by
      rw [Bool.eq_false_iff]
      intro hx
      apply h
      unfold mayX at hx
      rw [Bool.and_eq_true, List.all_eq_true] at hx
      obtain ⟨h1, h2⟩ := hx
      have hE : allE p = 0 := by
        unfold allE
        rw [h1, if_pos rfl]
        rw [show p.rts.find? (fun r => folE p r != 0) = none from by
          rw [List.find?_eq_none]
          intro r hr
          have := h2 r hr
          unfold soundX at this
          rw [Bool.and_eq_true, Bool.not_eq_true'] at this
          simp [folE_lost.2 this.1]]
      unfold soundE
      rw [if_pos ⟨hE, List.all_eq_true.2 fun r hr => by
        have := h2 r hr
        unfold soundX at this
        rw [Bool.and_eq_true] at this
        exact this.2⟩]
    rw [this, if_neg (by decide)]
    unfold soundE
    unfold soundE at h
    split
    · rename_i hc; rw [if_pos hc] at h; exact absurd rfl h
    · rfl
theorem c_rmayX (p : Pl) (hs : Sm p) : ACall Tryz.prog 33 [plA p] [] (bool (mayX p)) [] := by
  have cm := c_rmay p hs
  have hrl := hs.rts
  simp only [plA, plC] at cm
  cases hmy : mayP p with
  | false =>
    have e : mayX p = false := by unfold mayX; rw [hmy]; rfl
    rw [hmy] at cm
    rw [e]
    refine acall_of 1 Tryz.func33 rfl fun n out _ _ => ?_
    simp only [Tryz.ntmps33, List.length_cons, List.length_nil, List.length_map, List.length_replicate, rep_map, Nat.reduceAdd, Nat.reduceSub, List.replicate, List.cons_append, List.nil_append]
    repeat' (first | (with_reducible first | refine Vk fun K hK => ?_ | refine V0 ?_ | refine Vb ?_ | refine Vc ?_ | refine Vr ?_ | refine Vs ?_ | apply And.intro | refine Vq (by kernel_rfl) ?_) | ((with_reducible first | refine gE ?_ | refine gR ?_); simp (maxSteps:=9^7) only [ss, evLit, tab, reduceCtorEq, reduceIte, Nat.reduceEqDiff, Nat.reduceBEq, Int.reduceLE, Int.reduceToNat, Nat.reduceAdd, Nat.reduceLT, Nat.reduceLeDiff, plA, plC, Bool.not_false]) | exact Vn | ((with_reducible refine Vz ?_); refine Vo rfl rfl rfl (fun _ _ => rfl) ?_ <;> first | rfl | skip) | (refine call_pure (cm) ?_) | ((with_reducible refine Vx ?_); simp only [sb, reduceIte, Nat.reduceEqDiff]) | (refine hK _ ?_; clear hK K) | refine Vt rfl ?_ | refine Vf rfl ?_ | refine Vi rfl (fun hg => ?_) (fun hg => ?_) | clear hK K)
  | true =>
    have e : mayX p = p.rts.all (soundX p) := by unfold mayX; rw [hmy]; rfl
    rw [hmy] at cm
    obtain ⟨B, hB⟩ : ∃ B, B = p.rts.all (soundX p) := ⟨_, rfl⟩
    rw [e, ← hB]
    have cS := fun i (hi : i < p.rts.length) => c_rsound p hs hmy p.rts[i] (List.getElem_mem hi)
    simp only [plA, plC, rtA, rtC] at cS
    refine acall_of 1 Tryz.func33 rfl fun n out _ _ => ?_
    simp only [Tryz.ntmps33, List.length_cons, List.length_nil, List.length_map, List.length_replicate, rep_map, Nat.reduceAdd, Nat.reduceSub, List.replicate, List.cons_append, List.nil_append]
    repeat' (first | (with_reducible first | refine Vk fun K hK => ?_ | refine V0 ?_ | refine Vb ?_ | refine Vc ?_ | refine Vr ?_ | refine Vs ?_ | apply And.intro | refine Vq (by kernel_rfl) ?_) | ((with_reducible first | refine gE ?_ | refine gR ?_); simp (maxSteps:=9^7) only [ss, evLit, tab, reduceCtorEq, reduceIte, Nat.reduceEqDiff, Nat.reduceBEq, Int.reduceLE, Int.reduceToNat, Nat.reduceAdd, Nat.reduceLT, Nat.reduceLeDiff, plA, plC, Bool.not_true]) | exact Vn | ((with_reducible refine Vz ?_); refine Vo rfl rfl rfl (fun _ _ => rfl) ?_ <;> first | rfl | skip) | (refine call_pure (cm) ?_) | ((with_reducible refine Vx ?_); simp only [sb, reduceIte, Nat.reduceEqDiff]) | (refine hK _ ?_; clear hK K) | refine Vt rfl ?_ | refine Vf rfl ?_ | refine Vi rfl (fun hg => ?_) (fun hg => ?_) | clear hK K)
    refine awp_block ?_
    refine awp_for_mv (fun m (i : Nat) => [(3, i64 (i : Int)), (1, .ptr (m + 0) 0), (2, .top), (7, .top), (8, .top), (9, .top), (10, .top), (11, .top), (12, .top), (13, .top), (14, .top), (15, .top), (16, .top), (17, .top), (18, .top), (19, .top), (20, .top), (21, .top)]) (fun m i => [some (.box 27 (plC p))]) (fun i => out) (fun i => i ≤ p.rts.length ∧ (∀ j (hj : j < p.rts.length), j < i → soundX p p.rts[j] = true)) (fun i => p.rts.length - i) 0 ⟨Nat.zero_le _, by intros; omega⟩ ?_ fun m i hm hi => ?_
    · refine le_of_all ?_ ?_ (by first | rfl | (simp only [plC]; rfl) | simp only [plC]) rfl rfl rfl <;> simp only [patch, sl, plC]
    obtain ⟨hi, hq⟩ := hi
    simp only [patch, s_0, s_s]
    have hw := addw (n := i) 1 1 rfl (by omega)
    by_cases hlt : i < p.rts.length
    · have gi := getD_map rtC p.rts i [] hlt
      have cSi := cS i hlt
      cases hb : soundX p p.rts[i] with
      | false =>
        rw [hb] at cSi
        have hF : B = false := by rw [hB]; exact all_false hlt hb
        repeat' (first | (with_reducible first | refine Vk fun K hK => ?_ | refine V0 ?_ | refine Vb ?_ | refine Vc ?_ | refine Vr ?_ | refine Vs ?_ | apply And.intro | refine Vq (by kernel_rfl) ?_) | ((with_reducible first | refine gE ?_ | refine gR ?_); simp (maxSteps:=9^7) only [ss, evLit, tab, reduceCtorEq, reduceIte, Nat.reduceEqDiff, Nat.reduceBEq, Int.reduceLE, Int.reduceToNat, Nat.reduceAdd, Nat.reduceLT, Nat.reduceLeDiff, locM hm, plC, rtC, List.length_map, hlt, gi, splice_all, Bool.not_false]) | exact Vn | ((with_reducible refine Vz ?_); refine Vo rfl rfl rfl (fun _ _ => rfl) ?_ <;> first | rfl | (rw [hF]; rfl) | skip) | (refine call_pure (cSi) ?_) | ((with_reducible refine Vx ?_); simp only [sb, reduceIte, Nat.reduceEqDiff]) | (refine hK _ ?_; clear hK K) | refine Vt rfl ?_ | refine Vf rfl ?_ | refine Vi rfl (fun hg => ?_) (fun hg => ?_) | clear hK K)
      | true =>
        rw [hb] at cSi
        repeat' (first | (with_reducible first | refine Vk fun K hK => ?_ | refine V0 ?_ | refine Vb ?_ | refine Vc ?_ | refine Vr ?_ | refine Vs ?_ | apply And.intro | refine Vq (by kernel_rfl) ?_) | ((with_reducible first | refine gE ?_ | refine gR ?_); simp (maxSteps:=9^7) only [ss, evLit, tab, reduceCtorEq, reduceIte, Nat.reduceEqDiff, Nat.reduceBEq, Int.reduceLE, Int.reduceToNat, Nat.reduceAdd, Nat.reduceLT, Nat.reduceLeDiff, locM hm, plC, rtC, List.length_map, hlt, gi, splice_all, Bool.not_true, hw]) | exact Vn | ((with_reducible refine Vz ?_); refine Vo rfl rfl rfl (fun _ _ => rfl) ?_ <;> first | rfl | skip) | (refine call_pure (cSi) ?_) | ((with_reducible refine Vx ?_); simp only [sb, reduceIte, Nat.reduceEqDiff]) | (refine hK _ ?_; clear hK K) | refine Vt rfl ?_ | refine Vf rfl ?_ | refine Vi rfl (fun hg => ?_) (fun hg => ?_) | clear hK K)
        refine ⟨i + 1, ⟨by omega, fun j hj hji => ?_⟩, by omega, ?_⟩
        · by_cases h : j = i
          · subst h; exact hb
          · exact hq j hj (by omega)
        refine le_move [true] (fun n_ => ?_) (fun n_ => ?_) <;> simp only [patch, sm, plC, hlt, decide_true]
    · have hT : B = true := by rw [hB]; exact all_true fun j hj => hq j hj (by omega)
      repeat' (first | (with_reducible first | refine Vk fun K hK => ?_ | refine V0 ?_ | refine Vb ?_ | refine Vc ?_ | refine Vr ?_ | refine Vs ?_ | apply And.intro | refine Vq (by kernel_rfl) ?_) | ((with_reducible first | refine gE ?_ | refine gR ?_); simp (maxSteps:=9^7) only [ss, evLit, tab, reduceCtorEq, reduceIte, Nat.reduceEqDiff, Nat.reduceBEq, Int.reduceLE, Int.reduceToNat, Nat.reduceAdd, Nat.reduceLT, Nat.reduceLeDiff, locM hm, plC, splice_all, List.length_map, hlt]) | exact Vn | ((with_reducible refine Vz ?_); refine Vo rfl rfl rfl (fun _ _ => rfl) ?_ <;> first | rfl | (rw [hT]; rfl) | skip) | ((with_reducible refine Vx ?_); simp only [sb, reduceIte, Nat.reduceEqDiff]) | (refine hK _ ?_; clear hK K) | refine Vt rfl ?_ | refine Vf rfl ?_ | refine Vi rfl (fun hg => ?_) (fun hg => ?_) | clear hK K)
theorem c_rcheck10 (p : Pl) (hs : Sm p) : ACall Tryz.prog 17 [plA p] [] (i64 (soundE p)) [] := by
  have cm := c_rmayX p hs
  simp only [plA, plC] at cm
  rw [soundE_may]
  cases hm : mayX p with
  | false =>
    rw [hm] at cm
    refine acall_of 1 Tryz.func17 rfl fun n out _ _ => ?_
    simp only [Tryz.ntmps17, List.length_cons, List.length_nil, List.length_map, List.length_replicate, rep_map, Nat.reduceAdd, Nat.reduceSub, List.replicate, List.cons_append, List.nil_append]
    repeat' (first | (with_reducible first | refine Vk fun K hK => ?_ | refine V0 ?_ | refine Vs ?_ | apply And.intro) | ((with_reducible first | refine gE ?_ | refine gR ?_); simp (maxSteps:=9^7) only [ss, evLit, tab, reduceCtorEq, reduceIte, Nat.reduceEqDiff, Nat.reduceBEq, Int.reduceLE, Int.reduceToNat, Nat.reduceAdd, Nat.reduceLT, Nat.reduceLeDiff, plA, plC, Bool.not_false, Bool.false_eq_true]) | exact Vn | ((with_reducible refine Vz ?_); refine Vo rfl rfl rfl (fun _ _ => rfl) ?_ <;> first | rfl | skip) | (refine call_pure (cm) ?_) | (refine hK _ ?_; clear hK K) | refine Vt rfl ?_ | refine Vf rfl ?_ | refine Vi rfl (fun hg => ?_) (fun hg => ?_) | clear hK K)
  | true =>
    rw [hm] at cm
    refine acall_of 1 Tryz.func17 rfl fun n out _ _ => ?_
    simp only [Tryz.ntmps17, List.length_cons, List.length_nil, List.length_map, List.length_replicate, rep_map, Nat.reduceAdd, Nat.reduceSub, List.replicate, List.cons_append, List.nil_append]
    repeat' (first | (with_reducible first | refine Vk fun K hK => ?_ | refine V0 ?_ | refine Vs ?_ | apply And.intro) | ((with_reducible first | refine gE ?_ | refine gR ?_); simp (maxSteps:=9^7) only [ss, evLit, tab, reduceCtorEq, reduceIte, Nat.reduceEqDiff, Nat.reduceBEq, Int.reduceLE, Int.reduceToNat, Nat.reduceAdd, Nat.reduceLT, Nat.reduceLeDiff, plA, plC, Bool.not_true]) | exact Vn | ((with_reducible refine Vz ?_); refine Vo rfl rfl rfl (fun _ _ => rfl) ?_ <;> first | rfl | skip) | (refine call_pure (cm) ?_) | (refine hK _ ?_; clear hK K) | refine Vt rfl ?_ | refine Vf rfl ?_ | refine Vi rfl (fun hg => ?_) (fun hg => ?_) | clear hK K)
end Go.Proofs.YtcfkieacdjcaoaaGreat.Pln
