/-
  Plain: a byte that is turned, and what is seen of it.
-/
import Derived.Test.YtefkjdkalgemeaaZD32
namespace Go.Proofs.Ytefkjdkalgemeaa
set_option linter.unusedVariables false
set_option linter.unusedSimpArgs false
open Go Go.VS Tab
set_option maxHeartbeats 1000000
theorem set_self {α : Type} (l : List α) (i : Nat) (x : α) : l.set i (l.getD i x) = l := by
  by_cases h : i < l.length
  · have : l.getD i x = l[i] := by simp [List.getD_eq_getElem?_getD, h]
    rw [this, List.set_getElem_self]
  · exact List.set_eq_of_length_le (by omega)
theorem getD_set_eq {α : Type} {l : List α} {i : Nat} (h : i < l.length) (a x : α) : (l.set i a).getD i x = a := by simp [List.getD_eq_getElem?_getD, h]
theorem getD_set_ne {α : Type} {l : List α} {i j : Nat} (h : i ≠ j) (a x : α) : (l.set i a).getD j x = l.getD j x := by
  simp [List.getD_eq_getElem?_getD, List.getElem?_set_ne h]
theorem turnL_at {l : List UInt8} {y : Nat} (h : y < l.length) (x : UInt8) : (turnL l y x).getD y 0 = l.getD y 0 ^^^ x := getD_set_eq h _ _
theorem turnL_twice {l : List UInt8} {y : Nat} (h : y < l.length) (a b : UInt8) : turnL (turnL l y a) y b = turnL l y (a ^^^ b) := by
  show (turnL l y a).set y ((turnL l y a).getD y 0 ^^^ b) = _
  rw [turnL_at h, UInt8.xor_assoc]
  unfold turnL
  rw [List.set_set]
theorem turnL_same {l : List UInt8} {y : Nat} (h : y < l.length) (x : UInt8) : (l == turnL l y x) = (x == 0) := by
  rw [Bool.eq_iff_iff, beq_iff_eq, beq_iff_eq]
  constructor
  · intro e
    have h1 := turnL_at h x
    rw [← e] at h1
    have h2 : l.getD y 0 ^^^ (l.getD y 0 ^^^ x) = l.getD y 0 ^^^ l.getD y 0 := by rw [← h1]
    rwa [← UInt8.xor_assoc, UInt8.xor_self, UInt8.zero_xor] at h2
  · rintro rfl
    unfold turnL
    rw [UInt8.xor_zero, set_self]
theorem turnS_twice {s : List (List UInt8)} {z y : Nat} (hz : z < s.length) (hy : y < (s.getD z []).length) (a b : UInt8) : turnS (turnS s z y a) z y b = turnS s z y (a ^^^ b) := by
  show (turnS s z y a).set z (turnL ((turnS s z y a).getD z []) y b) = _
  rw [show (turnS s z y a).getD z [] = turnL (s.getD z []) y a from getD_set_eq hz _ _, turnL_twice hy]
  unfold turnS
  rw [List.set_set]
theorem may_turn {d : Dsk} (hm : may d = true) {z y : Nat} (x : UInt8) (hz : z < 32) : may ⟨turnS d.sectors z y x, d.waits⟩ = true := by
  obtain ⟨h1, h2, h3, h4⟩ := (may_iff d).1 hm
  refine (may_iff _).2 ⟨by show (turnS _ _ _ _).length = 32; unfold turnS; rw [List.length_set]; exact h1, h2, fun b hb => ?_, h4⟩
  have hb' : b ∈ turnS d.sectors z y x := hb
  unfold turnS at hb'
  rcases List.mem_or_eq_of_mem_set hb' with h | h
  · exact h3 b h
  · have hz' : z < d.sectors.length := by omega
    rw [h, turnL_len, show d.sectors.getD z [] = d.sectors[z] by simp [List.getD_eq_getElem?_getD, hz']]
    exact h3 _ (List.getElem_mem hz')
theorem comesS_none {kp : Nat → Nat} {d : Dsk} (h : ∀ i, kp i = 0) : ∀ i, comesS kp d i = d.sectors
  | 0 => rfl
  | i + 1 => by
    rw [comesS]
    split
    · rw [comesS_none h i, lay, h i, List.take_zero]
      exact set_self _ _ _
    · exact comesS_none h i
theorem comesS_far {kp : Nat → Nat} {d : Dsk} {z : Nat} : ∀ i, (∀ j (hj : j < d.waits.length), j < i → d.waits[j].at'.toNat ≠ z) → (comesS kp d i).getD z [] = d.sectors.getD z []
  | 0, _ => rfl
  | i + 1, h => by
    rw [comesS]
    split
    · rename_i hi
      rw [lay, getD_set_ne (h i hi (by omega))]
      exact comesS_far i fun j hj hji => h j hj (by omega)
    · exact comesS_far i fun j hj hji => h j hj (by omega)
theorem comesS_near {d t : Dsk} {z : Nat} (hm : may d = true) (ht : may t = true) (hw : t.waits = d.waits) (hs : ∀ q, q ≠ z → t.sectors.getD q [] = d.sectors.getD q []) :
    ∀ i, (∀ q, q ≠ z → (comesS kpAll t i).getD q [] = (comesS kpAll d i).getD q []) ∧ ((∃ (j : Nat) (hj : j < d.waits.length), j < i ∧ d.waits[j].at'.toNat = z) → (comesS kpAll t i).getD z [] = (comesS kpAll d i).getD z [])
  | 0 => ⟨hs, fun ⟨_, _, h, _⟩ => by omega⟩
  | i + 1 => by
    obtain ⟨h1, h2⟩ := comesS_near hm ht hw hs i
    by_cases hi : i < d.waits.length
    · have hi' : i < t.waits.length := by rw [hw]; exact hi
      have ew : t.waits[i] = d.waits[i] := by simp only [hw]
      obtain ⟨m1, _, _, m4⟩ := (may_iff d).1 hm
      obtain ⟨w1, w2, w3⟩ := m4 _ (List.getElem_mem hi)
      obtain ⟨t1, _⟩ := (may_iff t).1 ht
      have row : ∀ (e : Dsk), may e = true → ∀ a, a < 32 → ((comesS kpAll e i).getD a []).length = 128 := fun e he a ha => by
        have hl : a < (comesS kpAll e i).length := by rw [comesS_len, ((may_iff e).1 he).1]; exact ha
        rw [show (comesS kpAll e i).getD a [] = (comesS kpAll e i)[a] by simp [List.getD_eq_getElem?_getD, hl]]
        exact comesS_rows he (fun _ _ => by simp [kpAll]) _ _ (List.getElem_mem hl)
      have ha : d.waits[i].at'.toNat < 32 := by omega
      have whole : ∀ (e : Dsk), may e = true → laid ((comesS kpAll e i).getD d.waits[i].at'.toNat []) (d.waits[i].data.take (kpAll i)) = d.waits[i].data := fun e he => by
        have h := row e he _ ha
        unfold laid
        rw [List.take_of_length_le (by rw [w3]; exact Nat.le_refl _), List.drop_eq_nil_of_le (by omega), List.append_nil]
      have lt : d.waits[i].at'.toNat < (comesS kpAll t i).length := by rw [comesS_len, t1]; exact ha
      have ld : d.waits[i].at'.toNat < (comesS kpAll d i).length := by rw [comesS_len, m1]; exact ha
      rw [comesS_succ hi', comesS_succ hi, ew]
      unfold lay
      rw [whole t ht, whole d hm]
      by_cases hz : d.waits[i].at'.toNat = z
      · refine ⟨fun q hq => ?_, fun _ => ?_⟩
        · rw [getD_set_ne (by omega), getD_set_ne (by omega)]; exact h1 q hq
        · rw [hz] at lt ld ⊢
          rw [getD_set_eq lt, getD_set_eq ld]
      · refine ⟨fun q hq => ?_, fun ⟨j, hj, hji, hjz⟩ => ?_⟩
        · by_cases hq2 : d.waits[i].at'.toNat = q
          · rw [hq2] at lt ld ⊢
            rw [getD_set_eq lt, getD_set_eq ld]
          · rw [getD_set_ne hq2, getD_set_ne hq2]; exact h1 q hq
        · rw [getD_set_ne hz, getD_set_ne hz]
          refine h2 ⟨j, hj, ?_, hjz⟩
          rcases Nat.lt_or_ge j i with h | h
          · exact h
          · have : j = i := by omega
            subst this; exact absurd hjz hz
    · have hi' : ¬ i < t.waits.length := by rw [hw]; exact hi
      have e1 : comesS kpAll t (i + 1) = comesS kpAll t i := by rw [comesS, dif_neg hi']
      have e2 : comesS kpAll d (i + 1) = comesS kpAll d i := by rw [comesS, dif_neg hi]
      rw [e1, e2]
      exact ⟨h1, fun ⟨j, hj, hji, hjz⟩ => h2 ⟨j, hj, by omega, hjz⟩⟩
end Go.Proofs.Ytefkjdkalgemeaa
