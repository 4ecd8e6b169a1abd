/-
  Plain: a write that is kept whole hides those ahead of it on its sector.
-/
import Derived.Test.YtefkjdkalgemeaaZD15
import Derived.Test.YtefkjdkalgemeaaZE20
namespace Go.Proofs.Ytefkjdkalgemeaa
set_option linter.unusedVariables false
set_option linter.unusedSimpArgs false
open Go Go.VS Tab
set_option maxHeartbeats 1000000
theorem comes_hides {d : Dsk} (hd : may d = true) {ka kb : Nat → Nat} (ha : ∀ i, i < d.waits.length → ka i ≤ 128) (hb : ∀ i, i < d.waits.length → kb i ≤ 128) {w : Nat} (hw : w < d.waits.length) (h1 : ka w = 128) (h2 : kb w = 128)
    (h3 : ∀ i (hi : i < d.waits.length), w < i → d.waits[i].at'.toNat = d.waits[w].at'.toNat → ka i = kb i) : ∀ j, w + 1 ≤ j → j ≤ d.waits.length → (comesS ka d j).getD d.waits[w].at'.toNat [] = (comesS kb d j).getD d.waits[w].at'.toNat []
  | 0, h, _ => by omega
  | j + 1, h, hj => by
    obtain ⟨d1, _, _, d4⟩ := (may_iff d).1 hd
    obtain ⟨w1, w2, w3⟩ := d4 _ (List.getElem_mem hw)
    have hj' : j < d.waits.length := by omega
    have la : (comesS ka d j).length = 32 := by rw [comesS_len, d1]
    have lb : (comesS kb d j).length = 32 := by rw [comesS_len, d1]
    have row : ∀ (k : Nat → Nat), (∀ i, i < d.waits.length → k i ≤ 128) → ∀ z, z < 32 → ((comesS k d j).getD z []).length = 128 := fun k hk z hz => by
      have hl : z < (comesS k d j).length := by rw [comesS_len, d1]; exact hz
      rw [show (comesS k d j).getD z [] = (comesS k d j)[z] by simp [List.getD_eq_getElem?_getD, hl]]
      exact comesS_rows hd hk _ _ (List.getElem_mem hl)
    have hz : d.waits[w].at'.toNat < 32 := by omega
    have ge : ∀ {l : List (List UInt8)} {i : Nat} (a x : List UInt8), i < l.length → (l.set i a).getD i x = a := fun a x hi => by simp [List.getD_eq_getElem?_getD, hi]
    have gn : ∀ {l : List (List UInt8)} {i q : Nat} (a x : List UInt8), i ≠ q → (l.set i a).getD q x = l.getD q x := fun a x hi => by simp [List.getD_eq_getElem?_getD, List.getElem?_set_ne hi]
    rw [comesS_succ hj', comesS_succ hj']
    unfold lay
    rcases Nat.lt_or_ge w j with hjw | hjw
    · have ih := comes_hides hd ha hb hw h1 h2 h3 j (by omega) (by omega)
      by_cases hq : d.waits[j].at'.toNat = d.waits[w].at'.toNat
      · rw [hq, ge _ _ (by rw [la]; exact hz), ge _ _ (by rw [lb]; exact hz), ih, h3 j hj' hjw hq]
      · rw [gn _ _ hq, gn _ _ hq]; exact ih
    · have e : j = w := by omega
      subst e
      rw [ge _ _ (by rw [la]; exact hz), ge _ _ (by rw [lb]; exact hz), h1, h2]
      unfold laid
      have t : List.take 128 d.waits[j].data = d.waits[j].data := List.take_of_length_le (by rw [w3]; exact Nat.le_refl _)
      rw [t, List.drop_of_length_le (by rw [row ka ha _ hz]; omega), List.drop_of_length_le (by rw [row kb hb _ hz]; omega)]
def mixL (a b : List Int) (p : Nat → Bool) (i : Nat) : List Int := (List.range b.length).map fun q => if (decide (q < i) && p q) = true then a.getD q 0 else b.getD q 0
theorem mix_len (a b : List Int) (p : Nat → Bool) (i : Nat) : (mixL a b p i).length = b.length := by unfold mixL; simp
theorem mix_get (a b : List Int) (p : Nat → Bool) (i : Nat) {q : Nat} (h : q < b.length) : (mixL a b p i).getD q 0 = if (decide (q < i) && p q) = true then a.getD q 0 else b.getD q 0 := by
  unfold mixL
  simp [List.getD_eq_getElem?_getD, h]
theorem mix_at (a b : List Int) (p : Nat → Bool) (i q : Nat) (h : q < (mixL a b p i).length) : (mixL a b p i)[q] = if (decide (q < i) && p q) = true then a.getD q 0 else b.getD q 0 := by
  simp only [mixL, List.getElem_map, List.getElem_range]
theorem mix_first (a b : List Int) (p : Nat → Bool) (i : Nat) (h : ∀ q, q < i → p q = false) : mixL a b p i = b := by
  apply List.ext_getElem
  · exact mix_len _ _ _ _
  · intro q h1 h2
    rw [mix_at]
    have : (decide (q < i) && p q) = false := by
      by_cases hq : q < i
      · rw [h q hq, Bool.and_false]
      · simp [hq]
    rw [this, if_neg (by decide)]; simp [List.getD_eq_getElem?_getD, h2]
theorem mix_keep (a b : List Int) {p : Nat → Bool} {i : Nat} (h : p i = false) : mixL a b p (i + 1) = mixL a b p i := by
  unfold mixL
  refine List.map_congr_left fun q _ => ?_
  by_cases e : q = i
  · subst e; simp [h]
  · have : decide (q < i + 1) = decide (q < i) := decide_eq_decide.2 (by omega)
    rw [this]
theorem mix_set (a b : List Int) {p : Nat → Bool} {i : Nat} (hi : i < b.length) (h : p i = true) : (mixL a b p i).set i (a.getD i 0) = mixL a b p (i + 1) := by
  apply List.ext_getElem
  · simp [mix_len]
  · intro q h1 h2
    rw [mix_len] at h2
    by_cases e : i = q
    · subst e
      rw [List.getElem_set_self, mix_at]
      simp [h]
    · rw [List.getElem_set_ne e, mix_at, mix_at]
      have : decide (q < i + 1) = decide (q < i) := decide_eq_decide.2 (by omega)
      rw [this]
theorem mix_in {a b : List Int} {p : Nat → Bool} {i : Nat} (hl : b.length ≤ a.length) (ha : ∀ x, x ∈ a → 0 ≤ x ∧ x < 129) (hb : ∀ x, x ∈ b → 0 ≤ x ∧ x < 129) : ∀ x, x ∈ mixL a b p i → 0 ≤ x ∧ x < 129 := fun x hx => by
  unfold mixL at hx
  obtain ⟨q, hq, rfl⟩ := List.mem_map.1 hx
  have hq := List.mem_range.1 hq
  split
  · refine ha _ ?_
    rw [List.getD_eq_getElem?_getD, List.getElem?_eq_getElem (by omega)]
    exact List.getElem_mem _
  · refine hb _ ?_
    rw [List.getD_eq_getElem?_getD, List.getElem?_eq_getElem hq]
    exact List.getElem_mem _
theorem hides_law {d : Dsk} {a b : List Int} (hA : crashE d a = 0) (hB : crashE d b = 0) {w : Nat} (hw : w < d.waits.length) (h1 : a.getD w 0 = 128) (h2 : b.getD w 0 = 128) {p : Nat → Bool} (hp : ∀ i (hi : i < d.waits.length), p i = (decide (w < i) && (d.waits[i].at' == d.waits[w].at'))) :
    crashE d (mixL a b p d.waits.length) = 0 ∧ (crashD d a).sectors.getD d.waits[w].at'.toNat [] = (crashD d (mixL a b p d.waits.length)).sectors.getD d.waits[w].at'.toNat [] := by
  obtain ⟨m1, m2, m3⟩ := crashE_0.1 hA
  obtain ⟨_, q2, q3⟩ := crashE_0.1 hB
  have hM : crashE d (mixL a b p d.waits.length) = 0 := crashE_0.2 ⟨m1, by rw [mix_len]; exact q2, mix_in (by omega) m3 q3⟩
  refine ⟨hM, ?_⟩
  have eA : (crashD d a).sectors = comesS (kf a) d d.waits.length := by unfold crashD; rw [if_pos hA]; rfl
  have eM : (crashD d (mixL a b p d.waits.length)).sectors = comesS (kf (mixL a b p d.waits.length)) d d.waits.length := by unfold crashD; rw [if_pos hM]; rfl
  rw [eA, eM]
  have d4 := ((may_iff d).1 m1).2.2.2
  refine comes_hides m1 (fun i _ => kf_le m3 i) (fun i _ => kf_le (mix_in (by omega) m3 q3) i) hw ?_ ?_ ?_ _ (by omega) (Nat.le_refl _)
  · show (a.getD w 0).toNat = 128
    rw [h1]; rfl
  · show ((mixL a b p d.waits.length).getD w 0).toNat = 128
    rw [mix_get _ _ _ _ (by omega)]
    split
    · rw [h1]; rfl
    · rw [h2]; rfl
  · intro i hi hwi hat
    show (a.getD i 0).toNat = ((mixL a b p d.waits.length).getD i 0).toNat
    have e : d.waits[i].at' = d.waits[w].at' := by
      have x1 := (d4 _ (List.getElem_mem hi)).1
      have x2 := (d4 _ (List.getElem_mem hw)).1
      omega
    rw [mix_get _ _ _ _ (by omega), hp i hi, e, if_pos (by simp [hwi, hi])]
theorem chunk_ints' : ∀ l : List Int, chunk 1 l.length (l.map i64) = l.map intC
  | [] => rfl
  | x :: l => by
    have := chunk_ints' l
    simp only [List.length_cons, List.map_cons, chunk, List.take_succ_cons, List.take_zero, List.drop_succ_cons, List.drop_zero, this]
    rfl
theorem ints_flat (l : List Int) : (l.map intC).flatten = l.map i64 := by
  induction l with
  | nil => rfl
  | cons x l ih => rw [List.map_cons, List.flatten_cons, ih]; rfl
end Go.Proofs.Ytefkjdkalgemeaa
