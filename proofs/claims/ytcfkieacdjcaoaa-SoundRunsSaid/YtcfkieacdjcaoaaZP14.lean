/-
  What the program keeps of points and signals, told plainly.
-/
import Derived.Test.YtcfkieacdjcaoaaZP13
namespace Go.Proofs.Ytcfkieacdjcaoaa.Pln
set_option linter.unusedVariables false
set_option linter.unusedSimpArgs false
open Go Go.VS Tab
set_option maxHeartbeats 4000000
set_option maxRecDepth 4000
theorem id_inj {l : List Sec} (h : mayS l = true) {s t : Sec} (hs : s ∈ l) (ht : t ∈ l) (e : s.id = t.id) : s = t := by
  obtain ⟨i, hi, rfl⟩ := List.getElem_of_mem hs
  obtain ⟨j, hj, rfl⟩ := List.getElem_of_mem ht
  have hr := mayS_rising h
  rcases Nat.lt_trichotomy i j with h1 | h1 | h1
  · have := hr j hj i h1; omega
  · subst h1; rfl
  · have := hr i hi j h1; omega
theorem pt_inj {l : List Sec} (h : mayS l = true) {s t : Sec} (hs : s ∈ l) (ht : t ∈ l) (e : s.pt = t.pt) (h0 : s.pt ≠ 0) : s = t := by
  obtain ⟨i, hi, rfl⟩ := List.getElem_of_mem hs
  obtain ⟨j, hj, rfl⟩ := List.getElem_of_mem ht
  have hq := (mayS_iff.1 h).2.1
  rcases Nat.lt_trichotomy i j with h1 | h1 | h1
  · have := (((okS_take hj).1 (hq j hj)).2.2 i h1).2; omega
  · subst h1; rfl
  · have := (((okS_take hi).1 (hq i hi)).2.2 j h1).2; omega
theorem getS_of {l : List Sec} (h : mayS l = true) {s : Sec} (hs : s ∈ l) : getS l s.id = some s := by
  cases hg : getS l s.id with
  | none =>
    unfold getS at hg
    rw [List.find?_eq_none] at hg
    have := hg s hs
    simp at this
  | some t =>
    have h1 := List.mem_of_find?_eq_some hg
    have h2 := List.find?_some hg
    simp only [beq_iff_eq] at h2
    rw [id_inj h h1 hs h2]
theorem getS_some {l : List Sec} {n : Int} {s : Sec} (h : getS l n = some s) : s ∈ l ∧ s.id = n := ⟨List.mem_of_find?_eq_some h, by simpa using List.find?_some h⟩
def inF (pre : List Sec) (k : Nat) : Int := match pre.find? (fun s => decide (0 < k) && s.pt == (k : Int)) with
  | some s => s.id
  | none => 0
def inA (pre : List Sec) : List AV := (List.range 100).map fun k => i64 (inF pre k)
theorem inA_nil : inA [] = List.replicate 100 (i64 0) := by rw [rep_range, inA]; rfl
theorem inA_len (pre : List Sec) : (inA pre).length = 100 := by simp [inA]
theorem inA_pick (pre : List Sec) (j s : Nat) (h : j < 100) : pick false s (List.drop j (inA pre)) = some (i64 (inF pre j)) := pick_range _ _ _ _ h
theorem inF_other {l : List Sec} {i k : Nat} (hi : i < l.length) (h : ¬ (0 < k ∧ l[i].pt = (k : Int))) : inF (l.take (i + 1)) k = inF (l.take i) k := by
  unfold inF
  rw [List.take_succ_eq_append_getElem hi, List.find?_append]
  have : (decide (0 < k) && l[i].pt == (k : Int)) = false := by rw [Bool.eq_false_iff]; intro h'; simp at h'; exact h ⟨h'.1, h'.2⟩
  rw [List.find?_cons, this]
  cases (l.take i).find? (fun s => decide (0 < k) && s.pt == (k : Int)) <;> rfl
theorem inA_skip {l : List Sec} {i : Nat} (hi : i < l.length) (h : l[i].pt = 0) : inA (l.take (i + 1)) = inA (l.take i) := by
  unfold inA
  apply List.map_congr_left
  intro k hk
  rw [inF_other hi (by omega)]
theorem inA_set {l : List Sec} (hm : mayS l = true) {i : Nat} (hi : i < l.length) (j : Nat) (hj : j < 100) (h0 : 0 < j) (hp : l[i].pt = j) : splice (inA (l.take i)) j [i64 l[i].id] = inA (l.take (i + 1)) := by
  rw [inA, splice_range _ _ _ hj, inA]
  apply List.map_congr_left
  intro k hk
  by_cases hkj : k = j
  · subst hkj
    rw [if_pos rfl]
    unfold inF
    rw [List.take_succ_eq_append_getElem hi, List.find?_append]
    have h1 : (l.take i).find? (fun s => decide (0 < k) && s.pt == (k : Int)) = none := by
      rw [List.find?_eq_none]
      intro x hx hxp
      rw [List.mem_take_iff_getElem] at hx
      obtain ⟨q, hq, rfl⟩ := hx
      have := (((okS_take hi).1 ((mayS_iff.1 hm).2.1 i hi)).2.2 q (by omega)).2
      simp at hxp; omega
    rw [h1]
    simp [h0, hp]
  · rw [if_neg hkj, inF_other hi (by omega)]
theorem okP_in {p : Pl} (hm : mayS p.secs = true) {x : Int × Int} {k : Nat} (hk : x.1 = k) (h0 : 0 < k) : (decide (x.2 = 0) || (inF p.secs k != x.2)) = !okP p x := by
  have key : okP p x = true ↔ x.2 ≠ 0 ∧ inF p.secs k = x.2 := by
    unfold okP
    constructor
    · intro h
      cases hg : getS p.secs x.2 with
      | none => rw [hg] at h; cases h
      | some s =>
        rw [hg] at h
        obtain ⟨h1, h2⟩ := getS_some hg
        have hn := (mayS_sec hm h1).1
        rw [numb_iff] at hn
        have hpt : s.pt = k := by rw [← hk]; simpa using h
        refine ⟨by omega, ?_⟩
        unfold inF
        cases hf : p.secs.find? (fun s => decide (0 < k) && s.pt == (k : Int)) with
        | none =>
          rw [List.find?_eq_none] at hf
          have := hf s h1
          simp [h0, hpt] at this
        | some t =>
          have h3 := List.mem_of_find?_eq_some hf
          have h4 := List.find?_some hf
          simp at h4
          have := pt_inj hm h3 h1 (by omega) (by omega)
          subst this
          exact h2
    · rintro ⟨h1, h2⟩
      unfold inF at h2
      cases hf : p.secs.find? (fun s => decide (0 < k) && s.pt == (k : Int)) with
      | none => rw [hf] at h2; exact absurd h2.symm h1
      | some t =>
        rw [hf] at h2
        have h3 := List.mem_of_find?_eq_some hf
        have h4 := List.find?_some hf
        simp at h4
        rw [← h2, getS_of hm h3]
        simp; omega
  cases ho : okP p x with
  | true =>
    obtain ⟨h1, h2⟩ := key.1 ho
    simp [h1, h2]
  | false =>
    have : ¬ (x.2 ≠ 0 ∧ inF p.secs k = x.2) := fun h => by rw [key.2 h] at ho; cases ho
    by_cases h1 : x.2 = 0
    · simp [h1]
    · have h2 : inF p.secs k ≠ x.2 := fun h => this ⟨h1, h⟩
      simp [h1, h2]
theorem pts_any {p : Pl} (hm : mayS p.secs = true) (hr : allP rises (p.pts.map fun x => x.1) = true) : (!p.pts.any fun x => decide (x.2 = 0) || (inF p.secs x.1.toNat != x.2)) = p.pts.all (okP p) := by
  have hx : ∀ x, x ∈ p.pts → (decide (x.2 = 0) || (inF p.secs x.1.toNat != x.2)) = !okP p x := fun x hx => by
    obtain ⟨i, hi, rfl⟩ := List.getElem_of_mem hx
    have h1 := allP_iff.1 hr i (by simpa using hi)
    simp only [rises, List.getElem_map, Bool.and_eq_true, numb_iff] at h1
    exact okP_in hm (by omega) (by omega)
  rw [Bool.eq_iff_iff, Bool.not_eq_true', List.any_eq_false, List.all_eq_true]
  constructor
  · intro h x hxm
    have := h x hxm
    rw [hx x hxm] at this
    simpa using this
  · intro h x hxm
    rw [hx x hxm, h x hxm]; decide
def mark (pre : List (Int × Int × Int)) (q : Nat) : Bool := pre.any fun y => y.2.1 * 3 + y.2.2 == (q : Int)
def markA (pre : List (Int × Int × Int)) : List AV := (List.range 300).map fun q => bool (mark pre q)
theorem markA_nil : markA [] = List.replicate 300 (bool false) := by rw [rep_range, markA]; simp [mark]
theorem markA_len (pre : List (Int × Int × Int)) : (markA pre).length = 300 := by simp [markA]
theorem markA_pick (pre : List (Int × Int × Int)) (j s : Nat) (h : j < 300) : pick false s (List.drop j (markA pre)) = some (bool (mark pre j)) := pick_range _ _ _ _ h
theorem markA_set (l : List (Int × Int × Int)) (i : Nat) (hi : i < l.length) (a b : Nat) (h : a * 3 + b < 300) (ha : l[i].2.1 = a) (hb : l[i].2.2 = b) : splice (markA (l.take i)) (a * 3 + b) [bool true] = markA (l.take (i + 1)) := by
  rw [markA, splice_range _ _ _ h, markA]
  apply List.map_congr_left
  intro k hk
  have e : mark (l.take (i + 1)) k = (mark (l.take i) k || (l[i].2.1 * 3 + l[i].2.2 == (k : Int))) := by
    rw [mark, mark, List.take_succ_eq_append_getElem hi, List.any_append]; simp
  by_cases hk : k = a * 3 + b
  · subst hk
    rw [if_pos rfl, e, ha, hb]
    congr 2; simp
  · rw [if_neg hk, e, ha, hb]
    have : ((a : Int) * 3 + (b : Int) == (k : Int)) = false := by simp; omega
    rw [this, Bool.or_false]
theorem mark_eq {pre : List (Int × Int × Int)} (hp : ∀ y, y ∈ pre → 0 ≤ y.2.2 ∧ y.2.2 < 3) {a b : Nat} (hb : b < 3) : mark pre (a * 3 + b) = pre.any fun y => y.2 == ((a : Int), (b : Int)) := by
  rw [Bool.eq_iff_iff, mark, List.any_eq_true, List.any_eq_true]
  constructor
  · rintro ⟨y, hy, h⟩
    have := hp y hy
    refine ⟨y, hy, ?_⟩
    simp at h
    rw [beq_iff_eq, Prod.ext_iff]
    exact ⟨by simp only; omega, by simp only; omega⟩
  · rintro ⟨y, hy, h⟩
    refine ⟨y, hy, ?_⟩
    rw [beq_iff_eq, Prod.ext_iff] at h
    simp only at h
    simp; omega
end Go.Proofs.Ytcfkieacdjcaoaa.Pln
