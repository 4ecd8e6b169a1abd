/- The layer of abstract values, joined: PR. -/
import Derived.Test.YtjgbbjooeibppaaZVsBits
section
namespace Go.Proofs.Ytjgbbjooeibppaa.Pln
set_option linter.unusedVariables false
set_option linter.unusedSimpArgs false
open Go Go.VS
set_option maxHeartbeats 1000000
def idx {α : Type} (p : α → Bool) (l : List α) : Int := match l.findIdx? p with
 | some i => i
 | none => -1
theorem Kn {α : Type} {p : α → Bool} {l : List α} (h : ∀ i (hi : i < l.length), p l[i] = false) : idx p l = -1 := by
 have : l.findIdx? p = none := by
  rw [List.findIdx?_eq_none_iff]
  intro x hx
  obtain ⟨i, hi, rfl⟩ := List.getElem_of_mem hx
  exact h i hi
 rw [idx, this]
theorem Ko {α : Type} {p : α → Bool} {l : List α} {i : Nat} (hi : i < l.length) (hp : p l[i] = true) (h : ∀ j (hj : j < i), p (l[j]'(by omega)) = false) : idx p l = i := by
 have : l.findIdx? p = some i := by
  rw [List.findIdx?_eq_some_iff_getElem]
  exact ⟨hi, hp, fun j hj => by simp [h j hj]⟩
 rw [idx, this]
theorem Ze {α : Type} (p : α → Bool) (l : List α) : (idx p l = -1 ∧ l.find? p = none ∧ ∀ x, x ∈ l → p x = false) ∨ ∃ (i : Nat) (hi : i < l.length), idx p l = i ∧ l.find? p = some l[i] ∧ p l[i] = true ∧ ∀ j (hj : j < i), p (l[j]'(by omega)) = false := by
 cases h : l.findIdx? p with
 | none =>
  left
  have h' := h
  rw [List.findIdx?_eq_none_iff] at h
  refine ⟨by rw [idx, h'], ?_, h⟩
  rw [List.find?_eq_none]
  intro x hx; rw [h x hx]; decide
 | some i =>
  right
  have h' := h
  rw [List.findIdx?_eq_some_iff_getElem] at h
  obtain ⟨hi, hp, hq⟩ := h
  refine ⟨i, hi, by rw [idx, h'], ?_, hp, fun j hj => by simpa using hq j hj⟩
  rw [List.find?_eq_some_iff_getElem]
  exact ⟨hp, i, hi, rfl, fun j hj => by simpa using hq j hj⟩
theorem X3h {α : Type} (p : α → Bool) (l : List α) : decide (idx p l ≥ 0) = l.any p := by
 rcases Ze p l with ⟨h1, _, h3⟩ | ⟨i, hi, h1, _, h3, _⟩
 ·have : l.any p = false := by rw [List.any_eq_false]; intro x hx; simp [h3 x hx]
  rw [h1, this]; rfl
 ·have : l.any p = true := List.any_eq_true.2 ⟨_, List.getElem_mem hi, h3⟩
  rw [h1, this]; simp
theorem Xg {α β : Type} (f : α → β) (l : List α) (i : Nat) (d : β) (h : i < l.length) : (l.map f).getD i d = f l[i] := by
 simp [List.getD_eq_getElem?_getD, h]
theorem Ds {α β : Type} (g : α → β) (l : List α) (i : Nat) (h : i < l.length) : (l.take i).map g ++ [g l[i]] = (l.take (i + 1)).map g := by
 rw [List.take_succ_eq_append_getElem h, List.map_append]; rfl
structure Sec where
 id : Int
 pt : Int
 ends : List (Int × Int)
def Ym (n : Int) : List AV := [i64 n]
def jnC (j : Int × Int) : List AV := [i64 j.1, i64 j.2]
def Y6 (s : Sec) : List AV := [i64 s.id, i64 s.pt, .sl 2 (s.ends.map jnC) .sh]
def Qh (s : Sec) : AV := .agg (Y6 s)
theorem X0b (s : Sec) : pick true 3 (Y6 s) = some (Qh s) := rfl
theorem Xj7 (n : Int) : pick false 1 (Ym n) = some (i64 n) := rfl
end Go.Proofs.Ytjgbbjooeibppaa.Pln
end
