/-
 Many boxes, named one behind another; lists of records in boxes.
-/
import Derived.Test.YtjgbbjooeibppaaZVsView
import Derived.Test.YtjgbbjooeibppaaZGA
namespace Go.VS
open Go Go.RowKit
set_option maxHeartbeats 1000000
def Xhj (K : Nat) : List (Option Res) → List (Nat × Res)
 | [] => []
 | none :: l => Xhj (K + 1) l
 | some r :: l => (K, r) :: Xhj (K + 1) l
def Xev (K : Nat) : List (Option Res) → List (Nat × Option Res)
 | [] => []
 | none :: l => Xev (K + 1) l
 | some _ :: l => (K, none) :: Xev (K + 1) l
def Xfx (K : Nat) : List (Option Res) → List (Nat × Option Res)
 | [] => []
 | none :: l => Xfx (K + 1) l
 | some r :: l => (K, some r) :: Xfx (K + 1) l
theorem A3 {l : List (Option Res)} : ∀ {K : Nat} {x : Nat × Res}, x ∈ Xhj K l ↔ ∃ j, l[j]? = some (some x.2) ∧ x.1 = K + j := by
 induction l with
 | nil => intro K x; simp [Xhj]
 | cons y l ih =>
  intro K x
  have key : (∃ j, (y :: l)[j]? = some (some x.2) ∧ x.1 = K + j) ↔ (y = some x.2 ∧ x.1 = K) ∨ ∃ j, l[j]? = some (some x.2) ∧ x.1 = K + 1 + j := by
   constructor
   ·rintro ⟨j, h1, h2⟩
    cases j with
    | zero => simp at h1; exact .inl ⟨h1, h2⟩
    | succ j => exact .inr ⟨j, by simpa using h1, by omega⟩
   ·rintro (⟨h1, h2⟩ | ⟨j, h1, h2⟩)
    ·exact ⟨0, by simp [h1], h2⟩
    ·exact ⟨j + 1, by simpa using h1, by omega⟩
  rw [key, ← ih]
  cases y with
  | none => simp [Xhj]
  | some r => obtain ⟨a, b⟩ := x; simp [Xhj, Prod.ext_iff, and_comm, eq_comm]
theorem C3 {l : List (Option Res)} : ∀ {K : Nat} {x : Nat × Option Res}, x ∈ Xev K l ↔ x.2 = none ∧ ∃ j r, l[j]? = some (some r) ∧ x.1 = K + j := by
 induction l with
 | nil => intro K x; simp [Xev]
 | cons y l ih =>
  intro K x
  have key : (∃ j r, (y :: l)[j]? = some (some r) ∧ x.1 = K + j) ↔ (y ≠ none ∧ x.1 = K) ∨ ∃ j r, l[j]? = some (some r) ∧ x.1 = K + 1 + j := by
   constructor
   ·rintro ⟨j, r, h1, h2⟩
    cases j with
    | zero => simp at h1; exact .inl ⟨by simp [h1], h2⟩
    | succ j => exact .inr ⟨j, r, by simpa using h1, by omega⟩
   ·rintro (⟨h1, h2⟩ | ⟨j, r, h1, h2⟩)
    ·cases y with
     | none => exact (h1 rfl).elim
     | some r => exact ⟨0, r, rfl, h2⟩
    ·exact ⟨j + 1, r, by simpa using h1, by omega⟩
  rw [key]
  cases y with
  | none => rw [Xev, ih]; simp
  | some r =>
   rw [Xev, List.mem_cons, ih]
   obtain ⟨a, b⟩ := x
   simp only [Prod.mk.injEq, ne_eq, reduceCtorEq, not_false_eq_true, true_and]
   constructor
   ·rintro (⟨rfl, rfl⟩ | ⟨h1, h2⟩)
    ·exact ⟨rfl, .inl rfl⟩
    ·exact ⟨h1, .inr h2⟩
   ·rintro ⟨h1, h2 | h2⟩
    ·exact .inl ⟨h2, h1⟩
    ·exact .inr ⟨h1, h2⟩
theorem A4 {l : List (Option Res)} : ∀ {K : Nat} {x : Nat × Option Res}, x ∈ Xfx K l ↔ ∃ j r, l[j]? = some (some r) ∧ x = (K + j, some r) := by
 induction l with
 | nil => intro K x; simp [Xfx]
 | cons y l ih =>
  intro K x
  have key : (∃ j r, (y :: l)[j]? = some (some r) ∧ x = (K + j, some r)) ↔ (∃ r, y = some r ∧ x = (K, some r)) ∨ ∃ j r, l[j]? = some (some r) ∧ x = (K + 1 + j, some r) := by
   constructor
   ·rintro ⟨j, r, h1, h2⟩
    cases j with
    | zero => simp at h1; exact .inl ⟨r, h1, h2⟩
    | succ j => exact .inr ⟨j, r, by simpa using h1, by rw [h2, Nat.add_assoc, Nat.add_comm 1]⟩
   ·rintro (⟨r, h1, h2⟩ | ⟨j, r, h1, h2⟩)
    ·exact ⟨0, r, by simp [h1], h2⟩
    ·exact ⟨j + 1, r, by simpa using h1, by rw [h2, Nat.add_assoc, Nat.add_comm 1]⟩
  rw [key, ← ih]
  cases y with
  | none => simp [Xfx]
  | some r => simp [Xfx]
def ofL (s : Nat → Option Res) (K : Nat) (l : List (Option Res)) : Nat → Option Res := fun k => if K ≤ k then (match (l[k - K]?).join with | some r => some r | none => s k) else s k
theorem K3 {l : List (Option Res)} : ∀ {s : Nat → Option Res} {K : Nat}, upd s (Xhj K l) = ofL s K l := by
 induction l with
 | nil => intro s K; funext k; simp [Xhj, upd, ofL]
 | cons y l ih =>
  intro s K
  have step : ∀ (s : Nat → Option Res) (k : Nat), K + 1 ≤ k → ofL s (K + 1) l k = (match ((y :: l)[k - K]?).join with | some r => some r | none => s k) := fun s k hk => by
   unfold ofL
   rw [if_pos hk, show k - K = (k - (K + 1)) + 1 from by omega, List.getElem?_cons_succ]
  cases y with
  | none =>
   show upd s (Xhj (K + 1) l) = _
   rw [ih]
   funext k
   by_cases h : K + 1 ≤ k
   ·rw [step s k h]; unfold ofL; rw [if_pos (by omega)]
   ·unfold ofL
    rw [if_neg h]
    by_cases h2 : K ≤ k
    ·have : k = K := by omega
     subst this; simp
    ·rw [if_neg h2]
  | some r =>
   show upd (Xw s K r) (Xhj (K + 1) l) = _
   rw [ih]
   funext k
   by_cases h : K + 1 ≤ k
   ·rw [step _ k h, Zp s r (by omega)]; unfold ofL; rw [if_pos (by omega)]
   ·unfold ofL
    rw [if_neg h]
    by_cases h2 : K ≤ k
    ·have : k = K := by omega
     subst this; simp [Xw]
    ·rw [if_neg h2, Zp s r (by omega)]
theorem C4 {s : Nat → Option Res} {K j : Nat} {l : List (Option Res)} {r : Res} (h : l[j]? = some (some r)) : ofL s K l (K + j) = some r := by
 unfold ofL; rw [if_pos (by omega), Nat.add_sub_cancel_left, h]; rfl
theorem Xf6 {s : Nat → Option Res} {K j : Nat} {l : List (Option Res)} (h : l[j]? = some none) : ofL s K l (K + j) = s (K + j) := by
 unfold ofL; rw [if_pos (by omega), Nat.add_sub_cancel_left, h]; rfl
theorem Xge {s : Nat → Option Res} {K k : Nat} {l : List (Option Res)} (h : k < K ∨ K + l.length ≤ k) : ofL s K l k = s k := by
 unfold ofL
 split
 ·rw [List.getElem?_eq_none (by omega)]; rfl
 ·rfl
theorem A5 {s : Nat → Option Res} {K j : Nat} {l : List (Option Res)} {r : Res} (h : j < l.length) : Xw (ofL s K l) (K + j) r = ofL s K (l.set j (some r)) := by
 funext k
 unfold Xw ofL
 by_cases hk : k = K + j
 ·subst hk
  rw [if_pos rfl, if_pos (by omega), Nat.add_sub_cancel_left, List.getElem?_set_self h]; rfl
 ·rw [if_neg hk]
  split
  ·rw [List.getElem?_set_ne (by omega)]
  ·rfl
theorem Xfh {s : Nat → Option Res} {K : Nat} {l : List (Option Res)} (h : ∀ x, x ∈ l → x = none) : ofL s K l = s := by
 funext k
 unfold ofL
 split
 ·cases hx : l[k - K]? with
  | none => rfl
  | some x => rw [h x (List.mem_of_getElem? hx)]; rfl
 ·rfl
theorem K2 {N K : Nat} {l : List (Option Res)} (h : Mc N (Xhj K l)) {j : Nat} {r : Res} (hj : l[j]? = some (some r)) : K + j < N :=
 Ht.1 h (K + j, r) (A3.2 ⟨j, hj, rfl⟩)
theorem Xjs {s : Nat → Option Res} {K : Nat} {l : List (Option Res)} (h : holds s (Xev K l)) {j : Nat} {r : Res} (hj : l[j]? = some (some r)) : s (K + j) = none :=
 Q5.1 h (K + j, none) (C3.2 ⟨rfl, j, r, hj, rfl⟩)
theorem Bf {s : Nat → Option Res} {K : Nat} {l : List (Option Res)} (h : holds s (Xfx K l)) {j : Nat} {r : Res} (hj : l[j]? = some (some r)) : s (K + j) = some r :=
 Q5.1 h (K + j, some r) (A4.2 ⟨j, r, hj, rfl⟩)
end Go.VS
