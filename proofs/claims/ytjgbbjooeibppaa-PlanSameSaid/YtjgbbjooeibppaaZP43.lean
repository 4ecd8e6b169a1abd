/-
 Many boxes, named one behind another; lists of records in boxes.
-/
import Derived.Test.YtjgbbjooeibppaaZVsView
import Derived.Test.YtjgbbjooeibppaaZGA
namespace Go.VS
open Go Go.RowKit
set_option maxHeartbeats 1000000
def B3 (K : Nat) : List (Option Res) → List (Nat × Res)
 | [] => []
 | none :: l => B3 (K + 1) l
 | some r :: l => (K, r) :: B3 (K + 1) l
def Xev (K : Nat) : List (Option Res) → List (Nat × Option Res)
 | [] => []
 | none :: l => Xev (K + 1) l
 | some _ :: l => (K, none) :: Xev (K + 1) l
def Xfx (K : Nat) : List (Option Res) → List (Nat × Option Res)
 | [] => []
 | none :: l => Xfx (K + 1) l
 | some r :: l => (K, some r) :: Xfx (K + 1) l
theorem A3 {l : List (Option Res)} : ∀ {K : Nat} {x : Nat × Res}, x ∈ B3 K l ↔ ∃ j, l[j]? = some (some x.2) ∧ x.1 = K + j := by
 induction l with
 | nil => intro K x; simp [B3]
 | cons y l ih =>
  intro K x
  have key : (∃ j, (y :: l)[j]? = some (some x.2) ∧ x.1 = K + j) ↔ (y = some x.2 ∧ x.1 = K) ∨ ∃ j, l[j]? = some (some x.2) ∧ x.1 = K + 1 + j := by
   constructor
   ·rintro ⟨j, h1, h2⟩
    cases j with
    | zero => simp at h1; exact .inl ⟨h1, h2⟩
    | succ j => exact .inr ⟨j, by simpa using h1, by omega⟩
   ·rintro (⟨h1, h2⟩ | ⟨j, h1, h2⟩)
    ·exact ⟨0, by simp [h1], h2⟩
    ·exact ⟨j + 1, by simpa using h1, by omega⟩
  rw [key, ← ih]
  cases y with
  | none => simp [B3]
  | some r => obtain ⟨a, b⟩ := x; simp [B3, Prod.ext_iff, and_comm, eq_comm]
theorem C3 {l : List (Option Res)} : ∀ {K : Nat} {x : Nat × Option Res}, x ∈ Xev K l ↔ x.2 = none ∧ ∃ j r, l[j]? = some (some r) ∧ x.1 = K + j := by
 induction l with
 | nil => intro K x; simp [Xev]
 | cons y l ih =>
  intro K x
  have key : (∃ j r, (y :: l)[j]? = some (some r) ∧ x.1 = K + j) ↔ (y ≠ none ∧ x.1 = K) ∨ ∃ j r, l[j]? = some (some r) ∧ x.1 = K + 1 + j := by
   constructor
   ·rintro ⟨j, r, h1, h2⟩
    cases j with
    | zero => simp at h1; exact .inl ⟨by simp [h1], h2⟩
    | succ j => exact .inr ⟨j, r, by simpa using h1, by omega⟩
   ·rintro (⟨h1, h2⟩ | ⟨j, r, h1, h2⟩)
    ·cases y with
     | none => exact (h1 rfl).elim
     | some r => exact ⟨0, r, rfl, h2⟩
    ·exact ⟨j + 1, r, by simpa using h1, by omega⟩
  rw [key]
  cases y with
  | none => rw [Xev, ih]; simp
  | some r =>
   rw [Xev, List.mem_cons, ih]
   obtain ⟨a, b⟩ := x
   simp only [Prod.mk.injEq, ne_eq, reduceCtorEq, not_false_eq_true, true_and]
   constructor
   ·rintro (⟨rfl, rfl⟩ | ⟨h1, h2⟩)
    ·exact ⟨rfl, .inl rfl⟩
    ·exact ⟨h1, .inr h2⟩
   ·rintro ⟨h1, h2 | h2⟩
    ·exact .inl ⟨h2, h1⟩
    ·exact .inr ⟨h1, h2⟩
theorem A4 {l : List (Option Res)} : ∀ {K : Nat} {x : Nat × Option Res}, x ∈ Xfx K l ↔ ∃ j r, l[j]? = some (some r) ∧ x = (K + j, some r) := by
 induction l with
 | nil => intro K x; simp [Xfx]
 | cons y l ih =>
  intro K x
  have key : (∃ j r, (y :: l)[j]? = some (some r) ∧ x = (K + j, some r)) ↔ (∃ r, y = some r ∧ x = (K, some r)) ∨ ∃ j r, l[j]? = some (some r) ∧ x = (K + 1 + j, some r) := by
   constructor
   ·rintro ⟨j, r, h1, h2⟩
    cases j with
    | zero => simp at h1; exact .inl ⟨r, h1, h2⟩
    | succ j => exact .inr ⟨j, r, by simpa using h1, by rw [h2, Nat.add_assoc, Nat.add_comm 1]⟩
   ·rintro (⟨r, h1, h2⟩ | ⟨j, r, h1, h2⟩)
    ·exact ⟨0, r, by simp [h1], h2⟩
    ·exact ⟨j + 1, r, by simpa using h1, by rw [h2, Nat.add_assoc, Nat.add_comm 1]⟩
  rw [key, ← ih]
  cases y with
  | none => simp [Xfx]
  | some r => simp [Xfx]
def ofL (s : Nat → Option Res) (K : Nat) (l : List (Option Res)) : Nat → Option Res := fun k => if K ≤ k then (match (l[k - K]?).join with | some r => some r | none => s k) else s k
theorem K3 {l : List (Option Res)} : ∀ {s : Nat → Option Res} {K : Nat}, upd s (B3 K l) = ofL s K l := by
 induction l with
 | nil => intro s K; funext k; simp [B3, upd, ofL]
 | cons y l ih =>
  intro s K
  have step : ∀ (s : Nat → Option Res) (k : Nat), K + 1 ≤ k → ofL s (K + 1) l k = (match ((y :: l)[k - K]?).join with | some r => some r | none => s k) := fun s k hk => by
   unfold ofL
   rw [if_pos hk, show k - K = (k - (K + 1)) + 1 from by omega, List.getElem?_cons_succ]
  cases y with
  | none =>
   show upd s (B3 (K + 1) l) = _
   rw [ih]
   funext k
   by_cases h : K + 1 ≤ k
   ·rw [step s k h]; unfold ofL; rw [if_pos (by omega)]
   ·unfold ofL
    rw [if_neg h]
    by_cases h2 : K ≤ k
    ·have : k = K := by omega
     subst this; simp
    ·rw [if_neg h2]
  | some r =>
   show upd (Xw s K r) (B3 (K + 1) l) = _
   rw [ih]
   funext k
   by_cases h : K + 1 ≤ k
   ·rw [step _ k h, Zp s r (by omega)]; unfold ofL; rw [if_pos (by omega)]
   ·unfold ofL
    rw [if_neg h]
    by_cases h2 : K ≤ k
    ·have : k = K := by omega
     subst this; simp [Xw]
    ·rw [if_neg h2, Zp s r (by omega)]
theorem C4 {s : Nat → Option Res} {K j : Nat} {l : List (Option Res)} {r : Res} (h : l[j]? = some (some r)) : ofL s K l (K + j) = some r := by
 unfold ofL; rw [if_pos (by omega), Nat.add_sub_cancel_left, h]; rfl
theorem Xf6 {s : Nat → Option Res} {K j : Nat} {l : List (Option Res)} (h : l[j]? = some none) : ofL s K l (K + j) = s (K + j) := by
 unfold ofL; rw [if_pos (by omega), Nat.add_sub_cancel_left, h]; rfl
theorem Xge {s : Nat → Option Res} {K k : Nat} {l : List (Option Res)} (h : k < K ∨ K + l.length ≤ k) : ofL s K l k = s k := by
 unfold ofL
 split
 ·rw [List.getElem?_eq_none (by omega)]; rfl
 ·rfl
theorem A5 {s : Nat → Option Res} {K j : Nat} {l : List (Option Res)} {r : Res} (h : j < l.length) : Xw (ofL s K l) (K + j) r = ofL s K (l.set j (some r)) := by
 funext k
 unfold Xw ofL
 by_cases hk : k = K + j
 ·subst hk
  rw [if_pos rfl, if_pos (by omega), Nat.add_sub_cancel_left, List.getElem?_set_self h]; rfl
 ·rw [if_neg hk]
  split
  ·rw [List.getElem?_set_ne (by omega)]
  ·rfl
theorem Xfh {s : Nat → Option Res} {K : Nat} {l : List (Option Res)} (h : ∀ x, x ∈ l → x = none) : ofL s K l = s := by
 funext k
 unfold ofL
 split
 ·cases hx : l[k - K]? with
  | none => rfl
  | some x => rw [h x (List.mem_of_getElem? hx)]; rfl
 ·rfl
theorem K2 {N K : Nat} {l : List (Option Res)} (h : Mc N (B3 K l)) {j : Nat} {r : Res} (hj : l[j]? = some (some r)) : K + j < N :=
 Ht.1 h (K + j, r) (A3.2 ⟨j, hj, rfl⟩)
theorem M5 {s : Nat → Option Res} {K : Nat} {l : List (Option Res)} (h : holds s (Xev K l)) {j : Nat} {r : Res} (hj : l[j]? = some (some r)) : s (K + j) = none :=
 Q5.1 h (K + j, none) (C3.2 ⟨rfl, j, r, hj, rfl⟩)
theorem Bf {s : Nat → Option Res} {K : Nat} {l : List (Option Res)} (h : holds s (Xfx K l)) {j : Nat} {r : Res} (hj : l[j]? = some (some r)) : s (K + j) = some r :=
 Q5.1 h (K + j, some r) (A4.2 ⟨j, r, hj, rfl⟩)
def szL (sz : Nat) (els : List (List AV)) : Prop := ∀ e, e ∈ els → e.length = sz
theorem E5 {α : Type} {sz : Nat} {f : α → List AV} (h : ∀ a, (f a).length = sz) (l : List α) : szL sz (l.map f) := fun e he => by
 obtain ⟨a, _, rfl⟩ := List.mem_map.1 he
 exact h a
theorem G1 {sz : Nat} : ∀ {els : List (List AV)}, szL sz els → els.flatten.length = els.length * sz
 | [], _ => by simp
 | x :: l, h => by
  rw [List.flatten_cons, List.length_append, h x (by simp), G1 fun e he => h e (by simp [he]), List.length_cons, Nat.succ_mul, Nat.add_comm]
theorem Xfi {sz : Nat} {els : List (List AV)} (h : szL sz els) : ∀ (i : Nat), els.flatten.drop (i * sz) = (els.drop i).flatten := by
 intro i
 induction i generalizing els with
 | zero => simp
 | succ i ih =>
  cases els with
  | nil => simp
  | cons x l =>
   have hx := h x (by simp)
   have hd : (x :: l).flatten.drop sz = l.flatten := by rw [List.flatten_cons, ← hx, List.drop_left]
   rw [Nat.succ_mul, Nat.add_comm, ← List.drop_drop, hd, List.drop_succ_cons]
   exact ih fun e he => h e (by simp [he])
theorem Xfj {sz : Nat} {els : List (List AV)} (h : szL sz els) {i : Nat} {x : List AV} (hi : els[i]? = some x) : pick true sz (els.flatten.drop (i * sz)) = some (.agg x) := by
 obtain ⟨hl, he⟩ := List.getElem?_eq_some_iff.1 hi
 have hx := h x (List.mem_of_getElem? hi)
 rw [Xfi h, List.drop_eq_getElem_cons hl, he, List.flatten_cons]
 unfold pick
 rw [if_pos rfl, if_pos (by simp [hx]), List.take_append_of_le_length (by omega), List.take_of_length_le (by omega)]
theorem Hm {sz : Nat} {els : List (List AV)} (h : szL sz els) {i j s : Nat} {x : List AV} {c : AV} (hi : els[i]? = some x) (hj : x[j]? = some c) : pick false s (els.flatten.drop (i * sz + j)) = some c := by
 obtain ⟨hl, he⟩ := List.getElem?_eq_some_iff.1 hi
 obtain ⟨hl2, he2⟩ := List.getElem?_eq_some_iff.1 hj
 have hx := h x (List.mem_of_getElem? hi)
 rw [← List.drop_drop, Xfi h, List.drop_eq_getElem_cons hl, he, List.flatten_cons, List.drop_append_of_le_length (by omega), List.drop_eq_getElem_cons hl2, he2]
 rfl
theorem Xgp {sz : Nat} {els : List (List AV)} (h : szL sz els) {i j : Nat} {x : List AV} {c : AV} (hi : els[i]? = some x) (hj : x[j]? = some c) : els.flatten[i * sz + j]? = some c := by
 have := Hm (s := 0) h hi hj
 unfold pick at this
 rw [if_neg (by decide), List.head?_drop] at this
 exact this
theorem Xf7 {sz : Nat} {els : List (List AV)} (h : szL sz els) {i : Nat} {x : List AV} (hi : els[i]? = some x) : els.flatten = (els.take i).flatten ++ (x ++ (els.drop (i + 1)).flatten) ∧ (els.take i).flatten.length = i * sz := by
 obtain ⟨hl, he⟩ := List.getElem?_eq_some_iff.1 hi
 refine ⟨?_, ?_⟩
 ·conv => lhs; rw [← List.take_append_drop i els, List.flatten_append, List.drop_eq_getElem_cons hl, he, List.flatten_cons]
 ·rw [G1 (sz := sz) fun e he => h e (List.mem_of_mem_take he), List.length_take, Nat.min_eq_left (by omega)]
theorem Xg6 {els : List (List AV)} {i : Nat} {x y : List AV} (hi : els[i]? = some x) : (els.set i y).flatten = (els.take i).flatten ++ (y ++ (els.drop (i + 1)).flatten) := by
 obtain ⟨hl, he⟩ := List.getElem?_eq_some_iff.1 hi
 rw [List.set_eq_take_append_cons_drop, if_pos hl, List.flatten_append, List.flatten_cons]
theorem Xfk {sz : Nat} {els : List (List AV)} (h : szL sz els) {i : Nat} {x y : List AV} (hi : els[i]? = some x) (hy : y.length = sz) : Yf els.flatten (i * sz) y = (els.set i y).flatten := by
 obtain ⟨h1, h2⟩ := Xf7 h hi
 have hx := h x (List.mem_of_getElem? hi)
 rw [Xg6 hi, h1]
 unfold Yf
 rw [← h2, List.take_left, List.append_assoc]
 congr 2
 rw [← List.drop_drop, List.drop_left, hy, ← hx, List.drop_left]
theorem D0 {sz : Nat} {els : List (List AV)} (h : szL sz els) {i j : Nat} {x : List AV} {c d : AV} (hi : els[i]? = some x) (hj : x[j]? = some c) : Yf els.flatten (i * sz + j) [d] = (els.set i (x.set j d)).flatten := by
 obtain ⟨h1, h2⟩ := Xf7 h hi
 obtain ⟨hl2, he2⟩ := List.getElem?_eq_some_iff.1 hj
 rw [Xg6 hi, h1]
 unfold Yf
 rw [← h2, List.take_append, List.take_of_length_le (by omega), Nat.add_sub_cancel_left, List.take_append_of_le_length (by omega), List.append_assoc, List.append_assoc]
 congr 1
 rw [List.set_eq_take_append_cons_drop, if_pos hl2, List.append_assoc, List.cons_append]
 congr 1
 show d :: _ = _
 congr 1
 rw [show (List.take i els).flatten.length + j + ([d] : List AV).length = (List.take i els).flatten.length + (j + 1) from by simp; omega, ← List.drop_drop, List.drop_left, List.drop_append_of_le_length (by omega)]
 rfl
end Go.VS
