/-
 A disk of noughts; the laws' small functions.
-/
import Derived.Test.YtjgbbjooeibppaaZD10
namespace Go.Proofs.Ytjgbbjooeibppaa
set_option linter.unusedVariables false
set_option linter.unusedSimpArgs false
open Go Go.VS Tab
set_option maxHeartbeats 1000000
set_option maxRecDepth 4000
def Xiu : List Nat → Nat → Nat
 | [], s => s
 | x :: l, s => if s ≤ 200000 then Xiu l (s + x) else s
theorem Xks : ∀ (l : List Nat) (s : Nat), s ≤ Xiu l s
 | [], s => Nat.le_refl _
 | x :: l, s => by
  rw [Xiu]; split
  ·have := Xks l (s + x); omega
  ·exact Nat.le_refl _
theorem Xjv : ∀ (l : List Nat) (s : Nat), Xiu l s ≤ 200000 → ∀ x, x ∈ l → x ≤ 200000
 | [], _, _, x, hx => by simp at hx
 | y :: l, s, h, x, hx => by
  rw [Xiu] at h
  split at h
  ·rcases List.mem_cons.1 hx with rfl | hx
   ·have := Xks l (s + x); omega
   ·exact Xjv l _ h x hx
  ·omega
theorem Xl5 (l : List Nat) {s : Nat} (h : ¬ s ≤ 200000) : Xiu l s = s := by
 cases l with
 | nil => rfl
 | cons x l => rw [Xiu, if_neg h]
def Xjd (d : Dsk) : Bool := decide (Xiu (d.waits.map fun w => w.data.length) (Xiu (d.sectors.map List.length) (d.sectors.length + d.waits.length)) > 200000) || decide (d.sectors.length + d.waits.length > 600)
theorem X0a {d : Dsk} (h : Xjd d = false) : Small d ∧ d.sectors.length + d.waits.length ≤ 600 := by
 simp only [Xjd, Bool.or_eq_false_iff, decide_eq_false_iff_not, Nat.not_lt] at h
 obtain ⟨h1, h2⟩ := h
 have h3 := Nat.le_trans (Xks _ _) h1
 exact ⟨⟨by omega, by omega, fun b hb => by have := Xjv _ _ h3 b.length (List.mem_map.2 ⟨b, hb, rfl⟩); omega, fun w hw => by have := Xjv _ _ h1 w.data.length (List.mem_map.2 ⟨w, hw, rfl⟩); omega⟩, by omega⟩
end Go.Proofs.Ytjgbbjooeibppaa
