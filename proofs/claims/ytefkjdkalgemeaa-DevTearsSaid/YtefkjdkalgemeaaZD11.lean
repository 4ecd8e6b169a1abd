/-
  A disk of noughts; the laws' small functions.
-/
import Derived.Test.YtefkjdkalgemeaaZGA
import Derived.Test.YtefkjdkalgemeaaZD10
namespace Go.Proofs.Ytefkjdkalgemeaa
set_option linter.unusedVariables false
set_option linter.unusedSimpArgs false
open Go Go.VS Tab
set_option maxHeartbeats 1000000
set_option maxRecDepth 4000
def runs : List Nat → Nat → Nat
  | [], s => s
  | x :: l, s => if s ≤ 200000 then runs l (s + x) else s
theorem runs_le : ∀ (l : List Nat) (s : Nat), s ≤ runs l s
  | [], s => Nat.le_refl _
  | x :: l, s => by
    rw [runs]; split
    · have := runs_le l (s + x); omega
    · exact Nat.le_refl _
theorem runs_all : ∀ (l : List Nat) (s : Nat), runs l s ≤ 200000 → ∀ x, x ∈ l → x ≤ 200000
  | [], _, _, x, hx => by simp at hx
  | y :: l, s, h, x, hx => by
    rw [runs] at h
    split at h
    · rcases List.mem_cons.1 hx with rfl | hx
      · have := runs_le l (s + x); omega
      · exact runs_all l _ h x hx
    · omega
theorem runs_big (l : List Nat) {s : Nat} (h : ¬ s ≤ 200000) : runs l s = s := by
  cases l with
  | nil => rfl
  | cons x l => rw [runs, if_neg h]
def great (d : Dsk) : Bool := decide (runs (d.waits.map fun w => w.data.length) (runs (d.sectors.map List.length) (d.sectors.length + d.waits.length)) > 200000) || decide (d.sectors.length + d.waits.length > 600)
theorem small_of {d : Dsk} (h : great d = false) : Small d ∧ d.sectors.length + d.waits.length ≤ 600 := by
  simp only [great, Bool.or_eq_false_iff, decide_eq_false_iff_not, Nat.not_lt] at h
  obtain ⟨h1, h2⟩ := h
  have h3 := Nat.le_trans (runs_le _ _) h1
  exact ⟨⟨by omega, by omega, fun b hb => by have := runs_all _ _ h3 b.length (List.mem_map.2 ⟨b, hb, rfl⟩); omega, fun w hw => by have := runs_all _ _ h1 w.data.length (List.mem_map.2 ⟨w, hw, rfl⟩); omega⟩, by omega⟩
end Go.Proofs.Ytefkjdkalgemeaa
