/-
  Plain: the generation behind another one.
-/
import Derived.Test.YtefkjdkalgemeaaZE1
namespace Go.Proofs.Ytefkjdkalgemeaa
set_option linter.unusedVariables false
set_option linter.unusedSimpArgs false
open Go Go.VS Tab
set_option maxHeartbeats 1000000
def stepN (n next : Nat) : Nat := if next ≤ n then next + (n - next + 2) / 2 * 2 else next
def headB (b : List UInt8) : BitVec 32 := getB (b.take 4)
def tailB (b : List UInt8) : BitVec 32 := getB (b.drop 124)
def nextS (d : Dsk) (s g : Nat) : Nat → Nat
  | 0 => g
  | i + 1 => stepN (tailB (readB d ((s + i : Nat) : Int))).toNat (stepN (headB (readB d ((s + i : Nat) : Int))).toNat (nextS d s g i))
theorem stepN_keep {n g : Nat} (h : n < g) : stepN n g = g := by unfold stepN; rw [if_neg (by omega)]
theorem nextS_keep (d : Dsk) (s g : Nat) : ∀ j, (∀ i, i < j → (headB (readB d ((s + i : Nat) : Int))).toNat < g ∧ (tailB (readB d ((s + i : Nat) : Int))).toNat < g) → nextS d s g j = g
  | 0, _ => rfl
  | j + 1, h => by
    obtain ⟨h1, h2⟩ := h j (by omega)
    rw [nextS, nextS_keep d s g j fun i hi => h i (by omega), stepN_keep h1, stepN_keep h2]
def nextN (d : Dsk) (g : BitVec 32) : Nat := nextS d (slotN (g + 1)) (g.toNat + 1) 16
def nextE (d : Dsk) (g : BitVec 32) : Int := if may d then (if 4294967295 < nextN d g then 9 else 0) else 8
def nextW (d : Dsk) (g : BitVec 32) : BitVec 32 := if nextE d g = 0 then BitVec.ofNat 32 (nextN d g) else 0
theorem nextE_0 {d : Dsk} {g : BitVec 32} : nextE d g = 0 ↔ may d = true ∧ nextN d g ≤ 4294967295 := by
  unfold nextE
  cases may d
  · simp
  · by_cases h : 4294967295 < nextN d g
    · have h' : ¬ nextN d g ≤ 4294967295 := by omega
      simp [h, h']
    · have h' : nextN d g ≤ 4294967295 := by omega
      simp [h, h']
theorem slot_succ (g : BitVec 32) : slotN (g + 1) = (g.toNat + 1) % 2 * 16 := by
  unfold slotN
  have e : (g + 1).toNat = (g.toNat + 1) % 4294967296 := by rw [BitVec.toNat_add]; rfl
  rw [e]; omega
end Go.Proofs.Ytefkjdkalgemeaa
