/-
  Plain: the generation behind another one.
-/
import Derived.Test.YtefkjdkalgemeaaZE1
namespace Go.Proofs.Ytefkjdkalgemeaa
set_option linter.unusedVariables false
set_option linter.unusedSimpArgs false
open Go Go.VS Tab
set_option maxHeartbeats 1000000
def stepN (n next : Nat) : Nat := if next ≤ n then next + (n - next + 2) / 2 * 2 else next
def headB (b : List UInt8) : BitVec 32 := getB (b.take 4)
def tailB (b : List UInt8) : BitVec 32 := getB (b.drop 124)
def nextS (d : Dsk) (s g : Nat) : Nat → Nat
  | 0 => g
  | i + 1 => stepN (tailB (readB d ((s + i : Nat) : Int))).toNat (stepN (headB (readB d ((s + i : Nat) : Int))).toNat (nextS d s g i))
theorem stepN_le (n g : Nat) : g ≤ stepN n g := by unfold stepN; split <;> omega
theorem stepN_mod (n g : Nat) : stepN n g % 2 = g % 2 := by unfold stepN; split <;> omega
theorem stepN_lt (n g : Nat) : n < stepN n g := by unfold stepN; split <;> omega
theorem stepN_near (n g : Nat) : stepN n g = g ∨ stepN n g ≤ n + 2 := by unfold stepN; split <;> omega
theorem nextS_le (d : Dsk) (s g : Nat) : ∀ {i j}, i ≤ j → nextS d s g i ≤ nextS d s g j := by
  intro i j h
  induction h with
  | refl => exact Nat.le_refl _
  | step _ ih => exact Nat.le_trans ih (Nat.le_trans (stepN_le _ _) (stepN_le _ _))
theorem nextS_mod (d : Dsk) (s g : Nat) : ∀ i, nextS d s g i % 2 = g % 2
  | 0 => rfl
  | i + 1 => by rw [nextS, stepN_mod, stepN_mod, nextS_mod d s g i]
theorem nextS_head (d : Dsk) (s g : Nat) {i j : Nat} (h : i < j) : (headB (readB d ((s + i : Nat) : Int))).toNat < nextS d s g j :=
  Nat.lt_of_lt_of_le (Nat.lt_of_lt_of_le (stepN_lt _ _) (stepN_le _ _)) (nextS_le d s g (i := i + 1) h)
theorem nextS_tail (d : Dsk) (s g : Nat) {i j : Nat} (h : i < j) : (tailB (readB d ((s + i : Nat) : Int))).toNat < nextS d s g j :=
  Nat.lt_of_lt_of_le (stepN_lt _ _) (nextS_le d s g (i := i + 1) h)
theorem nextS_near (d : Dsk) (s g : Nat) : ∀ j, nextS d s g j = g ∨ ∃ i, i < j ∧ (nextS d s g j ≤ (headB (readB d ((s + i : Nat) : Int))).toNat + 2 ∨ nextS d s g j ≤ (tailB (readB d ((s + i : Nat) : Int))).toNat + 2)
  | 0 => .inl rfl
  | j + 1 => by
    have e : nextS d s g (j + 1) = stepN (tailB (readB d ((s + j : Nat) : Int))).toNat (stepN (headB (readB d ((s + j : Nat) : Int))).toNat (nextS d s g j)) := rfl
    rcases stepN_near (tailB (readB d ((s + j : Nat) : Int))).toNat (stepN (headB (readB d ((s + j : Nat) : Int))).toNat (nextS d s g j)) with h | h
    · rw [h] at e
      rcases stepN_near (headB (readB d ((s + j : Nat) : Int))).toNat (nextS d s g j) with h' | h'
      · rw [h'] at e
        rw [e]
        rcases nextS_near d s g j with h2 | ⟨i, hi, h2⟩
        · exact .inl h2
        · exact .inr ⟨i, by omega, h2⟩
      · rw [e]; exact .inr ⟨j, by omega, .inl h'⟩
    · rw [e]; exact .inr ⟨j, by omega, .inr h⟩
def nextN (d : Dsk) (g : BitVec 32) : Nat := nextS d (slotN (g + 1)) (g.toNat + 1) 16
def nextE (d : Dsk) (g : BitVec 32) : Int := if may d then (if 4294967295 < nextN d g then 9 else 0) else 8
def nextW (d : Dsk) (g : BitVec 32) : BitVec 32 := if nextE d g = 0 then BitVec.ofNat 32 (nextN d g) else 0
theorem nextE_0 {d : Dsk} {g : BitVec 32} : nextE d g = 0 ↔ may d = true ∧ nextN d g ≤ 4294967295 := by
  unfold nextE
  cases may d
  · simp
  · by_cases h : 4294967295 < nextN d g
    · have h' : ¬ nextN d g ≤ 4294967295 := by omega
      simp [h, h']
    · have h' : nextN d g ≤ 4294967295 := by omega
      simp [h, h']
theorem nextW_nat {d : Dsk} {g : BitVec 32} (h : nextE d g = 0) : (nextW d g).toNat = nextN d g := by
  have := (nextE_0.1 h).2
  unfold nextW
  rw [if_pos h, BitVec.toNat_ofNat]; omega
theorem slot_succ (g : BitVec 32) : slotN (g + 1) = (g.toNat + 1) % 2 * 16 := by
  unfold slotN
  have e : (g + 1).toNat = (g.toNat + 1) % 4294967296 := by rw [BitVec.toNat_add]; rfl
  rw [e]; omega
theorem next_slot {d : Dsk} {g : BitVec 32} (h : nextE d g = 0) : slotN (nextW d g) = slotN (g + 1) := by
  have e : slotN (nextW d g) = (nextW d g).toNat % 2 * 16 := rfl
  rw [e, nextW_nat h, slot_succ]
  unfold nextN
  rw [nextS_mod]
theorem next_gt {d : Dsk} {g : BitVec 32} (h : nextE d g = 0) : g.toNat < (nextW d g).toNat := by
  rw [nextW_nat h]
  have := nextS_le d (slotN (g + 1)) (g.toNat + 1) (Nat.zero_le 16)
  unfold nextN
  exact Nat.lt_of_succ_le this
theorem next_turns {d : Dsk} {g : BitVec 32} (h : nextE d g = 0) : slotN (nextW d g) ≠ slotN g := by
  rw [next_slot h, slot_succ]
  unfold slotN
  omega
end Go.Proofs.Ytefkjdkalgemeaa
