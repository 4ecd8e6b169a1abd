/-
  Power that fails behind some writes, and again behind the rest.
-/
import Derived.Test.YtefkjdkalgemeaaZD13
namespace Go.Proofs.Ytefkjdkalgemeaa
set_option linter.unusedVariables false
set_option linter.unusedSimpArgs false
open Go Go.VS Tab
set_option maxHeartbeats 2000000
set_option maxRecDepth 4000
theorem eqBy_refl {α : Type} {p : α → α → Bool} (hp : ∀ x, p x x = true) : ∀ l : List α, eqBy p l l = true
  | [] => rfl
  | x :: l => by rw [eqBy, hp, eqBy_refl hp l]; rfl
theorem sameB_refl (a : Dsk) : sameB a a = true := by
  unfold sameB
  rw [eqBy_refl (by intro x; simp), eqBy_refl (by intro x; simp)]; rfl
theorem comesS_succ {kp : Nat → Nat} {d : Dsk} {i : Nat} (h : i < d.waits.length) : comesS kp d (i + 1) = lay (comesS kp d i) d.waits[i] (kp i) := by rw [comesS, dif_pos h]
end Go.Proofs.Ytefkjdkalgemeaa
