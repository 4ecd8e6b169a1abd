/-
  A plan without one of its routes, told plainly.
-/
import Derived.Test.YtcfkieacdjcaoaaZW25
import Derived.Test.YtcfkieacdjcaoaaZUA
namespace Go.Proofs.Ytcfkieacdjcaoaa.Pln
set_option linter.unusedVariables false
set_option linter.unusedSimpArgs false
open Go Go.VS Tab
set_option maxHeartbeats 4000000
theorem runW_few (p : Pl) (n : Nat) (r : Rt) : ∀ i, runW (fewP p n) r i = runW p r i
  | 0 => rfl
  | i + 1 => by
    show stepW (fewP p n) r (runW (fewP p n) r i) i = stepW p r (runW p r i) i
    rw [runW_few p n r i]; rfl
theorem endW_few (p : Pl) (n : Nat) (r : Rt) : endW (fewP p n) r = endW p r := runW_few p n r _
theorem folE_few (p : Pl) (n : Nat) (r : Rt) : folE (fewP p n) r = folE p r := by unfold folE; rw [endW_few]
theorem folW_few (p : Pl) (n : Nat) (r : Rt) : folW (fewP p n) r = folW p r := by unfold folW; rw [endW_few]; rfl
theorem folO_few (p : Pl) (n : Nat) (r : Rt) : folO (fewP p n) r = folO p r := by unfold folO; rw [endW_few]
theorem soundR_few (p : Pl) (n : Nat) (r : Rt) : soundR (fewP p n) r = soundR p r := by unfold soundR; rw [folW_few, folO_few]; rfl
theorem few_sound {p : Pl} (h : soundE p = 0) (n : Nat) : soundE (fewP p n) = 0 := by
  obtain ⟨hm, hall⟩ := sound_zero h
  have hm' := few_may hm n
  have e1 : allE (fewP p n) = 0 := by
    unfold allE
    rw [hm', if_pos rfl]
    rw [show (fewP p n).rts.find? (fun r => folE (fewP p n) r != 0) = none from by
      rw [List.find?_eq_none]
      intro r hr
      have : folE (fewP p n) r = 0 := by rw [folE_few]; exact (hall r (few_mem hr)).1
      simp [this]]
  unfold soundE
  rw [if_pos ⟨e1, List.all_eq_true.2 fun r hr => by rw [soundR_few]; exact (hall r (few_mem hr)).2⟩]
end Go.Proofs.Ytcfkieacdjcaoaa.Pln
