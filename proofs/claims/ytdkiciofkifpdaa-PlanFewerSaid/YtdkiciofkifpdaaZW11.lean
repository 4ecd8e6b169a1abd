/-
  What a route comes to hangs on no other route, told plainly.
-/
import Derived.Test.YtdkiciofkifpdaaZWD
namespace Go.Proofs.Ytdkiciofkifpdaa.Pln
set_option linter.unusedVariables false
set_option linter.unusedSimpArgs false
open Go Go.VS Tab
set_option maxHeartbeats 4000000
theorem allP_pair {α : Type} {b : α → Bool} {c : α → α → Bool} {l : List α} : allP (fun pre x => b x && pre.all fun y => c y x) l = true ↔ (∀ x, x ∈ l → b x = true) ∧ l.Pairwise fun y x => c y x = true := by
  rw [allP_iff, List.pairwise_iff_getElem]
  constructor
  · intro h
    refine ⟨fun x hx => ?_, fun i j hi hj hij => ?_⟩
    · obtain ⟨i, hi, rfl⟩ := List.getElem_of_mem hx
      have := h i hi
      rw [Bool.and_eq_true] at this
      exact this.1
    · have := h j hj
      rw [Bool.and_eq_true, List.all_eq_true] at this
      exact this.2 _ (mem_take_of hij hi)
  · rintro ⟨h1, h2⟩ i hi
    rw [Bool.and_eq_true, List.all_eq_true]
    refine ⟨h1 _ (List.getElem_mem hi), fun y hy => ?_⟩
    rw [List.mem_take_iff_getElem] at hy
    obtain ⟨j, hj, rfl⟩ := hy
    exact h2 j i (by omega) hi (by omega)
theorem rises_eq : rises = fun pre n => numb n && pre.all fun k => decide (k < n) := rfl
end Go.Proofs.Ytdkiciofkifpdaa.Pln
