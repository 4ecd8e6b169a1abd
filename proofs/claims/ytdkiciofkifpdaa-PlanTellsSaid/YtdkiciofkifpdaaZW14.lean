/-
  What all routes come to.
-/
import Derived.Test.YtdkiciofkifpdaaZGA
import Derived.Test.YtdkiciofkifpdaaZW5
import Derived.Test.YtdkiciofkifpdaaZPP
namespace Go.Proofs.Ytdkiciofkifpdaa.Pln
set_option linter.unusedVariables false
set_option linter.unusedSimpArgs false
open Go Go.VS Tab
set_option maxHeartbeats 8000000
set_option maxRecDepth 4000
theorem find_first {α : Type} {f : α → Bool} {l : List α} {i : Nat} (hi : i < l.length) (hf : f l[i] = true) (hq : ∀ j (hj : j < l.length), j < i → f l[j] = false) : l.find? f = some l[i] := by
  rw [List.find?_eq_some_iff_getElem]
  exact ⟨hf, i, hi, rfl, fun j hj => by simp [hq j (by omega) hj]⟩
theorem find_none' {α : Type} {f : α → Bool} {l : List α} (hq : ∀ j (hj : j < l.length), f l[j] = false) : l.find? f = none := by
  rw [List.find?_eq_none]
  intro x hx
  obtain ⟨i, hi, rfl⟩ := List.getElem_of_mem hx
  simp [hq i hi]
end Go.Proofs.Ytdkiciofkifpdaa.Pln
