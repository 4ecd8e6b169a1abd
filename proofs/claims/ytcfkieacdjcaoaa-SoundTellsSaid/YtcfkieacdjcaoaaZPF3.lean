/-
  Plans that are not great are small.
-/
import Derived.Test.YtcfkieacdjcaoaaZPJ
import Derived.Test.YtcfkieacdjcaoaaZP30
namespace Go.Proofs.Ytcfkieacdjcaoaa.Pln
set_option linter.unusedVariables false
set_option linter.unusedSimpArgs false
open Go Go.VS Tab
set_option maxHeartbeats 2000000
theorem small_of {p : Pl} (h : greatP p = false) : Sm p := by
  unfold greatP at h
  simp only [Bool.or_eq_false_iff, decide_eq_false_iff_not] at h
  obtain ⟨⟨⟨⟨h1, h2⟩, h3⟩, h4⟩, h5⟩ := h
  unfold greatS at h2
  rw [Bool.or_eq_false_iff, decide_eq_false_iff_not, List.any_eq_false] at h2
  have h6 : p.secs.length ≤ 40 := by omega
  refine ⟨h6, fun s hs => ?_, by omega, by omega, by omega, fun r hr => ?_⟩
  · have := h2.1 s (by rw [List.take_of_length_le h6]; exact hs)
    simpa using this
  · rw [List.any_eq_false] at h1
    have := h1 r (by rw [List.take_of_length_le (by omega)]; exact hr)
    simp [bigR] at this
    omega
end Go.Proofs.Ytcfkieacdjcaoaa.Pln
