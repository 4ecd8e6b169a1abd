/-
  What a route comes to hangs on no other route, told plainly.
-/
import Derived.Test.YtdkiciofkifpdaaZW6
namespace Go.Proofs.Ytdkiciofkifpdaa.Pln
set_option linter.unusedVariables false
set_option linter.unusedSimpArgs false
open Go Go.VS Tab
set_option maxHeartbeats 4000000
theorem ofW_small {p : Pl} (hs : Sm p) (id : Int) : (ofW p id).path.length ≤ 1000000 ∧ (ofW p id).over.length ≤ 1000000 ∧ (ofW p id).asks.length ≤ 1000000 := by
  unfold ofW
  by_cases hE : rtE p id = 0
  · rw [if_pos hE]
    obtain ⟨_, hr⟩ := rtE_zero hE
    obtain ⟨b1, b2, b3⟩ := hs.rt _ hr
    unfold folW
    cases hl : (endW p (rtO p id)).lost with
    | true => rw [if_pos rfl]; exact ⟨Nat.zero_le _, Nat.zero_le _, Nat.zero_le _⟩
    | false =>
      rw [if_neg (by decide)]
      have h1 := (flkW_len (endW p (rtO p id)) (rtO p id).flanks).1
      have h2 := (runW_len p (rtO p id) ((rtO p id).path ++ (rtO p id).over).length).1
      rw [List.length_append] at h2
      have h3 : (endW p (rtO p id)).asks.length ≤ (rtO p id).path.length + (rtO p id).over.length := by unfold endW; rw [List.length_append]; exact h2
      exact ⟨by dsimp only; omega, by dsimp only; omega, by dsimp only; omega⟩
  · rw [if_neg hE]; exact ⟨Nat.zero_le _, Nat.zero_le _, Nat.zero_le _⟩
end Go.Proofs.Ytdkiciofkifpdaa.Pln
