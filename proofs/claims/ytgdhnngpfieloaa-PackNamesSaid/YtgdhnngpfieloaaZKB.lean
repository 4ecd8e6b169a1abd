/- The layer of abstract values, joined: KB. -/
import Derived.Test.YtgdhnngpfieloaaZKA
import Derived.Test.YtgdhnngpfieloaaZPJ
section
namespace Go.Proofs.Ytgdhnngpfieloaa.Pln
set_option linter.unusedVariables false
set_option linter.unusedSimpArgs false
open Go Go.VS
set_option maxHeartbeats 1000000
theorem z1 (n : Int) : [n].flatMap putZ = putZ n := by simp
end Go.Proofs.Ytgdhnngpfieloaa.Pln
end
section
namespace Go.Proofs.Ytgdhnngpfieloaa.Pln
set_option linter.unusedVariables false
set_option linter.unusedSimpArgs false
open Go Go.VS
set_option maxHeartbeats 1000000
theorem rdK_num {α : Type} (one : Rd α) (b : List UInt8) : ∀ (k : Nat) (s : Nat × Bool), (rdK one k b s).1.length = k
  | 0, s => rfl
  | k + 1, s => by
    show ((one b s).1 :: (rdK one k b (one b s).2).1).length = k + 1
    rw [List.length_cons, rdK_num one b k]
theorem rdK_all {α : Type} (one : Rd α) (b : List UInt8) (P : α → Prop) (h : ∀ s, P (one b s).1) : ∀ (k : Nat) (s : Nat × Bool), ∀ x, x ∈ (rdK one k b s).1 → P x
  | 0, s, x, hx => by cases hx
  | k + 1, s, x, hx => by
    have hx : x ∈ (one b s).1 :: (rdK one k b (one b s).2).1 := hx
    rcases List.mem_cons.1 hx with rfl | hx
    · exact h s
    · exact rdK_all one b P h k _ x hx
theorem rdL_num {α : Type} (one : Rd α) (b : List UInt8) (s : Nat × Bool) : (rdL one b s).1.length ≤ 99 := by
  unfold rdL rdB
  dsimp only
  by_cases h : (rdN b s).1 ≤ 99
  · rw [if_pos h, rdK_num]; omega
  · rw [if_neg h]; exact Nat.zero_le _
theorem rdL_all {α : Type} (one : Rd α) (b : List UInt8) (P : α → Prop) (h : ∀ s, P (one b s).1) (s : Nat × Bool) : ∀ x, x ∈ (rdL one b s).1 → P x := by
  unfold rdL rdB
  dsimp only
  by_cases h' : (rdN b s).1 ≤ 99
  · rw [if_pos h']; exact rdK_all one b P h _ _
  · rw [if_neg h']; intro x hx; cases hx
theorem decS_ends (b : List UInt8) (s : Nat × Bool) : (decS b s).1.ends.length ≤ 20 := by
  unfold decS rdB
  dsimp only
  split
  · exact (by decide : 3 ≤ 20)
  · exact (by decide : 2 ≤ 20)
theorem decR_num (b : List UInt8) (s : Nat × Bool) : (decR b s).1.path.length ≤ 5000 ∧ (decR b s).1.over.length ≤ 5000 ∧ (decR b s).1.flanks.length ≤ 5000 := by
  refine ⟨Nat.le_trans (rdL_num rdN b _) (by decide), Nat.le_trans (rdL_num rdN b _) (by decide), Nat.le_trans (rdL_num decJ b _) (by decide)⟩
theorem readP_sm (b : List UInt8) : SmB (readP b).1 := by
  refine ⟨Nat.le_trans (rdL_num decS b _) (by decide), ?_, Nat.le_trans (rdL_num decJ b _) (by decide), Nat.le_trans (rdL_num decG b _) (by decide), Nat.le_trans (rdL_num decR b _) (by decide), ?_⟩
  · exact rdL_all decS b (fun s => s.ends.length ≤ 20) (decS_ends b) _
  · exact rdL_all decR b (fun r => r.path.length ≤ 5000 ∧ r.over.length ≤ 5000 ∧ r.flanks.length ≤ 5000) (decR_num b) _
end Go.Proofs.Ytgdhnngpfieloaa.Pln
end
