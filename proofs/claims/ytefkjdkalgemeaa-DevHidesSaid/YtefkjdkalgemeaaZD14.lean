/-
  Power that fails behind some writes, and again behind the rest.
-/
import Derived.Test.YtefkjdkalgemeaaZD13
namespace Go.Proofs.Ytefkjdkalgemeaa
set_option linter.unusedVariables false
set_option linter.unusedSimpArgs false
open Go Go.VS Tab
set_option maxHeartbeats 2000000
set_option maxRecDepth 4000
theorem crashE_0 {d : Dsk} {kp : List Int} : crashE d kp = 0 ↔ may d = true ∧ kp.length = d.waits.length ∧ ∀ x, x ∈ kp → 0 ≤ x ∧ x < 129 := by
  unfold crashE
  cases may d <;> simp
  by_cases h : kp.length = d.waits.length
  · rw [if_pos h]
    simp only [h, true_and]
    constructor
    · intro h'
      split at h'
      · assumption
      · cases h'
    · intro h'; rw [if_pos h']
  · rw [if_neg h]; simp [h]
theorem comesS_succ {kp : Nat → Nat} {d : Dsk} {i : Nat} (h : i < d.waits.length) : comesS kp d (i + 1) = lay (comesS kp d i) d.waits[i] (kp i) := by rw [comesS, dif_pos h]
theorem may_comes {kp : Nat → Nat} {d : Dsk} (hd : may d = true) (hk : ∀ i, i < d.waits.length → kp i ≤ 128) (ws : List Wr) (hw : ws.length ≤ 256) (hws : ∀ w, w ∈ ws → 0 ≤ w.at' ∧ w.at' < 32 ∧ w.data.length = 128) (i : Nat) : may ⟨comesS kp d i, ws⟩ = true :=
  (may_iff _).2 ⟨by rw [comesS_len]; exact ((may_iff d).1 hd).1, hw, comesS_rows hd hk i, hws⟩
abbrev kf (kp : List Int) : Nat → Nat := fun i => (kp.getD i 0).toNat
theorem kf_le {kp : List Int} (h : ∀ x, x ∈ kp → 0 ≤ x ∧ x < 129) (i : Nat) : kf kp i ≤ 128 := by
  show (kp.getD i 0).toNat ≤ 128
  rw [List.getD_eq_getElem?_getD]
  by_cases hi : i < kp.length
  · rw [List.getElem?_eq_getElem hi]
    have := h _ (List.getElem_mem hi)
    show (kp[i]).toNat ≤ 128
    omega
  · rw [List.getElem?_eq_none (by omega)]; decide
end Go.Proofs.Ytefkjdkalgemeaa
