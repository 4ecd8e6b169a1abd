/- The layer of abstract values, joined: KG. -/
import Derived.Test.YtgdhnngpfieloaaGreatZKF
import Derived.Test.YtgdhnngpfieloaaGreatZR5
section
namespace Go.Proofs.YtgdhnngpfieloaaGreat.Pln
set_option linter.unusedVariables false
set_option linter.unusedSimpArgs false
open Go Go.VS
set_option maxHeartbeats 1000000
theorem Xdv {key b : List UInt8} (h : Xau key b = 0) : key.length ≤ 64 ∧ Uf (Xav key b) = true ∧ Wg (Xav key b) ++ Hm.Xaa key (Wg (Xav key b)) = b := by
 have hD : Xav key b = (V6 (Xab b)).1 := if_pos h
 unfold Xau at h
 split at h
 ·cases h
 ·rename_i h1
  split at h
  ·cases h
  ·rename_i h2
   split at h
   ·rename_i h3
    split at h
    ·rename_i h4
     obtain ⟨q1, q2⟩ := Kg h4
     rw [hD]
     refine ⟨by omega, q1, ?_⟩
     rw [q2]
     unfold Xbt at h3
     rw [beq_iff_eq] at h3
     rw [h3]
     exact List.take_append_drop _ _
    ·cases h
   ·cases h
theorem Xd7 (key b : List UInt8) : Sm (Xav key b) := by
 by_cases h : Xau key b = 0
 ·exact X20 (Xdv h).2.1
 ·unfold Xav
  rw [if_neg h]
  exact ⟨by decide, by decide, by decide, by decide, by decide, by decide⟩
end Go.Proofs.YtgdhnngpfieloaaGreat.Pln
end
