/-
  The law DevTears.
-/
import Derived.Test.YtefkjdkalgemeaaZD29
import Derived.Test.YtefkjdkalgemeaaZD28
import Derived.Test.YtefkjdkalgemeaaZGA
import Derived.Test.YtefkjdkalgemeaaZD19
import Derived.Test.YtefkjdkalgemeaaZVsBox
import Derived.Test.YtefkjdkalgemeaaZD25
namespace Go.Proofs.Ytefkjdkalgemeaa
set_option linter.unusedVariables false
set_option linter.unusedSimpArgs false
open Go Go.VS Tab
set_option maxHeartbeats 4000000
set_option maxRecDepth 4000
theorem spoilD_small {d : Dsk} {a b : Int} {x : UInt8} (hd : Small d) : Small (spoilD d a b x) := by
  unfold spoilD
  split
  · rename_i hE
    obtain ⟨hm, ⟨ha1, ha2⟩, hb1, hb2⟩ := spoilE_0.1 hE
    obtain ⟨h32, hw, hs, _⟩ := (may_iff d).1 hm
    refine ⟨by show (turnS _ _ _ _).length ≤ _; unfold turnS; rw [List.length_set]; exact hd.s, hd.w, fun r hr => ?_, hd.wb⟩
    unfold turnS at hr
    rcases List.mem_or_eq_of_mem_set hr with h | h
    · exact hd.sb r h
    · rw [h, turnL_len]
      have hz : a.toNat < d.sectors.length := by omega
      have : d.sectors.getD a.toNat [] = d.sectors[a.toNat] := by simp [List.getD_eq_getElem?_getD, hz]
      rw [this]; exact hd.sb _ (List.getElem_mem hz)
  · exact noDsk_small
end Go.Proofs.Ytefkjdkalgemeaa
