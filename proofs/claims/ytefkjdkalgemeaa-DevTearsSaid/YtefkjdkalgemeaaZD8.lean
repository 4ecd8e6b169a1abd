/-
  Disks copied; writes put behind.
-/
import Derived.Test.YtefkjdkalgemeaaZGA
import Derived.Test.YtefkjdkalgemeaaZD7
namespace Go.Proofs.Ytefkjdkalgemeaa
set_option linter.unusedVariables false
set_option linter.unusedSimpArgs false
open Go Go.VS Tab
set_option maxHeartbeats 1000000
set_option maxRecDepth 4000
structure Small (d : Dsk) : Prop where
  s : d.sectors.length ≤ 1000
  w : d.waits.length ≤ 1000
  sb : ∀ b, b ∈ d.sectors → b.length ≤ 1000000
  wb : ∀ w, w ∈ d.waits → w.data.length ≤ 1000000
def noDsk : Dsk := ⟨[], []⟩
end Go.Proofs.Ytefkjdkalgemeaa
