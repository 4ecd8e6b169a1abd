/-
  The law DevSplit.
-/
import Derived.Test.YtefkjdkalgemeaaZGA
import Derived.Test.YtefkjdkalgemeaaZD14
namespace Go.Proofs.Ytefkjdkalgemeaa
set_option linter.unusedVariables false
set_option linter.unusedSimpArgs false
open Go Go.VS Tab
set_option maxHeartbeats 2000000
set_option maxRecDepth 4000
structure DOk (d : Dsk) : Prop where
  s : d.sectors.length ≤ reach
  w : d.waits.length ≤ reach
  sb : ∀ b, b ∈ d.sectors → b.length ≤ reach
  wb : ∀ w, w ∈ d.waits → w.data.length ≤ reach
theorem c_great' (d : Dsk) (h : DOk d) : ACall Try.prog 18 [dskA d] [] (bool (great d)) [] := c_great d h.s h.w h.sb h.wb
end Go.Proofs.Ytefkjdkalgemeaa
