/-
  The law DevReads.
-/
import Derived.Test.YtefkjdkalgemeaaZGA
import Derived.Test.YtefkjdkalgemeaaZD15
import Derived.Test.YtefkjdkalgemeaaZD19
namespace Go.Proofs.Ytefkjdkalgemeaa
set_option linter.unusedVariables false
set_option linter.unusedSimpArgs false
open Go Go.VS Tab
set_option maxHeartbeats 2000000
set_option maxRecDepth 4000
theorem noDsk_small : Small noDsk := ⟨by decide, by decide, fun b hb => by simp [noDsk] at hb, fun w hw => by simp [noDsk] at hw⟩
end Go.Proofs.Ytefkjdkalgemeaa
