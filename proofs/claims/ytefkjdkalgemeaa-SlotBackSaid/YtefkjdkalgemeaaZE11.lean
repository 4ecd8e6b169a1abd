/-
  The generation behind another one.
-/
import Derived.Test.YtefkjdkalgemeaaZGA
import Derived.Test.YtefkjdkalgemeaaZE10
namespace Go.Proofs.Ytefkjdkalgemeaa
set_option linter.unusedVariables false
set_option linter.unusedSimpArgs false
open Go Go.VS Tab
set_option maxHeartbeats 16000000
set_option maxRecDepth 8000
abbrev u64 (x : Nat) : AV := .val (.int .u64 (x : Int))
end Go.Proofs.Ytefkjdkalgemeaa
