/- The layer of abstract values, joined: HB. -/
import Derived.Test.YtgdhnngpfieloaaZGA
import Derived.Test.YtgdhnngpfieloaaZTab
import Derived.Test.YtgdhnngpfieloaaZHA
section
namespace Go.Proofs.Ytgdhnngpfieloaa.Hm
set_option linter.unusedVariables false
set_option linter.unusedSimpArgs false
open Go Go.VS Tab Sha
set_option maxHeartbeats 1000000
def X7t (b : List UInt8) (m i : Nat) : List UInt8 := (b.drop (m * i)).take m
end Go.Proofs.Ytgdhnngpfieloaa.Hm
end
section
namespace Go.Proofs.Ytgdhnngpfieloaa.Hm
set_option linter.unusedVariables false
set_option linter.unusedSimpArgs false
open Go Go.VS Tab Sha
set_option maxHeartbeats 1000000
def hs (b : List UInt8) : Nat → V8
 | 0 => X5e
 | i + 1 => block (hs b i) (X7t b 64 i)
end Go.Proofs.Ytgdhnngpfieloaa.Hm
end
