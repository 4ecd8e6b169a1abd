/- The layer of abstract values, joined: HC. -/
import Derived.Test.YtgdhnngpfieloaaZGA
import Derived.Test.YtgdhnngpfieloaaZHB
import Derived.WalkKit
import Derived.Lib.Walk
import Derived.Lib.SliceRun
import Derived.Lib.AppendZerosOnto
section
namespace Go.Proofs.Ytgdhnngpfieloaa.Hm
set_option linter.unusedVariables false
set_option linter.unusedSimpArgs false
open Go Go.VS Tab Sha
set_option maxHeartbeats 2000000
set_option maxRecDepth 4000
def mk (key : List UInt8) (x : UInt8) (c : Nat) : List UInt8 := (key.take c).map (· ^^^ x) ++ key.drop c
end Go.Proofs.Ytgdhnngpfieloaa.Hm
end
