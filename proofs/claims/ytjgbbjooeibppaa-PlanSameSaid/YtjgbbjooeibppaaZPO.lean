/- The layer of abstract values, joined: PO. -/
import Derived.Test.YtjgbbjooeibppaaZP2
import Derived.Test.YtjgbbjooeibppaaZPR
section
namespace Go.Proofs.Ytjgbbjooeibppaa.Pln
set_option linter.unusedVariables false
set_option linter.unusedSimpArgs false
open Go Go.VS Tab
set_option maxHeartbeats 4000000
set_option maxRecDepth 4000
def mark (pre : List (Int × Int × Int)) (q : Nat) : Bool := pre.any fun y => y.2.1 * 3 + y.2.2 == (q : Int)
end Go.Proofs.Ytjgbbjooeibppaa.Pln
end
