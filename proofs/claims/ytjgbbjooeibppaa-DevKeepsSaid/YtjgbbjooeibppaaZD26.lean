/-
 The document's answer: what a crash leaves.
-/
import Derived.Test.YtjgbbjooeibppaaZD24
namespace Go.Proofs.Ytjgbbjooeibppaa
set_option linter.unusedVariables false
set_option linter.unusedSimpArgs false
open Go Go.VS Tab
set_option maxHeartbeats 2000000
set_option maxRecDepth 4000
def okp (x : Int) : Bool := decide (0 ≤ x) && decide (x < 129)
def ce (d : Dsk) (kp : List Int) (i : Nat) : Int := if may d then (if (kp.take i).all okp then 0 else 2) else 8
end Go.Proofs.Ytjgbbjooeibppaa
