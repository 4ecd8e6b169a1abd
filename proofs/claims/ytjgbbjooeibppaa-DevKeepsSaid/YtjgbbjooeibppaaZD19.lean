/-
 The document's answer: what comes of a disk, byte by byte.
-/
import Derived.Test.YtjgbbjooeibppaaZGA
import Derived.Test.YtjgbbjooeibppaaZD15
namespace Go.Proofs.Ytjgbbjooeibppaa
set_option linter.unusedVariables false
set_option linter.unusedSimpArgs false
open Go Go.VS Tab
set_option maxHeartbeats 2000000
set_option maxRecDepth 4000
def kq (kp : List Int) (i : Nat) : Nat := if kp = [] then 128 else (kp.getD i 0).toNat
end Go.Proofs.Ytjgbbjooeibppaa
