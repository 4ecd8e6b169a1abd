/- The layer of abstract values, joined: PS. -/
import Derived.Test.YtjgbbjooeibppaaZPJ
import Derived.Test.YtjgbbjooeibppaaZPQ
import Derived.Test.YtjgbbjooeibppaaZP15
import Derived.Test.YtjgbbjooeibppaaZGA
section
namespace Go.Proofs.Ytjgbbjooeibppaa.Pln
set_option linter.unusedVariables false
set_option linter.unusedSimpArgs false
open Go Go.VS Tab
set_option maxHeartbeats 4000000
set_option maxRecDepth 4000
def X0c (p : Pl) (r : Rt) : Bool := (r.ex != 0 && (!(Vy p.sgs r.ex).isSome || r.ex == r.entry)) || (r.ex == 0 && ((r.over.length : Int) != 0))
end Go.Proofs.Ytjgbbjooeibppaa.Pln
end
