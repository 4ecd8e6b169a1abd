/- The layer of abstract values, joined: PS. -/
import Derived.Test.YtgdhnngpfieloaaZGA
import Derived.Test.YtgdhnngpfieloaaZPP
import Derived.Test.YtgdhnngpfieloaaZPQ
import Derived.Test.YtgdhnngpfieloaaZP15
section
namespace Go.Proofs.Ytgdhnngpfieloaa.Pln
set_option linter.unusedVariables false
set_option linter.unusedSimpArgs false
open Go Go.VS Tab
set_option maxHeartbeats 4000000
set_option maxRecDepth 4000
def badR (p : Pl) (r : Rt) : Bool := (r.ex != 0 && (!(getG p.sgs r.ex).isSome || r.ex == r.entry)) || (r.ex == 0 && ((r.over.length : Int) != 0))
end Go.Proofs.Ytgdhnngpfieloaa.Pln
end
