/- The layer of abstract values, joined: WD. -/
import Derived.Test.YtjgbbjooeibppaaZGA
import Derived.Test.YtjgbbjooeibppaaZP2
import Derived.WalkKit
import Derived.Lib.Walk
import Derived.Lib.SliceRun
import Derived.Lib.AppendZerosOnto
import Derived.Test.YtjgbbjooeibppaaZPJ
section
namespace Go.Proofs.Ytjgbbjooeibppaa.Pln
set_option linter.unusedVariables false
set_option linter.unusedSimpArgs false
open Go Go.VS Tab
set_option maxHeartbeats 8000000
set_option maxRecDepth 8000
theorem Js (a b : Int × Int × Int) : Nk [i64 a.1, i64 a.2.1, i64 a.2.2] [i64 b.1, i64 b.2.1, i64 b.2.2] = some (a == b) := by
 have : (a == b) = (a.1 == b.1 && (a.2.1 == b.2.1 && a.2.2 == b.2.2)) := rfl
 rw [this]; simp [Nk]
end Go.Proofs.Ytjgbbjooeibppaa.Pln
end
