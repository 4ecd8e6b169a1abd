/-
  A route followed.
-/
import Derived.Test.YtdkiciofkifpdaaZGA
import Derived.Test.YtdkiciofkifpdaaZW0
import Derived.WalkKit
import Derived.Lib.Walk
import Derived.Lib.SliceRun
import Derived.Lib.AppendZerosOnto
import Derived.Test.YtdkiciofkifpdaaZPJ
namespace Go.Proofs.Ytdkiciofkifpdaa.Pln
set_option linter.unusedVariables false
set_option linter.unusedSimpArgs false
open Go Go.VS Tab
set_option maxHeartbeats 16000000
set_option maxRecDepth 8000
set_option linter.defProp false
theorem kept_6 (a b c d e f : Bool) (l : List Bool) : kept (a :: b :: c :: d :: e :: f :: true :: l) 6 ↔ True := by simp [kept]
theorem kept_7 (a b c d e f g : Bool) (l : List Bool) : kept (a :: b :: c :: d :: e :: f :: g :: true :: l) 7 ↔ True := by simp [kept]
theorem kept_8 (a b c d e f g h : Bool) (l : List Bool) : kept (a :: b :: c :: d :: e :: f :: g :: h :: true :: l) 8 ↔ True := by simp [kept]
theorem kept_9 (a b c d e f g h i : Bool) (l : List Bool) : kept (a :: b :: c :: d :: e :: f :: g :: h :: i :: true :: l) 9 ↔ True := by simp [kept]
def sk := And.intro @kept_6 <| And.intro @kept_7 <| And.intro @kept_8 <| @kept_9
end Go.Proofs.Ytdkiciofkifpdaa.Pln
