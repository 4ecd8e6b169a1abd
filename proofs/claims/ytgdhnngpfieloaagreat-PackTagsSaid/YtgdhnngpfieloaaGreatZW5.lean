/-
 A route followed.
-/
import Derived.Test.YtgdhnngpfieloaaGreatZW0
import Derived.WalkKit
import Derived.Lib.Walk
import Derived.Lib.SliceRun
import Derived.Lib.AppendZerosOnto
import Derived.Test.YtgdhnngpfieloaaGreatZPJ
namespace Go.Proofs.YtgdhnngpfieloaaGreat.Pln
set_option linter.unusedVariables false
set_option linter.unusedSimpArgs false
open Go Go.VS Tab
set_option maxHeartbeats 16000000
set_option maxRecDepth 8000
set_option linter.defProp false
theorem Lb {P : Program} {c : Code} {Q : Exit → AState → Prop} {σ : AState} (lE : List (Nat × AV)) (loE : List (Option Res)) (h1 : σ.le { σ with fr := X4 σ.fr lE, lo := loE }) (h : AWp P c Q { σ with fr := X4 σ.fr lE, lo := loE }) : AWp P c Q σ := Yy h1 h
end Go.Proofs.YtgdhnngpfieloaaGreat.Pln
