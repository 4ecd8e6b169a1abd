/-
  A walk along a route: what is asked, and the section into which it comes.
-/
import Derived.Test.YtdkiciofkifpdaaZGA
import Derived.Test.YtdkiciofkifpdaaZP2
import Derived.Test.YtdkiciofkifpdaaZP4
namespace Go.Proofs.Ytdkiciofkifpdaa.Pln
set_option linter.unusedVariables false
set_option linter.unusedSimpArgs false
open Go Go.VS Tab
set_option maxHeartbeats 4000000
set_option maxRecDepth 4000
theorem call_boxed {P : Program} {σ : AState} {K : AV → List (Nat × Res) → Prop} {f : FuncId} {args : List AV} {k : Nat} {e : TypeId} {cs : List AV} {q' : Res} {r : AV} (h : ACall P f args [(k, some (.box e cs))] r [(k, q')]) (h1 : σ.look k = some (.box e cs)) (h2 : σ.dom k) (hK : K r [(k, q')]) : evCall P σ K f args :=
  call_one h h1 h2 (by simp) hK
end Go.Proofs.Ytdkiciofkifpdaa.Pln
