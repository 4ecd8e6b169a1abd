/-
 The law DevSplit.
-/
import Derived.Test.YtjgbbjooeibppaaZD12
import Derived.KernelRfl
namespace Go.Proofs.Ytjgbbjooeibppaa
set_option linter.unusedVariables false
set_option linter.unusedSimpArgs false
open Go Go.VS Tab
set_option maxHeartbeats 2000000
set_option maxRecDepth 4000
structure DOk (d : Dsk) : Prop where
 s : d.sectors.length ≤ Xiv
 w : d.waits.length ≤ Xiv
 sb : ∀ b, b ∈ d.sectors → b.length ≤ Xiv
 wb : ∀ w, w ∈ d.waits → w.data.length ≤ Xiv
theorem Xj6 (d : Dsk) (h : DOk d) : Xr Try.prog 11 [A2 d] [] (bool (Xjd d)) [] := Xn5 d h.s h.w h.sb h.wb
end Go.Proofs.Ytjgbbjooeibppaa
