/-
 A walk along a route: what is asked, and the section into which it comes.
-/
import Derived.Test.YtgdhnngpfieloaaGreatZP2
import Derived.Test.YtgdhnngpfieloaaGreatZP4
import Derived.Test.YtgdhnngpfieloaaGreatZGA
namespace Go.Proofs.YtgdhnngpfieloaaGreat.Pln
set_option linter.unusedVariables false
set_option linter.unusedSimpArgs false
open Go Go.VS Tab
set_option maxHeartbeats 4000000
set_option maxRecDepth 4000
theorem Jr (s : Nat → Option Res) {k j : Nat} (r q : Res) (h : k ≠ j) : Xw (Xw s k r) j q = Xw (Xw s j q) k r := by
 funext i; unfold Xw
 by_cases h1 : i = j
 ·have h2 : ¬ i = k := fun e => h (e.symm.trans h1)
  simp [h1, Ne.symm h]
 ·simp [h1]
theorem Xk {P : Program} {σ : AState} {K : AV → List (Nat × Res) → Prop} {f : FuncId} {args : List AV} {k j : Nat} {q u : Option Res} {q' u' : Res} {r : AV} (h : Xr P f args [(k, q), (j, u)] r [(k, q'), (j, u')]) (h1 : σ.look k = q) (h2 : σ.look j = u)
  (d1 : σ.dom k) (d2 : σ.dom j) (n1 : q ≠ some .dead) (n2 : u ≠ some .dead) (hK : K r [(k, q'), (j, u')]) : M8 P σ K f args :=
 ⟨_, r, _, h, ⟨h1, h2, trivial⟩, ⟨d1, d2, trivial⟩, (fun x hx => by simp at hx; rcases hx with rfl | rfl; exact ⟨d1, n1⟩; exact ⟨d2, n2⟩), hK⟩
end Go.Proofs.YtgdhnngpfieloaaGreat.Pln
