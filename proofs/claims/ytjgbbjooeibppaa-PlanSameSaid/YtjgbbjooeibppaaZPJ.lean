/- The layer of abstract values, joined: PJ. -/
import Derived.Test.YtjgbbjooeibppaaZPO
section
namespace Go.Proofs.Ytjgbbjooeibppaa.Pln
set_option linter.unusedVariables false
set_option linter.unusedSimpArgs false
open Go Go.VS Tab
set_option maxHeartbeats 4000000
set_option maxRecDepth 4000
structure SmB (p : Pl) : Prop where
 secs : p.secs.length ≤ 1000
 ends : ∀ s, s ∈ p.secs → s.ends.length ≤ 20
 pts : p.pts.length ≤ 5000
 sgs : p.sgs.length ≤ 5000
 rts : p.rts.length ≤ 5000
 rt : ∀ r, r ∈ p.rts → r.path.length ≤ 5000 ∧ r.over.length ≤ 5000 ∧ r.flanks.length ≤ 5000
structure Sm (p : Pl) : Prop where
 secs : p.secs.length ≤ 40
 ends : ∀ s, s ∈ p.secs → s.ends.length ≤ 20
 pts : p.pts.length ≤ 40
 sgs : p.sgs.length ≤ 40
 rts : p.rts.length ≤ 40
 rt : ∀ r, r ∈ p.rts → r.path.length ≤ 20 ∧ r.over.length ≤ 20 ∧ r.flanks.length ≤ 20
theorem Sm.wide {p : Pl} (h : Sm p) : SmB p :=
 ⟨by have := h.secs; omega, h.ends, by have := h.pts; omega, by have := h.sgs; omega, by have := h.rts; omega, fun r hr => by have := h.rt r hr; omega⟩
end Go.Proofs.Ytjgbbjooeibppaa.Pln
end
