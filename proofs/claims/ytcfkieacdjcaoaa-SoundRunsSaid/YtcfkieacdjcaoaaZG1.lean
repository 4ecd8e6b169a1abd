/-
  Code in a scope, with jumps ahead to its labels: what stands behind a label is walked from there, and jumps no more.
-/
import Derived.Test.YtcfkieacdjcaoaaZVsA
namespace Go.VS
set_option linter.unusedVariables false
open Go Go.RowKit
section
variable {P : Program} {b : Frame} {a : Act} {k : List Item} {cs : List Frame} {w : World} {F : Fence} {n : Nat} {Q : Exit → Act → World → Prop}
theorem stepR_scope {c : Code} : step P (lone (b.atR a (.code (.scope c) :: k)) cs w) = .next (lone (b.atR a (.code c :: .inScope c :: k)) cs w) :=
  step_lone_go (by simp [stepG, stepG.exec, Frame.atR])
theorem stepR_inScope {c : Code} : step P (lone (b.atR a (.inScope c :: k)) cs w) = .next (lone (b.atR a k) cs w) :=
  step_lone_go (by simp [stepG, stepG.exec, Frame.atR])
def noJump (Q : Exit → Act → World → Prop) : Exit → Act → World → Prop
  | .goto _, _, _ => False
  | e, a, w => Q e a w
def jumps (F : Fence) (n : Nat) (P : Program) (c : Code) (Q : Exit → Act → World → Prop) : Exit → Act → World → Prop
  | .goto l, a, w => ∃ rest, findLabel c l = some rest ∧ rest.wpIn F n P (noJump Q) a w
  | e, a, w => Q e a w
theorem arrives_scope {c : Code} {m : Machine} {e : Exit} {a₁ : Act} {w₁ : World} (hro : b.roundOf = F.round) (hb : F.fn b.fn) (hr : F.room (cs.length + 1 + n)) (hg : ∀ l, e ≠ .goto l)
    (harr : ArrivesIn (Machine.fenced P F) P m b (.inScope c :: k) cs e a₁ w₁) : ArrivesIn (Machine.fenced P F) P m b k cs e a₁ w₁ := by
  cases e with
  | normal => exact StepsIn.trans harr (.one (fenced_calm hb hr rfl) stepR_inScope)
  | exit id =>
    have hx : exitTo id (.inScope c :: k) = exitTo id k := by simp [exitTo]
    exact ⟨fun k' hk => harr.1 k' (by rw [hx]; exact hk), fun hr' hk => harr.2 hr' (by rw [hx]; exact hk)⟩
  | goto l => exact absurd rfl (hg l)
  | ret => exact harr
  | panic ch => exact harr
  | outgrown => exact harr
theorem wpIn_scope {c : Code} (h : c.wpIn F n P (jumps F n P c Q) a w) : (Code.scope c).wpIn F n P Q a w := by
  intro b k cs hro hb hr
  have h0 : (lone (b.atR a (.code (.scope c) :: k)) cs w).fenced P F := fenced_calm hb hr rfl
  obtain ⟨e, a₁, w₁, hq, harr⟩ := h b (.inScope c :: k) cs hro hb hr
  cases e with
  | goto l =>
    obtain ⟨rest, hf, hrest⟩ := hq
    have hg : gotoIn l (.inScope c :: k) = some (.code rest :: .inScope c :: k) := by simp [gotoIn, hf]
    obtain ⟨e₂, a₂, w₂, hq₂, harr₂⟩ := hrest b (.inScope c :: k) cs hro hb hr
    have h1 := harr.1 _ hg
    cases e₂ with
    | goto l => exact hq₂.elim
    | _ => exact ⟨_, a₂, w₂, hq₂, .of_steps (.head h0 stepR_scope h1) (arrives_scope (c := c) hro hb hr (by intro l h; cases h) harr₂)⟩
  | _ => exact ⟨_, a₁, w₁, hq, .of_steps (.one h0 stepR_scope) (arrives_scope (c := c) hro hb hr (by intro l h; cases h) harr)⟩
end
section
variable {P : Program} {Q : Exit → AState → Prop} {σ : AState}
def noJumpA (Q : Exit → AState → Prop) : Exit → AState → Prop
  | .goto _, _ => False
  | e, σ => Q e σ
def jumpsA (P : Program) (c : Code) (Q : Exit → AState → Prop) : Exit → AState → Prop
  | .goto l, σ => ∃ rest, findLabel c l = some rest ∧ AWp P rest (noJumpA Q) σ
  | e, σ => Q e σ
theorem jump_to {c rest : Code} {l : Nat} (hf : findLabel c l = some rest) (h : AWp P rest (noJumpA Q) σ) : jumpsA P c Q (.goto l) σ := ⟨rest, hf, h⟩
theorem awp_scope {c : Code} (h : AWp P c (jumpsA P c Q) σ) : AWp P (.scope c) Q σ := fun ro n M a hI hs => by
  refine wpIn_scope (wpIn_mono (h ro n M a hI hs) ?_)
  rintro e a' w' ⟨M', σ', rfl, he, hI', hs', hq⟩
  cases e with
  | goto l =>
    obtain ⟨rest, hf, hrest⟩ := hq
    refine ⟨rest, hf, wpIn_mono (hrest ro n M' a' hI' hs') ?_⟩
    rintro e a2 w2 ⟨M2, σ2, rfl, he2, hI2, hs2, hq2⟩
    cases e with
    | goto l => exact hq2.elim
    | _ => exact ⟨M2, σ2, rfl, he.trans he2, hI2, hs2, hq2⟩
  | _ => exact ⟨M', σ', rfl, he, hI', hs', hq⟩
end
end Go.VS
