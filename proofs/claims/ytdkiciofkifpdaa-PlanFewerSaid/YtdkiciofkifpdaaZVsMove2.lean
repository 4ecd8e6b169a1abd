/-
  The value-semantics layer: names within rows; a box that is written no more, wherever it is seen.
-/
import Derived.Test.YtdkiciofkifpdaaZVsMove
namespace Go.VS
set_option linter.unusedVariables false
set_option linter.unusedSimpArgs false
open Go Go.RowKit
theorem Inv.refill {M : Mem} (hI : Inv M) {s : Nat → Option Res} (h : ∀ k, M.st k = s k ∨ ∃ e cs cs', M.st k = some (.box e cs) ∧ s k = some (.box e cs') ∧ cs.length = cs'.length ∧
      ∀ vs : Array Value, M.w.heap[M.β k]? = some (.cells vs e (0, 0)) → ∀ (i : Nat) (c : AV) (v : Value), cs'[i]? = some c → vs[i]? = some v → R M c v) : Ext M (M.withSt s) ∧ Inv (M.withSt s) := by
  have ex : Ext M (M.withSt s) := by
    refine ⟨rfl, fun _ _ h => h, fun _ _ _ => rfl, fun k hk => ⟨?_, rfl⟩, fun k e sz m hk => ⟨m, ?_, Nat.le_refl _, fun _ => ⟨rfl, rfl⟩⟩, fun k e sz m cs hk => .inl ⟨m, cs, ?_, Nat.le_refl _, fun _ => ⟨rfl, rfl⟩⟩⟩
    · show isBox (s k)
      rcases h k with h1 | ⟨e, cs, cs', h1, h2, _⟩
      · rw [← h1]; exact hk
      · rw [h2]; trivial
    · show s k = _
      rcases h k with h1 | ⟨e, cs, cs', h1, h2, _⟩
      · rw [← h1]; exact hk
      · rw [h1] at hk; cases hk
    · show s k = _
      rcases h k with h1 | ⟨e, cs, cs', h1, h2, _⟩
      · rw [← h1]; exact hk
      · rw [h1] at hk; cases hk
  refine ⟨ex, ?_⟩
  have hown : ∀ k, (M.withSt s).owns k ↔ M.owns k := fun k => by
    show (match s k with | some (.box _ _) => True | some (.row _ _ _) => (M.cap k).isSome | some (.vec _ _ _ _) => (M.cap k).isSome | _ => False : Prop) ↔ _
    unfold Mem.owns
    rcases h k with h1 | ⟨e, cs, cs', h1, h2, _⟩
    · rw [h1]; exact Iff.rfl
    · rw [h1, h2]
  refine ⟨hI.below, ?_, fun k hk => hI.new k ((hown k).1 hk), fun j k hj hk => hI.inj j k ((hown j).1 hj) ((hown k).1 hk), fun b o hs => hI.stb b o hs, fun k e cs hk => ?_, fun k e sz m cap hk hc => ?_, fun k b o fr hk => ?_, fun j k b o fr o' fr' hj hk => ?_, fun k e sz m cs hk => ?_⟩
  · obtain ⟨N, hN⟩ := hI.fin
    refine ⟨N, fun k hk => ?_⟩
    show s k = none
    rcases h k with h1 | ⟨e, cs, cs', h1, h2, _⟩
    · rw [← h1]; exact hN k hk
    · rw [hN k hk] at h1; cases h1
  · have hk' : s k = some (.box e cs) := hk
    rcases h k with h1 | ⟨e1, cs1, cs', h1, h2, hl, hq⟩
    · rw [← h1] at hk'
      obtain ⟨vs, g1, g2, g3, g4, g5⟩ := hI.box k _ _ hk'
      exact ⟨vs, g1, g2, g3, fun i c v hi hv => (g4 i c v hi hv).ext ex, g5⟩
    · rw [h2] at hk'; injection hk' with hk'; injection hk' with q1 q2; subst q1; subst q2
      obtain ⟨vs, g1, g2, g3, g4, g5⟩ := hI.box k _ _ h1
      exact ⟨vs, g1, by rw [← hl]; exact g2, g3, fun i c v hi hv => (hq vs g1 i c v hi hv).ext ex, g5⟩
  · have hk' : s k = some (.row e sz m) := hk
    rcases h k with h1 | ⟨e1, cs1, cs', h1, h2, _⟩
    · rw [← h1] at hk'; exact hI.row k e sz m cap hk' hc
    · rw [h2] at hk'; cases hk'
  · have hk' : s k = some (.pin b o fr) := hk
    rcases h k with h1 | ⟨e1, cs1, cs', h1, h2, _⟩
    · rw [← h1] at hk'; exact (hI.pin k b o fr hk').ext ex (hI.pin k b o fr hk').1
    · rw [h2] at hk'; cases hk'
  · have back : ∀ {k o fr}, s k = some (.pin b o fr) → M.st k = some (.pin b o fr) := fun {k o fr} hk => by
      rcases h k with h1 | ⟨e1, cs1, cs', h1, h2, _⟩
      · rw [h1]; exact hk
      · rw [h2] at hk; cases hk
    exact hI.pinj j k b o fr o' fr' (back hj) (back hk)
  · have hk' : s k = some (.vec e sz m cs) := hk
    rcases h k with h1 | ⟨e1, cs1, cs', h1, h2, _⟩
    · rw [← h1] at hk'
      obtain ⟨g1, g2, g3⟩ := hI.vec k _ _ _ _ hk'
      refine ⟨g1, g2, fun cap hc => ?_⟩
      obtain ⟨vs, p1, p2, p3, p4, p5, p6⟩ := g3 cap hc
      exact ⟨vs, p1, p2, p3, p4, fun i c v hi hv => (p5 i c v hi hv).ext ex, p6⟩
    · rw [h2] at hk'; cases hk'
end Go.VS
