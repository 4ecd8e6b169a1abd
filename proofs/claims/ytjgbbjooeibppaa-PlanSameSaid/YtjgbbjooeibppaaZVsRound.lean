/-
 The value-semantics layer, part 9b: ranges over functions: the loop's records, a round, the statement, the function's end.
-/
import Derived.Test.YtjgbbjooeibppaaZVsB
import Derived.RangeFuncLeaves
namespace Go.VS
set_option linter.unusedVariables false
set_option linter.unusedSimpArgs false
open Go Go.RowKit
section
variable {M : Mem}
def Mem.kill (M : Mem) (k : Nat) : Mem := { M with st := Xw M.st k .dead }
theorem Ext.kill {k b : Nat} {o : Obj} {fr : List AV} (hk : M.st k = some (.pin b o fr)) : Ext M (M.kill k) := by
 refine ⟨rfl, fun _ _ h => h, fun _ _ _ => rfl, fun j hj => ?_, fun j t sz m hj => ?_, fun j t s m cs hj => by
  have hne : j ≠ k := by rintro rfl; rw [hk] at hj; cases hj
  exact .inl ⟨m, cs, by simp [Mem.kill, Xw, hne, hj], Nat.le_refl _, fun _ => ⟨rfl, rfl⟩⟩⟩
 ·have hne : j ≠ k := by rintro rfl; rw [hk] at hj; exact hj
  simp [Mem.kill, Xw, hne, hj]
 ·have hne : j ≠ k := by rintro rfl; rw [hk] at hj; cases hj
  exact ⟨m, by simp [Mem.kill, Xw, hne, hj], Nat.le_refl _, fun _ => ⟨rfl, rfl⟩⟩
theorem Inv.kill (hI : Inv M) {k b : Nat} {o : Obj} {fr : List AV} (hk : M.st k = some (.pin b o fr)) : Inv (M.kill k) := by
 have ex := Ext.kill hk
 have hown : ∀ j, (M.kill k).owns j → j ≠ k ∧ M.owns j := fun j hj => by
  by_cases e' : j = k
  ·subst e'; simp [Mem.owns, Mem.kill, Xw] at hj
  ·exact ⟨e', by simpa [Mem.owns, Mem.kill, Xw, e'] using hj⟩
 refine ⟨hI.below, ?_, fun j hj => hI.new j (hown j hj).2, fun i j hi hj => hI.inj i j (hown i hi).2 (hown j hj).2, hI.stb, fun j t ds hj => ?_, fun j t sz m c hj hcap => ?_, fun j c o' fr' hj => (hI.pin j c o' fr' (Y1 hj (by simp))).ext ex (hI.pin j c o' fr' (Y1 hj (by simp))).1, fun i j c o' fr' o'' fr'' hi hj => hI.pinj i j c _ _ _ _ (Y1 hi (by simp)) (Y1 hj (by simp)), fun j t sz m cs hj => hI.vec_keep ex (Yx hj (by simp)).1 rfl rfl (fun _ => rfl) (fun _ _ h => h)⟩
 ·obtain ⟨N, hN⟩ := hI.fin
  exact ⟨max N (k + 1), fun j hj => by
   have : j ≠ k := by omega
   simp [Mem.kill, Xw, this, hN j (by omega)]⟩
 ·have e' : j ≠ k := by rintro rfl; simp [Mem.kill, Xt] at hj
  have hj' : M.st j = some (.box t ds) := by simpa [Mem.kill, Xw, e'] using hj
  obtain ⟨ws, g1, g2, g3, g4, g5⟩ := hI.box j t ds hj'
  exact ⟨ws, g1, g2, g3, fun i c v hi hv => (g4 i c v hi hv).ext ex, g5⟩
 ·have e' : j ≠ k := by rintro rfl; simp [Mem.kill, Xt] at hj
  have hj' : M.st j = some (.row t sz m) := by simpa [Mem.kill, Xw, e'] using hj
  exact hI.row j t sz m c hj' hcap
end
def X6t (P : Program) (l : Nat) (args : List AV) (needs : List (Nat × Option Res)) (r : AV) (gives : List (Nat × Res)) : Prop :=
 ∀ (M : Mem) (N : Nat) (vs : Array Value), Inv M → RL M args vs → holds M.st needs → (∀ k, N ≤ k → M.st k = none) → Mc N gives →
  Wr P (fun v w' => Sf M N gives r v w') ((Instr.yield l vs).run P M.w)
theorem Jn {P : Program} {d : Option Tmp} {ty : TypeId} {pos : String} {aft : Array Edge} {gd : Option (Nat × Bool)} {ρA : Operand → AV} {x : Operand} {l : Nat} {args : Array Operand} {ats : Array TypeId} {needs : List (Nat × Option Res)} {r : AV} {gives : List (Nat × Res)}
  (hx : ρA x = .fn (.yield l) []) (h : X6t P l (args.toList.map ρA) needs r gives) : AOk P ⟨d, .call { callee := .value x, args := args, argTypes := ats }, ty, pos, aft, gd⟩ ρA needs r gives :=
 ⟨(by intro _ _ h; cases h), fun M N ρ hI hρ _ _ hneeds hN hu => by
  have h1 := hρ x (by simp [Op.operands, Call.operands])
  rw [hx] at h1
  generalize hv : ρ x = v at h1
  cases h1 with
  | fn f' caps vs hl hc =>
   have hnil : vs = #[] := Array.eq_empty_of_size_eq_zero (by simpa using hl.symm)
   subst hnil
   have hrun : (execOp ρ ⟨d, .call { callee := .value x, args := args, argTypes := ats }, ty, pos, aft, gd⟩).run P M.w = (Instr.yield l (args.map ρ)).run P M.w := by
    simp [execOp, resolve, Deferred.ofValue, hv, invoke]
   rw [hrun]
   refine h M N (args.map ρ) hI ⟨by simp, fun i c u hi hu' => ?_⟩ hneeds hN hu
   simp only [List.getElem?_map, Array.getElem?_toList] at hi
   simp only [Array.getElem?_map] at hu'
   cases ha : args[i]? with
   | none => rw [ha] at hi; cases hi
   | some y =>
    rw [ha] at hi hu'
    injection hi with hi; injection hu' with hu'
    subst hi; subst hu'
    have hmem : y ∈ args := Array.mem_of_getElem? ha
    exact hρ _ (by simp [Op.operands, Call.operands, hmem])⟩
theorem RL.set {M : Mem} {fr : List AV} {tmps : Array Value} (h : RL M fr tmps) (t : Tmp) {x : AV} {v : Value} (hx : R M x v) : RL M (fr.set t x) (tmps.setIfInBounds t v) := by
 refine ⟨by simp [h.1], fun i c u hi hu => ?_⟩
 by_cases ht : t = i
 ·subst ht
  rcases Nat.lt_or_ge t fr.length with hl | hl
  ·rw [List.getElem?_set_self hl] at hi
   rw [Array.getElem?_setIfInBounds_self_of_lt (by rw [← h.1]; exact hl)] at hu
   injection hi with hi; injection hu with hu
   subst hi; subst hu; exact hx
  ·rw [List.getElem?_eq_none (by simpa using hl)] at hi; cases hi
 ·rw [List.getElem?_set_ne ht] at hi
  rw [Array.getElem?_setIfInBounds_ne ht] at hu
  exact h.2 i c u hi hu
def Cv (P : Program) (c : Code) (Q : Exit → AState → Prop) (σ : AState) : Prop :=
 ∀ (n : Nat) (M : Mem) (a : Act), Inv M → Sim M a σ → c.wpIn (FR none) n P (Ln M Q) a M.w
section
variable {P : Program} {Q : Exit → AState → Prop} {σ : AState}
theorem AWp.zero {c : Code} (h : AWp P c Q σ) : Cv P c Q σ := fun n M a hI hs => h none n M a hI hs
end
end Go.VS
