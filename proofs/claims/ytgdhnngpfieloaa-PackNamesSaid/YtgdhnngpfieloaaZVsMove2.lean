/-
  The value-semantics layer: names within rows; a box that is written no more, wherever it is seen.
-/
import Derived.Test.YtgdhnngpfieloaaZVsMove
namespace Go.VS
set_option linter.unusedVariables false
set_option linter.unusedSimpArgs false
open Go Go.RowKit
def mvRL (keep : List Bool) (n n' : Nat) : List (Option Res) → List (Option Res) → Prop
  | [], [] => True
  | x :: l, y :: l' => mvRes keep n n' x y ∧ mvRL keep n n' l l'
  | _, _ => False
theorem mvRL_get {keep : List Bool} {n n' : Nat} : ∀ {l l' : List (Option Res)}, mvRL keep n n' l l' → l'.length = l.length ∧ ∀ i : Nat, mvRes keep n n' (l[i]?).join (l'[i]?).join
  | [], [], _ => ⟨rfl, fun i => mvRes_refl _⟩
  | x :: l, y :: l', h => by
    obtain ⟨h1, h2⟩ := mvRL_get h.2
    refine ⟨by simp [h1], fun i => ?_⟩
    cases i with
    | zero => exact h.1
    | succ i => simpa using h2 i
  | [], _ :: _, h => h.elim
  | _ :: _, [], h => h.elim
theorem mvRL_cons {keep : List Bool} {n n' : Nat} (x y : Option Res) (l l' : List (Option Res)) : mvRL keep n n' (x :: l) (y :: l') ↔ mvRes keep n n' x y ∧ mvRL keep n n' l l' := Iff.rfl
theorem mvRL_nil {keep : List Bool} {n n' : Nat} : mvRL keep n n' [] [] ↔ True := Iff.rfl
theorem mvRes_same {keep : List Bool} {n n' : Nat} (x : Option Res) : mvRes keep n n' x x ↔ True := ⟨fun _ => trivial, fun _ => mvRes_refl x⟩
theorem le_toOutL {σ : AState} {i k : Nat} {q : Res} {fr' : List AV} {lo1 : List (Option Res)} (hi : σ.lo[i]? = some (some q)) (hk : k < σ.n0) (hfree : σ.out k = none) (h : mvL [true] (σ.n + i) k σ.fr fr') (hr : mvRL [true] (σ.n + i) k σ.lo lo1) :
    σ.le { σ with fr := fr', lo := lo1.set i (zombie (some q)), out := upd1 σ.out k q } := le_toOut hi hk hfree h (mvRes_refl _) (mvRL_get hr).1 (mvRL_get hr).2
end Go.VS
