/-
  Functions of Go's library over lists: whether lists are alike.
-/
import Derived.Test.YtgdhnngpfieloaaZP2
namespace Go.Proofs.Ytgdhnngpfieloaa.Pln
set_option linter.unusedVariables false
set_option linter.unusedSimpArgs false
open Go Go.VS Tab
set_option maxHeartbeats 1000000
set_option maxRecDepth 4000
theorem evEq_jn (a b : Int × Int) : evEq [i64 a.1, i64 a.2] [i64 b.1, i64 b.2] = some (a == b) := by
  rw [jn_eq]; simp [evEq]
def eqBy {α β : Type} (p : α → β → Bool) : List α → List β → Bool
  | [], [] => true
  | x :: l, y :: m => p x y && eqBy p l m
  | _, _ => false
theorem eqBy_len {α β : Type} {p : α → β → Bool} : ∀ {l : List α} {m : List β}, l.length ≠ m.length → eqBy p l m = false
  | [], [], h => (h rfl).elim
  | x :: l, y :: m, h => by rw [eqBy, eqBy_len (by simpa using h), Bool.and_false]
  | [], _ :: _, _ => rfl
  | _ :: _, [], _ => rfl
theorem eqBy_true {α β : Type} {p : α → β → Bool} : ∀ {l : List α} {m : List β}, l.length = m.length → (∀ i (hi : i < l.length) (hi' : i < m.length), p l[i] m[i] = true) → eqBy p l m = true
  | [], [], _, _ => rfl
  | x :: l, y :: m, h, hp => by
    rw [eqBy, eqBy_true (by simpa using h) fun i hi hi' => hp (i + 1) (by simpa using hi) (by simpa using hi'), Bool.and_true]
    exact hp 0 (by simp) (by simp)
  | [], _ :: _, h, _ => by simp at h
  | _ :: _, [], h, _ => by simp at h
theorem eqBy_false {α β : Type} {p : α → β → Bool} : ∀ {l : List α} {m : List β} {i : Nat} (hi : i < l.length) (hi' : i < m.length), p l[i] m[i] = false → eqBy p l m = false
  | x :: l, y :: m, 0, _, _, h => by
    have h' : p x y = false := h
    simp [eqBy, h']
  | x :: l, y :: m, i + 1, hi, hi', h => by
    have h' := eqBy_false (p := p) (l := l) (m := m) (i := i) (by simpa using hi) (by simpa using hi') h
    simp [eqBy, h']
  | [], _, _, hi, _, _ => by simp at hi
  | _ :: _, [], _, _, hi', _ => by simp at hi'
end Go.Proofs.Ytgdhnngpfieloaa.Pln
