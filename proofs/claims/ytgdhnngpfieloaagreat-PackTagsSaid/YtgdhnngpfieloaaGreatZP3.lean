/-
 Functions of Go's library over lists: whether lists are alike.
-/
import Derived.Test.YtgdhnngpfieloaaGreatZP2
namespace Go.Proofs.YtgdhnngpfieloaaGreat.Pln
set_option linter.unusedVariables false
set_option linter.unusedSimpArgs false
open Go Go.VS Tab
set_option maxHeartbeats 1000000
set_option maxRecDepth 4000
theorem Lj (a b : Int × Int) : Nk [i64 a.1, i64 a.2] [i64 b.1, i64 b.2] = some (a == b) := by
 rw [X32]; simp [Nk]
def Fv {α β : Type} (p : α → β → Bool) : List α → List β → Bool
 | [], [] => true
 | x :: l, y :: m => p x y && Fv p l m
 | _, _ => false
theorem Rj {α β : Type} {p : α → β → Bool} : ∀ {l : List α} {m : List β}, l.length ≠ m.length → Fv p l m = false
 | [], [], h => (h rfl).elim
 | x :: l, y :: m, h => by rw [Fv, Rj (by simpa using h), Bool.and_false]
 | [], _ :: _, _ => rfl
 | _ :: _, [], _ => rfl
theorem W2 {α β : Type} {p : α → β → Bool} : ∀ {l : List α} {m : List β}, l.length = m.length → (∀ i (hi : i < l.length) (hi' : i < m.length), p l[i] m[i] = true) → Fv p l m = true
 | [], [], _, _ => rfl
 | x :: l, y :: m, h, hp => by
  rw [Fv, W2 (by simpa using h) fun i hi hi' => hp (i + 1) (by simpa using hi) (by simpa using hi'), Bool.and_true]
  exact hp 0 (by simp) (by simp)
 | [], _ :: _, h, _ => by simp at h
 | _ :: _, [], h, _ => by simp at h
theorem Lk {α β : Type} {p : α → β → Bool} : ∀ {l : List α} {m : List β} {i : Nat} (hi : i < l.length) (hi' : i < m.length), p l[i] m[i] = false → Fv p l m = false
 | x :: l, y :: m, 0, _, _, h => by
  have h' : p x y = false := h
  simp [Fv, h']
 | x :: l, y :: m, i + 1, hi, hi', h => by
  have h' := Lk (p := p) (l := l) (m := m) (i := i) (by simpa using hi) (by simpa using hi') h
  simp [Fv, h']
 | [], _, _, hi, _, _ => by simp at hi
 | _ :: _, [], _, _, hi', _ => by simp at hi'
end Go.Proofs.YtgdhnngpfieloaaGreat.Pln
