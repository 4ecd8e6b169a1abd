/-
 The value-semantics layer: names within rows; a box that is written no more, wherever it is seen.
-/
import Derived.Test.YtjgbbjooeibppaaZVsMove
namespace Go.VS
set_option linter.unusedVariables false
set_option linter.unusedSimpArgs false
open Go Go.RowKit
def mvE (keep : List Bool) (n n' : Nat) : List (List AV) → List (List AV) → Prop
 | [], [] => True
 | x :: l, y :: l' => mvL keep n n' x y ∧ mvE keep n n' l l'
 | _, _ => False
theorem Xmg {keep : List Bool} {n n' : Nat} : ∀ {l l' : List (List AV)}, mvE keep n n' l l' → l.length = l'.length ∧ ∀ (i : Nat) (x y : List AV), l[i]? = some x → l'[i]? = some y → mvL keep n n' x y
 | [], [], _ => ⟨rfl, fun i x y h => by simp at h⟩
 | x :: l, y :: l', h => by
  obtain ⟨h1, h2⟩ := Xmg h.2
  refine ⟨by simp [h1], fun i a b ha hb => ?_⟩
  cases i with
  | zero => simp at ha hb; subst ha; subst hb; exact h.1
  | succ i => exact h2 i a b (by simpa using ha) (by simpa using hb)
 | [], _ :: _, h => h.elim
 | _ :: _, [], h => h.elim
theorem Xn3 {keep : List Bool} {n n' : Nat} : ∀ {l l' : List (List AV)}, l.length = l'.length → (∀ (i : Nat) (x y : List AV), l[i]? = some x → l'[i]? = some y → mvL keep n n' x y) → mvE keep n n' l l'
 | [], [], _, _ => trivial
 | x :: l, y :: l', h, hh => ⟨hh 0 x y rfl rfl, Xn3 (by simpa using h) fun i a b ha hb => hh (i + 1) a b (by simpa using ha) (by simpa using hb)⟩
 | [], _ :: _, h, _ => by simp at h
 | _ :: _, [], h, _ => by simp at h
theorem Xnv {keep : List Bool} {n n' : Nat} {sz : Nat} {els els' : List (List AV)} {md : Md} (h : mvE keep n n' els els') : Mv keep n n' (.sl sz els md) (.sl sz els' .sh) := by
 obtain ⟨h1, h2⟩ := Xmg h
 exact .sl sz els els' md h1 (fun i r r' hi hi' => (Kb (h2 i r r' hi hi')).1) fun i j r r' c c' hi hi' hj hj' => (Kb (h2 i r r' hi hi')).2 j c c' hj hj'
theorem Xnk {keep : List Bool} {n n' : Nat} {els : List (List AV)} (z : Nat) {a b : List AV} (h : mvL keep n n' a b) : mvE keep n n' (els.set z a) (els.set z b) :=
 Xn3 (by simp) fun i x y hx hy => by
  by_cases hz : z = i
  ·subst hz
   have hl : z < els.length := by have := (List.getElem?_eq_some_iff.1 hx).1; simpa using this
   rw [List.getElem?_set_self hl] at hx hy
   injection hx with hx; injection hy with hy
   subst hx; subst hy; exact h
  ·rw [List.getElem?_set_ne hz] at hx hy
   rw [hx] at hy; injection hy with hy; subst hy
   exact Ud _
def fzL (k sz : Nat) (cs : List AV) : List AV → List AV → Prop
 | [], [] => True
 | x :: l, y :: l' => Fz k sz cs x y ∧ fzL k sz cs l l'
 | _, _ => False
theorem Xi3 {k sz : Nat} {cs : List AV} : ∀ {l l' : List AV}, fzL k sz cs l l' → l.length = l'.length ∧ ∀ (i : Nat) (x y : AV), l[i]? = some x → l'[i]? = some y → Fz k sz cs x y
 | [], [], _ => ⟨rfl, fun i x y h => by simp at h⟩
 | x :: l, y :: l', h => by
  obtain ⟨h1, h2⟩ := Xi3 h.2
  refine ⟨by simp [h1], fun i a b ha hb => ?_⟩
  cases i with
  | zero => simp at ha hb; subst ha; subst hb; exact h.1
  | succ i => exact h2 i a b (by simpa using ha) (by simpa using hb)
 | [], _ :: _, h => h.elim
 | _ :: _, [], h => h.elim
theorem Xjc {k sz : Nat} {cs : List AV} : ∀ l : List AV, fzL k sz cs l l
 | [] => trivial
 | x :: l => ⟨.same x, Xjc l⟩
theorem Xnw {k sz : Nat} {cs : List AV} {sz' : Nat} {els : List (List AV)} {md : Md} (z : Nat) {a b : List AV} (h : fzL k sz cs a b) : Fz k sz cs (.sl sz' (els.set z a) md) (.sl sz' (els.set z b) .sh) := by
 have key : ∀ (i : Nat) (x y : List AV), (els.set z a)[i]? = some x → (els.set z b)[i]? = some y → fzL k sz cs x y := fun i x y hx hy => by
  by_cases hz : z = i
  ·subst hz
   have hl : z < els.length := by have := (List.getElem?_eq_some_iff.1 hx).1; simpa using this
   rw [List.getElem?_set_self hl] at hx hy
   injection hx with hx; injection hy with hy
   subst hx; subst hy; exact h
  ·rw [List.getElem?_set_ne hz] at hx hy
   rw [hx] at hy; injection hy with hy; subst hy
   exact Xjc _
 exact .sl sz' _ _ md (by simp) (fun i r r' hi hi' => (Xi3 (key i r r' hi hi')).1) fun i j r r' c c' hi hi' hj hj' => (Xi3 (key i r r' hi hi')).2 j c c' hj hj'
def Xk8 (k sz : Nat) (cs : List AV) : Option Res → Option Res → Prop
 | some (.box e l), some (.box e' l') => e = e' ∧ fzL k sz cs l l'
 | a, b => a = b
theorem Xl2 {k sz : Nat} {cs : List AV} {a b : Option Res} (h : Xk8 k sz cs a b) : a = b ∨ ∃ e l l', a = some (.box e l) ∧ b = some (.box e l') ∧ fzL k sz cs l l' := by
 unfold Xk8 at h
 split at h
 ·obtain ⟨rfl, h⟩ := h; exact .inr ⟨_, _, _, rfl, rfl, h⟩
 ·exact .inl h
theorem Xjt {k sz : Nat} {cs : List AV} (r : Option Res) : Xk8 k sz cs r r := by
 cases r with
 | none => rfl
 | some r => cases r <;> first | exact ⟨rfl, Xjc _⟩ | rfl
theorem Inv.refill {M : Mem} (hI : Inv M) {s : Nat → Option Res} (h : ∀ k, M.st k = s k ∨ ∃ e cs cs', M.st k = some (.box e cs) ∧ s k = some (.box e cs') ∧ cs.length = cs'.length ∧
   ∀ vs : Array Value, M.w.heap[M.β k]? = some (.cells vs e (0, 0)) → ∀ (i : Nat) (c : AV) (v : Value), cs'[i]? = some c → vs[i]? = some v → R M c v) : Ext M (M.withSt s) ∧ Inv (M.withSt s) := by
 have ex : Ext M (M.withSt s) := by
  refine ⟨rfl, fun _ _ h => h, fun _ _ _ => rfl, fun k hk => ⟨?_, rfl⟩, fun k e sz m hk => ⟨m, ?_, Nat.le_refl _, fun _ => ⟨rfl, rfl⟩⟩, fun k e sz m cs hk => .inl ⟨m, cs, ?_, Nat.le_refl _, fun _ => ⟨rfl, rfl⟩⟩⟩
  ·show Kt (s k)
   rcases h k with h1 | ⟨e, cs, cs', h1, h2, _⟩
   ·rw [← h1]; exact hk
   ·rw [h2]; trivial
  ·show s k = _
   rcases h k with h1 | ⟨e, cs, cs', h1, h2, _⟩
   ·rw [← h1]; exact hk
   ·rw [h1] at hk; cases hk
  ·show s k = _
   rcases h k with h1 | ⟨e, cs, cs', h1, h2, _⟩
   ·rw [← h1]; exact hk
   ·rw [h1] at hk; cases hk
 refine ⟨ex, ?_⟩
 have hown : ∀ k, (M.withSt s).owns k ↔ M.owns k := fun k => by
  show (match s k with | some (.box _ _) => True | some (.row _ _ _) => (M.cap k).isSome | some (.vec _ _ _ _) => (M.cap k).isSome | _ => False : Prop) ↔ _
  unfold Mem.owns
  rcases h k with h1 | ⟨e, cs, cs', h1, h2, _⟩
  ·rw [h1]; exact Iff.rfl
  ·rw [h1, h2]
 refine ⟨hI.below, ?_, fun k hk => hI.new k ((hown k).1 hk), fun j k hj hk => hI.inj j k ((hown j).1 hj) ((hown k).1 hk), fun b o hs => hI.stb b o hs, fun k e cs hk => ?_, fun k e sz m cap hk hc => ?_, fun k b o fr hk => ?_, fun j k b o fr o' fr' hj hk => ?_, fun k e sz m cs hk => ?_⟩
 ·obtain ⟨N, hN⟩ := hI.fin
  refine ⟨N, fun k hk => ?_⟩
  show s k = none
  rcases h k with h1 | ⟨e, cs, cs', h1, h2, _⟩
  ·rw [← h1]; exact hN k hk
  ·rw [hN k hk] at h1; cases h1
 ·have hk' : s k = some (.box e cs) := hk
  rcases h k with h1 | ⟨e1, cs1, cs', h1, h2, hl, hq⟩
  ·rw [← h1] at hk'
   obtain ⟨vs, g1, g2, g3, g4, g5⟩ := hI.box k _ _ hk'
   exact ⟨vs, g1, g2, g3, fun i c v hi hv => (g4 i c v hi hv).ext ex, g5⟩
  ·rw [h2] at hk'; injection hk' with hk'; injection hk' with q1 q2; subst q1; subst q2
   obtain ⟨vs, g1, g2, g3, g4, g5⟩ := hI.box k _ _ h1
   exact ⟨vs, g1, by rw [← hl]; exact g2, g3, fun i c v hi hv => (hq vs g1 i c v hi hv).ext ex, g5⟩
 ·have hk' : s k = some (.row e sz m) := hk
  rcases h k with h1 | ⟨e1, cs1, cs', h1, h2, _⟩
  ·rw [← h1] at hk'; exact hI.row k e sz m cap hk' hc
  ·rw [h2] at hk'; cases hk'
 ·have hk' : s k = some (.pin b o fr) := hk
  rcases h k with h1 | ⟨e1, cs1, cs', h1, h2, _⟩
  ·rw [← h1] at hk'; exact (hI.pin k b o fr hk').ext ex (hI.pin k b o fr hk').1
  ·rw [h2] at hk'; cases hk'
 ·have back : ∀ {k o fr}, s k = some (.pin b o fr) → M.st k = some (.pin b o fr) := fun {k o fr} hk => by
   rcases h k with h1 | ⟨e1, cs1, cs', h1, h2, _⟩
   ·rw [h1]; exact hk
   ·rw [h2] at hk; cases hk
  exact hI.pinj j k b o fr o' fr' (back hj) (back hk)
 ·have hk' : s k = some (.vec e sz m cs) := hk
  rcases h k with h1 | ⟨e1, cs1, cs', h1, h2, _⟩
  ·rw [← h1] at hk'
   obtain ⟨g1, g2, g3⟩ := hI.vec k _ _ _ _ hk'
   refine ⟨g1, g2, fun cap hc => ?_⟩
   obtain ⟨vs, p1, p2, p3, p4, p5, p6⟩ := g3 cap hc
   exact ⟨vs, p1, p2, p3, p4, fun i c v hi hv => (p5 i c v hi hv).ext ex, p6⟩
  ·rw [h2] at hk'; cases hk'
theorem Xly {σ : AState} {i : Nat} {e : TypeId} {cs : List AV} (sz : Nat) {fr' : List AV} {lo' : List (Option Res)} (hi : σ.lo[i]? = some (some (.box e cs))) (hf : fzL (σ.n + i) sz cs σ.fr fr')
  (hl : lo'.length = σ.lo.length) (hd : lo'[i]? = some (some .dead)) (hg : ∀ j, j ≠ i → Xk8 (σ.n + i) sz cs (σ.lo[j]?).join (lo'[j]?).join) :
  σ.le { σ with fr := fr', lo := lo' } := fun M a hI hs => by
 classical
 have hlt : i < σ.lo.length := (List.getElem?_eq_some_iff.1 hi).1
 have hk : M.st (σ.n + i) = some (.box e cs) := by
  rw [hs.st (σ.n + i) (Xb σ hlt), X6 σ hs.le, hi]; rfl
 have ex := Ext.freeze M (n := cs.length) hk
 let s : Nat → Option Res := fun j => if σ.n ≤ j ∧ j < σ.n + σ.lo.length then (lo'[j - σ.n]?).join else (M.freeze (σ.n + i) cs.length).st j
 have key := Inv.refill (hI.freeze hk) (s := s) fun j => by
  show (M.freeze (σ.n + i) cs.length).st j = (if σ.n ≤ j ∧ j < σ.n + σ.lo.length then (lo'[j - σ.n]?).join else (M.freeze (σ.n + i) cs.length).st j) ∨ _
  by_cases hj : σ.n ≤ j ∧ j < σ.n + σ.lo.length
  ·obtain ⟨q, rfl⟩ : ∃ q, j = σ.n + q := ⟨j - σ.n, by omega⟩
   by_cases hq : q = i
   ·subst hq
    left
    rw [if_pos hj, Nat.add_sub_cancel_left, hd]
    simp [Mem.freeze, Xw]
   ·have hne : σ.n + q ≠ σ.n + i := by omega
    have hst : (M.freeze (σ.n + i) cs.length).st (σ.n + q) = (σ.lo[q]?).join := by
     simp only [Mem.freeze, Xw, if_neg hne]
     rw [hs.st _ (.inr hj), X6 σ hs.le]
    have hs' : s (σ.n + q) = (lo'[q]?).join := by
     show (if σ.n ≤ σ.n + q ∧ σ.n + q < σ.n + σ.lo.length then (lo'[σ.n + q - σ.n]?).join else _) = _
     rw [if_pos hj, Nat.add_sub_cancel_left]
    rcases Xl2 (hg q hq) with h1 | ⟨e1, l, l', h1, h2, h3⟩
    ·left
     rw [if_pos hj, Nat.add_sub_cancel_left, hst, h1]
    ·right
     refine ⟨e1, l, l', hst.trans h1, hs'.trans h2, (Xi3 h3).1, fun vs hvs p c v hp hv => ?_⟩
     have hM : M.st (σ.n + q) = some (.box e1 l) := by rw [hs.st _ (.inr hj), X6 σ hs.le, h1]
     obtain ⟨vs0, g1, g2, g3, g4, g5⟩ := hI.box _ _ _ hM
     have hvs' : M.w.heap[M.β (σ.n + q)]? = some (.cells vs e1 (0, 0)) := hvs
     rw [g1] at hvs'
     injection hvs' with hvs'; injection hvs' with hvs'
     subst hvs'
     have hpl : p < l.length := by rw [(Xi3 h3).1]; exact (List.getElem?_eq_some_iff.1 hp).1
     have e1 := List.getElem?_eq_getElem hpl
     exact (g4 p _ v e1 hv).fz hI hk ((Xi3 h3).2 p _ _ e1 hp)
  ·left
   rw [if_neg hj]
 refine ⟨(M.freeze (σ.n + i) cs.length).withSt s, rfl, ex.trans key.1, key.2, hs.df, ⟨(Xi3 hf).1.symm.trans hs.fr.1, fun j c v hj hv => ?_⟩, hs.le, fun k hk' => ?_⟩
 ·have hjl : j < σ.fr.length := by rw [(Xi3 hf).1]; exact (List.getElem?_eq_some_iff.1 hj).1
  have e1 := List.getElem?_eq_getElem hjl
  exact ((hs.fr.2 j _ v e1 hv).fz hI hk ((Xi3 hf).2 j _ _ e1 hj)).ext key.1
 ·have hk2 : σ.dom k := by simpa [AState.dom, hl] using hk'
  show (if σ.n ≤ k ∧ k < σ.n + σ.lo.length then (lo'[k - σ.n]?).join else (M.freeze (σ.n + i) cs.length).st k) = _
  simp only [AState.look]
  by_cases h0 : k < σ.n0
  ·have hle := hs.le
   rw [if_neg (by omega), if_pos h0]
   have hne : k ≠ σ.n + i := by omega
   simp only [Mem.freeze, Xw, if_neg hne]
   rw [hs.st k hk2]; simp [AState.look, h0]
  ·have hj : σ.n ≤ k ∧ k < σ.n + σ.lo.length := by rcases hk2 with h | h; exact absurd h h0; exact h
   rw [if_pos hj, if_neg h0]
def X4l (keep : List Bool) (n n' : Nat) : List (Option Res) → List (Option Res) → Prop
 | [], [] => True
 | x :: l, y :: l' => Zk keep n n' x y ∧ X4l keep n n' l l'
 | _, _ => False
theorem Sc {keep : List Bool} {n n' : Nat} : ∀ {l l' : List (Option Res)}, X4l keep n n' l l' → l'.length = l.length ∧ ∀ i : Nat, Zk keep n n' (l[i]?).join (l'[i]?).join
 | [], [], _ => ⟨rfl, fun i => U9 _⟩
 | x :: l, y :: l', h => by
  obtain ⟨h1, h2⟩ := Sc h.2
  refine ⟨by simp [h1], fun i => ?_⟩
  cases i with
  | zero => exact h.1
  | succ i => simpa using h2 i
 | [], _ :: _, h => h.elim
 | _ :: _, [], h => h.elim
theorem Ty {keep : List Bool} {n n' : Nat} (x y : Option Res) (l l' : List (Option Res)) : X4l keep n n' (x :: l) (y :: l') ↔ Zk keep n n' x y ∧ X4l keep n n' l l' := Iff.rfl
theorem E8 {keep : List Bool} {n n' : Nat} : X4l keep n n' [] [] ↔ True := Iff.rfl
theorem R0 {keep : List Bool} {n n' : Nat} (x : Option Res) : Zk keep n n' x x ↔ True := ⟨fun _ => trivial, fun _ => U9 x⟩
theorem Jm {σ : AState} {i k : Nat} {q : Res} {fr' : List AV} {lo1 : List (Option Res)} (hi : σ.lo[i]? = some (some q)) (hk : k < σ.n0) (hfree : σ.out k = none) (h : mvL [true] (σ.n + i) k σ.fr fr') (hr : X4l [true] (σ.n + i) k σ.lo lo1) :
  σ.le { σ with fr := fr', lo := lo1.set i (Wy (some q)), out := Xw σ.out k q } := E7 hi hk hfree h (U9 _) (Sc hr).1 (Sc hr).2
def Xnl (k sz : Nat) (cs : List AV) : List (Option Res) → List (Option Res) → Prop
 | [], [] => True
 | x :: l, y :: l' => Xk8 k sz cs x y ∧ Xnl k sz cs l l'
 | _, _ => False
theorem Xlh {k sz : Nat} {cs : List AV} : ∀ {l l' : List (Option Res)}, Xnl k sz cs l l' → l'.length = l.length ∧ ∀ i : Nat, Xk8 k sz cs (l[i]?).join (l'[i]?).join
 | [], [], _ => ⟨rfl, fun i => Xjt _⟩
 | x :: l, y :: l', h => by
  obtain ⟨h1, h2⟩ := Xlh h.2
  refine ⟨by simp [h1], fun i => ?_⟩
  cases i with
  | zero => exact h.1
  | succ i => simpa using h2 i
 | [], _ :: _, h => h.elim
 | _ :: _, [], h => h.elim
theorem Xmh {k sz : Nat} {cs : List AV} (x y : Option Res) (l l' : List (Option Res)) : Xnl k sz cs (x :: l) (y :: l') ↔ Xk8 k sz cs x y ∧ Xnl k sz cs l l' := Iff.rfl
theorem Xmy {k sz : Nat} {cs : List AV} : Xnl k sz cs [] [] ↔ True := Iff.rfl
theorem Xmz {k sz : Nat} {cs : List AV} (x y : AV) (l l' : List AV) : fzL k sz cs (x :: l) (y :: l') ↔ Fz k sz cs x y ∧ fzL k sz cs l l' := Iff.rfl
theorem Xnm {k sz : Nat} {cs : List AV} : fzL k sz cs [] [] ↔ True := Iff.rfl
theorem Xnn {k sz : Nat} {cs : List AV} (x : AV) : Fz k sz cs x x ↔ True := ⟨fun _ => trivial, fun _ => .same x⟩
theorem Xlz {k sz : Nat} {cs : List AV} (x : Option Res) : Xk8 k sz cs x x ↔ True := ⟨fun _ => trivial, fun _ => Xjt x⟩
theorem Xmi {k sz : Nat} {cs : List AV} (e : TypeId) (l l' : List AV) : Xk8 k sz cs (some (.box e l)) (some (.box e l')) ↔ fzL k sz cs l l' := ⟨fun h => h.2, fun h => ⟨rfl, h⟩⟩
theorem Xm0 {σ : AState} {i : Nat} {e : TypeId} {cs : List AV} (sz : Nat) {fr' : List AV} {lo1 : List (Option Res)} (hi : σ.lo[i]? = some (some (.box e cs))) (hf : fzL (σ.n + i) sz cs σ.fr fr') (hr : Xnl (σ.n + i) sz cs σ.lo lo1) :
  σ.le { σ with fr := fr', lo := lo1.set i (some .dead) } := by
 obtain ⟨h1, h2⟩ := Xlh hr
 have hil : i < lo1.length := by rw [h1]; exact (List.getElem?_eq_some_iff.1 hi).1
 refine Xly sz hi hf (by simp [h1]) (by rw [List.getElem?_set_self hil]) fun j hj => ?_
 rw [List.getElem?_set_ne (Ne.symm hj)]
 exact h2 j
end Go.VS
