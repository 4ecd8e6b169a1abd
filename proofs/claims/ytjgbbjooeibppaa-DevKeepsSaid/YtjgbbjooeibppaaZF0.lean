/-
 Runs of outer resources: what is held of them, what is given; calls that give a local resource and a run.
-/
import Derived.Test.YtjgbbjooeibppaaZVsDrawF
import Derived.Test.YtjgbbjooeibppaaZP45
namespace Go.VS
open Go Go.RowKit
set_option maxHeartbeats 1000000
set_option linter.unusedVariables false
set_option linter.unusedSimpArgs false
section
variable {s out : Nat → Option Res} {K k i : Nat} {L L' : List (Option Res)} {r q : Res}
theorem Xj8 (h : k < K ∨ K + L.length ≤ k) : ofL (Xw s k r) K L = Xw (ofL s K L) k r := by
 funext j
 by_cases hj : j = k
 ·subst hj
  rw [Xge h, Xt, Xt]
 ·rw [Zp _ _ hj]
  unfold ofL
  rw [Zp _ _ hj]
theorem Xnb : ofL (ofL s K L) (K + L.length) L' = ofL s K (L ++ L') := by
 funext j
 unfold ofL
 by_cases h1 : K + L.length ≤ j
 ·rw [if_pos h1, if_pos (by omega : K ≤ j), if_pos (by omega : K ≤ j), List.getElem?_append_right (by omega), List.getElem?_eq_none (by omega : L.length ≤ j - K), show j - (K + L.length) = j - K - L.length from by omega]
  rfl
 ·rw [if_neg h1]
  by_cases h2 : K ≤ j
  ·rw [if_pos h2, if_pos h2, List.getElem?_append_left (by omega)]
  ·rw [if_neg h2, if_neg h2]
theorem Xj9 : ∀ (L : List (Option Res)) {K : Nat}, Xev K (L ++ L') = Xev K L ++ Xev (K + L.length) L'
 | [], K => by simp [Xev]
 | none :: L, K => by
  have := Xj9 L (K := K + 1)
  simp only [List.cons_append, Xev, this, List.length_cons]
  rw [Nat.add_assoc, Nat.add_comm 1]
 | some r :: L, K => by
  have := Xj9 L (K := K + 1)
  simp only [List.cons_append, Xev, this, List.length_cons]
  rw [Nat.add_assoc, Nat.add_comm 1]
theorem Xja : ∀ (L : List (Option Res)) {K : Nat}, Xhj K (L ++ L') = Xhj K L ++ Xhj (K + L.length) L'
 | [], K => by simp [Xhj]
 | none :: L, K => by
  have := Xja L (K := K + 1)
  simp only [List.cons_append, Xhj, this, List.length_cons]
  rw [Nat.add_assoc, Nat.add_comm 1]
 | some r :: L, K => by
  have := Xja L (K := K + 1)
  simp only [List.cons_append, Xhj, this, List.length_cons]
  rw [Nat.add_assoc, Nat.add_comm 1]
theorem Xji {a b : List (Nat × Option Res)} : holds s (a ++ b) ↔ holds s a ∧ holds s b := by
 simp only [Q5, List.mem_append, or_imp, forall_and]
theorem Xiq {N : Nat} {a b : List (Nat × Res)} : Mc N (a ++ b) ↔ Mc N a ∧ Mc N b := by
 simp only [Ht, List.mem_append, or_imp, forall_and]
theorem Xk3 : ∀ {L : List (Option Res)} {K i : Nat} {r q : Res}, L[i]? = some (some r) → Xev K (L.set i (some q)) = Xev K L
 | [], _, _, _, _, h => by simp at h
 | a :: L, K, 0, r, q, h => by
  simp only [List.getElem?_cons_zero, Option.some.injEq] at h
  subst h
  rfl
 | none :: L, K, i + 1, r, q, h => by
  simp only [List.getElem?_cons_succ] at h
  simp only [List.set_cons_succ, Xev]
  exact Xk3 h
 | some a :: L, K, i + 1, r, q, h => by
  simp only [List.getElem?_cons_succ] at h
  simp only [List.set_cons_succ, Xev]
  rw [Xk3 h]
theorem Xi6 (a b : List (Nat × Res)) : upd s (a ++ b) = upd (upd s a) b := by
 induction a generalizing s with
 | nil => rfl
 | cons x a ih => exact ih
theorem Xm9 {m : Nat} (h : holds s (Xev m L')) (hm : m + L'.length ≤ K ∨ K + L.length ≤ m) : holds (ofL s K L) (Xev m L') := Q5.2 fun x hx => by
 obtain ⟨h0, j, q, h1, h2⟩ := C3.1 hx
 have := (List.getElem?_eq_some_iff.1 h1).1
 rw [Xge (by omega)]
 exact Q5.1 h x hx
theorem Xix {rd : List Nat} {outs : List (Nat × Nat)} {x : Nat} (hn : holds out (Xev K L)) (hx : x ∈ rd) (h1 : 100 ≤ x) (h2 : outs[x - 100]? = some (K, L.length)) : holds (Xlu rd outs out) (Xev K L) := Q5.2 fun y hy => by
 obtain ⟨h0, j, q, h3, h4⟩ := C3.1 hy
 have := (List.getElem?_eq_some_iff.1 h3).1
 rw [Xlg hx h1 h2 (by rw [h4]; dsimp only; omega)]
 exact Q5.1 hn y hy
theorem Xlc {n : Nat} (hu : Mc n (Xhj K L)) : ∀ x, x ∈ Xev K L → x.1 < n := fun x hx => by
 obtain ⟨_, j, q, h1, h2⟩ := C3.1 hx
 rw [h2]
 exact K2 hu h1
theorem Xhu {P : Program} {σ : AState} {Kc : AV → List (Nat × Res) → Prop} {f : FuncId} {args : List AV} {x : AV} (h : Xr P f args ((k, none) :: Xev K L) x ((k, q) :: Xhj K L)) (hl : σ.look k = none) (hd : σ.dom k) (hu : Mc σ.n0 (Xhj K L)) (hn : holds σ.out (Xev K L)) (hK : Kc x ((k, q) :: Xhj K L)) : M8 P σ Kc f args := by
 refine ⟨_, x, _, h, ⟨hl, Q5.2 fun y hy => ?_⟩, ⟨hd, Yn.2 fun y hy => .inl (Ht.1 hu y hy)⟩, fun y hy => ?_, hK⟩
 ·unfold AState.look
  rw [if_pos (Xlc hu y hy)]
  exact Q5.1 hn y hy
 ·rcases List.mem_cons.1 hy with rfl | hy
  ·exact ⟨hd, by intro h; cases h⟩
  ·exact ⟨.inl (Xlc hu y hy), by rw [(C3.1 hy).1]; intro h; cases h⟩
theorem Xjp {outs : List (Nat × Nat)} {wr : List Nat} {R : AState → Prop} {fr : List AV} {lo : List (Option Res)} {n0 n : Nat} {df : List Deferred} {d : Option Tmp} {x : AV} {y z : Nat} (h1 : y ∈ wr) (h2 : y < 100) (h3 : z ∈ wr) (h4 : 100 ≤ z) (h5 : outs[z - 100]? = some (K, L.length)) (hn0 : n0 ≤ n) (hu : Mc n0 (Xhj K L))
  (h : R (AState.next ⟨fr, lo.set y (some q), out, n0, n, df⟩ d x (Xhj K L))) : Xj2 outs wr R ⟨fr, lo, out, n0, n, df⟩ d x ((n + y, q) :: Xhj K L) := by
 refine ⟨fun p hp => ?_, ?_⟩
 ·rcases List.mem_cons.1 hp with rfl | hp
  ·exact ⟨y, h1, .inl ⟨h2, rfl⟩⟩
  ·obtain ⟨j, g1, g2⟩ := A3.1 hp
   have := (List.getElem?_eq_some_iff.1 g1).1
   exact ⟨z, h3, .inr ⟨h4, _, h5, Xii.2 (by rw [g2]; dsimp only; omega)⟩⟩
 ·rw [W0 hn0]
  exact h
theorem Xma {outs : List (Nat × Nat)} {wr : List Nat} {R : AState → Prop} {σ : AState} {d : Option Tmp} {x : AV} {z : Nat} (h3 : z ∈ wr) (h4 : 100 ≤ z) (h5 : outs[z - 100]? = some (K, L.length))
  (h : R (AState.next σ d x (Xhj K L))) : Xj2 outs wr R σ d x (Xhj K L) := by
 refine ⟨fun p hp => ?_, h⟩
 obtain ⟨j, g1, g2⟩ := A3.1 hp
 have := (List.getElem?_eq_some_iff.1 g1).1
 exact ⟨z, h3, .inr ⟨h4, _, h5, Xii.2 (by rw [g2]; dsimp only; omega)⟩⟩
theorem Xmb {outs : List (Nat × Nat)} {wr : List Nat} {R : AState → Prop} {σ : AState} {d : Option Tmp} {x : AV} {z : Nat} (h3 : z ∈ wr) (h4 : 100 ≤ z) (h5 : outs[z - 100]? = some (K, 1))
  (h : R (AState.next σ d x [(K, q)])) : Xj2 outs wr R σ d x [(K, q)] := by
 refine ⟨fun p hp => ?_, h⟩
 rw [List.mem_singleton] at hp
 subst hp
 exact ⟨z, h3, .inr ⟨h4, _, h5, Xii.2 (by dsimp only; omega)⟩⟩
theorem Xih {n : Nat} (h : Mc n (Xhj K L)) (hL : ∀ x, x ∈ L → x ≠ none) : ∀ j, j < L.length → K + j < n := fun j hj => by
 cases hx : L[j] with
 | none => exact (hL _ (List.getElem_mem hj) hx).elim
 | some r => exact K2 h (by rw [List.getElem?_eq_getElem hj, hx])
theorem Xi7 {P : Program} {σ : AState} {Kc : AV → List (Nat × Res) → Prop} {f : FuncId} {args : List AV} {x : AV} (h : Xr P f args (Xfx K L) x (Xhj K L')) (hu : Mc σ.n0 (Xhj K L)) (hu' : Mc σ.n0 (Xhj K L')) (hd : ∀ y, y ∈ L → y ≠ some .dead) (hn : holds σ.out (Xfx K L)) (hK : Kc x (Xhj K L')) : M8 P σ Kc f args := by
 refine ⟨_, x, _, h, Q5.2 fun y hy => ?_, Yn.2 fun y hy => .inl (Ht.1 hu' y hy), fun y hy => ?_, hK⟩
 ·obtain ⟨j, q, h1, h2⟩ := A4.1 hy
  unfold AState.look
  rw [if_pos (by rw [h2]; exact K2 hu h1)]
  exact Q5.1 hn y hy
 ·obtain ⟨j, q, h1, h2⟩ := A4.1 hy
  rw [h2]
  exact ⟨.inl (K2 hu h1), fun h => hd _ (List.mem_of_getElem? h1) h⟩
theorem Xld {P : Program} {f : FuncId} {args : List AV} {needs : List (Nat × Option Res)} {x y : AV} {gives : List (Nat × Res)} (h : Xr P f args needs x gives) (hle : AV.le x y) : Xr P f args needs y gives := fun M N vs hI hR hn hN hu =>
 (h M N vs hI hR hn hN hu).mono fun e w' ⟨v, he, M', h1, h2, h3, h4, h5⟩ => ⟨v, he, M', h1, h2, h3, h4, h5.le hle⟩
theorem Xjq {P : Program} {f : FuncId} {args : List AV} {x : AV} {needs : Nat → List (Nat × Option Res)} {gives : Nat → List (Nat × Res)} {m : Nat} (h : ∀ B, Xr P f args (needs B) x (gives B))
  (hn : ∀ B y, y ∈ needs B → y.2 = none ∧ B ≤ y.1) (hg : ∀ B y, y ∈ gives B → B ≤ y.1 ∧ y.1 < B + m) : Xr P f args [] x [] := fun M N vs hI hR _ hN _ => by
 obtain ⟨A, hA⟩ := hI.fin
 refine (h (max N A) M (max N A + m) vs hI hR (Q5.2 fun y hy => ?_) (fun k hk => hN k (by omega)) (Ht.2 fun y hy => (hg _ y hy).2)).mono fun e w' ⟨v, he, M', h1, h2, h3, h4, h5⟩ => ⟨v, he, M', h1, h2, h3, fun k hk => ?_, h5⟩
 ·obtain ⟨h0, h1⟩ := hn _ y hy
  rw [h0]
  exact hA _ (by omega)
 ·rw [h4 k (by omega), Sd _ fun y hy => by have := (hg _ y hy).1; omega]; rfl
end
end Go.VS
