/-
 Lists changed step by step; plans in boxes, read as plans.
-/
import Derived.Test.YtjgbbjooeibppaaZP43
import Derived.Test.YtjgbbjooeibppaaZPR
namespace Go.VS
open Go Go.RowKit
set_option maxHeartbeats 1000000
def stg {α β : Type} (d : Nat) (f g : Nat → α → β) (l : List α) : List β := l.mapIdx fun i x => if i < d then f i x else g i x
theorem V8 {α β : Type} (d : Nat) (f g : Nat → α → β) (l : List α) : (stg d f g l).length = l.length := by simp [stg]
theorem C2 {α β : Type} (d : Nat) (f g : Nat → α → β) (l : List α) (i : Nat) : (stg d f g l)[i]? = l[i]?.map fun x => if i < d then f i x else g i x := by simp [stg]
theorem Rd {α β : Type} {d : Nat} {f g : Nat → α → β} {l : List α} {i : Nat} {x : α} (h : l[i]? = some x) (hi : i < d) : (stg d f g l)[i]? = some (f i x) := by rw [C2, h, Option.map_some, if_pos hi]
theorem Rf {α β : Type} {d : Nat} {f g : Nat → α → β} {l : List α} {i : Nat} {x : α} (h : l[i]? = some x) (hi : d ≤ i) : (stg d f g l)[i]? = some (g i x) := by rw [C2, h, Option.map_some, if_neg (by omega)]
theorem Xjm {α β : Type} {d : Nat} {f g : Nat → α → β} {l : List α} {x : α} (h : l[d]? = some x) : (stg d f g l).set d (f d x) = stg (d + 1) f g l := by
 apply List.ext_getElem?
 intro i
 have hl := (List.getElem?_eq_some_iff.1 h).1
 by_cases e : i = d
 ·subst e
  rw [List.getElem?_set_self (by rw [V8]; exact hl), Rd h (Nat.lt_succ_self _)]
 ·rw [List.getElem?_set_ne (by omega), C2, C2]
  congr 1
  funext y
  by_cases h2 : i < d
  ·rw [if_pos h2, if_pos (by omega)]
  ·rw [if_neg h2, if_neg (by omega)]
theorem E2 {α β : Type} (f g : Nat → α → β) (l : List α) : stg 0 f g l = l.mapIdx g := by simp [stg]
theorem B1 {α β : Type} (f : Nat → α → β) (g : α → β) (l : List α) : stg 0 f (fun _ => g) l = l.map g := by
 rw [E2]; apply List.ext_getElem?; intro i; simp
theorem A6 {α β : Type} {d : Nat} {f g : Nat → α → β} {l : List α} (h : l.length ≤ d) : stg d f g l = l.mapIdx f := by
 apply List.ext_getElem?
 intro i
 rw [C2, List.getElem?_mapIdx]
 cases hx : l[i]? with
 | none => rfl
 | some x => rw [Option.map_some, Option.map_some, if_pos (by have := (List.getElem?_eq_some_iff.1 hx).1; omega)]
def bxD (e : TypeId) (els : List (List AV)) : Res := if els.length = 0 then .dead else .box e els.flatten
theorem K1 {e : TypeId} {els : List (List AV)} (h : 0 < els.length) : bxD e els = .box e els.flatten := if_neg (by omega)
theorem Ext.killN {M : Mem} {k : Nat} (hk : M.st k = none) : Ext M (M.kill k) := by
 refine ⟨rfl, fun _ _ h => h, fun _ _ _ => rfl, fun j hj => ?_, fun j t sz m hj => ?_, fun j t s m cs hj => by
  have hne : j ≠ k := by rintro rfl; rw [hk] at hj; cases hj
  exact .inl ⟨m, cs, by simp [Mem.kill, Xw, hne, hj], Nat.le_refl _, fun _ => ⟨rfl, rfl⟩⟩⟩
 ·have hne : j ≠ k := by rintro rfl; rw [hk] at hj; exact hj
  simp [Mem.kill, Xw, hne, hj]
 ·have hne : j ≠ k := by rintro rfl; rw [hk] at hj; cases hj
  exact ⟨m, by simp [Mem.kill, Xw, hne, hj], Nat.le_refl _, fun _ => ⟨rfl, rfl⟩⟩
theorem Inv.killN {M : Mem} (hI : Inv M) {k : Nat} (hk : M.st k = none) : Inv (M.kill k) := by
 have ex := Ext.killN hk
 have hown : ∀ j, (M.kill k).owns j → j ≠ k ∧ M.owns j := fun j hj => by
  by_cases e' : j = k
  ·subst e'; simp [Mem.owns, Mem.kill, Xw] at hj
  ·exact ⟨e', by simpa [Mem.owns, Mem.kill, Xw, e'] using hj⟩
 refine ⟨hI.below, ?_, fun j hj => hI.new j (hown j hj).2, fun i j hi hj => hI.inj i j (hown i hi).2 (hown j hj).2, hI.stb, fun j t ds hj => ?_, fun j t sz m c hj hcap => ?_, fun j c o' fr' hj => (hI.pin j c o' fr' (Y1 hj (by simp))).ext ex (hI.pin j c o' fr' (Y1 hj (by simp))).1, fun i j c o' fr' o'' fr'' hi hj => hI.pinj i j c _ _ _ _ (Y1 hi (by simp)) (Y1 hj (by simp)), fun j t sz m cs hj => hI.vec_keep ex (Yx hj (by simp)).1 rfl rfl (fun _ => rfl) (fun _ _ h => h)⟩
 ·obtain ⟨N, hN⟩ := hI.fin
  exact ⟨max N (k + 1), fun j hj => by
   have : j ≠ k := by omega
   simp [Mem.kill, Xw, this, hN j (by omega)]⟩
 ·have e' : j ≠ k := by rintro rfl; simp [Mem.kill, Xt] at hj
  have hj' : M.st j = some (.box t ds) := by simpa [Mem.kill, Xw, e'] using hj
  obtain ⟨ws, g1, g2, g3, g4, g5⟩ := hI.box j t ds hj'
  exact ⟨ws, g1, g2, g3, fun i c v hi hv => (g4 i c v hi hv).ext ex, g5⟩
 ·have e' : j ≠ k := by rintro rfl; simp [Mem.kill, Xt] at hj
  have hj' : M.st j = some (.row t sz m) := by simpa [Mem.kill, Xw, e'] using hj
  exact hI.row j t sz m c hj' hcap
theorem C1 {P : Program} {f : FuncId} {args : List AV} {sz k off : Nat} (h : Xr P f args [] (.sl sz [] .full) []) : Xr P f args [(k, none)] (.bsl k off 0 false) [(k, .dead)] := fun M N vs hI hR hn hN hu =>
 (h M N vs hI hR trivial hN trivial).mono fun e w' ⟨v, he, M', h1, h2, h3, h4, h5⟩ => by
  have hk : M'.st k = none := (h4 k hu.1).trans hn.1
  obtain ⟨a, rfl⟩ := Xff (.inr rfl) h5
  refine ⟨_, he, M'.kill k, h1, h2.trans (Ext.killN hk), h3.killN hk, fun j hj => ?_, .bsl0 _ _ a⟩
  show Xw M'.st k .dead j = Xw M.st k .dead j
  unfold Xw
  split
  ·rfl
  ·exact h4 j hj
theorem Xem : ∀ (l : List (Option Res)) (K : Nat) (fr : List AV) (lo : List (Option Res)) (out : Nat → Option Res) (n0 n : Nat) (df : List Deferred), Mc n0 (Xhj K l) → AState.give ⟨fr, lo, out, n0, n, df⟩ (Xhj K l) = ⟨fr, lo, ofL out K l, n0, n, df⟩
 | [], K, fr, lo, out, n0, n, df, h => by
  rw [← K3]; rfl
 | none :: l, K, fr, lo, out, n0, n, df, h => by
  rw [← K3]
  show AState.give _ (Xhj (K + 1) l) = ⟨_, _, upd out (Xhj (K + 1) l), _, _, _⟩
  rw [K3]
  exact Xem l (K + 1) fr lo out n0 n df h
 | some r :: l, K, fr, lo, out, n0, n, df, h => by
  rw [← K3]
  have hk : K < n0 := h.1
  show AState.give (if K < n0 then _ else _) (Xhj (K + 1) l) = ⟨_, _, upd (Xw out K r) (Xhj (K + 1) l), _, _, _⟩
  rw [if_pos hk, K3]
  exact Xem l (K + 1) fr lo (Xw out K r) n0 n df h.2
theorem Xg7 {fr : List AV} {lo : List (Option Res)} {out : Nat → Option Res} {n0 n K : Nat} {df : List Deferred} {l : List (Option Res)} (h : Mc n0 (Xhj K l)) (t : Tmp) (x : AV) : AState.next ⟨fr, lo, out, n0, n, df⟩ (some t) x (Xhj K l) = ⟨fr.set t x, lo, ofL out K l, n0, n, df⟩ :=
 Xem l K _ lo out n0 n df h
theorem Xg1 {P : Program} {σ : AState} {Kc : AV → List (Nat × Res) → Prop} {f : FuncId} {args : List AV} {K : Nat} {l : List (Option Res)} {r : AV} (h : Xr P f args (Xev K l) r (Xhj K l)) (hu : Mc σ.n0 (Xhj K l)) (hn : holds σ.out (Xev K l)) (hK : Kc r (Xhj K l)) : M8 P σ Kc f args := by
 have hd : ∀ x, x ∈ Xev K l → x.1 < σ.n0 := fun x hx => by
  obtain ⟨_, j, q, h1, h2⟩ := C3.1 hx
  rw [h2]
  exact K2 hu h1
 refine ⟨_, r, _, h, Q5.2 fun x hx => ?_, Yn.2 fun x hx => .inl (Ht.1 hu x hx), fun x hx => ⟨.inl (hd x hx), by rw [(C3.1 hx).1]; intro h; cases h⟩, hK⟩
 unfold AState.look
 rw [if_pos (hd x hx)]
 exact Q5.1 hn x hx
def Xgg (l : List (Option Res)) : List (Option Res) := l.map fun o => match o with | some .dead => none | o => o
theorem Xg8 {l : List (Option Res)} {j : Nat} {r : Res} (h : (Xgg l)[j]? = some (some r)) : l[j]? = some (some r) ∧ r ≠ .dead := by
 unfold Xgg at h
 rw [List.getElem?_map] at h
 cases hl : l[j]? with
 | none => rw [hl] at h; cases h
 | some o =>
  rw [hl, Option.map_some] at h
  cases o with
  | none => simp at h
  | some q =>
   cases q <;> simp at h <;> subst h <;> exact ⟨rfl, by intro h; cases h⟩
end Go.VS
