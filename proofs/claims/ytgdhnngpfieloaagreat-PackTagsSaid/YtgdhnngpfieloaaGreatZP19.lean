/-
 Routes that may be, told by the program.
-/
import Derived.Test.YtgdhnngpfieloaaGreatZGA
import Derived.Test.YtgdhnngpfieloaaGreatZPJ
namespace Go.Proofs.YtgdhnngpfieloaaGreat.Pln
set_option linter.unusedVariables false
set_option linter.unusedSimpArgs false
open Go Go.VS Tab
set_option maxHeartbeats 8000000
set_option maxRecDepth 4000
theorem Au {α : Type} (f : List α → α → Bool) (a b : List α) : Ue f (a ++ b) = (Ue f a && Ue (fun pre x => f (a ++ pre) x) b) := by
 rw [Bool.eq_iff_iff, Bool.and_eq_true, Z3, Z3, Z3]
 constructor
 ·intro h
  constructor
  ·intro i hi
   have := h i (by simp; omega)
   rwa [List.getElem_append_left hi, List.take_append_of_le_length (by omega)] at this
  ·intro i hi
   have := h (a.length + i) (by simp; omega)
   rw [List.getElem_append_right (by omega)] at this
   simp only [Nat.add_sub_cancel_left] at this
   rwa [List.take_length_add_append] at this
 ·rintro ⟨h1, h2⟩ i hi
  by_cases hlt : i < a.length
  ·rw [List.getElem_append_left hlt, List.take_append_of_le_length (by omega)]
   exact h1 i hlt
  ·have hi' : i - a.length < b.length := by simp at hi; omega
   have := h2 (i - a.length) hi'
   rw [List.getElem_append_right (by omega)]
   obtain ⟨j, rfl⟩ : ∃ j, i = a.length + j := ⟨i - a.length, by omega⟩
   simp only [Nat.add_sub_cancel_left] at this ⊢
   rwa [List.take_length_add_append]
def Ma (p : Pl) (r : Rt) : Bool := (decide (r.ex = 0) || ((Vy p.sgs r.ex).isSome && !(r.ex == r.entry))) && !(decide (r.ex = 0) && !r.over.isEmpty) &&
  decide (1 ≤ r.path.length) && decide (r.path.length ≤ 6) && decide (r.over.length ≤ 2) && decide (r.flanks.length ≤ 3) && decide (1 ≤ r.timer) && decide (r.timer ≤ 9)
def okQ (p : Pl) (own : Int) (B L : List Int) : Bool := Ue (fun pre x => okL p own (B ++ pre) x) L
theorem Rh {p : Pl} {r : Rt} {en : Int × Int × Int} (h : Vy p.sgs r.entry = some en) : okR p r = (Ma p r && okQ p en.2.1 [] r.path && okQ p en.2.1 r.path r.over && Ue (okF p) r.flanks) := by
 unfold okR okQ Ma
 rw [h]
 simp only [Au, List.nil_append, Bool.and_assoc]
theorem Dj {p : Pl} {r : Rt} (h : Vy p.sgs r.entry = none) : okR p r = false := by unfold okR; rw [h]
theorem Dk {p : Pl} {r : Rt} {en : Int × Int × Int} (h : Vy p.sgs r.entry = some en) (hh : Ma p r = false) : okR p r = false := by rw [Rh h, hh]; rfl
theorem H2 {p : Pl} (hmay : Uq p.secs = true) (h : Qu p = true) {g : Int × Int × Int} (hg : g ∈ p.sgs) : 1 ≤ g.2.1 ∧ g.2.1 ≤ 99 ∧ (Qt p.secs g.2.1).isSome = true := by
 obtain ⟨i, hi, rfl⟩ := List.getElem_of_mem hg
 unfold Qu at h
 rw [Bool.and_eq_true] at h
 have := Z3.1 h.2 i hi
 unfold okG at this
 cases hs : Qt p.secs p.sgs[i].2.1 with
 | none => rw [hs] at this; simp at this
 | some s =>
  obtain ⟨h1, h2⟩ := W5 hs
  have := U1.1 (U0 hmay h1).1
  exact ⟨by omega, by omega, rfl⟩
def met (own : Int) (pre : List Int) (k : Nat) : Bool := own == (k : Int) || pre.any fun x => x == (k : Int)
def Fu (own : Int) (pre : List Int) : List AV := (List.range 100).map fun k => bool (met own pre k)
theorem Ri (own : Int) (pre : List Int) : (Fu own pre).length = 100 := by simp [Fu]
theorem Mt (own : Int) (pre : List Int) (j s : Nat) (h : j < 100) : pick false s (List.drop j (Fu own pre)) = some (bool (met own pre j)) := Uu _ _ _ _ h
theorem Li (j : Nat) (h : j < 100) : Yf (List.replicate 100 (bool false)) j [bool true] = Fu j [] := by
 rw [W4, Q0 _ _ _ h, Fu]
 apply List.map_congr_left
 intro k hk
 unfold met
 by_cases e : k = j
 ·subst e; simp
 ·rw [if_neg e]
  have : ((j : Int) == (k : Int)) = false := by simp; omega
  rw [this]; rfl
theorem Av (own : Int) (pre : List Int) (j : Nat) (h : j < 100) : Yf (Fu own pre) j [bool true] = Fu own (pre ++ [(j : Int)]) := by
 rw [Fu, Q0 _ _ _ h, Fu]
 apply List.map_congr_left
 intro k hk
 unfold met
 rw [List.any_append]
 by_cases e : k = j
 ·subst e; simp
 ·rw [if_neg e]
  have : ((j : Int) == (k : Int)) = false := by simp; omega
  simp [this]
theorem X5u (p : Pl) (own : Int) (pre : List Int) (k : Nat) : okL p own pre k = ((Qt p.secs k).isSome && !met own pre k) := by
 unfold okL met
 have e : ((k : Int) == own) = (own == (k : Int)) := by rw [Bool.eq_iff_iff]; simp; omega
 rw [e]
 simp [List.not_any_eq_all_not, Bool.and_assoc]
def X5v (l : List Int) : List AV := [X62 l]
theorem Dl (p : Pl) (r : Rt) (hs : SmB p) (h20 : r.path.length ≤ 5000 ∧ r.over.length ≤ 5000 ∧ r.flanks.length ≤ 5000) (hmay : Uq p.secs = true) (hsg : Qu p = true) (hno : Vy p.sgs r.entry = none ∨ Ma p r = false) : Xr Tryz.prog 58 [plA p, rtA r, .agg (Uj p.secs)] [] (bool (okR p r)) [] := by
 obtain ⟨hp1, hp2, hp3⟩ := h20
 have hsl := hs.sgs
 have hpl := hs.pts
 have c1 := Kl p.sgs r.entry (by omega)
 have c2 := Kl p.sgs r.ex (by omega)
 cases hg : Vy p.sgs r.entry with
 | none =>
  rw [Dj hg]
  rw [hg] at c1
  refine Xc 8 Tryz.func58 rfl fun n out _ _ => ?_
  simp only [Tryz.ntmps58, List.length_cons, List.length_nil, List.length_map, List.length_replicate, Xf, Nat.reduceAdd, Nat.reduceSub, List.replicate, List.cons_append, List.nil_append]
  repeat' (first | (with_reducible first | refine Vk fun K hK => ?_ | refine V0 ?_ | refine Vb ?_ | refine Vs ?_) | ((with_reducible first | refine gE ?_ | refine gR ?_); simp (maxSteps:=9^7) only [ss, X1, tab, simprocAttr, -List.reduceReplicate, plA, plC, rtA, rtC, sgA, sgC, X0, List.length_map, Option.getD_none, Option.isSome_none]) | ((with_reducible refine Vz ?_); refine Vo rfl rfl rfl (fun _ _ => rfl) ?_ <;> first | rfl | skip) | (refine X3 (c1) ?_) | (refine X3 (c2) ?_) | (refine hK _ ?_; clear hK K) | refine Vt rfl ?_)
 | some en =>
  rw [hg] at c1
  have hen : en ∈ p.sgs := List.mem_of_find?_eq_some hg
  obtain ⟨hn1, hn2, hn3⟩ := H2 hmay hsg hen
  obtain ⟨ne, hne⟩ := Int.eq_ofNat_of_zero_le (a := en.2.1) (by omega)
  have hn : ne < 100 := by omega
  have hn' : (ne : Int) < 100 := by omega
  have hn9 : ne ≤ 99 := by omega
  have hok := Rh hg
  rw [hne] at hok
  have hh : Ma p r = false := hno.resolve_left (by rw [hg]; simp)
  ·have hbad := Dk hg hh
   rw [hbad]
   unfold Ma at hh
   generalize hB : (Vy p.sgs r.ex).isSome = B at c2 hh
   generalize (Vy p.sgs r.ex).getD (0, 0, 0) = ex at c2
   have fin : decide ((r.path.length : Int) < 1) = false → decide ((r.path.length : Int) > 6) = false → decide ((r.over.length : Int) > 2) = false → decide ((r.flanks.length : Int) > 3) = false → decide (r.timer < 1) = false → decide (r.timer > 9) = false →
     ((decide (r.ex = 0) || (B && !(r.ex == r.entry))) && !(decide (r.ex = 0) && !r.over.isEmpty)) = true → False := fun e1 e2 e3 e4 e5 e6 e7 => by
    rw [e7] at hh
    simp only [decide_eq_false_iff_not] at e1 e2 e3 e4 e5 e6
    rw [show decide (1 ≤ r.path.length) = true from decide_eq_true (by omega), show decide (r.path.length ≤ 6) = true from decide_eq_true (by omega), show decide (r.over.length ≤ 2) = true from decide_eq_true (by omega), show decide (r.flanks.length ≤ 3) = true from decide_eq_true (by omega),
     show decide (1 ≤ r.timer) = true from decide_eq_true (by omega), show decide (r.timer ≤ 9) = true from decide_eq_true (by omega)] at hh
    cases hh
   clear hh hok
   by_cases hx : r.ex = 0
   ·have x1 : (r.ex != 0) = false := by simp [hx]
    have x2 : (r.ex == 0) = true := by simp [hx]
    by_cases ho : r.over = []
    ·have x3 : decide ((r.over.length : Int) > 0) = false := by simp [ho]
     refine Xc 8 Tryz.func58 rfl fun n out _ _ => ?_
     simp only [Tryz.ntmps58, List.length_cons, List.length_nil, List.length_map, List.length_replicate, Xf, Nat.reduceAdd, Nat.reduceSub, List.replicate, List.cons_append, List.nil_append]
     repeat' (first | (with_reducible first | refine Vk fun K hK => ?_ | refine V0 ?_ | refine Vb ?_ | refine Vs ?_ | apply And.intro) | ((with_reducible first | refine gE ?_ | refine gR ?_); simp (maxSteps:=9^7) only [ss, tab, simprocAttr, -List.reduceReplicate, plA, plC, rtA, rtC, sgA, sgC, X0, List.length_map, Option.getD_some, Option.isSome_some, hne, x1, x2, x3]) | ((with_reducible refine Vz ?_); refine Vo rfl rfl rfl (fun _ _ => rfl) ?_ <;> first | rfl | skip) | (refine X3 (c1) ?_) | (refine X3 (c2) ?_) | (refine hK _ ?_; clear hK K) | refine Vt rfl ?_ | refine Vf rfl ?_ | (refine Vi rfl (fun hg => ?_) (fun hg => ?_)) <;> try simp only [hg] | clear hK K)
     all_goals (exfalso; refine fin (by assumption) (by assumption) (by assumption) (by assumption) (by assumption) (by assumption) ?_; rw [decide_eq_true hx, ho]; rfl)
    ·have x3 : decide ((r.over.length : Int) > 0) = true := decide_eq_true (by have := List.length_pos_iff.2 ho; omega)
     refine Xc 8 Tryz.func58 rfl fun n out _ _ => ?_
     simp only [Tryz.ntmps58, List.length_cons, List.length_nil, List.length_map, List.length_replicate, Xf, Nat.reduceAdd, Nat.reduceSub, List.replicate, List.cons_append, List.nil_append]
     repeat' (first | (with_reducible first | refine Vk fun K hK => ?_ | refine V0 ?_ | refine Vb ?_) | ((with_reducible first | refine gE ?_ | refine gR ?_); simp (maxSteps:=9^7) only [ss, tab, simprocAttr, -List.reduceReplicate, plA, plC, rtA, rtC, sgA, sgC, X0, List.length_map, Option.getD_some, Option.isSome_some, hne, x1, x2, x3]) | ((with_reducible refine Vz ?_); refine Vo rfl rfl rfl (fun _ _ => rfl) ?_ <;> first | rfl | skip) | (refine X3 (c1) ?_) | (refine X3 (c2) ?_) | (refine hK _ ?_; clear hK K) | refine Vt rfl ?_ | refine Vf rfl ?_)
   ·have x1 : (r.ex != 0) = true := by simpa using hx
    have x2 : (r.ex == 0) = false := by simpa using hx
    cases B with
    | false =>
     refine Xc 8 Tryz.func58 rfl fun n out _ _ => ?_
     simp only [Tryz.ntmps58, List.length_cons, List.length_nil, List.length_map, List.length_replicate, Xf, Nat.reduceAdd, Nat.reduceSub, List.replicate, List.cons_append, List.nil_append]
     repeat' (first | (with_reducible first | refine Vk fun K hK => ?_ | refine V0 ?_ | refine Vb ?_ | refine Vs ?_) | ((with_reducible first | refine gE ?_ | refine gR ?_); simp (maxSteps:=9^7) only [ss, tab, simprocAttr, -List.reduceReplicate, plA, plC, rtA, rtC, sgA, sgC, X0, List.length_map, Option.getD_some, Option.isSome_some, hne, x1, x2]) | ((with_reducible refine Vz ?_); refine Vo rfl rfl rfl (fun _ _ => rfl) ?_ <;> first | rfl | skip) | (refine X3 (c1) ?_) | (refine X3 (c2) ?_) | (refine hK _ ?_; clear hK K) | refine Vt rfl ?_ | refine Vf rfl ?_)
    | true =>
     cases x5 : (r.ex == r.entry) with
     | true =>
      refine Xc 8 Tryz.func58 rfl fun n out _ _ => ?_
      simp only [Tryz.ntmps58, List.length_cons, List.length_nil, List.length_map, List.length_replicate, Xf, Nat.reduceAdd, Nat.reduceSub, List.replicate, List.cons_append, List.nil_append]
      repeat' (first | (with_reducible first | refine Vk fun K hK => ?_ | refine V0 ?_ | refine Vb ?_ | refine Vs ?_) | ((with_reducible first | refine gE ?_ | refine gR ?_); simp (maxSteps:=9^7) only [ss, tab, simprocAttr, -List.reduceReplicate, plA, plC, rtA, rtC, sgA, sgC, X0, List.length_map, Option.getD_some, Option.isSome_some, hne, x1, x2, x5]) | ((with_reducible refine Vz ?_); refine Vo rfl rfl rfl (fun _ _ => rfl) ?_ <;> first | rfl | skip) | (refine X3 (c1) ?_) | (refine X3 (c2) ?_) | (refine hK _ ?_; clear hK K) | refine Vt rfl ?_ | refine Vf rfl ?_)
     | false =>
      refine Xc 8 Tryz.func58 rfl fun n out _ _ => ?_
      simp only [Tryz.ntmps58, List.length_cons, List.length_nil, List.length_map, List.length_replicate, Xf, Nat.reduceAdd, Nat.reduceSub, List.replicate, List.cons_append, List.nil_append]
      repeat' (first | (with_reducible first | refine Vk fun K hK => ?_ | refine V0 ?_ | refine Vb ?_ | refine Vs ?_ | apply And.intro) | ((with_reducible first | refine gE ?_ | refine gR ?_); simp (maxSteps:=9^7) only [ss, tab, simprocAttr, -List.reduceReplicate, plA, plC, rtA, rtC, sgA, sgC, X0, List.length_map, Option.getD_some, Option.isSome_some, hne, x1, x2, x5]) | ((with_reducible refine Vz ?_); refine Vo rfl rfl rfl (fun _ _ => rfl) ?_ <;> first | rfl | skip) | (refine X3 (c1) ?_) | (refine X3 (c2) ?_) | (refine hK _ ?_; clear hK K) | refine Vt rfl ?_ | refine Vf rfl ?_ | (refine Vi rfl (fun hg => ?_) (fun hg => ?_)) <;> try simp only [hg] | clear hK K)
      all_goals (exfalso; refine fin (by assumption) (by assumption) (by assumption) (by assumption) (by assumption) (by assumption) ?_; rw [decide_eq_false hx, x5]; rfl)
end Go.Proofs.YtgdhnngpfieloaaGreat.Pln
