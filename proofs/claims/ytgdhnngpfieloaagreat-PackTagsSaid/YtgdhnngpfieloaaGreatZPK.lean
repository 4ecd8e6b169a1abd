/- The layer of abstract values, joined: PK. -/
import Derived.Test.YtgdhnngpfieloaaGreatZGA
import Derived.Test.YtgdhnngpfieloaaGreatZPP
import Derived.Test.YtgdhnngpfieloaaGreatZPQ
import Derived.Test.YtgdhnngpfieloaaGreatZP15
section
namespace Go.Proofs.YtgdhnngpfieloaaGreat.Pln
set_option linter.unusedVariables false
set_option linter.unusedSimpArgs false
open Go Go.VS Tab
set_option maxHeartbeats 4000000
set_option maxRecDepth 4000
theorem Do {α : Type} (g : α → Int) (l : List α) (i : Nat) (hi : i < l.length) (hq : ∀ j (hj : j < i), Ye ((l.take j).map g) (g (l[j]'(by omega))) = true) :
  Ye ((l.take i).map g) (g l[i]) = (Uk (g l[i]) && (decide (i = 0) || decide (g (l[i - 1]'(by omega)) < g l[i]))) := by
 unfold Ye
 rw [List.all_map, ← Bs g l i hi fun j hj k hk => by
  have h := hq j hj
  simp only [Ye, Bool.and_eq_true, List.all_map, List.all_eq_true, Function.comp_apply, decide_eq_true_eq] at h
  exact h.2 _ (Z8 hk (by omega))]
 rfl
theorem Ml {α : Type} {g : α → Int} {l : List α} : Ue Ye (l.map g) = true ↔ ∀ i (hi : i < l.length), Ye ((l.take i).map g) (g l[i]) = true := by
 rw [Z3]
 constructor
 ·intro h i hi
  have := h i (by simpa using hi)
  rwa [← List.map_take, List.getElem_map] at this
 ·intro h i hi
  have hi' : i < l.length := by simpa using hi
  have := h i hi'
  rw [List.getElem_map, ← List.map_take]
  exact this
theorem Dp {α : Type} {g : α → Int} {l : List α} {i : Nat} (hi : i < l.length) (h : Ye ((l.take i).map g) (g l[i]) = false) : Ue Ye (l.map g) = false := by
 rw [Bool.eq_false_iff]
 intro h'
 rw [Ml.1 h' i hi] at h; cases h
theorem Bq (n : Int) : Uk n = (!decide (n < 1) && !decide (n > 99)) := by
 rw [Bool.eq_iff_iff, U1]; simp
def X01 (p : Pl) (i : Nat) : Bool := match p.pts[i]? with
 | some x => Ye ((p.pts.take i).map Prod.fst) x.1 && okP p x
 | none => true
theorem Mx {p : Pl} {i : Nat} (hi : i < p.pts.length) : X01 p i = (Ye ((p.pts.take i).map Prod.fst) p.pts[i].1 && okP p p.pts[i]) := by
 unfold X01; rw [List.getElem?_eq_getElem hi]
theorem H9 {p : Pl} {i : Nat} (hi : i < p.pts.length) (h : X01 p i = false) : Ul p = false := by
 unfold Ul
 rw [Mx hi, Bool.and_eq_false_iff] at h
 rcases h with h | h
 ·rw [Dp (g := Prod.fst) hi h]; simp
 ·rw [Kp hi h, Bool.and_false]
theorem Ha {p : Pl} (h : ∀ i (hi : i < p.pts.length), X01 p i = true) : Ul p = (decide ((p.pts.length : Int) ≤ 6) && ((Dn p.secs : Nat) : Int) == (p.pts.length : Int)) := by
 have h1 : Ue Ye (p.pts.map Prod.fst) = true := Ml.2 fun i hi => by
  have := h i hi; rw [Mx hi, Bool.and_eq_true] at this; exact this.1
 have h2 : p.pts.all (okP p) = true := Mm fun i hi => by
  have := h i hi; rw [Mx hi, Bool.and_eq_true] at this; exact this.2
 unfold Ul
 rw [h1, h2, Bool.and_true, Bool.true_and]
 rw [Bool.eq_iff_iff]
 simp [Dn]; omega
theorem Hb (p : Pl) (hs : SmB p) : Xr Tryz.prog 27 [plA p] [] (bool (Ul p)) [] := by
 have h1 := hs.pts
 have h2 := hs.secs
 refine Xc 2 Tryz.func27 rfl fun n out _ _ => ?_
 simp only [Tryz.ntmps27, List.length_cons, List.length_nil, List.length_map, List.length_replicate, Xf, Nat.reduceAdd, Nat.reduceSub, List.replicate, List.cons_append, List.nil_append]
 repeat' (first | (with_reducible first | refine Vk fun K hK => ?_ | refine V0 ?_) | ((with_reducible refine gE ?_); simp (maxSteps:=9^7) only [ss, X1, tab, simprocAttr, -List.reduceReplicate, plA, plC]) | (refine hK _ ?_; clear hK K))
 refine Xe ?_
 refine Xz (fun i : Nat => [(4, i64 (i : Int)), (3, i64 (Dn (p.secs.take i) : Int)), (8, .top), (9, .top), (10, .top), (11, .top), (12, .top), (13, .top), (14, .top), (15, .top), (16, .top), (17, .top), (18, .top), (19, .top), (20, .top), (21, .top), (22, .top), (23, .top)]) (fun i => [some (.box 28 (plC p)), none]) (fun i => out) (fun i => i ≤ p.secs.length) (fun i => p.secs.length - i) 0 (Nat.zero_le _) ?_ fun i hi => ?_
 ·refine X2 ?_ ?_ (by first | rfl | (simp only [plC, List.length_map, List.take_zero, Wi]; rfl) | simp only [plC, List.length_map, List.take_zero, Wi]) rfl rfl rfl <;> simp only [X4, sl, plC, List.length_map, List.take_zero, Wi]
 simp only [X4, s_0, s_s]
 have hw := Yl (n := i) 1 1 rfl (by omega)
 by_cases hlt : i < p.secs.length
 ·have gi := Xg Y6 p.secs i [] hlt
  have hsc := Sn hlt
  have hcl := H7 (p.secs.take i)
  have hcl2 : (p.secs.take i).length ≤ 1000 := by rw [List.length_take]; omega
  have hw2 := Yl (n := Dn (p.secs.take i)) 1 1 rfl (by omega)
  cases h0 : (p.secs[i].pt != 0) with
  | false =>
   rw [if_pos (by simpa using h0)] at hsc
   replace hsc := hsc.trans (Nat.add_zero _)
   repeat' (first | (with_reducible first | refine Vk fun K hK => ?_ | refine V0 ?_ | refine Vb ?_ | refine Vs ?_) | ((with_reducible refine gE ?_); simp (maxSteps:=9^7) only [ss, X1, tab, simprocAttr, -List.reduceReplicate, plC, List.length_map, hlt, gi, Y6, h0, hw]) | (refine hK _ ?_; clear hK K) | refine Vt rfl ?_ | refine Vf rfl ?_ | clear hK K)
   refine ⟨i + 1, by omega, by omega, ?_⟩
   rw [hsc]
   refine X2 ?_ ?_ rfl rfl rfl rfl <;> simp only [X4, sl, hlt, decide_true]
  | true =>
   rw [if_neg (by simpa using h0)] at hsc
   repeat' (first | (with_reducible first | refine Vk fun K hK => ?_ | refine V0 ?_ | refine Vb ?_ | refine Vs ?_) | ((with_reducible refine gE ?_); simp (maxSteps:=9^7) only [ss, X1, tab, simprocAttr, -List.reduceReplicate, plC, List.length_map, hlt, gi, Y6, h0, hw, hw2]) | (refine hK _ ?_; clear hK K) | refine Vt rfl ?_ | clear hK K)
   refine ⟨i + 1, by omega, by omega, ?_⟩
   rw [hsc]
   refine X2 ?_ ?_ rfl rfl rfl rfl <;> simp only [X4, sl, hlt, decide_true]
 ·obtain rfl : i = p.secs.length := by omega
  repeat' (first | (with_reducible first | refine Vk fun K hK => ?_ | refine V0 ?_) | ((with_reducible refine gE ?_); simp (maxSteps:=9^7) only [ss, X1, tab, simprocAttr, -List.reduceReplicate, plC, List.length_map, hlt, List.take_length]) | ((with_reducible refine Vx ?_); simp only [sb, reduceIte, Nat.reduceEqDiff]) | (refine hK _ ?_; clear hK K) | refine Vf rfl ?_ | clear hK K)
  refine Xe ?_
  refine Xl (fun m (i : Nat) => [(5, i64 (i : Int)), (1, .ptr (m + 0) 0), (2, .top), (6, .top), (7, .top), (24, .top), (25, .top), (26, .top), (27, .top), (28, .top), (29, .top), (30, .top), (31, .top), (32, .top), (33, .top), (34, .top), (35, .top), (36, .top), (37, .top), (38, .top), (39, .top), (40, .top), (41, .top), (42, .top), (43, .top), (44, .top), (45, .top), (46, .top), (47, .top), (48, .top), (49, .top), (50, .top), (51, .top), (52, .top), (53, .top), (54, .top), (55, .top), (56, .top), (57, .top), (58, .top), (59, .top), (60, .top), (61, .top), (62, .top), (63, .top), (64, .top), (65, .top), (66, .top), (67, .top), (68, .top), (69, .top), (70, .top), (71, .top), (72, .top), (73, .top), (74, .top), (75, .top), (76, .top), (77, .top), (78, .top), (79, .top)]) (fun m i => [some (.box 28 (plC p)), none]) (fun i => out) (fun i => i ≤ p.pts.length ∧ (∀ j, j < i → X01 p j = true)) (fun i => p.pts.length - i) 0 ⟨Nat.zero_le _, by intros; omega⟩ ?_ fun m i hm hi => ?_
  ·refine X2 ?_ ?_ (by first | rfl | (simp only [plC, List.length_map]; rfl) | simp only [plC, List.length_map]) rfl rfl rfl <;> simp only [X4, sl, plC, List.length_map]
  obtain ⟨hi, hq⟩ := hi
  simp only [X4, s_0, s_s]
  have hw := Yl (n := i) 1 1 rfl (by omega)
  by_cases hlt : i < p.pts.length
  ·have gi := Xg jnC p.pts i [] hlt
   have ca := X39 p.secs p.pts[i].2 (by omega)
   have ho := Mx hlt
   rw [Do Prod.fst p.pts i hlt fun j hj => by
    have := hq j hj; rw [Mx (by omega), Bool.and_eq_true] at this; exact this.1, Bq] at ho
   have next : X01 p i = true → ∀ j, j < i + 1 → X01 p j = true := fun h j hj => by
    by_cases h' : j = i
    ·subst h'; exact h
    ·exact hq j (by omega)
   have bad : X01 p i = false → Ul p = false := fun h => H9 hlt h
   clear hq
   generalize X01 p i = O at *
   by_cases h0 : i = 0
   ·have hd0 : decide ((i : Int) > 0) = false := decide_eq_false (by omega)
    rw [decide_eq_true h0, Bool.true_or, Bool.and_true] at ho
    rcases Ze (fun s : Sec => s.id == p.pts[i].2) p.secs with ⟨z1, z2, z3⟩ | ⟨k, hk, z1, z2, z3, z4⟩
    ·have hkn : okP p p.pts[i] = false := by unfold okP Qt; rw [z2]
     rw [hkn, Bool.and_false] at ho
     rw [z1] at ca
     repeat' (first | (with_reducible first | refine Vk fun K hK => ?_ | refine V0 ?_ | refine Vb ?_ | refine Vs ?_ | refine Vd 12 [] [[],[1],[],[],[],[1],[],[],[],[],[],[],[],[0],[],[],[],[],[],[],[1],[],[],[],[],[],[],[],[],[],[0],[],[],[],[],[],[1],[],[]] [[],[],[],[],[],[],[],[],[],[],[],[],[],[],[],[],[],[],[],[],[],[],[],[],[],[],[],[],[],[],[],[],[],[],[],[],[],[],[]] (by kernel_rfl) (by decide) (by decide) (by kernel_rfl) ?_) | ((with_reducible first | refine gE ?_ | refine gR ?_ | refine gD ?_); simp (maxSteps:=9^7) only [ss, X1, tab, simprocAttr, -List.reduceReplicate, sg, Xi hm, plC, List.length_map, hlt, gi, jnC, X0, hd0, Int.reduceNeg, decide_true]) | ((with_reducible refine Vz ?_); refine Vo rfl rfl rfl (fun _ _ => rfl) ?_ <;> first | rfl | (rw [bad ho]; rfl) | skip) | (refine X3 (ca) ?_) | ((with_reducible first | refine Vg (fun hg => ?_) (fun hg => ?_) | refine Y5 (fun hg => ?_) (fun hg => ?_)) <;> (try simp only [nb] at hg) <;> simp (maxSteps:=9^7) only [ss, X1, tab, simprocAttr, -List.reduceReplicate, hg, sg, Xi hm, plC, List.length_map, hlt, gi, jnC, X0, hd0, Int.reduceNeg, decide_true]) | (refine hK _ ?_; clear hK K) | refine Vt rfl ?_)
    ·have hkn : okP p p.pts[i] = !(p.secs[k].pt != p.pts[i].1) := by unfold okP Qt; rw [z2]; simp [bne]
     have hk0 : decide ((k : Int) < 0) = false := decide_eq_false (by omega)
     have gk := Xg Y6 p.secs k [] hk
     rw [z1] at ca
     rw [hkn] at ho
     clear hkn z1 z2 z3 z4
     repeat' (first | (with_reducible first | refine Vk fun K hK => ?_ | refine V0 ?_ | refine Vb ?_ | refine Vs ?_ | refine Vd 12 [] [[],[1],[],[],[],[1],[],[],[],[],[],[],[],[0],[],[],[],[],[],[],[1],[],[],[],[],[],[],[],[],[],[0],[],[],[],[],[],[1],[],[]] [[],[],[],[],[],[],[],[],[],[],[],[],[],[],[],[],[],[],[],[],[],[],[],[],[],[],[],[],[],[],[],[],[],[],[],[],[],[],[]] (by kernel_rfl) (by decide) (by decide) (by kernel_rfl) ?_) | ((with_reducible first | refine gE ?_ | refine gR ?_ | refine gD ?_); simp (maxSteps:=9^7) only [ss, X1, tab, simprocAttr, -List.reduceReplicate, sg, Xi hm, plC, List.length_map, hlt, gi, jnC, X0, hd0, hk0, hk, gk, Y6, hw]) | ((with_reducible refine Vz ?_); refine Vo rfl rfl rfl (fun _ _ => rfl) ?_ <;> first | rfl | (rw [bad (by rw [ho]; simp_all)]; rfl) | skip) | (refine X3 (ca) ?_) | ((with_reducible first | refine Vg (fun hg => ?_) (fun hg => ?_) | refine Y5 (fun hg => ?_) (fun hg => ?_)) <;> (try simp only [nb] at hg) <;> simp (maxSteps:=9^7) only [ss, X1, tab, simprocAttr, -List.reduceReplicate, hg, sg, Xi hm, plC, List.length_map, hlt, gi, jnC, X0, hd0, hk0, hk, gk, Y6, hw]) | (refine hK _ ?_; clear hK K) | refine Vt rfl ?_ | refine Vi rfl (fun hg => ?_) (fun hg => ?_) | clear hK K)
     refine ⟨i + 1, ⟨by omega, next (by rw [ho]; simp_all)⟩, by omega, ?_⟩
     refine Xx [true, false] (fun n_ => ?_) (fun n_ => ?_) <;> simp only [X4, sm, plC, hlt, decide_true]
   ·have hd0 : decide ((i : Int) > 0) = true := decide_eq_true (by omega)
    have hs1 := X25 (n := i) 1 1 rfl (by omega) (by omega)
    have hl1 : i - 1 < p.pts.length := by omega
    have g1 := Xg jnC p.pts (i - 1) [] hl1
    have hge : decide (p.pts[i - 1].1 ≥ p.pts[i].1) = !decide (p.pts[i - 1].1 < p.pts[i].1) := by rw [Bool.eq_iff_iff]; simp
    rw [decide_eq_false h0, Bool.false_or] at ho
    generalize decide (p.pts[i - 1].1 < p.pts[i].1) = D at hge ho
    rcases Ze (fun s : Sec => s.id == p.pts[i].2) p.secs with ⟨z1, z2, z3⟩ | ⟨k, hk, z1, z2, z3, z4⟩
    ·have hkn : okP p p.pts[i] = false := by unfold okP Qt; rw [z2]
     rw [hkn, Bool.and_false] at ho
     rw [z1] at ca
     repeat' (first | (with_reducible first | refine Vk fun K hK => ?_ | refine V0 ?_ | refine Vb ?_ | refine Vs ?_ | refine Vd 12 [] [[],[1],[],[],[],[1],[],[],[],[],[],[],[],[0],[],[],[],[],[],[],[1],[],[],[],[],[],[],[],[],[],[0],[],[],[],[],[],[1],[],[]] [[],[],[],[],[],[],[],[],[],[],[],[],[],[],[],[],[],[],[],[],[],[],[],[],[],[],[],[],[],[],[],[],[],[],[],[],[],[],[]] (by kernel_rfl) (by decide) (by decide) (by kernel_rfl) ?_) | ((with_reducible first | refine gE ?_ | refine gR ?_ | refine gD ?_); simp (maxSteps:=9^7) only [ss, X1, tab, simprocAttr, -List.reduceReplicate, sg, Xi hm, plC, List.length_map, hlt, gi, jnC, X0, hd0, hs1, hl1, g1, hge, Int.reduceNeg, decide_true]) | ((with_reducible refine Vz ?_); refine Vo rfl rfl rfl (fun _ _ => rfl) ?_ <;> first | rfl | (rw [bad ho]; rfl) | skip) | (refine X3 (ca) ?_) | ((with_reducible first | refine Vg (fun hg => ?_) (fun hg => ?_) | refine Y5 (fun hg => ?_) (fun hg => ?_)) <;> (try simp only [nb] at hg) <;> simp (maxSteps:=9^7) only [ss, X1, tab, simprocAttr, -List.reduceReplicate, hg, sg, Xi hm, plC, List.length_map, hlt, gi, jnC, X0, hd0, hs1, hl1, g1, hge, Int.reduceNeg, decide_true]) | (refine hK _ ?_; clear hK K) | refine Vt rfl ?_)
    ·have hkn : okP p p.pts[i] = !(p.secs[k].pt != p.pts[i].1) := by unfold okP Qt; rw [z2]; simp [bne]
     have hk0 : decide ((k : Int) < 0) = false := decide_eq_false (by omega)
     have gk := Xg Y6 p.secs k [] hk
     rw [z1] at ca
     rw [hkn] at ho
     clear hkn z1 z2 z3 z4
     repeat' (first | (with_reducible first | refine Vk fun K hK => ?_ | refine V0 ?_ | refine Vb ?_ | refine Vs ?_ | refine Vd 12 [] [[],[1],[],[],[],[1],[],[],[],[],[],[],[],[0],[],[],[],[],[],[],[1],[],[],[],[],[],[],[],[],[],[0],[],[],[],[],[],[1],[],[]] [[],[],[],[],[],[],[],[],[],[],[],[],[],[],[],[],[],[],[],[],[],[],[],[],[],[],[],[],[],[],[],[],[],[],[],[],[],[],[]] (by kernel_rfl) (by decide) (by decide) (by kernel_rfl) ?_) | ((with_reducible first | refine gE ?_ | refine gR ?_ | refine gD ?_); simp (maxSteps:=9^7) only [ss, X1, tab, simprocAttr, -List.reduceReplicate, sg, Xi hm, plC, List.length_map, hlt, gi, jnC, X0, hd0, hs1, hl1, g1, hge, hk0, hk, gk, Y6, hw]) | ((with_reducible refine Vz ?_); refine Vo rfl rfl rfl (fun _ _ => rfl) ?_ <;> first | rfl | (rw [bad (by rw [ho]; clear hge; simp_all)]; rfl) | skip) | (refine X3 (ca) ?_) | ((with_reducible first | refine Vg (fun hg => ?_) (fun hg => ?_) | refine Y5 (fun hg => ?_) (fun hg => ?_)) <;> (try simp only [nb] at hg) <;> simp (maxSteps:=9^7) only [ss, X1, tab, simprocAttr, -List.reduceReplicate, hg, sg, Xi hm, plC, List.length_map, hlt, gi, jnC, X0, hd0, hs1, hl1, g1, hge, hk0, hk, gk, Y6, hw]) | (refine hK _ ?_; clear hK K) | refine Vt rfl ?_ | refine Vi rfl (fun hg => ?_) (fun hg => ?_) | clear hK K)
     refine ⟨i + 1, ⟨by omega, next (by rw [ho]; clear hge; simp_all)⟩, by omega, ?_⟩
     refine Xx [true, false] (fun n_ => ?_) (fun n_ => ?_) <;> simp only [X4, sm, plC, hlt, decide_true]
  ·have e := Ha fun j hj => hq j (by omega)
   obtain rfl : i = p.pts.length := by omega
   clear hq
   repeat' (first | (with_reducible first | refine Vk fun K hK => ?_ | refine V0 ?_) | ((with_reducible refine gE ?_); simp (maxSteps:=9^7) only [ss, X1, tab, simprocAttr, -List.reduceReplicate, Xi hm, plC, List.length_map, hlt]) | ((with_reducible refine Vz ?_); refine Vo rfl rfl rfl (fun _ _ => rfl) ?_ <;> first | rfl | (rw [e]; simp only [g_0, g_s]; refine congrArg VS.bool ?_; clear e; first | (simp_all; done) | (simp_all; omega)) | skip) | ((with_reducible refine Vg (fun hg => ?_) (fun hg => ?_)) <;> (try simp only [nb] at hg) <;> simp (maxSteps:=9^7) only [ss, X1, tab, simprocAttr, -List.reduceReplicate, hg, Xi hm, plC, List.length_map, hlt]) | ((with_reducible refine Vx ?_); simp only [sb, reduceIte, Nat.reduceEqDiff]) | (refine hK _ ?_; clear hK K) | refine Vf rfl ?_ | clear hK K)
end Go.Proofs.YtgdhnngpfieloaaGreat.Pln
end
section
namespace Go.Proofs.YtgdhnngpfieloaaGreat.Pln
set_option linter.unusedVariables false
set_option linter.unusedSimpArgs false
open Go Go.VS Tab
set_option maxHeartbeats 4000000
set_option maxRecDepth 4000
def Ll (p : Pl) (x : Int × Int × Int) : Bool := Uk x.1 && match Qt p.secs x.2.1 with
 | none => false
 | some s => decide (0 ≤ x.2.2) && decide (x.2.2 < s.ends.length)
def Ki (y x : Int × Int × Int) : Bool := !(decide (y.1 ≥ x.1) || (y.2.1 == x.2.1 && y.2.2 == x.2.2))
theorem My {y x : Int × Int × Int} : Ki y x = true ↔ y.1 < x.1 ∧ (y.2 == x.2) = false := by
 obtain ⟨a, b, c⟩ := y
 obtain ⟨d, e, f⟩ := x
 simp only [Ki, Bool.not_eq_true', Bool.or_eq_false_iff, Bool.and_eq_false_iff, decide_eq_false_iff_not, beq_eq_false_iff_ne, Prod.mk.injEq, ne_eq, Prod.mk.injEq]
 omega
theorem Mz {p : Pl} : Qu p = true ↔ p.sgs.length ≤ 10 ∧ ∀ i (hi : i < p.sgs.length), Ll p p.sgs[i] = true ∧ ∀ m (hm : m < i), Ki (p.sgs[m]'(by omega)) p.sgs[i] = true := by
 have key : ∀ i (hi : i < p.sgs.length), (Ye ((p.sgs.take i).map Prod.fst) p.sgs[i].1 = true ∧ okG p (p.sgs.take i) p.sgs[i] = true) ↔ (Ll p p.sgs[i] = true ∧ ∀ m (hm : m < i), Ki (p.sgs[m]'(by omega)) p.sgs[i] = true) := by
  intro i hi
  unfold Ye okG Ll
  simp only [Bool.and_eq_true, List.all_map, List.all_eq_true, Function.comp_apply, decide_eq_true_eq, Bool.not_eq_true']
  constructor
  ·rintro ⟨⟨h1, h2⟩, h3, h4⟩
   refine ⟨⟨h1, h3⟩, fun m hm => My.2 ⟨h2 _ (Z8 hm (by omega)), h4 _ (Z8 hm (by omega))⟩⟩
  ·rintro ⟨⟨h1, h3⟩, h5⟩
   refine ⟨⟨h1, fun x hx => ?_⟩, h3, fun x hx => ?_⟩
   ·rw [List.mem_take_iff_getElem] at hx
    obtain ⟨m, hm, rfl⟩ := hx
    exact (My.1 (h5 m (by omega))).1
   ·rw [List.mem_take_iff_getElem] at hx
    obtain ⟨m, hm, rfl⟩ := hx
    exact (My.1 (h5 m (by omega))).2
 unfold Qu
 rw [Bool.and_eq_true, Bool.and_eq_true, Ml, Z3, decide_eq_true_eq]
 constructor
 ·rintro ⟨⟨h1, h2⟩, h3⟩
  exact ⟨h2, fun i hi => (key i hi).1 ⟨h1 i hi, h3 i hi⟩⟩
 ·rintro ⟨h1, h2⟩
  exact ⟨⟨fun i hi => ((key i hi).2 (h2 i hi)).1, h1⟩, fun i hi => ((key i hi).2 (h2 i hi)).2⟩
theorem Es {p : Pl} {i : Nat} (hi : i < p.sgs.length) (h : Ll p p.sgs[i] = false) : Qu p = false := by
 rw [Bool.eq_false_iff]; intro h'
 rw [((Mz.1 h').2 i hi).1] at h; cases h
theorem Et {p : Pl} {i m : Nat} (hi : i < p.sgs.length) (hm : m < i) (h : Ki (p.sgs[m]'(by omega)) p.sgs[i] = false) : Qu p = false := by
 rw [Bool.eq_false_iff]; intro h'
 rw [((Mz.1 h').2 i hi).2 m hm] at h; cases h
theorem Hc {p : Pl} (h : ∀ i (hi : i < p.sgs.length), Ll p p.sgs[i] = true ∧ ∀ m (hm : m < i), Ki (p.sgs[m]'(by omega)) p.sgs[i] = true) : Qu p = decide ((p.sgs.length : Int) ≤ 10) := by
 rw [Bool.eq_iff_iff, Mz, decide_eq_true_eq]
 exact ⟨fun h' => by omega, fun h' => ⟨by omega, h⟩⟩
theorem Eu {p : Pl} {x : Int × Int × Int} {s : Sec} (h : Qt p.secs x.2.1 = some s) : Ll p x = (!decide (x.1 < 1) && !decide (x.1 > 99) && (!decide (x.2.2 < 0) && !decide (x.2.2 ≥ (s.ends.length : Int)))) := by
 unfold Ll
 rw [h, Bq]
 congr 1
 rw [Bool.eq_iff_iff]; simp
theorem Ev (p : Pl) (hs : SmB p) : Xr Tryz.prog 28 [plA p] [] (bool (Qu p)) [] := by
 have h1 := hs.sgs
 have h2 := hs.secs
 refine Xc 3 Tryz.func28 rfl fun n out _ _ => ?_
 simp only [Tryz.ntmps28, List.length_cons, List.length_nil, List.length_map, List.length_replicate, Xf, Nat.reduceAdd, Nat.reduceSub, List.replicate, List.cons_append, List.nil_append]
 repeat' (first | (with_reducible first | refine Vk fun K hK => ?_ | refine V0 ?_) | ((with_reducible refine gE ?_); simp (maxSteps:=9^7) only [ss, X1, tab, simprocAttr, -List.reduceReplicate, plA, plC]) | (refine hK _ ?_; clear hK K))
 refine Xe ?_
 refine Xl (fun m (i : Nat) => [(3, i64 (i : Int)), (1, .ptr (m + 0) 0), (2, .top), (4, .top), (5, .top), (6, .top), (7, .top), (8, .top), (9, .top), (10, .top), (11, .top), (12, .top), (13, .top), (14, .top), (15, .top), (16, .top), (17, .top), (18, .top), (19, .top), (20, .top), (21, .top), (22, .top), (23, .top), (24, .top), (25, .top), (26, .top), (27, .top), (28, .top), (29, .top), (30, .top), (31, .top), (32, .top), (33, .top), (34, .top), (35, .top), (36, .top), (37, .top), (38, .top), (39, .top), (40, .top), (41, .top), (42, .top), (43, .top), (44, .top), (45, .top), (46, .top), (47, .top), (48, .top), (49, .top), (50, .top), (51, .top), (52, .top), (53, .top), (54, .top), (55, .top), (56, .top), (57, .top), (58, .top), (59, .top), (60, .top), (61, .top), (62, .top), (63, .top), (64, .top), (65, .top), (66, .top), (67, .top), (68, .top), (69, .top), (70, .top), (71, .top), (72, .top), (73, .top), (74, .top), (75, .top), (76, .top), (77, .top), (78, .top), (79, .top), (80, .top), (81, .top), (82, .top)]) (fun m i => [some (.box 28 (plC p)), none, none]) (fun i => out) (fun i => i ≤ p.sgs.length ∧ (∀ j (hj : j < p.sgs.length), j < i → Ll p p.sgs[j] = true ∧ ∀ m (hm : m < j), Ki (p.sgs[m]'(by omega)) p.sgs[j] = true)) (fun i => p.sgs.length - i) 0 ⟨Nat.zero_le _, by intros; omega⟩ ?_ fun m i hm hi => ?_
 ·refine X2 ?_ ?_ (by first | rfl | (simp only [plC, List.length_map]; rfl) | simp only [plC, List.length_map]) rfl rfl rfl <;> simp only [X4, sl, plC, List.length_map]
 obtain ⟨hi, hq⟩ := hi
 simp only [X4, s_0, s_s]
 have hw := Yl (n := i) 1 1 rfl (by omega)
 by_cases hlt : i < p.sgs.length
 ·have gi := Xg sgC p.sgs i [] hlt
  have ca := X39 p.secs p.sgs[i].2.1 (by omega)
  have next : Ll p p.sgs[i] = true → (∀ m (hm : m < i), Ki (p.sgs[m]'(by omega)) p.sgs[i] = true) → ∀ j (hj : j < p.sgs.length), j < i + 1 → Ll p p.sgs[j] = true ∧ ∀ m (hm : m < j), Ki (p.sgs[m]'(by omega)) p.sgs[j] = true := fun a b j hj hji => by
   by_cases h' : j = i
   ·subst h'; exact ⟨a, b⟩
   ·exact hq j hj (by omega)
  have bad := Es hlt
  clear hq
  rcases Ze (fun s : Sec => s.id == p.sgs[i].2.1) p.secs with ⟨z1, z2, z3⟩ | ⟨k, hk, z1, z2, z3, z4⟩
  ·have hkn : Ll p p.sgs[i] = false := by unfold Ll Qt; rw [z2, Bool.and_false]
   rw [z1] at ca
   repeat' (first | (with_reducible first | refine Vk fun K hK => ?_ | refine V0 ?_ | refine Vb ?_ | refine Vs ?_ | refine Vd 6 [] [[],[1],[],[],[],[1],[],[],[],[],[],[],[],[],[1],[],[],[],[],[1],[],[0],[],[],[],[],[],[],[]] [[],[],[],[],[],[],[],[],[],[],[],[],[],[],[],[],[],[],[],[],[],[],[],[],[],[],[],[],[]] (by kernel_rfl) (by decide) (by decide) (by kernel_rfl) ?_) | ((with_reducible first | refine gE ?_ | refine gR ?_ | refine gD ?_); simp (maxSteps:=9^7) only [ss, X1, tab, simprocAttr, -List.reduceReplicate, sg, Xi hm, plC, List.length_map, hlt, gi, sgC, X0, Int.reduceNeg, decide_true]) | ((with_reducible refine Vz ?_); refine Vo rfl rfl rfl (fun _ _ => rfl) ?_ <;> first | rfl | (rw [bad hkn]; rfl) | skip) | (refine X3 (ca) ?_) | ((with_reducible first | refine Vg (fun hg => ?_) (fun hg => ?_) | refine Y5 (fun hg => ?_) (fun hg => ?_)) <;> (try simp only [nb] at hg) <;> simp (maxSteps:=9^7) only [ss, X1, tab, simprocAttr, -List.reduceReplicate, hg, sg, Xi hm, plC, List.length_map, hlt, gi, sgC, X0, Int.reduceNeg, decide_true]) | (refine hK _ ?_; clear hK K) | refine Vt rfl ?_)
  ·have ho := Eu (p := p) (x := p.sgs[i]) (s := p.secs[k]) z2
   have hk0 : decide ((k : Int) < 0) = false := decide_eq_false (by omega)
   have gk := Xg Y6 p.secs k [] hk
   rw [z1] at ca
   clear z1 z2 z3 z4
   repeat' (first | (with_reducible first | refine Vk fun K hK => ?_ | refine V0 ?_ | refine Vb ?_ | refine Vs ?_ | refine Vd 6 [] [[],[1],[],[],[],[1],[],[],[],[],[],[],[],[],[1],[],[],[],[],[1],[],[0],[],[],[],[],[],[],[]] [[],[],[],[],[],[],[],[],[],[],[],[],[],[],[],[],[],[],[],[],[],[],[],[],[],[],[],[],[]] (by kernel_rfl) (by decide) (by decide) (by kernel_rfl) ?_) | ((with_reducible first | refine gE ?_ | refine gR ?_ | refine gD ?_); simp (maxSteps:=9^7) only [ss, X1, tab, simprocAttr, -List.reduceReplicate, sg, Xi hm, plC, List.length_map, hlt, gi, sgC, X0, hk0, hk, gk, Y6, hw]) | ((with_reducible refine Vz ?_); refine Vo rfl rfl rfl (fun _ _ => rfl) ?_ <;> first | rfl | (rw [bad (by rw [ho]; simp_all)]; rfl) | skip) | (refine X3 (ca) ?_) | ((with_reducible first | refine Vg (fun hg => ?_) (fun hg => ?_) | refine Y5 (fun hg => ?_) (fun hg => ?_)) <;> (try simp only [nb] at hg) <;> simp (maxSteps:=9^7) only [ss, X1, tab, simprocAttr, -List.reduceReplicate, hg, sg, Xi hm, plC, List.length_map, hlt, gi, sgC, X0, hk0, hk, gk, Y6, hw]) | (refine hK _ ?_; clear hK K) | refine Vt rfl ?_ | refine Vi rfl (fun hg => ?_) (fun hg => ?_))
   have hhead : Ll p p.sgs[i] = true := by rw [ho]; simp_all
   have hlti := hlt
   refine Xe ?_
   refine Xl (fun m (k2 : Nat) => [(6, i64 (k2 : Int)), (1, .ptr (m + 0) 0), (4, .ptr (m + 1) 0), (2, .top), (7, .top), (54, .top), (55, .top), (56, .top), (57, .top), (58, .top), (59, .top), (60, .top), (61, .top), (62, .top), (63, .top), (64, .top), (65, .top), (66, .top), (67, .top), (68, .top), (69, .top), (70, .top), (71, .top), (72, .top), (73, .top), (74, .top), (75, .top), (76, .top), (77, .top), (78, .top), (79, .top), (80, .top), (81, .top), (82, .top)]) (fun m k2 => [some (.box 28 (plC p)), some (.box 59 (sgC p.sgs[i])), none]) (fun k2 => out) (fun k2 => k2 ≤ i ∧ (∀ q (hqk : q < k2) (hqi : q < i), Ki (p.sgs[q]'(by omega)) p.sgs[i] = true)) (fun k2 => i - k2) 0 ⟨Nat.zero_le _, by intros; omega⟩ ?_ fun m k2 hm hk2 => ?_
   ·refine X2 ?_ ?_ (by first | rfl | (simp only [plC, sgC]; rfl) | simp only [plC, sgC]) rfl rfl rfl <;> simp only [X4, sl, plC, sgC]
   obtain ⟨hk2, hq⟩ := hk2
   simp only [X4, s_0, s_s]
   have hw2 := Yl (n := k2) 1 1 rfl (by omega)
   by_cases hltk : k2 < i
   ·have hkl : k2 < p.sgs.length := by omega
    have gk2 := Xg sgC p.sgs k2 [] hkl
    have pe : Ki p.sgs[k2] p.sgs[i] = !(decide (p.sgs[k2].1 ≥ p.sgs[i].1) || (p.sgs[k2].2.1 == p.sgs[i].2.1 && p.sgs[k2].2.2 == p.sgs[i].2.2)) := rfl
    have pbad := Et hlti hltk
    have pnext : Ki p.sgs[k2] p.sgs[i] = true → ∀ q (hqk : q < k2 + 1) (hqi : q < i), Ki (p.sgs[q]'(by omega)) p.sgs[i] = true := fun a q h1 h2 => by
     by_cases h' : q = k2
     ·subst h'; exact a
     ·exact hq q (by omega) h2
    clear hq next bad
    generalize Ki p.sgs[k2] p.sgs[i] = PG at *
    repeat' (first | (with_reducible first | refine Vk fun K hK => ?_ | refine V0 ?_ | refine Vb ?_ | refine Vs ?_) | ((with_reducible refine gE ?_); simp (maxSteps:=9^7) only [ss, X1, tab, simprocAttr, -List.reduceReplicate, Xi hm, plC, List.length_map, hltk, hkl, gk2, sgC, X0, hw2]) | ((with_reducible refine Vz ?_); refine Vo rfl rfl rfl (fun _ _ => rfl) ?_ <;> first | rfl | (rw [pbad (by rw [pe]; simp_all)]; rfl) | skip) | ((with_reducible refine Vg (fun hg => ?_) (fun hg => ?_)) <;> (try simp only [nb] at hg) <;> simp (maxSteps:=9^7) only [ss, X1, tab, simprocAttr, -List.reduceReplicate, hg, Xi hm, plC, List.length_map, hltk, hkl, gk2, sgC, X0, hw2]) | (refine hK _ ?_; clear hK K) | refine Vt rfl ?_ | refine Vf rfl ?_ | refine Vi rfl (fun hg => ?_) (fun hg => ?_) | clear hK K)
    ·refine ⟨k2 + 1, ⟨by omega, pnext (by rw [pe]; simp_all)⟩, by omega, ?_⟩
     refine Xx [true, true, false] (fun n_ => ?_) (fun n_ => ?_) <;> simp only [X4, sm, plC, sgC, hltk, decide_true]
    ·refine ⟨k2 + 1, ⟨by omega, pnext (by rw [pe]; simp_all)⟩, by omega, ?_⟩
     refine Xx [true, true, false] (fun n_ => ?_) (fun n_ => ?_) <;> simp only [X4, sm, plC, sgC, hltk, decide_true]
   ·obtain rfl : k2 = i := by omega
    repeat' (first | (with_reducible first | refine Vk fun K hK => ?_ | refine V0 ?_) | ((with_reducible refine gE ?_); simp (maxSteps:=9^7) only [ss, X1, tab, simprocAttr, -List.reduceReplicate, Xi hm, plC, List.length_map, hltk, hw]) | ((with_reducible refine Vx ?_); simp only [sb, reduceIte, Nat.reduceEqDiff]) | (refine hK _ ?_; clear hK K) | refine Vf rfl ?_ | clear hK K)
    refine ⟨k2 + 1, ⟨by omega, next hhead fun m hm => hq m hm hm⟩, by omega, ?_⟩
    refine Xx [true, false, false] (fun n_ => ?_) (fun n_ => ?_) <;> simp only [X4, sm, plC, hlti, decide_true]
 ·have e := Hc fun j hj => hq j hj (by omega)
  obtain rfl : i = p.sgs.length := by omega
  clear hq
  repeat' (first | (with_reducible first | refine Vk fun K hK => ?_ | refine V0 ?_) | ((with_reducible refine gE ?_); simp (maxSteps:=9^7) only [ss, X1, tab, simprocAttr, -List.reduceReplicate, Xi hm, plC, List.length_map, hlt]) | ((with_reducible refine Vz ?_); refine Vo rfl rfl rfl (fun _ _ => rfl) ?_ <;> first | rfl | (rw [e]; rfl) | skip) | ((with_reducible refine Vx ?_); simp only [sb, reduceIte, Nat.reduceEqDiff]) | (refine hK _ ?_; clear hK K) | refine Vf rfl ?_ | clear hK K)
end Go.Proofs.YtgdhnngpfieloaaGreat.Pln
end
