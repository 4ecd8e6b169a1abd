/- The layer of abstract values, joined: PL. -/
import Derived.Test.YtgdhnngpfieloaaGreatZGA
import Derived.Test.YtgdhnngpfieloaaGreatZPS
section
namespace Go.Proofs.YtgdhnngpfieloaaGreat.Pln
set_option linter.unusedVariables false
set_option linter.unusedSimpArgs false
open Go Go.VS Tab
set_option maxHeartbeats 8000000
set_option maxRecDepth 4000
def X38 (p : Pl) : Bool := decide (p.ver < 1) || decide (p.ver > 2147483647) || decide (p.par < 0) || decide (p.par ≥ p.ver) || decide ((p.rts.length : Int) > 16)
def X02 (p : Pl) (i : Nat) : Bool := match p.rts[i]? with
 | some x => Ye ((p.rts.take i).map Rt.id) x.id && okR p x
 | none => true
theorem N1 {p : Pl} {i : Nat} (hi : i < p.rts.length) : X02 p i = (Ye ((p.rts.take i).map Rt.id) p.rts[i].id && okR p p.rts[i]) := by
 unfold X02; rw [List.getElem?_eq_getElem hi]
theorem Rk (p : Pl) : Uf p = (!X38 p && Uq p.secs && Ul p && Qu p && Ue Ye (p.rts.map Rt.id) && p.rts.all (okR p)) := by
 have e : (Kq p && decide (p.rts.length ≤ 16)) = !X38 p := by
  rw [Bool.eq_iff_iff]; simp [Kq, X38]; omega
 unfold Uf
 rw [← e]
 generalize Kq p = A
 generalize Uq p.secs = B
 generalize Ul p = C
 generalize Qu p = D
 generalize decide (p.rts.length ≤ 16) = E
 generalize Ue Ye (p.rts.map Rt.id) = F
 cases A <;> cases B <;> cases C <;> cases D <;> cases E <;> cases F <;> rfl
theorem X03 {p : Pl} {i : Nat} (hi : i < p.rts.length) (h : X02 p i = false) : Uf p = false := by
 rw [Rk]
 rw [N1 hi, Bool.and_eq_false_iff] at h
 rcases h with h | h
 ·rw [Dp (g := Rt.id) hi h]; simp
 ·rw [Kp hi h, Bool.and_false]
theorem X04 {p : Pl} (h : ∀ i (hi : i < p.rts.length), X02 p i = true) : Uf p = (!X38 p && Uq p.secs && Ul p && Qu p) := by
 have h1 : Ue Ye (p.rts.map Rt.id) = true := Ml.2 fun i hi => by
  have := h i hi; rw [N1 hi, Bool.and_eq_true] at this; exact this.1
 have h2 : p.rts.all (okR p) = true := Mm fun i hi => by
  have := h i hi; rw [N1 hi, Bool.and_eq_true] at this; exact this.2
 rw [Rk, h1, h2, Bool.and_true, Bool.and_true]
theorem Hd (p : Pl) (hs : SmB p) : Xr Tryz.prog 13 [plA p] [] (bool (Uf p)) [] := by
 have h1 := hs.rts
 have cA := X3a p.secs (by have := hs.secs; omega) (fun s h => by have := hs.ends s h; omega)
 have cB := Hb p hs
 have cC := Ev p hs
 have cR := fun r h => X0e p r hs (hs.rt r h)
 simp only [plA, plC] at cB cC cR
 cases hG : (!X38 p && Uq p.secs && Ul p && Qu p) with
 | false =>
  have hno : Uf p = false := by rw [Rk, hG]; rfl
  rw [hno]
  unfold X38 at hG
  clear hno cR
  generalize Uq p.secs = MA at *
  generalize Ul p = MB at *
  generalize Qu p = MC at *
  refine Xc 2 Tryz.func13 rfl fun n out _ _ => ?_
  simp only [Tryz.ntmps13, List.length_cons, List.length_nil, List.length_map, List.length_replicate, Xf, Nat.reduceAdd, Nat.reduceSub, List.replicate, List.cons_append, List.nil_append]
  repeat' (first | (with_reducible first | refine Vk fun K hK => ?_ | refine V0 ?_ | refine Vs ?_) | ((with_reducible first | refine gE ?_ | refine gR ?_); simp (maxSteps:=9^7) only [ss, X1, tab, simprocAttr, -List.reduceReplicate, plA, plC, List.length_map]) | ((with_reducible refine Vz ?_); refine Vo rfl rfl rfl (fun _ _ => rfl) ?_ <;> first | rfl | skip) | (refine X3 (cA) ?_) | (refine X3 (cB) ?_) | (refine X3 (cC) ?_) | ((with_reducible refine Vg (fun hg => ?_) (fun hg => ?_)) <;> (try simp only [nb] at hg) <;> simp (maxSteps:=9^7) only [ss, X1, tab, simprocAttr, -List.reduceReplicate, hg, plA, plC, List.length_map]) | (refine hK _ ?_; clear hK K) | refine Vt rfl ?_ | refine Vi rfl (fun hg => ?_) (fun hg => ?_))
  all_goals (exfalso; simp_all; done)
 | true =>
  have hmay := X04 (p := p)
  rw [hG] at hmay
  simp only [Bool.and_eq_true] at hG
  obtain ⟨⟨⟨g1, g2⟩, g3⟩, g4⟩ := hG
  rw [g2] at cA
  rw [g3] at cB
  rw [g4] at cC
  unfold X38 at g1
  simp only [Bool.not_eq_true', Bool.or_eq_false_iff] at g1
  obtain ⟨⟨⟨⟨d1, d2⟩, d3⟩, d4⟩, d5⟩ := g1
  clear g2 g3 g4
  refine Xc 2 Tryz.func13 rfl fun n out _ _ => ?_
  simp only [Tryz.ntmps13, List.length_cons, List.length_nil, List.length_map, List.length_replicate, Xf, Nat.reduceAdd, Nat.reduceSub, List.replicate, List.cons_append, List.nil_append]
  repeat' (first | (with_reducible first | refine Vk fun K hK => ?_ | refine V0 ?_ | refine Vs ?_) | ((with_reducible first | refine gE ?_ | refine gR ?_); simp (maxSteps:=9^7) only [ss, X1, tab, simprocAttr, -List.reduceReplicate, plA, plC, List.length_map, d1, d2, d3, d4, d5]) | (refine X3 (cA) ?_) | (refine X3 (cB) ?_) | (refine X3 (cC) ?_) | (refine hK _ ?_; clear hK K) | refine Vf rfl ?_)
  refine Xe ?_
  refine Xl (fun m (i : Nat) => [(3, i64 (i : Int)), (1, .ptr (m + 0) 0), (2, .top), (4, .top), (45, .top), (46, .top), (47, .top), (48, .top), (49, .top), (50, .top), (51, .top), (52, .top), (53, .top), (54, .top), (55, .top), (56, .top), (57, .top), (58, .top), (59, .top), (60, .top), (61, .top), (62, .top), (63, .top), (64, .top), (65, .top), (66, .top), (67, .top), (68, .top), (69, .top), (70, .top), (71, .top), (72, .top), (73, .top), (74, .top), (75, .top), (76, .top), (77, .top), (78, .top), (79, .top), (80, .top), (81, .top), (82, .top), (83, .top), (84, .top), (85, .top), (86, .top)]) (fun m i => [some (.box 28 (plC p)), none]) (fun i => out) (fun i => i ≤ p.rts.length ∧ (∀ j, j < i → X02 p j = true)) (fun i => p.rts.length - i) 0 ⟨Nat.zero_le _, by intros; omega⟩ ?_ fun m i hm hi => ?_
  ·refine X2 ?_ ?_ (by first | rfl | (simp only [plC, List.length_map]; rfl) | simp only [plC, List.length_map]) rfl rfl rfl <;> simp only [X4, sl, plC, List.length_map]
  obtain ⟨hi, hq⟩ := hi
  simp only [X4, s_0, s_s]
  have hw := Yl (n := i) 1 1 rfl (by omega)
  by_cases hlt : i < p.rts.length
  ·have gi := Xg rtC p.rts i [] hlt
   have ca := cR _ (List.getElem_mem hlt)
   simp only [rtA, rtC] at ca
   have ho := N1 hlt
   rw [Do Rt.id p.rts i hlt fun j hj => by
    have := hq j hj; rw [N1 (by omega), Bool.and_eq_true] at this; exact this.1, Bq] at ho
   have next : X02 p i = true → ∀ j, j < i + 1 → X02 p j = true := fun h j hj => by
    by_cases h' : j = i
    ·subst h'; exact h
    ·exact hq j (by omega)
   have bad : X02 p i = false → Uf p = false := fun h => X03 hlt h
   clear hq
   generalize X02 p i = O at *
   generalize okR p p.rts[i] = OK at *
   by_cases h0 : i = 0
   ·have hd0 : decide ((i : Int) > 0) = false := decide_eq_false (by omega)
    rw [decide_eq_true h0, Bool.true_or, Bool.and_true] at ho
    repeat' (first | (with_reducible first | refine Vk fun K hK => ?_ | refine V0 ?_ | refine Vb ?_ | refine Vs ?_ | refine Vd 9 [] [[],[1],[],[],[],[1],[],[],[],[],[],[],[],[0],[],[],[],[],[],[],[1],[],[],[],[],[0],[1],[],[],[]] [[],[],[],[],[],[],[],[],[],[],[],[],[],[],[],[],[],[],[],[],[],[],[],[],[],[],[],[],[],[]] (by kernel_rfl) (by decide) (by decide) (by kernel_rfl) ?_) | ((with_reducible first | refine gE ?_ | refine gD ?_ | refine gF ?_); simp (maxSteps:=9^7) only [ss, X1, tab, simprocAttr, -List.reduceReplicate, sg, Xi hm, plC, List.length_map, hlt, gi, rtC, X0, hd0, hw]) | ((with_reducible refine Vz ?_); refine Vo rfl rfl rfl (fun _ _ => rfl) ?_ <;> first | rfl | (rw [bad (by rw [ho]; simp_all)]; rfl) | skip) | (refine X3 (ca) ?_) | ((with_reducible first | refine Vg (fun hg => ?_) (fun hg => ?_) | refine Y5 (fun hg => ?_) (fun hg => ?_)) <;> (try simp only [nb] at hg) <;> simp (maxSteps:=9^7) only [ss, X1, tab, simprocAttr, -List.reduceReplicate, hg, sg, Xi hm, plC, List.length_map, hlt, gi, rtC, X0, hd0, hw]) | (refine hK _ ?_; clear hK K) | refine Vt rfl ?_ | refine Vi rfl (fun hg => ?_) (fun hg => ?_) | clear hK K)
    refine ⟨i + 1, ⟨by omega, next (by rw [ho]; simp_all)⟩, by omega, ?_⟩
    refine Xx [true, false] (fun n_ => ?_) (fun n_ => ?_) <;> simp only [X4, sm, plC, hlt, decide_true]
   ·have hd0 : decide ((i : Int) > 0) = true := decide_eq_true (by omega)
    have hs1 := X25 (n := i) 1 1 rfl (by omega) (by omega)
    have hl1 : i - 1 < p.rts.length := by omega
    have g1 := Xg rtC p.rts (i - 1) [] hl1
    have hge : decide (p.rts[i - 1].id ≥ p.rts[i].id) = !decide (p.rts[i - 1].id < p.rts[i].id) := by rw [Bool.eq_iff_iff]; simp
    rw [decide_eq_false h0, Bool.false_or] at ho
    generalize decide (p.rts[i - 1].id < p.rts[i].id) = D at hge ho
    repeat' (first | (with_reducible first | refine Vk fun K hK => ?_ | refine V0 ?_ | refine Vb ?_ | refine Vs ?_ | refine Vd 9 [] [[],[1],[],[],[],[1],[],[],[],[],[],[],[],[0],[],[],[],[],[],[],[1],[],[],[],[],[0],[1],[],[],[]] [[],[],[],[],[],[],[],[],[],[],[],[],[],[],[],[],[],[],[],[],[],[],[],[],[],[],[],[],[],[]] (by kernel_rfl) (by decide) (by decide) (by kernel_rfl) ?_) | ((with_reducible first | refine gE ?_ | refine gD ?_ | refine gF ?_); simp (maxSteps:=9^7) only [ss, X1, tab, simprocAttr, -List.reduceReplicate, sg, Xi hm, plC, List.length_map, hlt, gi, rtC, X0, hd0, hs1, hl1, g1, hge, hw]) | ((with_reducible refine Vz ?_); refine Vo rfl rfl rfl (fun _ _ => rfl) ?_ <;> first | rfl | (rw [bad (by rw [ho]; clear hge; simp_all)]; rfl) | skip) | (refine X3 (ca) ?_) | ((with_reducible first | refine Vg (fun hg => ?_) (fun hg => ?_) | refine Y5 (fun hg => ?_) (fun hg => ?_)) <;> (try simp only [nb] at hg) <;> simp (maxSteps:=9^7) only [ss, X1, tab, simprocAttr, -List.reduceReplicate, hg, sg, Xi hm, plC, List.length_map, hlt, gi, rtC, X0, hd0, hs1, hl1, g1, hge, hw]) | (refine hK _ ?_; clear hK K) | refine Vt rfl ?_ | refine Vi rfl (fun hg => ?_) (fun hg => ?_) | clear hK K)
    refine ⟨i + 1, ⟨by omega, next (by rw [ho]; clear hge; simp_all)⟩, by omega, ?_⟩
    refine Xx [true, false] (fun n_ => ?_) (fun n_ => ?_) <;> simp only [X4, sm, plC, hlt, decide_true]
  ·have e := hmay fun j hj => hq j (by omega)
   repeat' (first | (with_reducible first | refine Vk fun K hK => ?_ | refine V0 ?_) | ((with_reducible refine gE ?_); simp (maxSteps:=9^7) only [ss, X1, tab, simprocAttr, -List.reduceReplicate, Xi hm, plC, List.length_map, hlt]) | ((with_reducible refine Vz ?_); refine Vo rfl rfl rfl (fun _ _ => rfl) ?_ <;> first | rfl | (rw [e]; rfl) | skip) | ((with_reducible refine Vx ?_); simp only [sb, reduceIte, Nat.reduceEqDiff]) | (refine hK _ ?_; clear hK K) | refine Vf rfl ?_ | clear hK K)
theorem X5w (p : Pl) (hs : Sm p) : Xr Tryz.prog 13 [plA p] [] (bool (Uf p)) [] := Hd p hs.wide
end Go.Proofs.YtgdhnngpfieloaaGreat.Pln
end
