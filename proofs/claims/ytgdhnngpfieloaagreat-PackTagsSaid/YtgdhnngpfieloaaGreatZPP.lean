/- The layer of abstract values, joined: PP. -/
import Derived.Test.YtgdhnngpfieloaaGreatZGA
import Derived.Test.YtgdhnngpfieloaaGreatZP20
section
namespace Go.Proofs.YtgdhnngpfieloaaGreat.Pln
set_option linter.unusedVariables false
set_option linter.unusedSimpArgs false
open Go Go.VS Tab
set_option maxHeartbeats 8000000
set_option maxRecDepth 4000
theorem X3g (p : Pl) : Uf p = (Kq p && Uq p.secs && (Ul p && Qu p && (Ue Ye (p.rts.map Rt.id) && decide ((p.rts.length : Int) ≤ 16))) && p.rts.all (okR p)) := by
 unfold Uf
 have e : decide ((p.rts.length : Int) ≤ 16) = decide (p.rts.length ≤ 16) := decide_eq_decide.2 (by omega)
 rw [e]
 simp only [Bool.and_assoc]
theorem Hi (p : Pl) : Kq p = (!decide (p.ver < 1) && !decide (p.ver > 2147483647) && !decide (p.par < 0) && !decide (p.par ≥ p.ver)) := by
 unfold Kq
 rw [Bool.eq_iff_iff]; simp
theorem Ss (p : Pl) (hs : SmB p) : Xr Tryz.prog 21 [plA p] [] (i64 (if Uf p then 0 else 8)) [] := by
 have hme := X3g p
 have ct := X06 p.secs (by have := hs.secs; omega) fun s h => by have := hs.ends s h; omega
 cases hmay : Uq p.secs with
 | false =>
  have hf : Uf p = false := by rw [hme, hmay]; simp
  rw [hmay] at ct
  rw [hf]
  refine Xc 3 Tryz.func21 rfl fun n out _ _ => ?_
  simp only [Tryz.ntmps21, List.length_cons, List.length_nil, List.length_map, List.length_replicate, Xf, Nat.reduceAdd, Nat.reduceSub, List.replicate, List.cons_append, List.nil_append]
  repeat' (first | (with_reducible first | refine Vk fun K hK => ?_ | refine V0 ?_) | ((with_reducible first | refine gE ?_ | refine gR ?_); simp (maxSteps:=9^7) only [ss, X1, tab, simprocAttr, -List.reduceReplicate, plA, plC, Bool.false_eq_true]) | ((with_reducible refine Vz ?_); refine Vo rfl rfl rfl (fun _ _ => rfl) ?_ <;> first | rfl | skip) | (refine X3 (ct) ?_) | ((with_reducible refine Vg (fun hg => ?_) (fun hg => ?_)) <;> (try simp only [nb] at hg) <;> simp (maxSteps:=9^7) only [ss, X1, tab, simprocAttr, -List.reduceReplicate, hg, plA, plC, Bool.false_eq_true]) | (refine hK _ ?_; clear hK K) | refine Vt rfl ?_)
 | true =>
  rw [hmay] at ct
  have hd := Hi p
  cases hh : Kq p with
  | false =>
   have hf : Uf p = false := by rw [hme, hh]; simp
   rw [hh] at hd
   rw [hf]
   refine Xc 3 Tryz.func21 rfl fun n out _ _ => ?_
   simp only [Tryz.ntmps21, List.length_cons, List.length_nil, List.length_map, List.length_replicate, Xf, Nat.reduceAdd, Nat.reduceSub, List.replicate, List.cons_append, List.nil_append]
   repeat' (first | (with_reducible first | refine Vk fun K hK => ?_ | refine V0 ?_ | refine Vs ?_) | ((with_reducible first | refine gE ?_ | refine gR ?_); simp (maxSteps:=9^7) only [ss, X1, tab, simprocAttr, -List.reduceReplicate, plA, plC]) | ((with_reducible refine Vz ?_); refine Vo rfl rfl rfl (fun _ _ => rfl) ?_ <;> first | rfl | skip) | (refine X3 (ct) ?_) | ((with_reducible refine Vg (fun hg => ?_) (fun hg => ?_)) <;> (try simp only [nb] at hg) <;> simp (maxSteps:=9^7) only [ss, X1, tab, simprocAttr, -List.reduceReplicate, hg, plA, plC]) | (refine hK _ ?_; clear hK K) | refine Vt rfl ?_ | refine Vf rfl ?_)
   all_goals (exfalso; clear hme hf ct hs hK K; simp only [*, Bool.not_false, Bool.and_true, Bool.not_true, Bool.and_self, reduceCtorEq] at hd)
  | true =>
   rw [hh] at hd
   obtain ⟨⟨⟨d1, d2⟩, d3⟩, d4⟩ : ((decide (p.ver < 1) = false ∧ decide (p.ver > 2147483647) = false) ∧ decide (p.par < 0) = false) ∧ decide (p.par ≥ p.ver) = false := by
    have := hd.symm
    simp only [Bool.and_eq_true, Bool.not_eq_true'] at this
    exact this
   have ce := X5y p.secs hmay
   have cp := Az p hs hmay
   have cg := H8 p hs hmay
   have cr := H0 p.rts 16 (by have := hs.rts; omega)
   simp only [plA, plC] at cp cg
   rw [hh, hmay, Bool.true_and, Bool.true_and] at hme
   cases hpg : Ul p && Qu p && (Ue Ye (p.rts.map Rt.id) && decide ((p.rts.length : Int) ≤ 16)) with
   | false =>
    have hf : Uf p = false := by rw [hme, hpg]; rfl
    rw [hf]
    generalize (Ue Ye (p.rts.map Rt.id) && decide ((p.rts.length : Int) ≤ 16)) = R at *
    generalize Ul p = P1 at *
    generalize Qu p = G1 at *
    refine Xc 3 Tryz.func21 rfl fun n out _ _ => ?_
    simp only [Tryz.ntmps21, List.length_cons, List.length_nil, List.length_map, List.length_replicate, Xf, Nat.reduceAdd, Nat.reduceSub, List.replicate, List.cons_append, List.nil_append]
    repeat' (first | (with_reducible first | refine Vk fun K hK => ?_ | refine V0 ?_ | refine Vs ?_) | ((with_reducible first | refine gE ?_ | refine gR ?_); simp (maxSteps:=9^7) only [ss, X1, tab, simprocAttr, -List.reduceReplicate, plA, plC, d1, d2, d3, d4, X0, List.length_replicate, Yt, Xf]) | ((with_reducible refine Vz ?_); refine Vo rfl rfl rfl (fun _ _ => rfl) ?_ <;> first | rfl | skip) | (refine X3 (ct) ?_) | (refine X3 (ce) ?_) | (refine X3 (cp) ?_) | (refine X3 (cg) ?_) | (refine X3 (cr) ?_) | ((with_reducible refine Vg (fun hg => ?_) (fun hg => ?_)) <;> (try simp only [nb] at hg) <;> simp (maxSteps:=9^7) only [ss, X1, tab, simprocAttr, -List.reduceReplicate, hg, plA, plC, d1, d2, d3, d4, X0, List.length_replicate, Yt, Xf]) | (refine hK _ ?_; clear hK K) | refine Vt rfl ?_ | refine Vf rfl ?_ | refine Vi rfl (fun hg => ?_) (fun hg => ?_))
    all_goals (exfalso; clear hme hf ct hs hK K ce cp cg cr hd hh d1 d2 d3 d4; revert P1 G1 R; decide)
   | true =>
    rw [hpg, Bool.true_and] at hme
    rw [Bool.and_eq_true, Bool.and_eq_true] at hpg
    obtain ⟨⟨g1, g2⟩, g3⟩ := hpg
    rw [g1] at cp
    rw [g2] at cg
    rw [g3] at cr
    refine Xc 3 Tryz.func21 rfl fun n out _ _ => ?_
    simp only [Tryz.ntmps21, List.length_cons, List.length_nil, List.length_map, List.length_replicate, Xf, Nat.reduceAdd, Nat.reduceSub, List.replicate, List.cons_append, List.nil_append]
    repeat' (first | (with_reducible first | refine Vk fun K hK => ?_ | refine V0 ?_ | refine Vs ?_) | ((with_reducible first | refine gE ?_ | refine gR ?_); simp (maxSteps:=9^7) only [ss, X1, tab, simprocAttr, -List.reduceReplicate, plA, plC, d1, d2, d3, d4, X0, List.length_replicate, Yt, Xf, List.length_map]) | (refine X3 (ct) ?_) | (refine X3 (ce) ?_) | (refine X3 (cp) ?_) | (refine X3 (cg) ?_) | (refine X3 (cr) ?_) | (refine hK _ ?_; clear hK K) | refine Vf rfl ?_)
    refine Xe ?_
    refine Xl (fun m (i : Nat) => [(53, i64 (i : Int)), (1, .ptr (m + 0) 0), (3, .ptr (m + 1) 0), (2, .top), (5, .top), (54, .top), (55, .top), (56, .top), (57, .top), (58, .top), (59, .top), (60, .top), (61, .top), (62, .top)]) (fun m i => [some (.box 28 (plC p)), some (.box 103 (Uj p.secs)), none]) (fun i => out) (fun i => i ≤ p.rts.length ∧ (∀ j (hj : j < p.rts.length), j < i → okR p p.rts[j] = true)) (fun i => p.rts.length - i) 0 ⟨Nat.zero_le _, by intros; omega⟩ ?_ fun m i hm hi => ?_
    ·refine X2 ?_ ?_ (by first | rfl | (simp only [plC, List.length_map]; rfl) | simp only [plC, List.length_map]) rfl rfl rfl <;> simp only [X4, sl, plC, List.length_map]
    obtain ⟨hi, hq⟩ := hi
    simp only [X4, s_0, s_s]
    have hw := Yl (n := i) 1 1 rfl (by have := hs.rts; omega)
    by_cases hlt : i < p.rts.length
    ·have gi := Xg rtC p.rts i [] hlt
     have cq := X33 p p.rts[i] hs (hs.rt _ (List.getElem_mem hlt)) hmay g2
     simp only [plA, plC, rtA, rtC] at cq
     have bad : okR p p.rts[i] = false → Uf p = false := fun h => by rw [hme, Kp hlt h]
     repeat' (first | (with_reducible first | refine Vk fun K hK => ?_ | refine V0 ?_ | refine Vb ?_ | refine Vs ?_) | ((with_reducible first | refine gE ?_ | refine gR ?_); simp (maxSteps:=9^7) only [ss, X1, tab, simprocAttr, -List.reduceReplicate, Xi hm, plC, rtC, List.length_map, hlt, gi, X0, Yt, hw, E6 (Yt p.secs)]) | ((with_reducible refine Vz ?_); refine Vo rfl rfl rfl (fun _ _ => rfl) ?_ <;> first | rfl | (rw [bad (by simpa using hg)]; rfl) | skip) | (refine X3 (cq) ?_) | (refine hK _ ?_; clear hK K) | refine Vt rfl ?_ | refine Vi rfl (fun hg => ?_) (fun hg => ?_) | clear hK K)
     refine ⟨i + 1, ⟨by omega, fun j hj hji => ?_⟩, by omega, ?_⟩
     ·by_cases h' : j = i
      ·subst h'; simpa using hg
      ·exact hq j hj (by omega)
     refine Xx [true, true, false] (fun n_ => ?_) (fun n_ => ?_) <;> simp only [X4, sm, plC, hlt, decide_true]
    ·have e := Mm (p := okR p) (l := p.rts) fun j hj => hq j hj (by omega)
     repeat' (first | (with_reducible first | refine Vk fun K hK => ?_ | refine V0 ?_) | ((with_reducible refine gE ?_); simp (maxSteps:=9^7) only [ss, X1, tab, simprocAttr, -List.reduceReplicate, Xi hm, plC, List.length_map, hlt]) | ((with_reducible refine Vz ?_); refine Vo rfl rfl rfl (fun _ _ => rfl) ?_ <;> first | rfl | (rw [hme, e]; rfl) | skip) | ((with_reducible refine Vx ?_); simp only [sb, reduceIte, Nat.reduceEqDiff]) | (refine hK _ ?_; clear hK K) | refine Vf rfl ?_ | clear hK K)
theorem Dr (p : Pl) (hs : Sm p) : Xr Tryz.prog 21 [plA p] [] (i64 (if Uf p then 0 else 8)) [] := Ss p hs.wide
end Go.Proofs.YtgdhnngpfieloaaGreat.Pln
end
