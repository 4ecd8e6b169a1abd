/- The layer of abstract values, joined: PS. -/
import Derived.Test.YtgdhnngpfieloaaGreatZGA
import Derived.Test.YtgdhnngpfieloaaGreatZPK
section
namespace Go.Proofs.YtgdhnngpfieloaaGreat.Pln
set_option linter.unusedVariables false
set_option linter.unusedSimpArgs false
open Go Go.VS Tab
set_option maxHeartbeats 4000000
set_option maxRecDepth 4000
theorem Bu (r : Rt) (h0 : r.path ≠ []) (h1 : r.path.length ≤ 1000000) (h2 : r.over.length ≤ 1000000) : Xr Tryz.prog 82 [rtA r] [] (X62 (r.path ++ r.over)) [] := by
 have h0' : ¬ (r.path.map Ym = []) := by simpa using h0
 have e1 : r.path.length * 8 ≤ 140737488355328 := by omega
 have e2 : r.path.length ≤ 9223372036854775807 := by omega
 have e4 : (r.path.length + r.over.length) * 8 ≤ 140737488355328 := by omega
 have e5 : r.path.length + r.over.length ≤ 9223372036854775807 := by omega
 refine Xc 2 Tryz.func82 rfl fun n out _ _ => ?_
 simp only [Tryz.ntmps82, List.length_cons, List.length_nil, List.length_map, List.length_replicate, Xf, Nat.reduceAdd, Nat.reduceSub, List.replicate, List.cons_append, List.nil_append]
 repeat' (first | (with_reducible first | refine Vk fun K hK => ?_ | refine Ve [(7, none)] ?_) | ((with_reducible refine gE ?_); simp (maxSteps:=9^7) only [ss, X1, tab, simprocAttr, -List.reduceReplicate, rtA, rtC, h0', e1, e2, e4, e5, List.length_map, List.map_append]) | ((with_reducible refine Vz ?_); refine Xv (.inr rfl) rfl rfl rfl (fun _ _ => rfl) ?_ rfl <;> first | rfl | (exact AV.le.rfl _) | (simp only [X4, sl, rtA, rtC, h0', e1, e2, e4, e5, List.length_map, List.map_append]; done) | rfl | skip) | (refine hK _ ?_; clear hK K))
def X0c (p : Pl) (r : Rt) : Bool := (r.ex != 0 && (!(Vy p.sgs r.ex).isSome || r.ex == r.entry)) || (r.ex == 0 && ((r.over.length : Int) != 0))
def X3j (r : Rt) : Bool := decide ((r.path.length : Int) < 1) || decide ((r.path.length : Int) > 6) || decide ((r.over.length : Int) > 2) || decide ((r.flanks.length : Int) > 3) || decide (r.timer < 1) || decide (r.timer > 9)
theorem Dt (p : Pl) (r : Rt) : Ma p r = (!X0c p r && !X3j r) := by
 have e : r.over.isEmpty = !((r.over.length : Int) != 0) := by
  cases h : r.over with
  | nil => rfl
  | cons a l => simp; omega
 unfold Ma X0c X3j
 rw [e]
 generalize ((r.over.length : Int) != 0) = V
 generalize (Vy p.sgs r.ex).isSome = B
 generalize hQ : (r.ex == r.entry) = Q
 have e0 : (r.ex != 0) = !decide (r.ex = 0) := rfl
 have e1 : (r.ex == 0) = decide (r.ex = 0) := rfl
 rw [e0, e1]
 generalize decide (r.ex = 0) = Z
 have d1 : decide (1 ≤ r.path.length) = !decide ((r.path.length : Int) < 1) := by rw [Bool.eq_iff_iff]; simp; omega
 have d2 : decide (r.path.length ≤ 6) = !decide ((r.path.length : Int) > 6) := by rw [Bool.eq_iff_iff]; simp; omega
 have d3 : decide (r.over.length ≤ 2) = !decide ((r.over.length : Int) > 2) := by rw [Bool.eq_iff_iff]; simp; omega
 have d4 : decide (r.flanks.length ≤ 3) = !decide ((r.flanks.length : Int) > 3) := by rw [Bool.eq_iff_iff]; simp; omega
 have d5 : decide (1 ≤ r.timer) = !decide (r.timer < 1) := by rw [Bool.eq_iff_iff]; simp
 have d6 : decide (r.timer ≤ 9) = !decide (r.timer > 9) := by rw [Bool.eq_iff_iff]; simp
 rw [d1, d2, d3, d4, d5, d6]
 generalize decide ((r.path.length : Int) < 1) = A1
 generalize decide ((r.path.length : Int) > 6) = A2
 generalize decide ((r.over.length : Int) > 2) = A3
 generalize decide ((r.flanks.length : Int) > 3) = A4
 generalize decide (r.timer < 1) = A5
 generalize decide (r.timer > 9) = A6
 cases Z <;> cases B <;> cases V <;> cases Q <;> simp [Bool.not_or, Bool.and_assoc]
theorem Hq (l : List (Int × Int × Int)) (n : Int) : decide (idx (fun x : Int × Int × Int => x.1 == n) l < 0) = !(Vy l n).isSome := by
 rcases Ze (fun x : Int × Int × Int => x.1 == n) l with ⟨z1, z2, z3⟩ | ⟨k, hk, z1, z2, z3, z4⟩
 ·unfold Vy; rw [z1, z2]; rfl
 ·unfold Vy; rw [z1, z2]; exact decide_eq_false (by omega)
theorem X63 (l : List (Int × Int)) (n : Int) : decide (idx (fun x : Int × Int => x.1 == n) l < 0) = !(Bt l n).isSome := by
 rcases Ze (fun x : Int × Int => x.1 == n) l with ⟨z1, z2, z3⟩ | ⟨k, hk, z1, z2, z3, z4⟩
 ·unfold Bt; rw [z1, z2]; rfl
 ·unfold Bt; rw [z1, z2]; exact decide_eq_false (by omega)
theorem X0d (l : List Sec) (n : Int) : decide (idx (fun x : Sec => x.id == n) l < 0) = !(Qt l n).isSome := by
 rcases Ze (fun x : Sec => x.id == n) l with ⟨z1, z2, z3⟩ | ⟨k, hk, z1, z2, z3, z4⟩
 ·unfold Qt; rw [z1, z2]; rfl
 ·unfold Qt; rw [z1, z2]; exact decide_eq_false (by omega)
theorem N6 (p : Pl) (r : Rt) (hs : SmB p) (hbad : (Vy p.sgs r.entry).isSome = false ∨ X0c p r = true ∨ X3j r = true) : Xr Tryz.prog 29 [plA p, rtA r] [] (bool (okR p r)) [] := by
 have hsl := hs.sgs
 have c1 := Vj p.sgs r.entry (by omega)
 have c2 := Vj p.sgs r.ex (by omega)
 have k1 := Hq p.sgs r.entry
 have k2 := Hq p.sgs r.ex
 have hno : okR p r = false := by
  cases hg : Vy p.sgs r.entry with
  | none => exact Dj hg
  | some en =>
   refine Dk hg ?_
   rw [Dt]
   rcases hbad with h | h | h
   ·rw [hg] at h; cases h
   ·rw [h]; rfl
   ·rw [h]; simp
 rw [hno]
 have hb : (!(Vy p.sgs r.entry).isSome || X0c p r || X3j r) = true := by
  rcases hbad with h | h | h <;> rw [h] <;> simp
 unfold X0c X3j at hb
 clear hno hbad
 generalize (Vy p.sgs r.entry).isSome = B1 at *
 generalize (Vy p.sgs r.ex).isSome = B2 at *
 generalize idx (fun x : Int × Int × Int => x.1 == r.entry) p.sgs = K1 at *
 generalize idx (fun x : Int × Int × Int => x.1 == r.ex) p.sgs = K2 at *
 have x0 : (r.ex != 0) = !(r.ex == 0) := rfl
 rw [x0] at hb
 generalize (r.ex == 0) = X at *
 refine Xc 3 Tryz.func29 rfl fun n out _ _ => ?_
 simp only [Tryz.ntmps29, List.length_cons, List.length_nil, List.length_map, List.length_replicate, Xf, Nat.reduceAdd, Nat.reduceSub, List.replicate, List.cons_append, List.nil_append]
 repeat' (first | (with_reducible first | refine Vk fun K hK => ?_ | refine V0 ?_ | refine Vs ?_) | ((with_reducible first | refine gE ?_ | refine gR ?_); simp (maxSteps:=9^7) only [ss, X1, tab, simprocAttr, -List.reduceReplicate, plA, plC, rtA, rtC, List.length_map, k1, k2, x0]) | ((with_reducible refine Vz ?_); refine Vo rfl rfl rfl (fun _ _ => rfl) ?_ <;> first | rfl | skip) | (refine X3 (c1) ?_) | (refine X3 (c2) ?_) | ((with_reducible refine Vg (fun hg => ?_) (fun hg => ?_)) <;> (try simp only [nb] at hg) <;> simp (maxSteps:=9^7) only [ss, X1, tab, simprocAttr, -List.reduceReplicate, hg, plA, plC, rtA, rtC, List.length_map, k1, k2, x0]) | (refine hK _ ?_; clear hK K) | refine Vt rfl ?_ | refine Vf rfl ?_ | refine Vi rfl (fun hg => ?_) (fun hg => ?_))
 all_goals (exfalso; simp_all; done)
end Go.Proofs.YtgdhnngpfieloaaGreat.Pln
end
section
namespace Go.Proofs.YtgdhnngpfieloaaGreat.Pln
set_option linter.unusedVariables false
set_option linter.unusedSimpArgs false
open Go Go.VS Tab
set_option maxHeartbeats 8000000
set_option maxRecDepth 4000
theorem X81 {p : Pl} {r : Rt} {en : Int × Int × Int} (h : Vy p.sgs r.entry = some en) : okR p r = (Ma p r && Ue (okL p en.2.1) (r.path ++ r.over) && Ue (okF p) r.flanks) := by
 unfold okR Ma
 rw [h]
theorem X64 (p : Pl) (pre : List (Int × Int)) (f : Int × Int) : okF p pre f = ((Bt p.pts f.1).isSome && (match pre.getLast? with
 | none => true
 | some k => decide (k.1 < f.1)) && (!decide (f.2 < 1) && !decide (f.2 > 2))) := by
 unfold okF
 congr 1
 rw [Bool.eq_iff_iff]; simp; omega
theorem X0e (p : Pl) (r : Rt) (hs : SmB p) (h20 : r.path.length ≤ 5000 ∧ r.over.length ≤ 5000 ∧ r.flanks.length ≤ 5000) : Xr Tryz.prog 29 [plA p, rtA r] [] (bool (okR p r)) [] := by
 obtain ⟨hp1, hp2, hp3⟩ := h20
 have hsl := hs.sgs
 have hpl := hs.pts
 have hsc := hs.secs
 cases hg : Vy p.sgs r.entry with
 | none => exact N6 p r hs (.inl (by rw [hg]; rfl))
 | some en =>
 cases hA : X0c p r with
 | true => exact N6 p r hs (.inr (.inl hA))
 | false =>
 cases hB : X3j r with
 | true => exact N6 p r hs (.inr (.inr hB))
 | false =>
 have hok := X81 hg
 rw [Dt, hA, hB, Bool.not_false, Bool.and_self, Bool.true_and] at hok
 have c1 := Vj p.sgs r.entry (by omega)
 have c2 := Vj p.sgs r.ex (by omega)
 have k2 := Hq p.sgs r.ex
 obtain ⟨k, hk, ek, hk1⟩ : ∃ (k : Nat) (hk : k < p.sgs.length), p.sgs[k] = en ∧ idx (fun x : Int × Int × Int => x.1 == r.entry) p.sgs = k := by
  rcases Ze (fun x : Int × Int × Int => x.1 == r.entry) p.sgs with ⟨z1, z2, z3⟩ | ⟨k, hk, z1, z2, z3, z4⟩
  ·unfold Vy at hg; rw [z2] at hg; cases hg
  ·unfold Vy at hg; rw [z2] at hg; exact ⟨k, hk, by cases hg; rfl, z1⟩
 rw [hk1] at c1
 have hk0 : decide ((k : Int) < 0) = false := decide_eq_false (by omega)
 have gk := Xg sgC p.sgs k [] hk
 rw [ek] at gk
 have x0 : (r.ex != 0) = !(r.ex == 0) := rfl
 unfold X0c at hA
 rw [x0] at hA
 unfold X3j at hB
 simp only [Bool.or_eq_false_iff] at hB
 obtain ⟨⟨⟨⟨⟨d1, d2⟩, d3⟩, d4⟩, d5⟩, d6⟩ := hB
 have hp0 : r.path ≠ [] := by intro h; rw [h] at d1; simp at d1
 have cs := Bu r hp0 (by omega) (by omega)
 generalize (Vy p.sgs r.ex).isSome = B2 at *
 generalize idx (fun x : Int × Int × Int => x.1 == r.ex) p.sgs = K2 at *
 clear hk1
 refine Xc 3 Tryz.func29 rfl fun n out _ _ => ?_
 simp only [Tryz.ntmps29, List.length_cons, List.length_nil, List.length_map, List.length_replicate, Xf, Nat.reduceAdd, Nat.reduceSub, List.replicate, List.cons_append, List.nil_append]
 refine X9 fun K hK => Xn Xj [] ?_
 simp (maxSteps:=9^7) only [ss, X1, tab, simprocAttr, -List.reduceReplicate, plA, plC, rtA, rtC]
 (refine hK _ ?_; clear hK K)
 refine X9 fun K hK => Xn Xj [] ?_
 simp (maxSteps:=9^7) only [ss, X1, tab, simprocAttr, -List.reduceReplicate, plC, rtC]
 skip
 refine X3 c1 ?_
 simp (maxSteps:=9^7) only [ss, X1, tab, simprocAttr, -List.reduceReplicate]
 (refine hK _ ?_; clear hK K)
 refine Qf [(48, bool false), (16, .top), (17, .top), (18, .top), (19, .top), (20, .top), (21, .top), (22, .top), (23, .top), (24, .top), (25, .top), (26, .top), (27, .top), (28, .top), (29, .top), (30, .top), (31, .top), (32, .top), (33, .top), (34, .top), (35, .top), (36, .top), (37, .top), (38, .top), (39, .top), (40, .top), (41, .top), (42, .top), (43, .top), (44, .top), (45, .top), (46, .top), (47, .top)] [some (.box 28 (plC p)), some (.box 44 (rtC r)), none] out (id ?_) ?_
 rotate_left
 ·cases hX : (r.ex == 0) with
  | true =>
   have hV : ((r.over.length : Int) != 0) = false := by rw [hX] at hA; simpa using hA
   repeat' (first | (with_reducible first | refine Vk fun K hK => ?_ | refine V0 ?_ | refine Vs ?_) | ((with_reducible refine gE ?_); simp (maxSteps:=9^7) only [ss, X1, tab, simprocAttr, -List.reduceReplicate, plC, rtC, List.length_map, hk0, x0, hX, hV, Bool.not_true]) | (refine hK _ ?_; clear hK K) | refine Vf rfl ?_ | (refine Or.inl ⟨rfl, ?_⟩; refine X2 ?_ ?_ rfl rfl rfl rfl <;> simp only [X4, sl, plC, rtC, List.length_map, hk0, x0, hX, hV, Bool.not_true]))
  | false =>
   rw [hX] at hA
   obtain ⟨h2, hQ⟩ : B2 = true ∧ (r.ex == r.entry) = false := by cases B2 <;> simp_all
   subst h2
   repeat' (first | (with_reducible first | refine Vk fun K hK => ?_ | refine V0 ?_ | refine Vs ?_) | ((with_reducible first | refine gE ?_ | refine gR ?_); simp (maxSteps:=9^7) only [ss, X1, tab, simprocAttr, -List.reduceReplicate, plC, rtC, List.length_map, hk0, x0, hX, hQ, k2, Bool.not_true, Bool.not_false]) | (refine X3 (c2) ?_) | (refine hK _ ?_; clear hK K) | refine Vf rfl ?_ | (refine Or.inl ⟨rfl, ?_⟩; refine X2 ?_ ?_ rfl rfl rfl rfl <;> simp only [X4, sl, plC, rtC, List.length_map, hk0, x0, hX, hQ, k2, Bool.not_true, Bool.not_false]))
 simp only [X4, s_0, s_s]
 obtain ⟨L, hL⟩ : ∃ L, L = r.path ++ r.over := ⟨_, rfl⟩
 rw [← hL] at cs hok
 have hL40 : L.length ≤ 10000 := by rw [hL]; simp; omega
 repeat' (first | (with_reducible first | refine Vk fun K hK => ?_ | refine V0 ?_ | refine Vs ?_) | ((with_reducible first | refine gE ?_ | refine gR ?_); simp (maxSteps:=9^7) only [ss, X1, tab, simprocAttr, -List.reduceReplicate, plC, rtC, rtA, X0, List.length_map, d1, d2, d3, d4, d5, d6]) | (refine X3 (cs) ?_) | (refine hK _ ?_; clear hK K) | refine Vf rfl ?_)
 obtain ⟨LO, hLO⟩ : ∃ LO, LO = [some (Res.box 28 (plC p)), some (.box 44 (rtC r)), none] := ⟨_, rfl⟩
 refine Xe ?_
 refine Xz (fun i : Nat => [(7, i64 (i : Int)), (4, .top), (8, .top), (83, .top), (84, .top), (85, .top), (86, .top), (87, .top), (88, .top), (89, .top), (90, .top), (91, .top), (92, .top), (93, .top), (94, .top), (95, .top), (96, .top), (97, .top), (98, .top), (99, .top), (100, .top), (101, .top), (102, .top), (103, .top), (104, .top), (105, .top), (106, .top), (107, .top), (108, .top), (109, .top), (110, .top), (111, .top), (112, .top), (113, .top), (114, .top), (115, .top), (116, .top), (117, .top), (118, .top), (119, .top), (120, .top), (121, .top), (122, .top), (123, .top)]) (fun i => LO) (fun i => out) (fun i => i ≤ L.length ∧ (∀ j (hj : j < L.length), j < i → okL p en.2.1 (L.take j) L[j] = true)) (fun i => L.length - i) 0 ⟨Nat.zero_le _, by intros; omega⟩ ?_ fun i hi => ?_
 ·refine X2 ?_ ?_ (by first | rfl | (simp only [hLO, plC, rtC, List.length_map]; rfl) | simp only [hLO, plC, rtC, List.length_map]) rfl rfl rfl <;> simp only [X4, sl, hLO, plC, rtC, List.length_map]
 obtain ⟨hi, hq⟩ := hi
 simp only [X4, s_0, s_s]
 have hw := Yl (n := i) 1 1 rfl (by omega)
 by_cases hlt : i < L.length
 ·have gi := Xg Ym L i [] hlt
  have ca := X39 p.secs L[i] (by omega)
  have k3 := X0d p.secs L[i]
  have bad : okL p en.2.1 (L.take i) L[i] = false → okR p r = false := fun h => by rw [hok, Yz hlt h]; rfl
  have next : okL p en.2.1 (L.take i) L[i] = true → ∀ j (hj : j < L.length), j < i + 1 → okL p en.2.1 (L.take j) L[j] = true := fun h j hj hji => by
   by_cases h' : j = i
   ·subst h'; exact h
   ·exact hq j hj (by omega)
  have ho : okL p en.2.1 (L.take i) L[i] = ((Qt p.secs L[i]).isSome && !(L[i] == en.2.1) && (L.take i).all fun k => !(k == L[i])) := rfl
  clear hq
  generalize okL p en.2.1 (L.take i) L[i] = O at *
  generalize (Qt p.secs L[i]).isSome = B3 at *
  generalize idx (fun s : Sec => s.id == L[i]) p.secs = K3 at *
  repeat' (first | (with_reducible first | refine Vk fun K hK => ?_ | refine V0 ?_ | refine Vb ?_ | refine Vs ?_ | refine Vd 10 [] [[],[0],[],[],[],[],[],[],[],[],[],[],[],[],[0],[],[],[],[],[],[]] [[],[],[],[],[],[],[],[],[],[],[],[],[],[],[],[],[],[],[],[],[]] (by kernel_rfl) (by decide) (by decide) (by kernel_rfl) ?_) | ((with_reducible first | refine gE ?_ | refine gD ?_ | refine gF ?_); simp (maxSteps:=9^7) only [ss, X1, tab, simprocAttr, -List.reduceReplicate, sg, hLO, plC, List.length_map, hlt, gi, Ym, sgC, k3, hk, gk]) | ((with_reducible refine Vz ?_); (try refine Or.inr ⟨(by intro h; cases h), ?_⟩); refine Vo rfl rfl rfl (fun _ _ => rfl) ?_ <;> first | rfl | (rw [bad (by rw [ho]; simp_all)]; rfl) | skip) | (refine X3 (ca) ?_) | ((with_reducible first | refine Vg (fun hg => ?_) (fun hg => ?_) | refine Y5 (fun hg => ?_) (fun hg => ?_)) <;> (try simp only [nb] at hg) <;> simp (maxSteps:=9^7) only [ss, X1, tab, simprocAttr, -List.reduceReplicate, hg, sg, hLO, plC, List.length_map, hlt, gi, Ym, sgC, k3, hk, gk]) | (refine hK _ ?_; clear hK K) | refine Vt rfl ?_ | refine Vi rfl (fun hg => ?_) (fun hg => ?_))
  have hO2 : O = (L.take i).all fun k => !(k == L[i]) := by rw [ho]; simp_all
  have hlti := hlt
  refine Xe ?_
  refine Xz (fun q : Nat => [(8, i64 (q : Int)), (4, .top), (110, .top), (111, .top), (112, .top), (113, .top), (114, .top), (115, .top), (116, .top), (117, .top), (118, .top), (119, .top), (120, .top), (121, .top), (122, .top), (123, .top)]) (fun q => LO) (fun q => out) (fun q => q ≤ i ∧ (∀ m (hm : m < q) (hmi : m < i), (L[m]'(by omega) == L[i]) = false)) (fun q => i - q) 0 ⟨Nat.zero_le _, by intros; omega⟩ ?_ fun q hq => ?_
  ·refine X2 ?_ ?_ (by first | rfl | (simp only [hLO, plC, rtC]; rfl) | simp only [hLO, plC, rtC]) rfl rfl rfl <;> simp only [X4, sl, hLO, plC, rtC]
  obtain ⟨hq, hq⟩ := hq
  simp only [X4, s_0, s_s]
  have hw2 := Yl (n := q) 1 1 rfl (by omega)
  by_cases hltq : q < i
  ·have gq := Xg Ym L q [] (by omega)
   have hq2 : q < L.length := by omega
   repeat' (first | (with_reducible first | refine Vk fun K hK => ?_ | refine V0 ?_ | refine Vb ?_ | refine Vs ?_ | refine Vq (by kernel_rfl) ?_) | ((with_reducible refine gE ?_); simp (maxSteps:=9^7) only [ss, X1, tab, simprocAttr, -List.reduceReplicate, hLO, List.length_map, hlti, hltq, hq2, gi, gq, Ym, hw2]) | ((with_reducible refine Vz ?_); (try refine Or.inr ⟨(by intro h; cases h), ?_⟩); refine Vo rfl rfl rfl (fun _ _ => rfl) ?_ <;> first | rfl | (rw [bad (by rw [hO2]; exact List.all_eq_false.2 ⟨_, Z8 hltq hq2, by simp_all⟩)]; rfl) | skip) | (refine hK _ ?_; clear hK K) | refine Vt rfl ?_ | refine Vi rfl (fun hg => ?_) (fun hg => ?_) | clear hK K)
   refine ⟨q + 1, ⟨by omega, fun m hm hmi => ?_⟩, by omega, ?_⟩
   ·by_cases h' : m = q
    ·subst h'; assumption
    ·exact hq m (by omega) hmi
   refine X2 ?_ ?_ rfl rfl rfl rfl <;> simp only [X4, sl, hltq, decide_true]
  ·obtain rfl : q = i := by omega
   repeat' (first | (with_reducible first | refine Vk fun K hK => ?_ | refine V0 ?_) | ((with_reducible refine gE ?_); simp (maxSteps:=9^7) only [ss, X1, tab, simprocAttr, -List.reduceReplicate, hLO, List.length_map, hltq, hw]) | ((with_reducible refine Vx ?_); simp only [sb, reduceIte, Nat.reduceEqDiff]) | (refine hK _ ?_; clear hK K) | refine Vf rfl ?_ | clear hK K)
   refine ⟨q + 1, ⟨by omega, next (by
    rw [hO2, List.all_eq_true]
    intro x hx
    rw [List.mem_take_iff_getElem] at hx
    obtain ⟨m, hm, rfl⟩ := hx
    rw [hq m (by omega) (by omega)]; rfl)⟩, by omega, ?_⟩
   refine X2 ?_ ?_ rfl rfl rfl rfl <;> simp only [X4, sl, hlti, decide_true]
 ·have hall := Q3 (f := okL p en.2.1) (l := L) fun j hj => hq j hj (by omega)
  rw [hall, Bool.true_and] at hok
  obtain rfl : i = L.length := by omega
  clear hq
  repeat' (first | (with_reducible first | refine Vk fun K hK => ?_ | refine V0 ?_) | ((with_reducible refine gE ?_); simp (maxSteps:=9^7) only [ss, X1, tab, simprocAttr, -List.reduceReplicate, hLO, List.length_map, hlt]) | ((with_reducible refine Vx ?_); simp only [sb, reduceIte, Nat.reduceEqDiff]) | (refine hK _ ?_; clear hK K) | refine Vf rfl ?_ | clear hK K)
  refine Xe ?_
  refine Xl (fun m (i : Nat) => [(9, i64 (i : Int)), (2, .ptr (m + 0) 0), (3, .ptr (m + 1) 0), (4, .top), (10, .top), (124, .top), (125, .top), (126, .top), (127, .top), (128, .top), (129, .top), (130, .top), (131, .top), (132, .top), (133, .top), (134, .top), (135, .top), (136, .top), (137, .top), (138, .top), (139, .top), (140, .top), (141, .top), (142, .top), (143, .top), (144, .top), (145, .top), (146, .top), (147, .top), (148, .top), (149, .top), (150, .top), (151, .top), (152, .top), (153, .top), (154, .top), (155, .top), (156, .top), (157, .top), (158, .top), (159, .top), (160, .top), (161, .top), (162, .top), (163, .top), (164, .top), (165, .top), (166, .top), (167, .top)]) (fun m i => [some (.box 28 (plC p)), some (.box 44 (rtC r)), none]) (fun i => out) (fun i => i ≤ r.flanks.length ∧ (∀ j (hj : j < r.flanks.length), j < i → okF p (r.flanks.take j) r.flanks[j] = true)) (fun i => r.flanks.length - i) 0 ⟨Nat.zero_le _, by intros; omega⟩ ?_ fun m i hm hi => ?_
  ·refine X2 ?_ ?_ (by first | rfl | (simp only [hLO, plC, rtC, List.length_map]; rfl) | simp only [hLO, plC, rtC, List.length_map]) rfl rfl rfl <;> simp only [X4, sl, hLO, plC, rtC, List.length_map]
  obtain ⟨hi, hq⟩ := hi
  simp only [X4, s_0, s_s]
  have hw := Yl (n := i) 1 1 rfl (by omega)
  by_cases hltf : i < r.flanks.length
  ·have gi := Xg jnC r.flanks i [] hltf
   have ca := Em p.pts r.flanks[i].1 (by omega)
   have k3 := X63 p.pts r.flanks[i].1
   have hokF := X64 p (r.flanks.take i) r.flanks[i]
   have bad : okF p (r.flanks.take i) r.flanks[i] = false → okR p r = false := fun h => by rw [hok, Yz hltf h]
   have next : okF p (r.flanks.take i) r.flanks[i] = true → ∀ j (hj : j < r.flanks.length), j < i + 1 → okF p (r.flanks.take j) r.flanks[j] = true := fun h j hj hji => by
    by_cases h' : j = i
    ·subst h'; exact h
    ·exact hq j hj (by omega)
   clear hq
   generalize okF p (r.flanks.take i) r.flanks[i] = O at *
   generalize (Bt p.pts r.flanks[i].1).isSome = B3 at *
   generalize idx (fun x : Int × Int => x.1 == r.flanks[i].1) p.pts = K3 at *
   by_cases h0 : i = 0
   ·have hd0 : decide ((i : Int) > 0) = false := decide_eq_false (by omega)
    have hlast : (r.flanks.take i).getLast? = none := by rw [h0]; rfl
    rw [hlast] at hokF
    simp only [Bool.and_true] at hokF
    repeat' (first | (with_reducible first | refine Vk fun K hK => ?_ | refine V0 ?_ | refine Vb ?_ | refine Vs ?_ | refine Vd 21 [] [[],[0],[],[2],[],[],[],[],[],[],[],[1],[],[],[],[],[],[],[2],[],[],[],[],[],[2],[],[],[],[],[2],[],[]] [[],[],[],[],[],[],[],[],[],[],[],[],[],[],[],[],[],[],[],[],[],[],[],[],[],[],[],[],[],[],[],[]] (by kernel_rfl) (by decide) (by decide) (by kernel_rfl) ?_) | ((with_reducible first | refine gE ?_ | refine gD ?_ | refine gF ?_); simp (maxSteps:=9^7) only [ss, X1, tab, simprocAttr, -List.reduceReplicate, sg, Xi hm, plC, rtC, List.length_map, hltf, gi, jnC, X0, hd0, hw, k3]) | ((with_reducible refine Vz ?_); (try refine Or.inr ⟨(by intro h; cases h), ?_⟩); refine Vo rfl rfl rfl (fun _ _ => rfl) ?_ <;> first | rfl | (rw [bad (by rw [hokF]; simp_all)]; rfl) | skip) | (refine X3 (ca) ?_) | ((with_reducible first | refine Vg (fun hg => ?_) (fun hg => ?_) | refine Y5 (fun hg => ?_) (fun hg => ?_)) <;> (try simp only [nb] at hg) <;> simp (maxSteps:=9^7) only [ss, X1, tab, simprocAttr, -List.reduceReplicate, hg, sg, Xi hm, plC, rtC, List.length_map, hltf, gi, jnC, X0, hd0, hw, k3]) | (refine hK _ ?_; clear hK K) | refine Vt rfl ?_ | refine Vi rfl (fun hg => ?_) (fun hg => ?_) | clear hK K)
    refine ⟨i + 1, ⟨by omega, next (by rw [hokF]; simp_all)⟩, by omega, ?_⟩
    refine Xx [true, true, false] (fun n_ => ?_) (fun n_ => ?_) <;> simp only [X4, sm, plC, rtC, hltf, decide_true]
   ·have hd0 : decide ((i : Int) > 0) = true := decide_eq_true (by omega)
    have hs1 := X25 (n := i) 1 1 rfl (by omega) (by omega)
    have hl1 : i - 1 < r.flanks.length := by omega
    have g1 := Xg jnC r.flanks (i - 1) [] hl1
    have hlast : (r.flanks.take i).getLast? = some r.flanks[i - 1] := by rw [List.getLast?_eq_getElem?, List.length_take, Nat.min_eq_left (by omega), List.getElem?_take_of_lt (by omega), List.getElem?_eq_getElem hl1]
    rw [hlast] at hokF
    dsimp only at hokF
    have hge : decide (r.flanks[i - 1].1 ≥ r.flanks[i].1) = !decide (r.flanks[i - 1].1 < r.flanks[i].1) := by rw [Bool.eq_iff_iff]; simp
    generalize decide (r.flanks[i - 1].1 < r.flanks[i].1) = D at hokF hge
    repeat' (first | (with_reducible first | refine Vk fun K hK => ?_ | refine V0 ?_ | refine Vb ?_ | refine Vs ?_ | refine Vd 21 [] [[],[0],[],[2],[],[],[],[],[],[],[],[1],[],[],[],[],[],[],[2],[],[],[],[],[],[2],[],[],[],[],[2],[],[]] [[],[],[],[],[],[],[],[],[],[],[],[],[],[],[],[],[],[],[],[],[],[],[],[],[],[],[],[],[],[],[],[]] (by kernel_rfl) (by decide) (by decide) (by kernel_rfl) ?_) | ((with_reducible first | refine gE ?_ | refine gD ?_ | refine gF ?_); simp (maxSteps:=9^7) only [ss, X1, tab, simprocAttr, -List.reduceReplicate, sg, Xi hm, plC, rtC, List.length_map, hltf, gi, jnC, X0, hd0, hs1, hl1, g1, hge, hw, k3]) | ((with_reducible refine Vz ?_); (try refine Or.inr ⟨(by intro h; cases h), ?_⟩); refine Vo rfl rfl rfl (fun _ _ => rfl) ?_ <;> first | rfl | (rw [bad (by rw [hokF]; clear hge; simp_all)]; rfl) | skip) | (refine X3 (ca) ?_) | ((with_reducible first | refine Vg (fun hg => ?_) (fun hg => ?_) | refine Y5 (fun hg => ?_) (fun hg => ?_)) <;> (try simp only [nb] at hg) <;> simp (maxSteps:=9^7) only [ss, X1, tab, simprocAttr, -List.reduceReplicate, hg, sg, Xi hm, plC, rtC, List.length_map, hltf, gi, jnC, X0, hd0, hs1, hl1, g1, hge, hw, k3]) | (refine hK _ ?_; clear hK K) | refine Vt rfl ?_ | refine Vi rfl (fun hg => ?_) (fun hg => ?_) | clear hK K)
    refine ⟨i + 1, ⟨by omega, next (by rw [hokF]; clear hge; simp_all)⟩, by omega, ?_⟩
    refine Xx [true, true, false] (fun n_ => ?_) (fun n_ => ?_) <;> simp only [X4, sm, plC, rtC, hltf, decide_true]
  ·have e := Q3 (f := okF p) (l := r.flanks) fun j hj => hq j hj (by omega)
   repeat' (first | (with_reducible first | refine Vk fun K hK => ?_ | refine V0 ?_) | ((with_reducible refine gE ?_); simp (maxSteps:=9^7) only [ss, X1, tab, simprocAttr, -List.reduceReplicate, Xi hm, plC, rtC, List.length_map, hltf]) | ((with_reducible refine Vz ?_); (try refine Or.inr ⟨(by intro h; cases h), ?_⟩); refine Vo rfl rfl rfl (fun _ _ => rfl) ?_ <;> first | rfl | (rw [hok, e]; rfl) | skip) | ((with_reducible refine Vx ?_); simp only [sb, reduceIte, Nat.reduceEqDiff]) | (refine hK _ ?_; clear hK K) | refine Vf rfl ?_ | clear hK K)
end Go.Proofs.YtgdhnngpfieloaaGreat.Pln
end
