/-
 The document's text of a plan.
-/
import Derived.Test.YtgdhnngpfieloaaGreatZGA
import Derived.Test.YtgdhnngpfieloaaGreatZKH
import Derived.Test.YtgdhnngpfieloaaGreatZPL
import Derived.Test.YtgdhnngpfieloaaGreatZKF
namespace Go.Proofs.YtgdhnngpfieloaaGreat.Pln
set_option linter.unusedVariables false
set_option linter.unusedSimpArgs false
open Go Go.VS Tab
set_option maxHeartbeats 16000000
set_option maxRecDepth 4000
theorem G3 {p : Pl} (h : Uf p = true) : (nuP p).length ≤ 700 := by
 have h1 := R7 h
 rw [Bd] at h1
 have h2 : ∀ l : List Int, (∀ x, x ∈ l → nOk x) → l.length ≤ (l.flatMap Y2).length := fun l hl => by
  induction l with
  | nil => simp
  | cons x l ih =>
   have := ih fun y hy => hl y (List.mem_cons_of_mem _ hy)
   have := R9 (hl x (List.mem_cons_self ..))
   rw [List.flatMap_cons, List.length_append, List.length_cons]; omega
 have := h2 _ (Bg h)
 omega
theorem X93 (a b c d : Int) (σ : AState) (K : AV → List (Nat × Res) → Prop) : X1 tab σ K none 41 4 [(0, i64 a), (1, i64 b), (2, i64 c), (3, i64 d)] = K (.sl 1 [[i64 a], [i64 b], [i64 c], [i64 d]] .full) [] := by
 have h1 : tab 41 = some ti41 := rfl
 have h2 : ti41.desc = .slice 3 := rfl
 have h3 : tab 3 = some ti3 := rfl
 have h4 : ti3.size = 1 := rfl
 have hr : U4 (fun i => some (i * ti3.size, ti3.size)) (Y7 ti3.zero (4 * ti3.size)) [(0, i64 a), (1, i64 b), (2, i64 c), (3, i64 d)] = some [i64 a, i64 b, i64 c, i64 d] := rfl
 simp only [X1, h1, h2, h3, hr]
 simp [h4, Yh]
theorem G4 (l : List (Int × Int)) : (l.flatMap nuJ).length = l.length * 2 := by
 induction l with
 | nil => rfl
 | cons x l ih => rw [List.flatMap_cons, List.length_append, ih, List.length_cons]; simp [nuJ]; omega
theorem Ec (p : Pl) (h : Uf p = true) : Xr Tryz.prog 85 [plA p] [] (.sl 1 ((nuP p).map Ym) .sh) [] := by
 have hlen := G3 h
 obtain ⟨_, _, q1, _, q2, _, q3, _, q4, _⟩ := Us h
 obtain ⟨A0, e0⟩ : ∃ A : List Int, A = [p.ver, p.par, (p.secs.length : Int)] := ⟨_, rfl⟩
 obtain ⟨A1, e1⟩ : ∃ A : List Int, A = A0 ++ p.secs.flatMap nuS ++ [(p.pts.length : Int)] := ⟨_, rfl⟩
 obtain ⟨A2, e2⟩ : ∃ A : List Int, A = A1 ++ p.pts.flatMap nuJ ++ [(p.sgs.length : Int)] := ⟨_, rfl⟩
 obtain ⟨A3, e3⟩ : ∃ A : List Int, A = A2 ++ p.sgs.flatMap nuG ++ [(p.rts.length : Int)] := ⟨_, rfl⟩
 have e4 : nuP p = A3 ++ p.rts.flatMap nuR := by rw [e3, e2, e1, e0]; simp [nuP, nuL, List.append_assoc]
 rw [e4] at hlen ⊢
 have l0 : A0.length = 3 := by rw [e0]; rfl
 have l1 : A1.length = A0.length + (p.secs.flatMap nuS).length + 1 := by rw [e1]; simp [List.length_append]; omega
 have l2 : A2.length = A1.length + (p.pts.flatMap nuJ).length + 1 := by rw [e2]; simp [List.length_append]; omega
 have l3 : A3.length = A2.length + (p.sgs.flatMap nuG).length + 1 := by rw [e3]; simp [List.length_append]; omega
 rw [List.length_append] at hlen
 clear e4
 obtain ⟨Z, hZ⟩ : ∃ Z, Z = A3 ++ p.rts.flatMap nuR := ⟨_, rfl⟩
 rw [← hZ]
 refine Xc 3 Tryz.func85 rfl fun n out _ _ => ?_
 simp only [Tryz.ntmps85, List.length_cons, List.length_nil, List.length_map, List.length_replicate, Xf, Nat.reduceAdd, Nat.reduceSub, List.replicate, List.cons_append, List.nil_append]
 refine X9 fun K hK => Xn Xj [] ?_
 simp (maxSteps:=9^7) only [ss, X1, tab, simprocAttr, -List.reduceReplicate, plA, plC]
 (refine hK _ ?_; clear hK K)
 refine X9 fun K hK => Xn Xj [] ?_
 simp (maxSteps:=9^7) only [ss, tab, simprocAttr, -List.reduceReplicate, X5i, List.length_map, plC]
 (refine hK _ ?_; clear hK K)
 have eA0 : AV.sl 1 [[i64 p.ver], [i64 p.par], [i64 (p.secs.length : Int)]] .full = .sl 1 (A0.map Ym) .full := by rw [e0]; rfl
 rw [eA0]
 refine X9 fun KB hKB => ?_
 refine X9 fun K hK => Xn Xj [] ?_
 simp (maxSteps:=9^7) only [ss, X1, tab, simprocAttr, -List.reduceReplicate]
 (refine hK _ ?_; clear hK K)
 refine Xe ?_
 refine Xl (fun m (i : Nat) => [(4, i64 (i : Int)), (1, .ptr (m + 0) 0), (3, if i = 0 then .sl 1 (A0.map Ym) .full else .sl 1 ((A0 ++ (p.secs.take i).flatMap nuS).map Ym) (.own (m + 2))), (5, .top), (6, .top), (20, .top), (21, .top), (22, .top), (23, .top), (24, .top), (25, .top), (26, .top), (27, .top), (28, .top), (29, .top), (30, .top), (31, .top), (32, .top), (33, .top), (34, .top), (35, .top), (36, .top), (37, .top), (38, .top), (39, .top), (40, .top), (41, .top), (42, .top), (43, .top), (44, .top), (45, .top), (46, .top), (47, .top), (48, .top), (49, .top), (50, .top), (51, .top), (52, .top), (53, .top), (54, .top), (55, .top), (56, .top), (57, .top), (58, .top), (59, .top), (60, .top)]) (fun m i => [some (.box 28 (plC p)), none, if i = 0 then none else some (.row 3 1 (A0 ++ (p.secs.take i).flatMap nuS).length)]) (fun i => out) (fun i => i ≤ p.secs.length) (fun i => p.secs.length - i) 0 (Nat.zero_le _) ?_ fun m i hm hi => ?_
 ·refine X2 ?_ ?_ (by first | rfl | (simp only [if_true, plC]; rfl) | simp only [if_true, plC]) rfl rfl rfl <;> simp only [X4, sl, if_true, plC]
 simp only [X4, s_0, s_s]
 have hw := Yl (n := i) 1 1 rfl (by omega)
 obtain ⟨B, hB⟩ : ∃ B, B = A0 ++ (p.secs.take i).flatMap nuS := ⟨_, rfl⟩
 have hfl := Z0 nuS p.secs i
 have hBl : B.length = 3 + ((p.secs.take i).flatMap nuS).length := by rw [hB, List.length_append, l0]
 have hB0 : i = 0 → B = A0 := fun h => by rw [hB, h]; simp
 rw [← hB]
 refine X9 fun K hK => ?_
 by_cases hlt : i < p.secs.length
 ·have gi := Xg Y6 p.secs i [] hlt
  obtain ⟨s, hs⟩ : ∃ s, s = p.secs[i] := ⟨_, rfl⟩
  have hfl1 := Z0 nuS p.secs (i + 1)
  rw [Y3 nuS p.secs i hlt, List.length_append] at hfl1
  have hB' : A0 ++ (p.secs.take (i + 1)).flatMap nuS = B ++ [s.id, s.pt] ++ s.ends.flatMap nuJ := by
   rw [Y3 nuS p.secs i hlt, hB, ← hs]; simp [nuS]
  rw [← hs] at gi hfl1
  have hnS : (nuS s).length = 2 + (s.ends.flatMap nuJ).length := by simp [nuS]; omega
  have hs2 := G4 s.ends
  obtain ⟨C, hC⟩ : ∃ C, C = B ++ [s.id, s.pt] := ⟨_, rfl⟩
  have hCl : C.length = B.length + 2 := by rw [hC, List.length_append]; rfl
  rw [← hC] at hB'
  refine X9 fun K hK => Xn Xj [] ?_
  simp (maxSteps:=9^7) only [ss, X1, tab, simprocAttr, -List.reduceReplicate, Xi hm, List.length_map, hlt, plC, decide_true]
  (refine hK _ ?_; clear hK K)
  refine Wm rfl ?_
  refine Z1 ?_
  simp only [Qd, Z4, if_true]
  refine hK _ ?_
  clear hK K
  refine X9 fun K hK => Xe ?_
  refine X9 fun K hK => Xn Xj [] ?_
  simp (maxSteps:=9^7) only [ss, X1, tab, simprocAttr, -List.reduceReplicate, Xi hm, List.length_map, hlt, plC, gi, Y6, X0]
  (refine hK _ ?_; clear hK K)
  refine Qf [(3, .sl 1 (C.map Ym) (.own (m + 2))), (32, .top), (33, .top), (34, .top), (35, .top), (36, .top), (37, .top), (38, .top)] [some (.box 28 (plC p)), some (.box 63 (Y6 s)), some (.row 3 1 C.length)] out (id ?_) ?_
  rotate_left
  ·have y1 : (B.length + 2) * 8 ≤ 140737488355328 := by omega
   have y2 : B.length + 2 ≤ 9223372036854775807 := by omega
   have eC : B.map Ym ++ [[i64 s.id], [i64 s.pt]] = C.map Ym := by rw [hC, List.map_append]; rfl
   by_cases hi : i = 0
   ·rw [if_pos hi, if_pos hi, ← hB0 hi]
    refine Xn Xj [(38, none)] ?_
    simp (maxSteps:=9^7) only [ss, tab, simprocAttr, -List.reduceReplicate, Xi hm, B6, Y6, List.length_map, y1, y2, eC]
    refine .inl ?_
    refine X2 ?_ ?_ rfl rfl rfl rfl <;> simp only [X4, sl, Y6, hCl, plC]
   ·rw [if_neg hi, if_neg hi]
    refine Xn Xj [] ?_
    simp (maxSteps:=9^7) only [ss, tab, simprocAttr, -List.reduceReplicate, Xi hm, B6, Y6, List.length_map, y1, y2, eC]
    refine .inl ?_
    refine X2 ?_ ?_ rfl rfl rfl rfl <;> simp only [X4, sl, Y6, hCl, plC]
  simp only [X4, s_0, s_s]
  repeat' (first | (with_reducible first | refine Vk fun K hK => ?_ | refine V0 ?_) | ((with_reducible refine gE ?_); simp (maxSteps:=9^7) only [ss, X1, tab, simprocAttr, -List.reduceReplicate]) | (refine hK _ ?_; clear hK K))
  refine Xe ?_
  refine Xz (fun k : Nat => [(6, i64 (k : Int)), (3, .sl 1 ((C ++ (s.ends.take k).flatMap nuJ).map Ym) (.own (m + 2))), (39, .top), (40, .top), (41, .top), (42, .top), (43, .top), (44, .top), (45, .top), (46, .top), (47, .top), (48, .top), (49, .top), (50, .top), (51, .top), (52, .top), (53, .top), (54, .top), (55, .top), (56, .top), (57, .top), (58, .top), (59, .top), (60, .top)]) (fun k => [some (.box 28 (plC p)), some (.box 63 (Y6 s)), some (.row 3 1 (C ++ (s.ends.take k).flatMap nuJ).length)]) (fun k => out) (fun k => k ≤ s.ends.length) (fun k => s.ends.length - k) 0 (Nat.zero_le _) ?_ fun k hk => ?_
  ·refine X2 ?_ ?_ (by first | rfl | (simp only [List.take_zero, List.flatMap_nil, List.append_nil]; rfl) | simp only [List.take_zero, List.flatMap_nil, List.append_nil]) rfl rfl rfl <;> simp only [X4, sl, List.take_zero, List.flatMap_nil, List.append_nil]
  simp only [X4, s_0, s_s]
  have hwk := Yl (n := k) 1 1 rfl (by omega)
  by_cases hk1 : k < s.ends.length
  ·have gk := Xg jnC s.ends k [] hk1
   have hf := Z0 nuJ s.ends k
   obtain ⟨D, hD⟩ : ∃ D, D = C ++ (s.ends.take k).flatMap nuJ := ⟨_, rfl⟩
   have hDl : D.length = C.length + ((s.ends.take k).flatMap nuJ).length := by rw [hD, List.length_append]
   have hD' : C ++ (s.ends.take (k + 1)).flatMap nuJ = D ++ [s.ends[k].1, s.ends[k].2] := by rw [Y3 nuJ s.ends k hk1, hD, List.append_assoc]; rfl
   rw [← hD]
   have y1 : (D.length + 2) * 8 ≤ 140737488355328 := by omega
   have y2 : D.length + 2 ≤ 9223372036854775807 := by omega
   have eD : D.map Ym ++ [[i64 s.ends[k].1], [i64 s.ends[k].2]] = (D ++ [s.ends[k].1, s.ends[k].2]).map Ym := by rw [List.map_append]; rfl
   have eL : (D ++ [s.ends[k].1, s.ends[k].2]).length = D.length + 2 := by rw [List.length_append]; rfl
   repeat' (first | (with_reducible first | refine Vk fun K hK => ?_ | refine V0 ?_ | refine Vr ?_ | refine Vs ?_ | refine Vd 10 [] [[],[],[1],[],[],[],[],[],[1],[],[],[],[],[],[2],[]] [[],[],[],[],[],[],[],[],[],[],[],[],[],[],[2],[]] (by kernel_rfl) (by decide) (by decide) (by kernel_rfl) ?_) | ((with_reducible first | refine gE ?_ | refine gD ?_); simp (maxSteps:=9^7) only [ss, tab, simprocAttr, -List.reduceReplicate, B6, Xi hm, Y6, jnC, List.length_map, hk1, gk, hwk, y1, y2, eD, decide_true]) | (refine hK _ ?_; clear hK K) | refine Vt rfl ?_ | clear hK K)
   refine ⟨k + 1, by omega, by omega, ?_⟩
   rw [hD', eL]
   refine X2 ?_ ?_ rfl rfl rfl rfl <;> simp only [X4, sl, Y6, List.length_map, hk1, decide_true]
  ·obtain rfl : k = s.ends.length := by omega
   rw [List.take_length] at *
   repeat' (first | (with_reducible first | refine Vk fun K hK => ?_ | refine V0 ?_) | ((with_reducible refine gE ?_); simp (maxSteps:=9^7) only [ss, X1, tab, simprocAttr, -List.reduceReplicate, Xi hm, Y6, List.length_map, hk1, decide_false, hw]) | ((with_reducible refine Vx ?_); simp only [sb, reduceIte, Nat.reduceEqDiff]) | (refine hK _ ?_; clear hK K) | refine Vf rfl ?_ | clear hK K)
   refine ⟨i + 1, by omega, by omega, ?_⟩
   rw [hB']
   refine Xx [true, false, true] (fun n_ => ?_) (fun n_ => ?_) <;> simp only [X4, sm, Nat.add_one_ne_zero, if_false, plC]
 ·obtain rfl : i = p.secs.length := by omega
  refine X9 fun K hK => Xn Xj [] ?_
  simp (maxSteps:=9^7) only [ss, X1, tab, simprocAttr, -List.reduceReplicate, Xi hm, List.length_map, hlt, plC, decide_false]
  (refine hK _ ?_; clear hK K)
  refine Uy rfl ?_
  refine Qi ?_
  simp only [Qd, Z4, if_true, if_false, reduceIte, Nat.reduceEqDiff]
  refine hKB _ ?_
  clear hKB KB hK K
  have eA1 : A1 = B ++ [(p.pts.length : Int)] := by rw [e1, hB, List.take_length]
  have hBl1 : A1.length = B.length + 1 := by rw [eA1, List.length_append]; rfl
  refine Qf [(3, .sl 1 (A1.map Ym) (.own (m + 2))), (61, .top), (62, .top), (63, .top), (64, .top), (65, .top), (66, .top)] [some (.box 28 (plC p)), none, some (.row 3 1 A1.length)] out (id ?_) ?_
  rotate_left
  ·have y1 : (B.length + 1) * 8 ≤ 140737488355328 := by omega
   have y2 : B.length + 1 ≤ 9223372036854775807 := by omega
   have eC : B.map Ym ++ [[i64 (p.pts.length : Int)]] = A1.map Ym := by rw [eA1, List.map_append]; rfl
   by_cases hi : p.secs.length = 0
   ·rw [if_pos hi, if_pos hi, ← hB0 hi]
    repeat' (first | (with_reducible refine Ve [(66, some (m + 2))] ?_) | ((with_reducible refine gE ?_); simp (maxSteps:=9^7) only [ss, tab, simprocAttr, -List.reduceReplicate, Xi hm, Mr, plC, List.length_map, y1, y2, eC, D1]))
    refine .inl ?_
    refine X2 ?_ ?_ rfl rfl rfl rfl <;> simp only [X4, sl, plC, hBl1]
   ·rw [if_neg hi, if_neg hi]
    refine Xn Xj [] ?_
    simp (maxSteps:=9^7) only [ss, tab, simprocAttr, -List.reduceReplicate, Xi hm, Mr, plC, List.length_map, y1, y2, eC]
    refine .inl ?_
    refine X2 ?_ ?_ rfl rfl rfl rfl <;> simp only [X4, sl, plC, hBl1]
  simp only [X4, s_0, s_s]
  clear hB hBl hB0 eA1 hBl1 hfl
  repeat' (first | (with_reducible first | refine Vk fun K hK => ?_ | refine V0 ?_) | ((with_reducible refine gE ?_); simp (maxSteps:=9^7) only [ss, X1, tab, simprocAttr, -List.reduceReplicate]) | (refine hK _ ?_; clear hK K))
  refine Xe ?_
  refine Xz (fun i : Nat => [(7, i64 (i : Int)), (3, .sl 1 ((A1 ++ (p.pts.take i).flatMap nuJ).map Ym) (.own (m + 2))), (67, .top), (68, .top), (69, .top), (70, .top), (71, .top), (72, .top), (73, .top), (74, .top), (75, .top), (76, .top), (77, .top), (78, .top), (79, .top), (80, .top), (81, .top), (82, .top), (83, .top), (84, .top), (85, .top), (86, .top), (87, .top), (88, .top)]) (fun i => [some (.box 28 (plC p)), none, some (.row 3 1 (A1 ++ (p.pts.take i).flatMap nuJ).length)]) (fun i => out) (fun i => i ≤ p.pts.length) (fun i => p.pts.length - i) 0 (Nat.zero_le _) ?_ fun i hi => ?_
  ·refine X2 ?_ ?_ (by first | rfl | (simp only [List.take_zero, List.flatMap_nil, List.append_nil, plC]; rfl) | simp only [List.take_zero, List.flatMap_nil, List.append_nil, plC]) rfl rfl rfl <;> simp only [X4, sl, List.take_zero, List.flatMap_nil, List.append_nil, plC]
  simp only [X4, s_0, s_s]
  have hw := Yl (n := i) 1 1 rfl (by omega)
  have hf := Z0 nuJ p.pts i
  obtain ⟨D, hD⟩ : ∃ D, D = A1 ++ (p.pts.take i).flatMap nuJ := ⟨_, rfl⟩
  have hDl : D.length = A1.length + ((p.pts.take i).flatMap nuJ).length := by rw [hD, List.length_append]
  by_cases hk1 : i < p.pts.length
  ·have gk := Xg jnC p.pts i [] hk1
   obtain ⟨x, hx⟩ : ∃ x, x = p.pts[i] := ⟨_, rfl⟩
   have hD' : A1 ++ (p.pts.take (i + 1)).flatMap nuJ = D ++ [x.1, x.2] := by rw [Y3 nuJ p.pts i hk1, hD, ← hx, List.append_assoc]; rfl
   rw [← hx] at gk
   rw [← hD]
   have y1 : (D.length + 2) * 8 ≤ 140737488355328 := by omega
   have y2 : D.length + 2 ≤ 9223372036854775807 := by omega
   have eD : D.map Ym ++ [[i64 x.1], [i64 x.2]] = (D ++ [x.1, x.2]).map Ym := by rw [List.map_append]; rfl
   have eL : (D ++ [x.1, x.2]).length = D.length + 2 := by rw [List.length_append]; rfl
   repeat' (first | (with_reducible first | refine Vk fun K hK => ?_ | refine V0 ?_ | refine Vr ?_ | refine Vs ?_ | refine Vd 15 [] [[],[],[0],[],[],[],[],[],[0],[],[],[],[],[],[2],[]] [[],[],[],[],[],[],[],[],[],[],[],[],[],[],[2],[]] (by kernel_rfl) (by decide) (by decide) (by kernel_rfl) ?_) | ((with_reducible first | refine gE ?_ | refine gD ?_); simp (maxSteps:=9^7) only [ss, tab, simprocAttr, -List.reduceReplicate, B6, Xi hm, plC, jnC, List.length_map, hk1, gk, hw, y1, y2, eD, decide_true]) | (refine hK _ ?_; clear hK K) | refine Vt rfl ?_ | clear hK K)
   refine ⟨i + 1, by omega, by omega, ?_⟩
   rw [hD', eL]
   refine X2 ?_ ?_ rfl rfl rfl rfl <;> simp only [X4, sl, plC, List.length_map, hk1, decide_true]
  ·obtain rfl : i = p.pts.length := by omega
   rw [List.take_length] at *
   rw [← hD]
   have y1 : A2.length * 8 ≤ 140737488355328 := by omega
   have y2 : A2.length ≤ 9223372036854775807 := by omega
   have eA : A2 = D ++ [(p.sgs.length : Int)] := by rw [e2, hD]
   have eC : D.map Ym ++ [[i64 (p.sgs.length : Int)]] = A2.map Ym := by rw [eA, List.map_append]; rfl
   have eL : D.length + 1 = A2.length := by rw [eA, List.length_append]; rfl
   clear hf hDl
   repeat' (first | (with_reducible first | refine Vk fun K hK => ?_ | refine V0 ?_) | ((with_reducible refine gE ?_); simp (maxSteps:=9^7) only [ss, tab, simprocAttr, -List.reduceReplicate, Mr, Xi hm, plC, List.length_map, hk1, decide_false, y1, y2, eC, eL]) | ((with_reducible refine Vx ?_); simp only [sb, reduceIte, Nat.reduceEqDiff]) | (refine hK _ ?_; clear hK K) | refine Vf rfl ?_ | clear hK K)
   refine Xe ?_
   refine Xz (fun i : Nat => [(8, i64 (i : Int)), (3, .sl 1 ((A2 ++ (p.sgs.take i).flatMap nuG).map Ym) (.own (m + 2))), (95, .top), (96, .top), (97, .top), (98, .top), (99, .top), (100, .top), (101, .top), (102, .top), (103, .top), (104, .top), (105, .top), (106, .top), (107, .top), (108, .top), (109, .top), (110, .top), (111, .top), (112, .top), (113, .top), (114, .top), (115, .top), (116, .top), (117, .top), (118, .top), (119, .top), (120, .top), (121, .top), (122, .top)]) (fun i => [some (.box 28 (plC p)), none, some (.row 3 1 (A2 ++ (p.sgs.take i).flatMap nuG).length)]) (fun i => out) (fun i => i ≤ p.sgs.length) (fun i => p.sgs.length - i) 0 (Nat.zero_le _) ?_ fun i hi => ?_
   ·refine X2 ?_ ?_ (by first | rfl | (simp only [List.take_zero, List.flatMap_nil, List.append_nil, plC]; rfl) | simp only [List.take_zero, List.flatMap_nil, List.append_nil, plC]) rfl rfl rfl <;> simp only [X4, sl, List.take_zero, List.flatMap_nil, List.append_nil, plC]
   simp only [X4, s_0, s_s]
   have hw := Yl (n := i) 1 1 rfl (by omega)
   have hf := Z0 nuG p.sgs i
   obtain ⟨D, hD⟩ : ∃ D, D = A2 ++ (p.sgs.take i).flatMap nuG := ⟨_, rfl⟩
   have hDl : D.length = A2.length + ((p.sgs.take i).flatMap nuG).length := by rw [hD, List.length_append]
   by_cases hk1 : i < p.sgs.length
   ·have gk := Xg sgC p.sgs i [] hk1
    obtain ⟨x, hx⟩ : ∃ x, x = p.sgs[i] := ⟨_, rfl⟩
    have hD' : A2 ++ (p.sgs.take (i + 1)).flatMap nuG = D ++ [x.1, x.2.1, x.2.2] := by rw [Y3 nuG p.sgs i hk1, hD, ← hx, List.append_assoc]; rfl
    rw [← hx] at gk
    rw [← hD]
    have y1 : (D.length + 3) * 8 ≤ 140737488355328 := by omega
    have y2 : D.length + 3 ≤ 9223372036854775807 := by omega
    have eD : D.map Ym ++ [[i64 x.1], [i64 x.2.1], [i64 x.2.2]] = (D ++ [x.1, x.2.1, x.2.2]).map Ym := by rw [List.map_append]; rfl
    have eL : (D ++ [x.1, x.2.1, x.2.2]).length = D.length + 3 := by rw [List.length_append]; rfl
    repeat' (first | (with_reducible first | refine Vk fun K hK => ?_ | refine V0 ?_ | refine Vr ?_ | refine Vs ?_ | refine Vd 20 [] [[],[],[0],[],[],[],[],[],[0],[],[],[],[],[],[0],[],[],[],[],[],[2],[]] [[],[],[],[],[],[],[],[],[],[],[],[],[],[],[],[],[],[],[],[],[2],[]] (by kernel_rfl) (by decide) (by decide) (by kernel_rfl) ?_) | ((with_reducible first | refine gE ?_ | refine gD ?_); simp (maxSteps:=9^7) only [ss, tab, simprocAttr, -List.reduceReplicate, X5i, Xi hm, plC, sgC, List.length_map, hk1, gk, hw, y1, y2, eD, decide_true]) | (refine hK _ ?_; clear hK K) | refine Vt rfl ?_ | clear hK K)
    refine ⟨i + 1, by omega, by omega, ?_⟩
    rw [hD', eL]
    refine X2 ?_ ?_ rfl rfl rfl rfl <;> simp only [X4, sl, plC, List.length_map, hk1, decide_true]
   ·obtain rfl : i = p.sgs.length := by omega
    rw [List.take_length] at *
    rw [← hD]
    have y1 : A3.length * 8 ≤ 140737488355328 := by omega
    have y2 : A3.length ≤ 9223372036854775807 := by omega
    have eA : A3 = D ++ [(p.rts.length : Int)] := by rw [e3, hD]
    have eC : D.map Ym ++ [[i64 (p.rts.length : Int)]] = A3.map Ym := by rw [eA, List.map_append]; rfl
    have eL : D.length + 1 = A3.length := by rw [eA, List.length_append]; rfl
    clear hf hDl
    repeat' (first | (with_reducible first | refine Vk fun K hK => ?_ | refine V0 ?_) | ((with_reducible refine gE ?_); simp (maxSteps:=9^7) only [ss, tab, simprocAttr, -List.reduceReplicate, Mr, Xi hm, plC, List.length_map, hk1, decide_false, y1, y2, eC, eL]) | ((with_reducible refine Vx ?_); simp only [sb, reduceIte, Nat.reduceEqDiff]) | (refine hK _ ?_; clear hK K) | refine Vf rfl ?_ | clear hK K)
    refine Xe ?_
    refine Xl (fun m (i : Nat) => [(9, i64 (i : Int)), (1, .ptr (m + 0) 0), (3, .sl 1 ((A3 ++ (p.rts.take i).flatMap nuR).map Ym) (.own (m + 2))), (10, .top), (11, .top), (129, .top), (130, .top), (131, .top), (132, .top), (133, .top), (134, .top), (135, .top), (136, .top), (137, .top), (138, .top), (139, .top), (140, .top), (141, .top), (142, .top), (143, .top), (144, .top), (145, .top), (146, .top), (147, .top), (148, .top), (149, .top), (150, .top), (151, .top), (152, .top), (153, .top), (154, .top), (155, .top), (156, .top), (157, .top), (158, .top), (159, .top), (160, .top), (161, .top), (162, .top), (163, .top), (164, .top), (165, .top), (166, .top), (167, .top), (168, .top), (169, .top), (170, .top), (171, .top), (172, .top), (173, .top), (174, .top), (175, .top), (176, .top), (177, .top), (178, .top), (179, .top), (180, .top), (181, .top), (182, .top), (183, .top), (184, .top), (185, .top), (186, .top), (187, .top), (188, .top), (189, .top), (190, .top), (191, .top), (192, .top), (193, .top), (194, .top), (195, .top), (196, .top), (197, .top), (198, .top), (199, .top)]) (fun m i => [some (.box 28 (plC p)), none, some (.row 3 1 (A3 ++ (p.rts.take i).flatMap nuR).length)]) (fun i => out) (fun i => i ≤ p.rts.length) (fun i => p.rts.length - i) 0 (Nat.zero_le _) ?_ fun m i hm hi => ?_
    ·refine X2 ?_ ?_ (by first | rfl | (simp only [List.take_zero, List.flatMap_nil, List.append_nil, plC]; rfl) | simp only [List.take_zero, List.flatMap_nil, List.append_nil, plC]) rfl rfl rfl <;> simp only [X4, sl, List.take_zero, List.flatMap_nil, List.append_nil, plC]
    simp only [X4, s_0, s_s]
    have hw := Yl (n := i) 1 1 rfl (by omega)
    have hf := Z0 nuR p.rts i
    obtain ⟨D, hD⟩ : ∃ D, D = A3 ++ (p.rts.take i).flatMap nuR := ⟨_, rfl⟩
    have hDl : D.length = A3.length + ((p.rts.take i).flatMap nuR).length := by rw [hD, List.length_append]
    by_cases hk1 : i < p.rts.length
    ·have gk := Xg rtC p.rts i [] hk1
     obtain ⟨r, hr⟩ : ∃ r, r = p.rts[i] := ⟨_, rfl⟩
     have hf1 := Z0 nuR p.rts (i + 1)
     rw [Y3 nuR p.rts i hk1, List.length_append, ← hr] at hf1
     rw [← hr] at gk
     obtain ⟨E1, h1⟩ : ∃ E, E = D ++ [r.id, r.entry, r.ex, (r.path.length : Int)] := ⟨_, rfl⟩
     obtain ⟨E2, h2⟩ : ∃ E, E = E1 ++ r.path := ⟨_, rfl⟩
     obtain ⟨E3, h3⟩ : ∃ E, E = E2 ++ [(r.over.length : Int)] := ⟨_, rfl⟩
     obtain ⟨E4, h4⟩ : ∃ E, E = E3 ++ r.over := ⟨_, rfl⟩
     obtain ⟨E5, h5⟩ : ∃ E, E = E4 ++ [(r.flanks.length : Int)] := ⟨_, rfl⟩
     have hD' : A3 ++ (p.rts.take (i + 1)).flatMap nuR = E5 ++ r.flanks.flatMap nuJ ++ [r.timer] := by
      rw [Y3 nuR p.rts i hk1, ← hr, ← List.append_assoc, ← hD, h5, h4, h3, h2, h1]
      have e : ∀ l : List Int, l.flatMap nuI = l := fun l => by induction l with | nil => rfl | cons x l ih => rw [List.flatMap_cons, ih]; rfl
      simp [nuR, nuL, e, List.append_assoc]
     have k1 : E1.length = D.length + 4 := by rw [h1, List.length_append]; rfl
     have k2 : E2.length = E1.length + r.path.length := by rw [h2, List.length_append]
     have k3 : E3.length = E2.length + 1 := by rw [h3, List.length_append]; rfl
     have k4 : E4.length = E3.length + r.over.length := by rw [h4, List.length_append]
     have k5 : E5.length = E4.length + 1 := by rw [h5, List.length_append]; rfl
     have hnl := congrArg List.length hD'
     rw [Y3 nuR p.rts i hk1, ← hr] at hnl
     simp only [List.length_append, List.length_singleton] at hnl
     have m1 : D.map Ym ++ [[i64 r.id], [i64 r.entry], [i64 r.ex], [i64 (r.path.length : Int)]] = E1.map Ym := by rw [h1, List.map_append]; rfl
     have m2 : E1.map Ym ++ r.path.map Ym = E2.map Ym := by rw [h2, List.map_append]
     have m3 : E2.map Ym ++ [[i64 (r.over.length : Int)]] = E3.map Ym := by rw [h3, List.map_append]; rfl
     have m4 : E3.map Ym ++ r.over.map Ym = E4.map Ym := by rw [h4, List.map_append]
     have m5 : E4.map Ym ++ [[i64 (r.flanks.length : Int)]] = E5.map Ym := by rw [h5, List.map_append]; rfl
     have hj2 := G4 r.flanks
     have hDn : E1.length * 8 ≤ 140737488355328 ∧ E2.length * 8 ≤ 140737488355328 ∧ E3.length * 8 ≤ 140737488355328 ∧ E4.length * 8 ≤ 140737488355328 ∧ E5.length * 8 ≤ 140737488355328 := ⟨by omega, by omega, by omega, by omega, by omega⟩
     have hDm : E1.length ≤ 9223372036854775807 ∧ E2.length ≤ 9223372036854775807 ∧ E3.length ≤ 9223372036854775807 ∧ E4.length ≤ 9223372036854775807 ∧ E5.length ≤ 9223372036854775807 := ⟨by omega, by omega, by omega, by omega, by omega⟩
     rw [← hD]
     repeat' (first | (with_reducible first | refine Vk fun K hK => ?_ | refine V0 ?_ | refine Vb ?_ | refine Vs ?_) | ((with_reducible refine gE ?_); simp (maxSteps:=9^7) only [ss, tab, simprocAttr, -List.reduceReplicate, X93, Mr, Xi hm, plC, rtC, X0, List.length_map, hk1, gk, m1, m2, m3, m4, m5, hDn, hDm, ← k1, ← k2, ← k3, ← k4, ← k5, decide_true]) | (refine hK _ ?_; clear hK K) | refine Vt rfl ?_)
     refine Xe ?_
     refine Xz (fun k : Nat => [(11, i64 (k : Int)), (3, .sl 1 ((E5 ++ (r.flanks.take k).flatMap nuJ).map Ym) (.own (m + 2))), (173, .top), (174, .top), (175, .top), (176, .top), (177, .top), (178, .top), (179, .top), (180, .top), (181, .top), (182, .top), (183, .top), (184, .top), (185, .top), (186, .top), (187, .top), (188, .top), (189, .top), (190, .top), (191, .top), (192, .top), (193, .top), (194, .top)]) (fun k => [some (.box 28 (plC p)), some (.box 44 (rtC r)), some (.row 3 1 (E5 ++ (r.flanks.take k).flatMap nuJ).length)]) (fun k => out) (fun k => k ≤ r.flanks.length) (fun k => r.flanks.length - k) 0 (Nat.zero_le _) ?_ fun k hk => ?_
     ·refine X2 ?_ ?_ (by first | rfl | (simp only [List.take_zero, List.flatMap_nil, List.append_nil, plC, rtC]; rfl) | simp only [List.take_zero, List.flatMap_nil, List.append_nil, plC, rtC]) rfl rfl rfl <;> simp only [X4, sl, List.take_zero, List.flatMap_nil, List.append_nil, plC, rtC]
     simp only [X4, s_0, s_s]
     have hwk := Yl (n := k) 1 1 rfl (by omega)
     have hfk := Z0 nuJ r.flanks k
     obtain ⟨F, hF⟩ : ∃ F, F = E5 ++ (r.flanks.take k).flatMap nuJ := ⟨_, rfl⟩
     have hFl : F.length = E5.length + ((r.flanks.take k).flatMap nuJ).length := by rw [hF, List.length_append]
     rw [← hF]
     by_cases hk2 : k < r.flanks.length
     ·have gf := Xg jnC r.flanks k [] hk2
      have hF' : E5 ++ (r.flanks.take (k + 1)).flatMap nuJ = F ++ [r.flanks[k].1, r.flanks[k].2] := by rw [Y3 nuJ r.flanks k hk2, hF, List.append_assoc]; rfl
      have y1 : (F.length + 2) * 8 ≤ 140737488355328 := by omega
      have y2 : F.length + 2 ≤ 9223372036854775807 := by omega
      have eD : F.map Ym ++ [[i64 r.flanks[k].1], [i64 r.flanks[k].2]] = (F ++ [r.flanks[k].1, r.flanks[k].2]).map Ym := by rw [List.map_append]; rfl
      have eL : (F ++ [r.flanks[k].1, r.flanks[k].2]).length = F.length + 2 := by rw [List.length_append]; rfl
      repeat' (first | (with_reducible first | refine Vk fun K hK => ?_ | refine V0 ?_ | refine Vr ?_ | refine Vs ?_ | refine Vd 34 [] [[],[],[1],[],[],[],[],[],[1],[],[],[],[],[],[2],[]] [[],[],[],[],[],[],[],[],[],[],[],[],[],[],[2],[]] (by kernel_rfl) (by decide) (by decide) (by kernel_rfl) ?_) | ((with_reducible first | refine gE ?_ | refine gD ?_); simp (maxSteps:=9^7) only [ss, tab, simprocAttr, -List.reduceReplicate, B6, Xi hm, rtC, jnC, List.length_map, hk2, gf, hwk, y1, y2, eD, decide_true]) | (refine hK _ ?_; clear hK K) | refine Vt rfl ?_ | clear hK K)
      refine ⟨k + 1, by omega, by omega, ?_⟩
      rw [hF', eL]
      refine X2 ?_ ?_ rfl rfl rfl rfl <;> simp only [X4, sl, plC, rtC, List.length_map, hk2, decide_true]
     ·obtain rfl : k = r.flanks.length := by omega
      rw [List.take_length] at *
      have y1 : (F.length + 1) * 8 ≤ 140737488355328 := by omega
      have y2 : F.length + 1 ≤ 9223372036854775807 := by omega
      have eD : F.map Ym ++ [[i64 r.timer]] = (F ++ [r.timer]).map Ym := by rw [List.map_append]; rfl
      have eL : (F ++ [r.timer]).length = F.length + 1 := by rw [List.length_append]; rfl
      rw [← hF] at hD'
      repeat' (first | (with_reducible first | refine Vk fun K hK => ?_ | refine V0 ?_) | ((with_reducible refine gE ?_); simp (maxSteps:=9^7) only [ss, tab, simprocAttr, -List.reduceReplicate, Mr, Xi hm, plC, rtC, List.length_map, hk2, decide_false, hw, y1, y2, eD]) | ((with_reducible refine Vx ?_); simp only [sb, reduceIte, Nat.reduceEqDiff]) | (refine hK _ ?_; clear hK K) | refine Vf rfl ?_ | clear hK K)
      refine ⟨i + 1, by omega, by omega, ?_⟩
      rw [hD', eL]
      refine Xx [true, false, true] (fun n_ => ?_) (fun n_ => ?_) <;> simp only [X4, sm, plC]
    ·obtain rfl : i = p.rts.length := by omega
     rw [List.take_length] at *
     obtain rfl : Z = D := hZ.trans hD.symm
     rw [← hZ]
     repeat' (first | (with_reducible first | refine Vk fun K hK => ?_ | refine V0 ?_) | ((with_reducible refine gE ?_); simp (maxSteps:=9^7) only [ss, X1, tab, simprocAttr, -List.reduceReplicate, Xi hm, plC, List.length_map, hk1, decide_false]) | ((with_reducible refine Vz ?_); (try refine Or.inr ⟨(by intro h; cases h), ?_⟩); refine Xv (.inr rfl) rfl rfl rfl (fun _ _ => rfl) ?_ rfl <;> first | rfl | (exact AV.le.rfl _) | (simp only [X4, sl, Xi hm, plC, List.length_map, hk1, decide_false]; done) | rfl | skip) | ((with_reducible refine Vx ?_); simp only [sb, reduceIte, Nat.reduceEqDiff]) | (refine hK _ ?_; clear hK K) | refine Vf rfl ?_ | clear hK K)
theorem B8 (k : Nat) (p : Pl) (h : Uf p = true) : Xr Tryz.prog 30 [plA p] [(k, none)] (.sl 1 (Xo (Wg p)) (.own k)) [(k, .row 5 1 (Wg p).length)] := by
 have c1 := Ec p h
 have hl := G3 h
 have c2 := fun k => X30 k (nuP p) (Bg h) (by omega)
 rw [← Bd] at c2
 simp only [plA, plC] at c1
 refine Xc 1 Tryz.func30 rfl fun n out _ _ => ?_
 simp only [Tryz.ntmps30, List.length_cons, List.length_nil, List.length_map, List.length_replicate, Xf, Nat.reduceAdd, Nat.reduceSub, List.replicate, List.cons_append, List.nil_append]
 rename_i hneeds hgv
 obtain ⟨hk, _⟩ := hneeds
 obtain ⟨hkn, _⟩ := hgv
 repeat' (first | (with_reducible first | refine Vk fun K hK => ?_ | refine V0 ?_) | ((with_reducible first | refine gE ?_ | refine gR ?_); simp (maxSteps:=9^7) only [ss, X1, tab, simprocAttr, -List.reduceReplicate, plA, plC, X0, X8 hkn, X7 hkn, Cz hkn]) | ((with_reducible refine Vz ?_); refine Vo rfl rfl rfl (fun _ _ => rfl) ?_ <;> first | rfl | skip) | (refine X3 (c1) ?_) | (refine Sb (c2 k) (by rw [X8 hkn]; exact hk) (by rw [X7 hkn]; trivial) (by simp) ?_) | (refine hK _ ?_; clear hK K))
theorem Pi (p : Pl) (h : Uf p = true) : Xr Tryz.prog 30 [plA p] [] (.sl 1 (Xo (Wg p)) .sh) [] := Lc (fun k => B8 k p h) fun k => .sh _ _ _
end Go.Proofs.YtgdhnngpfieloaaGreat.Pln
