/-
 The document's packages; the law PackTags.
-/
import Derived.Test.YtgdhnngpfieloaaGreatZGA
import Derived.Test.YtgdhnngpfieloaaGreatZK28
import Derived.Test.YtgdhnngpfieloaaGreatZKG
import Derived.Test.YtgdhnngpfieloaaGreatZHE
import Derived.Test.YtgdhnngpfieloaaGreatZPQ
namespace Go.Proofs.YtgdhnngpfieloaaGreat.Pln
set_option linter.unusedVariables false
set_option linter.unusedSimpArgs false
open Go Go.VS Tab
set_option maxHeartbeats 8000000
set_option maxRecDepth 4000
theorem Xcm (key : List UInt8) (p : Pl) (h : Uf p = true) (hk : key.length ≤ 64) : Xr Tryz.prog 14 [.sl 1 (Xo key) .sh, plA p] [] (.sl 1 (Xo (Wg p ++ Hm.Xaa key (Wg p))) .sh) [] := by
 have hl := R7 h
 have cw := fun k => B8 k p h
 have ct := Hm.Xei key (Wg p) .sh
 have ht32 : (Hm.Xaa key (Wg p)).length = 32 := Hm.Vc _
 have hib : (Xo (Hm.Xaa key (Wg p))).length = 32 := by rw [X5]; exact ht32
 have hi33 : 32 ≤ (Hm.Xaa key (Wg p)).length := Nat.le_of_eq ht32.symm
 simp only [plA, plC] at cw
 have y1 : (Wg p).length + 32 ≤ 140737488355328 := by omega
 have y2 : (Wg p).length + 32 ≤ 9223372036854775807 := by omega
 refine Xc 3 Tryz.func14 rfl fun n out _ _ => ?_
 simp only [Tryz.ntmps14, List.length_cons, List.length_nil, List.length_map, List.length_replicate, Xf, Nat.reduceAdd, Nat.reduceSub, List.replicate, List.cons_append, List.nil_append]
 repeat' (first | (with_reducible first | refine Vk fun K hK => ?_ | refine V0 ?_ | refine Vs ?_ | apply And.intro) | ((with_reducible first | refine gE ?_ | refine gR ?_); simp (maxSteps:=9^7) only [ss, X1, tab, simprocAttr, -List.reduceReplicate, plA, plC, X0]) | exact Vn | ((with_reducible refine Vz ?_); refine Vo rfl rfl rfl (fun _ _ => rfl) ?_ <;> first | rfl | skip) | (refine Sb (cw (n + 2)) (X6 _ (Nat.le_refl _) 2) (Xb _ (by simp)) (by simp) ?_) | (refine hK _ ?_; clear hK K) | clear hK K)
 refine X3 (ct (.own (n + 2)) hk (by omega)) ?_
 simp (maxSteps:=9^7) only [ss, X1, tab, simprocAttr, -List.reduceReplicate, X0, List.length_map, ht32]
 repeat' (first | (with_reducible refine hK _ ?_; clear hK K) | with_reducible apply And.intro)
 refine Yy (Xa9 (i := 1) 1 (e := 47) (cs := (Hm.Xaa key (Wg p)).map b8) rfl (by simp)) ?_
 simp only [List.map_cons, List.map_nil, AV.frz, Xcu, Xcv, s_0, s_s, Nat.add_left_cancel_iff, reduceCtorEq, if_true, if_false, Nat.reduceEqDiff, reduceIte, List.drop_zero]
 refine X9 fun K hK => Xn Xj [] ?_
 simp (maxSteps:=9^7) only [ss, X1, tab, simprocAttr, -List.reduceReplicate, P6, Nh, Nat.sub_zero, Xa1 _ ht32, List.take_of_length_le (Nat.le_of_eq hib), hi33, X5, ht32, L6, y1, y2]
 repeat' (first | (with_reducible refine hK _ ?_; clear hK K) | with_reducible apply And.intro)
 exact Yd (Xv (.inr rfl) rfl rfl rfl (fun _ _ => rfl) (.sh _ _ _) rfl)
theorem Xcn (key : List UInt8) (p : Pl) (hs : Sm p) (hkl : key.length ≤ 1000000) : Xr Tryz.prog 6 [.sl 1 (Xo key) .sh, plA p] [] (.tup [.sl 1 (Xo (Xb3 key p)) .sh, i64 (Xbb key p)]) [] := by
 have cm := X5w p hs
 by_cases hk : key.length ≤ 64
 ·have g2 : ((key.length : Int) > 64) = False := eq_false (by omega)
  have e2 : Xbb key p = Bl p := if_neg (by omega)
  cases h : Uf p with
  | true =>
   have e1 : Xb3 key p = Wg p ++ Hm.Xaa key (Wg p) := if_pos ⟨hk, h⟩
   have e3 : Bl p = 0 := if_pos h
   rw [e1, e2, e3]
   have cb := Xcm key p h hk
   rw [h] at cm
   simp only [plA, plC] at cm cb
   refine Xc 1 Tryz.func6 rfl fun n out _ _ => ?_
   simp only [Tryz.ntmps6, List.length_cons, List.length_nil, List.length_map, List.length_replicate, Xf, Nat.reduceAdd, Nat.reduceSub, List.replicate, List.cons_append, List.nil_append]
   repeat' (first | (with_reducible first | refine Vk fun K hK => ?_ | refine V0 ?_ | refine Vs ?_ | apply And.intro) | ((with_reducible first | refine gE ?_ | refine gR ?_); simp (maxSteps:=9^7) only [ss, X1, tab, simprocAttr, -List.reduceReplicate, plA, plC, X5, g2, decide_false, X0]) | exact Vn | ((with_reducible refine Vz ?_); refine Za (.inr rfl) rfl rfl rfl (fun _ _ => rfl) rfl rfl ?_ ?_ <;> first | rfl | (exact AV.le.rfl _) | (simp only [X4, sl, plA, plC, X5, g2, decide_false, X0]; done) | rfl | skip) | (refine X3 (cm) ?_) | (refine X3 (cb) ?_) | (refine hK _ ?_; clear hK K) | refine Vt rfl ?_ | refine Vf rfl ?_ | refine Vi rfl (fun hg => ?_) (fun hg => ?_) | clear hK K)
  | false =>
   have e1 : Xb3 key p = [] := if_neg fun h1 => by rw [h] at h1; exact absurd h1.2 (by decide)
   have e3 : Bl p = 8 := if_neg (by rw [h]; decide)
   rw [e1, e2, e3, Wb]
   rw [h] at cm
   simp only [plA, plC] at cm
   refine Xc 1 Tryz.func6 rfl fun n out _ _ => ?_
   simp only [Tryz.ntmps6, List.length_cons, List.length_nil, List.length_map, List.length_replicate, Xf, Nat.reduceAdd, Nat.reduceSub, List.replicate, List.cons_append, List.nil_append]
   repeat' (first | (with_reducible first | refine Vk fun K hK => ?_ | refine V0 ?_ | refine Vs ?_ | apply And.intro) | ((with_reducible first | refine gE ?_ | refine gR ?_); simp (maxSteps:=9^7) only [ss, X1, tab, simprocAttr, -List.reduceReplicate, plA, plC, X5, g2, decide_false, X0]) | exact Vn | ((with_reducible refine Vz ?_); refine Za (.inr rfl) rfl rfl rfl (fun _ _ => rfl) rfl rfl ?_ ?_ <;> first | rfl | (exact AV.le.rfl _) | (simp only [X4, sl, plA, plC, X5, g2, decide_false, X0]; done) | rfl | skip) | (refine X3 (cm) ?_) | (refine hK _ ?_; clear hK K) | refine Vt rfl ?_ | refine Vf rfl ?_ | refine Vi rfl (fun hg => ?_) (fun hg => ?_) | clear hK K)
 ·have g2 : ((key.length : Int) > 64) = True := eq_true (by omega)
  have e1 : Xb3 key p = [] := if_neg fun h => hk h.1
  have e2 : Xbb key p = 3 := if_pos (by omega)
  rw [e1, e2, Wb]
  refine Xc 1 Tryz.func6 rfl fun n out _ _ => ?_
  simp only [Tryz.ntmps6, List.length_cons, List.length_nil, List.length_map, List.length_replicate, Xf, Nat.reduceAdd, Nat.reduceSub, List.replicate, List.cons_append, List.nil_append]
  repeat' (first | (with_reducible first | refine Vk fun K hK => ?_ | refine V0 ?_ | refine Vs ?_ | apply And.intro) | ((with_reducible first | refine gE ?_ | refine gR ?_); simp (maxSteps:=9^7) only [ss, X1, tab, simprocAttr, -List.reduceReplicate, plA, plC, X5, g2, decide_true, X0]) | exact Vn | ((with_reducible refine Vz ?_); refine Za (.inr rfl) rfl rfl rfl (fun _ _ => rfl) rfl rfl ?_ ?_ <;> first | rfl | (exact AV.le.rfl _) | (simp only [X4, sl, plA, plC, X5, g2, decide_true, X0]; done) | rfl | skip) | (refine hK _ ?_; clear hK K) | refine Vt rfl ?_ | refine Vf rfl ?_ | refine Vi rfl (fun hg => ?_) (fun hg => ?_) | clear hK K)
theorem Xco (b : List UInt8) : (if Ei b = true then rqP b else Aq) = (if Z6 b = true then (V6 b).1 else Aq) ∧ Ei b = Z6 b := by
 obtain ⟨h1, h2⟩ := X2p b
 refine ⟨?_, h1⟩
 rw [h1]
 by_cases h : Z6 b = true
 ·rw [if_pos h, if_pos h, h2 h]
 ·rw [if_neg h, if_neg h]
theorem Xd6 (key b : List UInt8) (hkl : key.length ≤ 1000000) (hb : b.length ≤ 1000000) : Xr Tryz.prog 8 [.sl 1 (Xo key) .sh, .sl 1 (Xo b) .sh] [] (.tup [plA (Xav key b), i64 (Xau key b)]) [] := by
 have eN : plA Aq = .agg [i64 0, i64 0, .sl 3 [] .sh, .sl 2 [] .sh, .sl 3 [] .sh, .sl 7 [] .sh] := rfl
 by_cases h1 : 64 < key.length ∨ 2048 < b.length
 ·have e1 := Xbu h1
  rw [Xay e1 (by decide), e1, eN]
  by_cases h2 : 64 < key.length
  ·have g1 : (64 : Int) < (key.length : Int) := by omega
   refine Xc 2 Tryz.func8 rfl fun n out _ _ => ?_
   simp only [Tryz.ntmps8, List.length_cons, List.length_nil, List.length_map, List.length_replicate, Xf, Nat.reduceAdd, Nat.reduceSub, List.replicate, List.cons_append, List.nil_append]
   repeat' (first | (with_reducible first | refine Vk fun K hK => ?_ | refine V0 ?_ | refine Vs ?_ | apply And.intro | refine Vq (by kernel_rfl) ?_) | ((with_reducible first | refine gE ?_ | refine gR ?_); simp (maxSteps:=9^7) only [ss, X1, tab, simprocAttr, -List.reduceReplicate, X5, g1, gt_iff_lt, X0, decide_true]) | exact Vn | ((with_reducible refine Vz ?_); (first | refine Xp (.inr rfl) rfl rfl rfl (fun _ _ => rfl) ok28 (k := n + 0) (off := 0) rfl (Xb _ (by simp)) (X6 _ (Nat.le_refl _) 0) rfl rfl ?_ | refine Xp (.inr rfl) rfl rfl rfl (fun _ _ => rfl) ok28 (k := m + 0) (off := 0) rfl (Xb _ (by simp)) (X6 _ hm 0) rfl rfl ?_) <;> first | rfl | exact AV.le.rfl _ | (simp only [X4, sl, ti28, List.map_nil, X5, g1, gt_iff_lt, X0, decide_true]; done) | (exact AV.le.rfl _) | (simp only [X4, sl, X5, g1, gt_iff_lt, X0, decide_true]; done) | rfl | skip) | ((with_reducible refine Vg (fun hg => ?_) (fun hg => ?_)) <;> (try simp only [nb] at hg) <;> simp (maxSteps:=9^7) only [ss, X1, tab, simprocAttr, -List.reduceReplicate, hg, X5, g1, gt_iff_lt, X0, decide_true]) | (refine hK _ ?_; clear hK K) | refine Vt rfl ?_ | refine Vf rfl ?_ | refine Vi rfl (fun hg => ?_) (fun hg => ?_) | clear hK K)
  ·have g1 : ¬ (64 : Int) < (key.length : Int) := by omega
   have g2 : (2048 : Int) < (b.length : Int) := by omega
   refine Xc 2 Tryz.func8 rfl fun n out _ _ => ?_
   simp only [Tryz.ntmps8, List.length_cons, List.length_nil, List.length_map, List.length_replicate, Xf, Nat.reduceAdd, Nat.reduceSub, List.replicate, List.cons_append, List.nil_append]
   repeat' (first | (with_reducible first | refine Vk fun K hK => ?_ | refine V0 ?_ | refine Vs ?_ | apply And.intro | refine Vq (by kernel_rfl) ?_) | ((with_reducible first | refine gE ?_ | refine gR ?_); simp (maxSteps:=9^7) only [ss, X1, tab, simprocAttr, -List.reduceReplicate, X5, g1, g2, gt_iff_lt, X0, decide_true, decide_false]) | exact Vn | ((with_reducible refine Vz ?_); (first | refine Xp (.inr rfl) rfl rfl rfl (fun _ _ => rfl) ok28 (k := n + 0) (off := 0) rfl (Xb _ (by simp)) (X6 _ (Nat.le_refl _) 0) rfl rfl ?_ | refine Xp (.inr rfl) rfl rfl rfl (fun _ _ => rfl) ok28 (k := m + 0) (off := 0) rfl (Xb _ (by simp)) (X6 _ hm 0) rfl rfl ?_) <;> first | rfl | exact AV.le.rfl _ | (simp only [X4, sl, ti28, List.map_nil, X5, g1, g2, gt_iff_lt, X0, decide_true, decide_false]; done) | (exact AV.le.rfl _) | (simp only [X4, sl, X5, g1, g2, gt_iff_lt, X0, decide_true, decide_false]; done) | rfl | skip) | ((with_reducible refine Vg (fun hg => ?_) (fun hg => ?_)) <;> (try simp only [nb] at hg) <;> simp (maxSteps:=9^7) only [ss, X1, tab, simprocAttr, -List.reduceReplicate, hg, X5, g1, g2, gt_iff_lt, X0, decide_true, decide_false]) | (refine hK _ ?_; clear hK K) | refine Vt rfl ?_ | refine Vf rfl ?_ | refine Vi rfl (fun hg => ?_) (fun hg => ?_) | clear hK K)
 ·have g1 : ¬ (64 : Int) < (key.length : Int) := by omega
  have g2 : ¬ (2048 : Int) < (b.length : Int) := by omega
  by_cases h2 : b.length < 32
  ·have g3 : (b.length : Int) < 32 := by omega
   have e1 := Xbc h1 h2
   rw [Xay e1 (by decide), e1, eN]
   refine Xc 2 Tryz.func8 rfl fun n out _ _ => ?_
   simp only [Tryz.ntmps8, List.length_cons, List.length_nil, List.length_map, List.length_replicate, Xf, Nat.reduceAdd, Nat.reduceSub, List.replicate, List.cons_append, List.nil_append]
   repeat' (first | (with_reducible first | refine Vk fun K hK => ?_ | refine V0 ?_ | refine Vs ?_ | apply And.intro | refine Vq (by kernel_rfl) ?_) | ((with_reducible first | refine gE ?_ | refine gR ?_); simp (maxSteps:=9^7) only [ss, X1, tab, simprocAttr, -List.reduceReplicate, X5, g1, g2, g3, gt_iff_lt, X0, decide_true, decide_false]) | exact Vn | ((with_reducible refine Vz ?_); (first | refine Xp (.inr rfl) rfl rfl rfl (fun _ _ => rfl) ok28 (k := n + 0) (off := 0) rfl (Xb _ (by simp)) (X6 _ (Nat.le_refl _) 0) rfl rfl ?_ | refine Xp (.inr rfl) rfl rfl rfl (fun _ _ => rfl) ok28 (k := m + 0) (off := 0) rfl (Xb _ (by simp)) (X6 _ hm 0) rfl rfl ?_) <;> first | rfl | exact AV.le.rfl _ | (simp only [X4, sl, ti28, List.map_nil, X5, g1, g2, g3, gt_iff_lt, X0, decide_true, decide_false]; done) | (exact AV.le.rfl _) | (simp only [X4, sl, X5, g1, g2, g3, gt_iff_lt, X0, decide_true, decide_false]; done) | rfl | skip) | ((with_reducible refine Vg (fun hg => ?_) (fun hg => ?_)) <;> (try simp only [nb] at hg) <;> simp (maxSteps:=9^7) only [ss, X1, tab, simprocAttr, -List.reduceReplicate, hg, X5, g1, g2, g3, gt_iff_lt, X0, decide_true, decide_false]) | (refine hK _ ?_; clear hK K) | refine Vt rfl ?_ | refine Vf rfl ?_ | refine Vi rfl (fun hg => ?_) (fun hg => ?_) | clear hK K)
  ·have w1 := X25 (n := b.length) 32 32 rfl (by omega) (by omega)
   have g3 : ¬ (b.length : Int) < 32 := by omega
   have ct := Hm.Xei key (Xab b) .sh .sh (by omega) (by unfold Xab; rw [List.length_take]; omega)
   have ht32 : (Hm.Xaa key (Xab b)).length = 32 := Hm.Vc _
   have hR0 : Xbt key b = (Hm.Xaa key (Xab b) == Xb0 b) := rfl
   generalize Hm.Xaa key (Xab b) = T at ct ht32 hR0
   have hib : (Xo T).length = 32 := by rw [X5]; exact ht32
   have hi33 : 32 ≤ T.length := Nat.le_of_eq ht32.symm
   have k1 : b.length - 32 ≤ b.length := Nat.sub_le _ _
   have k2 : b.length - (b.length - 32) = 32 := by omega
   have k3 : List.take (b.length - 32) b = Xab b := rfl
   have k4 : List.drop (b.length - 32) b = Xb0 b := rfl
   have k5 : List.take 32 (Xb0 b) = Xb0 b := List.take_of_length_le (by unfold Xb0; rw [List.length_drop]; omega)
   have cp := Jw (Xab b) (by unfold Xab; rw [List.length_take]; omega)
   rw [(Xco _).1, (Xco _).2] at cp
   refine Xc 2 Tryz.func8 rfl fun n out _ _ => ?_
   simp only [Tryz.ntmps8, List.length_cons, List.length_nil, List.length_map, List.length_replicate, Xf, Nat.reduceAdd, Nat.reduceSub, List.replicate, List.cons_append, List.nil_append]
   repeat' (first | (with_reducible first | refine Vk fun K hK => ?_ | refine V0 ?_ | refine Vs ?_ | apply And.intro | refine Vq (by kernel_rfl) ?_) | ((with_reducible first | refine gE ?_ | refine gR ?_); simp (maxSteps:=9^7) only [ss, X1, tab, simprocAttr, -List.reduceReplicate, X5, g1, g2, g3, gt_iff_lt, X0, decide_true, decide_false, w1, P6, Nh, k1, Q2, Nat.sub_zero, k3, List.drop_zero]) | exact Vn | ((with_reducible refine Vz ?_); (first | refine Xp (.inr rfl) rfl rfl rfl (fun _ _ => rfl) ok28 (k := n + 0) (off := 0) rfl (Xb _ (by simp)) (X6 _ (Nat.le_refl _) 0) rfl rfl ?_ | refine Xp (.inr rfl) rfl rfl rfl (fun _ _ => rfl) ok28 (k := m + 0) (off := 0) rfl (Xb _ (by simp)) (X6 _ hm 0) rfl rfl ?_) <;> first | rfl | exact AV.le.rfl _ | (simp only [X4, sl, ti28, List.map_nil, X5, g1, g2, g3, gt_iff_lt, X0, decide_true, decide_false, w1, P6, Nh, k1, Q2, Nat.sub_zero, k3, List.drop_zero]; done) | rfl | skip) | ((with_reducible refine Vg (fun hg => ?_) (fun hg => ?_)) <;> (try simp only [nb] at hg) <;> simp (maxSteps:=9^7) only [ss, X1, tab, simprocAttr, -List.reduceReplicate, hg, X5, g1, g2, g3, gt_iff_lt, X0, decide_true, decide_false, w1, P6, Nh, k1, Q2, Nat.sub_zero, k3, List.drop_zero]) | (refine hK _ ?_; clear hK K) | refine Vt rfl ?_ | refine Vf rfl ?_ | refine Vi rfl (fun hg => ?_) (fun hg => ?_) | clear hK K)
   refine X3 ct ?_
   simp (maxSteps:=9^7) only [ss, X1, tab, simprocAttr, -List.reduceReplicate, X0, List.length_map, ht32]
   repeat' (first | (with_reducible refine hK _ ?_; clear hK K) | with_reducible apply And.intro)
   refine Yy (Xa9 (i := 1) 1 (e := 47) (cs := T.map b8) rfl (by simp)) ?_
   simp only [List.map_cons, List.map_nil, AV.frz, Xcu, Xcv, s_0, s_s, Nat.add_left_cancel_iff, reduceCtorEq, if_true, if_false, Nat.reduceEqDiff, reduceIte, List.drop_zero]
   cases hR : Xbt key b with
   | false =>
    have e1 := Xbv h1 h2 hR
    have hne : (T == Xb0 b) = false := hR0.symm.trans hR
    rw [Xay e1 (by decide), e1, eN]
    repeat' (first | (with_reducible first | refine Vk fun K hK => ?_ | refine V0 ?_ | refine Vs ?_ | apply And.intro | refine Vq (by kernel_rfl) ?_) | ((with_reducible first | refine gE ?_ | refine gR ?_); simp (maxSteps:=9^7) only [ss, X1, tab, simprocAttr, -List.reduceReplicate, X5, X0, w1, P6, Nh, k1, k2, Q2, Q1, Nat.sub_zero, k3, k4, k5, List.drop_zero, Xa1 _ ht32, List.take_of_length_le (Nat.le_of_eq hib), hi33, ht32, Ya, Z5, hne]) | exact Vn | ((with_reducible refine Vz ?_); (first | refine Xp (.inr rfl) rfl rfl rfl (fun _ _ => rfl) ok28 (k := n + 0) (off := 0) rfl (Xb _ (by simp)) (X6 _ (Nat.le_refl _) 0) rfl rfl ?_ | refine Xp (.inr rfl) rfl rfl rfl (fun _ _ => rfl) ok28 (k := m + 0) (off := 0) rfl (Xb _ (by simp)) (X6 _ hm 0) rfl rfl ?_) <;> first | rfl | exact AV.le.rfl _ | (simp only [X4, sl, ti28, List.map_nil, X5, X0, w1, P6, Nh, k1, k2, Q2, Q1, Nat.sub_zero, k3, k4, k5, List.drop_zero, Xa1 _ ht32, List.take_of_length_le (Nat.le_of_eq hib), hi33, ht32, Ya, Z5, hne]; done) | (exact AV.le.rfl _) | (simp only [X4, sl, X5, X0, w1, P6, Nh, k1, k2, Q2, Q1, Nat.sub_zero, k3, k4, k5, List.drop_zero, Xa1 _ ht32, List.take_of_length_le (Nat.le_of_eq hib), hi33, ht32, Ya, Z5, hne]; done) | rfl | skip) | ((with_reducible refine Vg (fun hg => ?_) (fun hg => ?_)) <;> (try simp only [nb] at hg) <;> simp (maxSteps:=9^7) only [ss, X1, tab, simprocAttr, -List.reduceReplicate, hg, X5, X0, w1, P6, Nh, k1, k2, Q2, Q1, Nat.sub_zero, k3, k4, k5, List.drop_zero, Xa1 _ ht32, List.take_of_length_le (Nat.le_of_eq hib), hi33, ht32, Ya, Z5, hne]) | (refine hK _ ?_; clear hK K) | refine Vt rfl ?_ | refine Vf rfl ?_ | refine Vi rfl (fun hg => ?_) (fun hg => ?_) | clear hK K)
   | true =>
    have e1 := Xc4 h1 h2 hR
    have hne : (T == Xb0 b) = true := hR0.symm.trans hR
    have e2 : Xav key b = if Z6 (Xab b) then (V6 (Xab b)).1 else Aq := by
     unfold Xav
     rw [e1]
     by_cases h : Z6 (Xab b) = true
     ·rw [if_pos h, if_pos h]; rfl
     ·rw [if_neg h, if_neg h]; rfl
    rw [← e2, ← e1] at cp
    generalize Xav key b = Q at cp ⊢
    generalize Xau key b = E at cp ⊢
    simp only [plA, plC] at cp ⊢
    repeat' (first | (with_reducible first | refine Vk fun K hK => ?_ | refine V0 ?_ | refine Vs ?_ | apply And.intro | refine Vq (by kernel_rfl) ?_) | ((with_reducible first | refine gE ?_ | refine gR ?_); simp (maxSteps:=9^7) only [ss, X1, tab, simprocAttr, -List.reduceReplicate, X5, X0, w1, P6, Nh, k1, k2, Q2, Q1, Nat.sub_zero, k3, k4, k5, List.drop_zero, Xa1 _ ht32, List.take_of_length_le (Nat.le_of_eq hib), hi33, ht32, Ya, Z5, hne]) | exact Vn | ((with_reducible refine Vz ?_); (first | refine Xp (.inr rfl) rfl rfl rfl (fun _ _ => rfl) ok28 (k := n + 0) (off := 0) rfl (Xb _ (by simp)) (X6 _ (Nat.le_refl _) 0) rfl rfl ?_ | refine Xp (.inr rfl) rfl rfl rfl (fun _ _ => rfl) ok28 (k := m + 0) (off := 0) rfl (Xb _ (by simp)) (X6 _ hm 0) rfl rfl ?_) <;> first | rfl | exact AV.le.rfl _ | (simp only [X4, sl, ti28, List.map_nil, X5, X0, w1, P6, Nh, k1, k2, Q2, Q1, Nat.sub_zero, k3, k4, k5, List.drop_zero, Xa1 _ ht32, List.take_of_length_le (Nat.le_of_eq hib), hi33, ht32, Ya, Z5, hne]; done) | (exact AV.le.rfl _) | (simp only [X4, sl, X5, X0, w1, P6, Nh, k1, k2, Q2, Q1, Nat.sub_zero, k3, k4, k5, List.drop_zero, Xa1 _ ht32, List.take_of_length_le (Nat.le_of_eq hib), hi33, ht32, Ya, Z5, hne]; done) | rfl | skip) | (refine X3 (cp) ?_) | ((with_reducible refine Vg (fun hg => ?_) (fun hg => ?_)) <;> (try simp only [nb] at hg) <;> simp (maxSteps:=9^7) only [ss, X1, tab, simprocAttr, -List.reduceReplicate, hg, X5, X0, w1, P6, Nh, k1, k2, Q2, Q1, Nat.sub_zero, k3, k4, k5, List.drop_zero, Xa1 _ ht32, List.take_of_length_le (Nat.le_of_eq hib), hi33, ht32, Ya, Z5, hne]) | (refine hK _ ?_; clear hK K) | refine Vt rfl ?_ | refine Vf rfl ?_ | refine Vi rfl (fun hg => ?_) (fun hg => ?_) | clear hK K)
theorem Xcp (key : List UInt8) (p : Pl) (b : List UInt8) : Xr Tryz.prog 3 [.sl 1 (Xo key) .sh, plA p, .sl 1 (Xo b) .sh] [] (bool true) [] := by
 have cg := X09 p
 simp only [plA, plC] at cg
 by_cases hk : key.length ≤ 5000
 ·have g0 : ((key.length : Int) > 5000) = False := eq_false (by omega)
  by_cases hb : b.length ≤ 5000
  ·have g1 : ((b.length : Int) > 5000) = False := eq_false (by omega)
   cases hG : Lx p with
   | true =>
    rw [hG] at cg
    refine Xc 3 Tryz.func3 rfl fun n out _ _ => ?_
    simp only [Tryz.ntmps3, List.length_cons, List.length_nil, List.length_map, List.length_replicate, Xf, Nat.reduceAdd, Nat.reduceSub, List.replicate, List.cons_append, List.nil_append]
    repeat' (first | (with_reducible first | refine Vk fun K hK => ?_ | refine V0 ?_ | refine Vs ?_ | apply And.intro) | ((with_reducible first | refine gE ?_ | refine gR ?_); simp (maxSteps:=9^7) only [ss, X1, tab, simprocAttr, -List.reduceReplicate, plA, plC, X5, g0, g1, decide_false]) | exact Vn | ((with_reducible refine Vz ?_); refine Vo rfl rfl rfl (fun _ _ => rfl) ?_ <;> first | rfl | skip) | (refine X3 (cg) ?_) | ((with_reducible refine Vg (fun hg => ?_) (fun hg => ?_)) <;> (try simp only [nb] at hg) <;> simp (maxSteps:=9^7) only [ss, X1, tab, simprocAttr, -List.reduceReplicate, hg, plA, plC, X5, g0, g1, decide_false]) | (refine hK _ ?_; clear hK K) | refine Vt rfl ?_ | refine Vf rfl ?_ | refine Vi rfl (fun hg => ?_) (fun hg => ?_) | clear hK K)
   | false =>
    rw [hG] at cg
    have hs := X0a hG
    have c1 := Xdu key p hs (by omega)
    have c2 := Xcn key p hs (by omega)
    have c3 := Xea key b (by omega) (by omega)
    have c4 := Xd6 key b (by omega) (by omega)
    have cq := Du _ (Xav key b) (Xd7 key b)
    rw [Pq] at cq
    generalize Xav key b = Q at c3 c4 cq
    generalize Xau key b = E at c3 c4
    generalize Xb3 key p = B at c1 c2
    generalize Xbb key p = F at c1 c2
    simp only [plA, plC] at *
    refine Xc 3 Tryz.func3 rfl fun n out _ _ => ?_
    simp only [Tryz.ntmps3, List.length_cons, List.length_nil, List.length_map, List.length_replicate, Xf, Nat.reduceAdd, Nat.reduceSub, List.replicate, List.cons_append, List.nil_append]
    repeat' (first | (with_reducible first | refine Vk fun K hK => ?_ | refine V0 ?_ | refine Vs ?_ | apply And.intro) | ((with_reducible first | refine gE ?_ | refine gR ?_); simp (maxSteps:=9^7) only [ss, X1, tab, simprocAttr, -List.reduceReplicate, plA, plC, X5, g0, g1, decide_false, X0, Ya, Z5, beq_self_eq_true]) | exact Vn | ((with_reducible refine Vz ?_); refine Vo rfl rfl rfl (fun _ _ => rfl) ?_ <;> first | rfl | skip) | (refine X3 (cg) ?_) | (refine X3 (c1) ?_) | (refine X3 (c2) ?_) | (refine X3 (c3) ?_) | (refine X3 (c4) ?_) | (refine X3 (cq) ?_) | ((with_reducible refine Vg (fun hg => ?_) (fun hg => ?_)) <;> (try simp only [nb] at hg) <;> simp (maxSteps:=9^7) only [ss, X1, tab, simprocAttr, -List.reduceReplicate, hg, plA, plC, X5, g0, g1, decide_false, X0, Ya, Z5, beq_self_eq_true]) | (refine hK _ ?_; clear hK K) | refine Vt rfl ?_ | refine Vf rfl ?_ | refine Vi rfl (fun hg => ?_) (fun hg => ?_) | clear hK K)
  ·have g1 : ((b.length : Int) > 5000) = True := eq_true (by omega)
   refine Xc 3 Tryz.func3 rfl fun n out _ _ => ?_
   simp only [Tryz.ntmps3, List.length_cons, List.length_nil, List.length_map, List.length_replicate, Xf, Nat.reduceAdd, Nat.reduceSub, List.replicate, List.cons_append, List.nil_append]
   repeat' (first | (with_reducible first | refine Vk fun K hK => ?_ | refine V0 ?_ | refine Vs ?_ | apply And.intro) | ((with_reducible first | refine gE ?_ | refine gR ?_); simp (maxSteps:=9^7) only [ss, X1, tab, simprocAttr, -List.reduceReplicate, plA, plC, X5, g0, g1, decide_true, decide_false]) | exact Vn | ((with_reducible refine Vz ?_); refine Vo rfl rfl rfl (fun _ _ => rfl) ?_ <;> first | rfl | skip) | (refine X3 (cg) ?_) | ((with_reducible refine Vg (fun hg => ?_) (fun hg => ?_)) <;> (try simp only [nb] at hg) <;> simp (maxSteps:=9^7) only [ss, X1, tab, simprocAttr, -List.reduceReplicate, hg, plA, plC, X5, g0, g1, decide_true, decide_false]) | (refine hK _ ?_; clear hK K) | refine Vt rfl ?_ | refine Vf rfl ?_ | refine Vi rfl (fun hg => ?_) (fun hg => ?_) | clear hK K)
 ·have g0 : ((key.length : Int) > 5000) = True := eq_true (by omega)
  refine Xc 3 Tryz.func3 rfl fun n out _ _ => ?_
  simp only [Tryz.ntmps3, List.length_cons, List.length_nil, List.length_map, List.length_replicate, Xf, Nat.reduceAdd, Nat.reduceSub, List.replicate, List.cons_append, List.nil_append]
  repeat' (first | (with_reducible first | refine Vk fun K hK => ?_ | refine V0 ?_ | refine Vs ?_ | apply And.intro) | ((with_reducible first | refine gE ?_ | refine gR ?_); simp (maxSteps:=9^7) only [ss, X1, tab, simprocAttr, -List.reduceReplicate, plA, plC, X5, g0, decide_true]) | exact Vn | ((with_reducible refine Vz ?_); refine Vo rfl rfl rfl (fun _ _ => rfl) ?_ <;> first | rfl | skip) | (refine X3 (cg) ?_) | ((with_reducible refine Vg (fun hg => ?_) (fun hg => ?_)) <;> (try simp only [nb] at hg) <;> simp (maxSteps:=9^7) only [ss, X1, tab, simprocAttr, -List.reduceReplicate, hg, plA, plC, X5, g0, decide_true]) | (refine hK _ ?_; clear hK K) | refine Vt rfl ?_ | refine Vf rfl ?_ | refine Vi rfl (fun hg => ?_) (fun hg => ?_) | clear hK K)
end Go.Proofs.YtgdhnngpfieloaaGreat.Pln
