/- The layer of abstract values, joined: KF. -/
import Derived.Test.YtgdhnngpfieloaaGreatZGA
import Derived.Test.YtgdhnngpfieloaaGreatZKE
import Derived.Test.YtgdhnngpfieloaaGreatZK9
import Derived.Test.YtgdhnngpfieloaaGreatZKB
import Derived.Test.YtgdhnngpfieloaaGreatZPP
import Derived.Test.YtgdhnngpfieloaaGreatZKA
import Derived.Test.YtgdhnngpfieloaaGreatZHC
section
namespace Go.Proofs.YtgdhnngpfieloaaGreat.Pln
set_option linter.unusedVariables false
set_option linter.unusedSimpArgs false
open Go Go.VS Tab
set_option maxHeartbeats 8000000
set_option maxRecDepth 4000
theorem X1z (wr : List Nat) (R : AState → Prop) (fr : List AV) (lo : List (Option Res)) (out : Nat → Option Res) (n0 n : Nat) (df : List Deferred) (d : Option Tmp) (r : AV) (x y : Nat) (p q : Res) :
  Lt wr R ⟨fr, lo, out, n0, n, df⟩ d r [(n + x, p), (n + y, q)] = ((wr.contains x = true ∧ wr.contains y = true) ∧ R (AState.next ⟨fr, lo, out, n0, n, df⟩ d r [(n + x, p), (n + y, q)])) := by
 simp only [Lt, List.mem_cons, List.not_mem_nil, or_false, forall_eq_or_imp, forall_eq, List.contains_iff_mem, Nat.add_left_cancel_iff, exists_eq_right', eq_iff_iff]
def Aq : Pl := ⟨0, 0, [], [], [], []⟩
theorem X20 {p : Pl} (h : Uf p = true) : Sm p := by
 obtain ⟨v, w, sl, s, pl, q, gl, g, rl, r⟩ := Us h
 refine ⟨by omega, fun x hx => ?_, by omega, by omega, by omega, fun x hx => ?_⟩
 ·have := (s x hx).2.2.2
  rw [this]; split <;> decide
 ·obtain ⟨_, _, _, _, _, _, _, l1, l2, l3⟩ := r x hx; omega
theorem scB : Xd Tryz.prog 35 = True := hb0 _ (by decide) (by decide)
theorem poB : Xd Tryz.prog 37 = True := hb0 _ (by decide) (by decide)
theorem siB : Xd Tryz.prog 39 = True := hb0 _ (by decide) (by decide)
theorem roB : Xd Tryz.prog 41 = True := hb0 _ (by decide) (by decide)
theorem X2y (b : List UInt8) (hb : b.length ≤ 1000000) : Xr Tryz.prog 16 [.sl 1 (Xo b) .sh] [] (.tup [plA (if Z6 b then (V6 b).1 else Aq), i64 (if Z6 b then 0 else 8)]) [] := by
 obtain ⟨x1, s1, h1⟩ : ∃ x t, rdN b (0, false) = (x, t) := ⟨_, _, rfl⟩
 obtain ⟨x2, s2, h2⟩ : ∃ x t, rdN b s1 = (x, t) := ⟨_, _, rfl⟩
 obtain ⟨lS, s3, h3⟩ : ∃ x t, rdL Ft b s2 = (x, t) := ⟨_, _, rfl⟩
 obtain ⟨lP, s4, h4⟩ : ∃ x t, rdL Kd b s3 = (x, t) := ⟨_, _, rfl⟩
 obtain ⟨lG, s5, h5⟩ : ∃ x t, rdL G8 b s4 = (x, t) := ⟨_, _, rfl⟩
 obtain ⟨lR, s6, h6⟩ : ∃ x t, rdL B4 b s5 = (x, t) := ⟨_, _, rfl⟩
 have e : V6 b = (⟨x1, x2, lS, lP, lG, lR⟩, s6) := by
  unfold V6 X7u rdB
  rw [h1]; dsimp only; rw [h2]
  show (match rdL Ft b s2 with | v => rdB (rdL Kd) (fun pts => rdB (rdL G8) fun sgs => rdB (rdL B4) fun rts => rdP (⟨x1, x2, v.1, pts, sgs, rts⟩ : Pl)) b v.2) = _
  rw [h3]
  show (match rdL Kd b s3 with | v => rdB (rdL G8) (fun sgs => rdB (rdL B4) fun rts => rdP (⟨x1, x2, lS, v.1, sgs, rts⟩ : Pl)) b v.2) = _
  rw [h4]
  show (match rdL G8 b s4 with | v => rdB (rdL B4) (fun rts => rdP (⟨x1, x2, lS, lP, v.1, rts⟩ : Pl)) b v.2) = _
  rw [h5]
  show (match rdL B4 b s5 with | v => ((⟨x1, x2, lS, lP, lG, v.1⟩ : Pl), v.2)) = _
  rw [h6]
 have hsb := A7 b
 have hok : Z6 b = Sh (V6 b).1 (V6 b).2 (Wg (V6 b).1) b := rfl
 have c1 := fun n : Nat => Yo b hb (n + 2) (n + 3) (by omega) (0, false)
 have c2 := fun n : Nat => Yo b hb (n + 2) (n + 3) (by omega) s1
 have c3 := fun n : Nat => Aj b hb (n + 2) (n + 3) (by omega) _ _ scB Ft Qh (fun _ => rfl) (X2w b hb (n + 2) (n + 3) (by omega)) s2
 have c4 := fun n : Nat => Ak b hb (n + 2) (n + 3) (by omega) _ _ poB Kd jnA (fun _ => rfl) (X2t b hb (n + 2) (n + 3) (by omega)) s3
 have c5 := fun n : Nat => Al b hb (n + 2) (n + 3) (by omega) _ _ siB G8 sgA (fun _ => rfl) (X2v b hb (n + 2) (n + 3) (by omega)) s4
 have c6 := fun n : Nat => Am b hb (n + 2) (n + 3) (by omega) _ _ roB B4 rtA (fun _ => rfl) (X2x b hb (n + 2) (n + 3) (by omega)) s5
 rw [h1] at c1
 rw [h2] at c2
 rw [h3] at c3
 rw [h4] at c4
 rw [h5] at c5
 rw [h6] at c6
 rw [e] at hsb hok ⊢
 clear h1 h2 h3 h4 h5 h6 e
 dsimp only at c1 c2 c3 c4 c5 c6 hsb hok ⊢
 have cp := Ss _ hsb
 have cw := fun h : Uf (⟨x1, x2, lS, lP, lG, lR⟩ : Pl) = true => G5 _ (X20 h) (Nat.le_trans (R7 h) (by decide))
 generalize Z6 b = ok at hok ⊢
 obtain ⟨Q, hQ⟩ : ∃ Q : Pl, Q = ⟨x1, x2, lS, lP, lG, lR⟩ := ⟨_, rfl⟩
 rw [← hQ] at hsb hok cp cw ⊢
 have eQ : plA Q = .agg [i64 x1, i64 x2, .sl 3 (lS.map Y6) .sh, .sl 2 (lP.map jnC) .sh, .sl 3 (lG.map sgC) .sh, .sl 7 (lR.map rtC) .sh] := by rw [hQ]; rfl
 rw [eQ] at cp cw
 clear hQ
 refine Xc 7 Tryz.func16 rfl fun n out _ _ => ?_
 simp only [Tryz.ntmps16, List.length_cons, List.length_nil, List.length_map, List.length_replicate, Xf, Nat.reduceAdd, Nat.reduceSub, List.replicate, List.cons_append, List.nil_append]
 refine X9 fun K hK => Xn Xj [] ?_
 simp (maxSteps:=9^7) only [ss, X1, tab, simprocAttr, -List.reduceReplicate]
 (refine hK _ ?_; clear hK K)
 refine X9 fun K hK => Xn Xj [] ?_
 simp (maxSteps:=9^7) only [ss, X1, tab, simprocAttr, -List.reduceReplicate]
 (refine hK _ ?_; clear hK K)
 refine Yy (Zi (i := 0) (t := 1) 1 (.ref [.sl 1 (Xo b) .sh]) rfl rfl (.ptr 0)) ?_
 simp only [s_0, s_s]
 refine X9 fun K hK => Xn Xj [] ?_
 simp (maxSteps:=9^7) only [ss, X1, tab, simprocAttr, -List.reduceReplicate]
 (refine hK _ ?_; clear hK K)
 refine Yy (Zi (i := 4) (t := 6) 1 (.ref [nxF b (n + 2) (n + 3)]) rfl rfl (.ptr 0)) ?_
 simp only [s_0, s_s]
 refine X9 fun K hK => Ny Xj [] [[], [], [2, 3], [], [], [2, 3], [], [5], [5]] [[], [], [2, 3], [], [], [2, 3], [], [5], [5]] follows (by kernel_rfl) (by decide) (by decide) (by kernel_rfl) ?_
 simp (maxSteps:=9^7) only [ss, X1, tab, simprocAttr, -List.reduceReplicate, nxB]
 skip
 refine Xk (c1 n) (X6 _ (Nat.le_refl _) 2) (X6 _ (Nat.le_refl _) 3) (Xb _ (by simp)) (Xb _ (by simp)) (by simp) (by simp) ?_
 simp (maxSteps:=9^7) only [ss, X1, tab, simprocAttr, -List.reduceReplicate, nxB, X0, X1z, W0 (Nat.le_refl n)]
 skip
 refine Xk (c2 n) (X6 _ (Nat.le_refl _) 2) (X6 _ (Nat.le_refl _) 3) (Xb _ (by simp)) (Xb _ (by simp)) (by simp) (by simp) ?_
 simp (maxSteps:=9^7) only [ss, X1, tab, simprocAttr, -List.reduceReplicate, nxB, X0, X1z, W0 (Nat.le_refl n)]
 (refine hK _ ?_; clear hK K)
 refine X9 fun K hK => Xn Xj [] ?_
 simp (maxSteps:=9^7) only [ss, X1, tab, simprocAttr, -List.reduceReplicate]
 (refine hK _ ?_; clear hK K)
 refine Yy (Zi (i := 6) (t := 8) 1 (.ref [.fn (.func 33) [.ref [nxF b (n + 2) (n + 3)]]]) rfl rfl (.ptr 0)) ?_
 simp only [s_0, s_s]
 refine X9 fun K hK => Xn Xj [] ?_
 simp (maxSteps:=9^7) only [ss, X1, tab, simprocAttr, -List.reduceReplicate, scB, W0 (Nat.le_refl n)]
 skip
 refine Xk (c3 n) (X6 _ (Nat.le_refl _) 2) (X6 _ (Nat.le_refl _) 3) (Xb _ (by simp)) (Xb _ (by simp)) (by simp) (by simp) ?_
 simp (maxSteps:=9^7) only [ss, X1, tab, simprocAttr, -List.reduceReplicate, X0, W0 (Nat.le_refl n)]
 (refine hK _ ?_; clear hK K)
 refine X9 fun K hK => Xn Xj [] ?_
 simp (maxSteps:=9^7) only [ss, X1, tab, simprocAttr, -List.reduceReplicate, poB, W0 (Nat.le_refl n)]
 skip
 refine Xk (c4 n) (X6 _ (Nat.le_refl _) 2) (X6 _ (Nat.le_refl _) 3) (Xb _ (by simp)) (Xb _ (by simp)) (by simp) (by simp) ?_
 simp (maxSteps:=9^7) only [ss, X1, tab, simprocAttr, -List.reduceReplicate, X0, W0 (Nat.le_refl n)]
 (refine hK _ ?_; clear hK K)
 refine X9 fun K hK => Xn Xj [] ?_
 simp (maxSteps:=9^7) only [ss, X1, tab, simprocAttr, -List.reduceReplicate, siB, W0 (Nat.le_refl n)]
 skip
 refine Xk (c5 n) (X6 _ (Nat.le_refl _) 2) (X6 _ (Nat.le_refl _) 3) (Xb _ (by simp)) (Xb _ (by simp)) (by simp) (by simp) ?_
 simp (maxSteps:=9^7) only [ss, X1, tab, simprocAttr, -List.reduceReplicate, X0, W0 (Nat.le_refl n)]
 (refine hK _ ?_; clear hK K)
 refine X9 fun K hK => Xn Xj [] ?_
 simp (maxSteps:=9^7) only [ss, X1, tab, simprocAttr, -List.reduceReplicate, roB, W0 (Nat.le_refl n)]
 skip
 refine Xk (c6 n) (X6 _ (Nat.le_refl _) 2) (X6 _ (Nat.le_refl _) 3) (Xb _ (by simp)) (Xb _ (by simp)) (by simp) (by simp) ?_
 simp (maxSteps:=9^7) only [ss, X1, tab, simprocAttr, -List.reduceReplicate, X0, W0 (Nat.le_refl n)]
 (refine hK _ ?_; clear hK K)
 obtain ⟨a6, d6⟩ := s6
 unfold Sh at hok
 dsimp only at hok ⊢
 have eN : plA Aq = .agg [i64 0, i64 0, .sl 3 [] .sh, .sl 2 [] .sh, .sl 3 [] .sh, .sl 7 [] .sh] := rfl
 cases d6 with
 | true =>
  rw [hok]
  simp only [Bool.not_true, Bool.false_and, Bool.false_eq_true, if_false, eN]
  repeat' (first | (with_reducible first | refine Vk fun K hK => ?_ | refine V0 ?_ | refine Vd 9 [] [[3],[],[2],[],[],[],[],[],[5],[],[],[],[],[5],[],[],[],[],[],[]] [[],[],[],[],[],[],[],[],[],[],[],[],[],[],[],[],[],[],[],[]] (by kernel_rfl) (by decide) (by decide) (by kernel_rfl) ?_) | ((with_reducible first | refine gE ?_ | refine gD ?_); simp (maxSteps:=9^7) only [ss, X1, tab, simprocAttr, -List.reduceReplicate, sg, X0]) | ((with_reducible refine Vz ?_); (first | refine Xp (.inr rfl) rfl rfl rfl (fun _ _ => rfl) ok28 (k := n + 1) (off := 0) rfl (Xb _ (by simp)) (X6 _ (Nat.le_refl _) 1) rfl rfl ?_ | refine Xp (.inr rfl) rfl rfl rfl (fun _ _ => rfl) ok28 (k := m + 1) (off := 0) rfl (Xb _ (by simp)) (X6 _ hm 1) rfl rfl ?_) <;> first | rfl | exact AV.le.rfl _ | (simp only [X4, sl, ti28, List.map_nil, sg, X0]; done) | (exact AV.le.rfl _) | (simp only [X4, sl, sg, X0]; done) | rfl | skip) | (refine hK _ ?_; clear hK K) | refine Vt rfl ?_)
 | false =>
  by_cases ha : a6 = b.length
  ·subst ha
   have hne : ((b.length : Int) != (b.length : Int)) = false := by simp
   cases hmy : Uf Q with
   | false =>
    rw [hmy] at cp hok
    rw [hok]
    simp only [Bool.and_false, Bool.false_and, Bool.false_eq_true, if_false, eN] at cp ⊢
    repeat' (first | (with_reducible first | refine Vk fun K hK => ?_ | refine V0 ?_ | refine Vd 9 [] [[3],[],[2],[],[],[],[],[],[5],[],[],[],[],[5],[],[],[],[],[],[]] [[],[],[],[],[],[],[],[],[],[],[],[],[],[],[],[],[],[],[],[]] (by kernel_rfl) (by decide) (by decide) (by kernel_rfl) ?_) | ((with_reducible first | refine gE ?_ | refine gD ?_ | refine gF ?_); simp (maxSteps:=9^7) only [ss, X1, tab, simprocAttr, -List.reduceReplicate, sg, X0, X5, hne]) | ((with_reducible refine Vz ?_); (first | refine Xp (.inr rfl) rfl rfl rfl (fun _ _ => rfl) ok28 (k := n + 1) (off := 0) rfl (Xb _ (by simp)) (X6 _ (Nat.le_refl _) 1) rfl rfl ?_ | refine Xp (.inr rfl) rfl rfl rfl (fun _ _ => rfl) ok28 (k := m + 1) (off := 0) rfl (Xb _ (by simp)) (X6 _ hm 1) rfl rfl ?_) <;> first | rfl | exact AV.le.rfl _ | (simp only [X4, sl, ti28, List.map_nil, sg, X0, X5, hne, Int.reduceBNe]; done) | (exact AV.le.rfl _) | (simp only [X4, sl, sg, X0, X5, hne, Int.reduceBNe]; done) | rfl | skip) | (refine X3 (cp) ?_) | (refine hK _ ?_; clear hK K) | refine Vt rfl ?_)
   | true =>
    have cw := cw hmy
    rw [hmy] at cp hok
    simp only [if_true] at cp
    by_cases hw : Wg Q = b
    ·rw [hok]
     have hwb : (Wg Q == b) = true := beq_iff_eq.2 hw
     simp only [hwb, decide_true, Bool.not_false, Bool.and_true, if_true, eQ]
     repeat' (first | (with_reducible first | refine Vk fun K hK => ?_ | refine V0 ?_ | refine Vs ?_ | refine Vd 9 [] [[3],[],[2],[],[],[],[],[],[5],[],[],[],[],[5],[],[],[],[],[],[]] [[],[],[],[],[],[],[],[],[],[],[],[],[],[],[],[],[],[],[],[]] (by kernel_rfl) (by decide) (by decide) (by kernel_rfl) ?_) | ((with_reducible first | refine gE ?_ | refine gD ?_ | refine gF ?_); simp (maxSteps:=9^7) only [ss, X1, tab, simprocAttr, -List.reduceReplicate, sg, X0, X5, hne, Ya, Z5, hwb]) | ((with_reducible refine Vz ?_); (first | refine Xp (.inr rfl) rfl rfl rfl (fun _ _ => rfl) ok28 (k := n + 1) (off := 0) rfl (Xb _ (by simp)) (X6 _ (Nat.le_refl _) 1) rfl rfl ?_ | refine Xp (.inr rfl) rfl rfl rfl (fun _ _ => rfl) ok28 (k := m + 1) (off := 0) rfl (Xb _ (by simp)) (X6 _ hm 1) rfl rfl ?_) <;> first | rfl | exact AV.le.rfl _ | (simp only [X4, sl, ti28, List.map_nil, sg, X0, X5, hne, Int.reduceBNe, Ya, Z5, hwb]; done) | (exact AV.le.rfl _) | (simp only [X4, sl, sg, X0, X5, hne, Int.reduceBNe, Ya, Z5, hwb]; done) | rfl | skip) | (refine X3 (cp) ?_) | (refine X3 (cw) ?_) | (refine hK _ ?_; clear hK K) | refine Vf rfl ?_)
    ·have hwb : (Wg Q == b) = false := beq_eq_false_iff_ne.2 hw
     rw [hok]
     simp only [hwb, Bool.and_false, Bool.false_eq_true, if_false, eN]
     repeat' (first | (with_reducible first | refine Vk fun K hK => ?_ | refine V0 ?_ | refine Vd 9 [] [[3],[],[2],[],[],[],[],[],[5],[],[],[],[],[5],[],[],[],[],[],[]] [[],[],[],[],[],[],[],[],[],[],[],[],[],[],[],[],[],[],[],[]] (by kernel_rfl) (by decide) (by decide) (by kernel_rfl) ?_) | ((with_reducible first | refine gE ?_ | refine gD ?_ | refine gF ?_); simp (maxSteps:=9^7) only [ss, X1, tab, simprocAttr, -List.reduceReplicate, sg, X0, X5, hne, Ya, Z5, hwb]) | ((with_reducible refine Vz ?_); (first | refine Xp (.inr rfl) rfl rfl rfl (fun _ _ => rfl) ok28 (k := n + 1) (off := 0) rfl (Xb _ (by simp)) (X6 _ (Nat.le_refl _) 1) rfl rfl ?_ | refine Xp (.inr rfl) rfl rfl rfl (fun _ _ => rfl) ok28 (k := m + 1) (off := 0) rfl (Xb _ (by simp)) (X6 _ hm 1) rfl rfl ?_) <;> first | rfl | exact AV.le.rfl _ | (simp only [X4, sl, ti28, List.map_nil, sg, X0, X5, hne, Int.reduceBNe, Ya, Z5, hwb]; done) | (exact AV.le.rfl _) | (simp only [X4, sl, sg, X0, X5, hne, Int.reduceBNe, Ya, Z5, hwb]; done) | rfl | skip) | (refine X3 (cp) ?_) | (refine X3 (cw) ?_) | (refine hK _ ?_; clear hK K) | refine Vt rfl ?_)
  ·have hne : ((a6 : Int) != (b.length : Int)) = true := by simpa using fun h : (a6 : Int) = (b.length : Int) => ha (by omega)
   rw [hok]
   simp only [ha, decide_false, Bool.and_false, Bool.false_and, Bool.false_eq_true, if_false, eN]
   repeat' (first | (with_reducible first | refine Vk fun K hK => ?_ | refine V0 ?_ | refine Vd 9 [] [[3],[],[2],[],[],[],[],[],[5],[],[],[],[],[5],[],[],[],[],[],[]] [[],[],[],[],[],[],[],[],[],[],[],[],[],[],[],[],[],[],[],[]] (by kernel_rfl) (by decide) (by decide) (by kernel_rfl) ?_) | ((with_reducible first | refine gE ?_ | refine gD ?_); simp (maxSteps:=9^7) only [ss, X1, tab, simprocAttr, -List.reduceReplicate, sg, X0, X5, hne]) | ((with_reducible refine Vz ?_); (first | refine Xp (.inr rfl) rfl rfl rfl (fun _ _ => rfl) ok28 (k := n + 1) (off := 0) rfl (Xb _ (by simp)) (X6 _ (Nat.le_refl _) 1) rfl rfl ?_ | refine Xp (.inr rfl) rfl rfl rfl (fun _ _ => rfl) ok28 (k := m + 1) (off := 0) rfl (Xb _ (by simp)) (X6 _ hm 1) rfl rfl ?_) <;> first | rfl | exact AV.le.rfl _ | (simp only [X4, sl, ti28, List.map_nil, sg, X0, X5, hne]; done) | (exact AV.le.rfl _) | (simp only [X4, sl, sg, X0, X5, hne]; done) | rfl | skip) | (refine hK _ ?_; clear hK K) | refine Vt rfl ?_)
end Go.Proofs.YtgdhnngpfieloaaGreat.Pln
end
section
namespace Go.Proofs.YtgdhnngpfieloaaGreat.Pln
set_option linter.unusedVariables false
set_option linter.unusedSimpArgs false
open Go Go.VS Tab
set_option maxHeartbeats 8000000
set_option maxRecDepth 4000
def Bl (p : Pl) : Int := if Uf p then 0 else 8
def Bm (p : Pl) : List UInt8 := if Uf p then Wg p else []
theorem X2z (k : Nat) (p : Pl) (hs : Sm p) (h : Uf p = true) : Xr Tryz.prog 11 [plA p] [(k, none)] (.tup [.sl 1 (Xo (Wg p)) (.own k), i64 0]) [(k, .row 5 1 (Wg p).length)] := by
 have c1 := Dr p hs
 have hl := R7 h
 have c2 := fun k => Pj k p hs (by omega)
 rw [h] at c1
 simp only [plA, plC, if_true] at c1 c2
 refine Xc 1 Tryz.func11 rfl fun n out _ _ => ?_
 simp only [Tryz.ntmps11, List.length_cons, List.length_nil, List.length_map, List.length_replicate, Xf, Nat.reduceAdd, Nat.reduceSub, List.replicate, List.cons_append, List.nil_append]
 rename_i hneeds hgv
 obtain ⟨hk, _⟩ := hneeds
 obtain ⟨hkn, _⟩ := hgv
 repeat' (first | (with_reducible first | refine Vk fun K hK => ?_ | refine V0 ?_ | refine Vs ?_) | ((with_reducible first | refine gE ?_ | refine gR ?_); simp (maxSteps:=9^7) only [ss, X1, tab, simprocAttr, -List.reduceReplicate, plA, plC, X0, X8 hkn, X7 hkn, Cz hkn]) | ((with_reducible refine Vz ?_); refine Vp rfl rfl rfl (fun _ _ => rfl) ?_ ?_ <;> first | rfl | skip) | (refine X3 (c1) ?_) | (refine Sb (c2 k) (by rw [X8 hkn]; exact hk) (by rw [X7 hkn]; trivial) (by simp) ?_) | (refine hK _ ?_; clear hK K) | refine Vf rfl ?_)
theorem X5q (p : Pl) (hs : Sm p) : Xr Tryz.prog 11 [plA p] [] (.tup [.sl 1 (Xo (Bm p)) .sh, i64 (Bl p)]) [] := by
 cases h : Uf p with
 | true =>
  have e1 : Bm p = Wg p := if_pos h
  have e2 : Bl p = 0 := if_pos h
  rw [e1, e2]
  refine Lc (fun k => X2z k p hs h) fun k => ?_
  simp only [X4, sl]
 | false =>
  have h' : ¬ Uf p = true := by rw [h]; decide
  have e1 : Bm p = [] := if_neg h'
  have e2 : Bl p = 8 := if_neg h'
  rw [e1, e2, Wb]
  have c1 := Dr p hs
  rw [h] at c1
  simp only [plA, plC, Bool.false_eq_true, if_false] at c1
  refine Xc 1 Tryz.func11 rfl fun n out _ _ => ?_
  simp only [Tryz.ntmps11, List.length_cons, List.length_nil, List.length_map, List.length_replicate, Xf, Nat.reduceAdd, Nat.reduceSub, List.replicate, List.cons_append, List.nil_append]
  repeat' (first | (with_reducible first | refine Vk fun K hK => ?_ | refine V0 ?_) | ((with_reducible first | refine gE ?_ | refine gR ?_); simp (maxSteps:=9^7) only [ss, X1, tab, simprocAttr, -List.reduceReplicate, plA, plC, X0]) | ((with_reducible refine Vz ?_); refine Za (.inr rfl) rfl rfl rfl (fun _ _ => rfl) rfl rfl ?_ ?_ <;> first | rfl | (exact AV.le.rfl _) | (simp only [X4, sl, plA, plC, X0, Int.reduceBNe]; done) | rfl | skip) | (refine X3 (c1) ?_) | (refine hK _ ?_; clear hK K) | refine Vt rfl ?_)
def Xbb (key : List UInt8) (p : Pl) : Int := if 64 < key.length then 3 else Bl p
def Xb3 (key : List UInt8) (p : Pl) : List UInt8 := if key.length ≤ 64 ∧ Uf p = true then Wg p ++ Hm.Xaa key (Wg p) else []
theorem Xdu (key : List UInt8) (p : Pl) (hs : Sm p) (hkl : key.length ≤ 1000000) : Xr Tryz.prog 5 [.sl 1 (Xo key) .sh, plA p] [] (.tup [.sl 1 (Xo (Xb3 key p)) .sh, i64 (Xbb key p)]) [] := by
 by_cases hk : key.length ≤ 64
 ·have g2 : ((key.length : Int) > 64) = False := eq_false (by omega)
  have e2 : Xbb key p = Bl p := if_neg (by omega)
  cases h : Uf p with
  | true =>
   have e1 : Xb3 key p = Wg p ++ Hm.Xaa key (Wg p) := if_pos ⟨hk, h⟩
   have e3 : Bl p = 0 := if_pos h
   rw [e1, e2, e3]
   have hl := R7 h
   have ct := Hm.Xe8 key (Wg p)
   have c1 := fun k => X2z k p hs h
   simp only [plA, plC] at c1
   have ht32 : (Hm.Xaa key (Wg p)).length = 32 := Hm.Vc _
   have etg : Hm.Xe7 key (Wg p) = .tup [.agg ((Hm.Xaa key (Wg p)).map b8), i64 0] := if_pos hk
   rw [etg] at ct
   refine Xc 3 Tryz.func5 rfl fun n out _ _ => ?_
   simp only [Tryz.ntmps5, List.length_cons, List.length_nil, List.length_map, List.length_replicate, Xf, Nat.reduceAdd, Nat.reduceSub, List.replicate, List.cons_append, List.nil_append]
   repeat' (first | (with_reducible first | refine Vk fun K hK => ?_ | refine V0 ?_ | refine Vs ?_) | ((with_reducible first | refine gE ?_ | refine gR ?_); simp (maxSteps:=9^7) only [ss, X1, tab, simprocAttr, -List.reduceReplicate, plA, plC, X5, g2, decide_false, X0]) | (refine Sb (c1 (n + 2)) (X6 _ (Nat.le_refl _) 2) (Xb _ (by simp)) (by simp) ?_) | (refine hK _ ?_; clear hK K) | refine Vf rfl ?_)
   refine X3 (ct .sh (.own (n + 2)) (by omega)) ?_
   simp (maxSteps:=9^7) only [ss, X1, tab, simprocAttr, -List.reduceReplicate, X0, List.length_map, ht32]
   (refine hK _ ?_; clear hK K)
   refine X9 fun KC hKC => ?_
   refine X9 fun K hK => Xn Xj [] ?_
   simp (maxSteps:=9^7) only [ss, X1, tab, simprocAttr, -List.reduceReplicate]
   (refine hK _ ?_; clear hK K)
   refine Uy rfl ?_
   refine Z1 ?_
   simp only [Qd, Z4, if_true]
   refine hKC _ ?_
   clear hKC KC
   refine Yy (Xa9 (i := 1) 1 (e := 47) (cs := (Hm.Xaa key (Wg p)).map b8) rfl (by simp)) ?_
   simp only [List.map_cons, List.map_nil, AV.frz, Xcu, Xcv, s_0, s_s, Nat.add_left_cancel_iff, reduceCtorEq, if_true, if_false, Nat.reduceEqDiff, reduceIte, List.drop_zero]
   have hib : (Xo (Hm.Xaa key (Wg p))).length = 32 := by rw [X5]; exact ht32
   have hi33 : 32 ≤ (Hm.Xaa key (Wg p)).length := Nat.le_of_eq ht32.symm
   have y1 : (Wg p).length + 32 ≤ 140737488355328 := by omega
   have y2 : (Wg p).length + 32 ≤ 9223372036854775807 := by omega
   refine X9 fun K hK => Xn Xj [] ?_
   simp (maxSteps:=9^7) only [ss, X1, tab, simprocAttr, -List.reduceReplicate, P6, Nh, Nat.sub_zero, Xa1 _ ht32, List.take_of_length_le (Nat.le_of_eq hib), hi33, X5, ht32, L6, y1, y2]
   (refine hK _ ?_; clear hK K)
   exact Yd (Za (.inr rfl) rfl rfl rfl (fun _ _ => rfl) rfl rfl (.sh _ _ _) (.rfl _))
  | false =>
   have h' : ¬ (key.length ≤ 64 ∧ Uf p = true) := fun h1 => by rw [h] at h1; exact absurd h1.2 (by decide)
   have e1 : Xb3 key p = [] := if_neg h'
   have c1 := X5q p hs
   have e3 : Bl p = 8 := if_neg (by rw [h]; decide)
   rw [e1, e2, e3, Wb]
   rw [e3] at c1
   simp only [plA, plC] at c1
   refine Xc 3 Tryz.func5 rfl fun n out _ _ => ?_
   simp only [Tryz.ntmps5, List.length_cons, List.length_nil, List.length_map, List.length_replicate, Xf, Nat.reduceAdd, Nat.reduceSub, List.replicate, List.cons_append, List.nil_append]
   repeat' (first | (with_reducible first | refine Vk fun K hK => ?_ | refine V0 ?_ | refine Vs ?_) | ((with_reducible first | refine gE ?_ | refine gR ?_); simp (maxSteps:=9^7) only [ss, X1, tab, simprocAttr, -List.reduceReplicate, plA, plC, X5, g2, decide_false, X0]) | ((with_reducible refine Vz ?_); refine Za (.inr rfl) rfl rfl rfl (fun _ _ => rfl) rfl rfl ?_ ?_ <;> first | rfl | (exact AV.le.rfl _) | (simp only [X4, sl, plA, plC, X5, g2, decide_false, X0, Int.reduceBNe]; done) | rfl | skip) | (refine X3 (c1) ?_) | (refine hK _ ?_; clear hK K) | refine Vt rfl ?_ | refine Vf rfl ?_)
 ·have g2 : ((key.length : Int) > 64) = True := eq_true (by omega)
  have e1 : Xb3 key p = [] := if_neg fun h => hk h.1
  have e2 : Xbb key p = 3 := if_pos (by omega)
  rw [e1, e2, Wb]
  refine Xc 3 Tryz.func5 rfl fun n out _ _ => ?_
  simp only [Tryz.ntmps5, List.length_cons, List.length_nil, List.length_map, List.length_replicate, Xf, Nat.reduceAdd, Nat.reduceSub, List.replicate, List.cons_append, List.nil_append]
  repeat' (first | (with_reducible first | refine Vk fun K hK => ?_ | refine V0 ?_) | ((with_reducible refine gE ?_); simp (maxSteps:=9^7) only [ss, X1, tab, simprocAttr, -List.reduceReplicate, plA, plC, X5, g2, decide_true, X0]) | ((with_reducible refine Vz ?_); refine Za (.inr rfl) rfl rfl rfl (fun _ _ => rfl) rfl rfl ?_ ?_ <;> first | rfl | (exact AV.le.rfl _) | (simp only [X4, sl, plA, plC, X5, g2, decide_true, X0]; done) | rfl | skip) | (refine hK _ ?_; clear hK K) | refine Vt rfl ?_)
def Xab (b : List UInt8) : List UInt8 := b.take (b.length - 32)
def Xb0 (b : List UInt8) : List UInt8 := b.drop (b.length - 32)
def Xbt (key b : List UInt8) : Bool := Hm.Xaa key (Xab b) == Xb0 b
def Xau (key b : List UInt8) : Int := if 64 < key.length ∨ 2048 < b.length then 3 else if b.length < 32 then 8 else if Xbt key b then (if Z6 (Xab b) then 0 else 8) else 120
def Xav (key b : List UInt8) : Pl := if Xau key b = 0 then (V6 (Xab b)).1 else Aq
theorem Xbu {key b : List UInt8} (h : 64 < key.length ∨ 2048 < b.length) : Xau key b = 3 := if_pos h
theorem Xbc {key b : List UInt8} (h : ¬ (64 < key.length ∨ 2048 < b.length)) (h2 : b.length < 32) : Xau key b = 8 := by unfold Xau; rw [if_neg h, if_pos h2]
theorem Xbv {key b : List UInt8} (h : ¬ (64 < key.length ∨ 2048 < b.length)) (h2 : ¬ b.length < 32) (h3 : Xbt key b = false) : Xau key b = 120 := by unfold Xau; rw [if_neg h, if_neg h2, h3]; rfl
theorem Xc4 {key b : List UInt8} (h : ¬ (64 < key.length ∨ 2048 < b.length)) (h2 : ¬ b.length < 32) (h3 : Xbt key b = true) : Xau key b = (if Z6 (Xab b) then 0 else 8) := by unfold Xau; rw [if_neg h, if_neg h2, h3]; rfl
theorem Xay {key b : List UInt8} {x : Int} (h : Xau key b = x) (hx : x ≠ 0) : Xav key b = Aq := if_neg (by rw [h]; exact hx)
theorem Xea (key b : List UInt8) (hkl : key.length ≤ 1000000) (hb : b.length ≤ 1000000) : Xr Tryz.prog 7 [.sl 1 (Xo key) .sh, .sl 1 (Xo b) .sh] [] (.tup [plA (Xav key b), i64 (Xau key b)]) [] := by
 have eN : plA Aq = .agg [i64 0, i64 0, .sl 3 [] .sh, .sl 2 [] .sh, .sl 3 [] .sh, .sl 7 [] .sh] := rfl
 by_cases h1 : 64 < key.length ∨ 2048 < b.length
 ·have e1 := Xbu h1
  rw [Xay e1 (by decide), e1, eN]
  have w1 : IntKind.i64.wrap ((b.length : Int) - 32) = (b.length : Int) - 32 := by rw [wrap_i64] <;> omega
  by_cases h2 : 64 < key.length
  ·have g1 : (64 : Int) < (key.length : Int) := by omega
   refine Xc 2 Tryz.func7 rfl fun n out _ _ => ?_
   simp only [Tryz.ntmps7, List.length_cons, List.length_nil, List.length_map, List.length_replicate, Xf, Nat.reduceAdd, Nat.reduceSub, List.replicate, List.cons_append, List.nil_append]
   repeat' (first | (with_reducible first | refine Vk fun K hK => ?_ | refine V0 ?_ | refine Vb ?_ | refine Vs ?_) | ((with_reducible refine gE ?_); simp (maxSteps:=9^7) only [ss, X1, tab, simprocAttr, -List.reduceReplicate, X5, w1, g1, gt_iff_lt, X0]) | ((with_reducible refine Vz ?_); (first | refine Xp (.inr rfl) rfl rfl rfl (fun _ _ => rfl) ok28 (k := n + 0) (off := 0) rfl (Xb _ (by simp)) (X6 _ (Nat.le_refl _) 0) rfl rfl ?_ | refine Xp (.inr rfl) rfl rfl rfl (fun _ _ => rfl) ok28 (k := m + 0) (off := 0) rfl (Xb _ (by simp)) (X6 _ hm 0) rfl rfl ?_) <;> first | rfl | exact AV.le.rfl _ | (simp only [X4, sl, ti28, List.map_nil, X5, w1, g1, gt_iff_lt, X0]; done) | (exact AV.le.rfl _) | (simp only [X4, sl, X5, w1, g1, gt_iff_lt, X0]; done) | rfl | skip) | (refine hK _ ?_; clear hK K) | refine Vt rfl ?_)
  ·have g1 : ¬ (64 : Int) < (key.length : Int) := by omega
   have g2 : (2048 : Int) < (b.length : Int) := by omega
   refine Xc 2 Tryz.func7 rfl fun n out _ _ => ?_
   simp only [Tryz.ntmps7, List.length_cons, List.length_nil, List.length_map, List.length_replicate, Xf, Nat.reduceAdd, Nat.reduceSub, List.replicate, List.cons_append, List.nil_append]
   repeat' (first | (with_reducible first | refine Vk fun K hK => ?_ | refine V0 ?_ | refine Vb ?_) | ((with_reducible refine gE ?_); simp (maxSteps:=9^7) only [ss, X1, tab, simprocAttr, -List.reduceReplicate, X5, w1, g1, g2, gt_iff_lt, X0]) | ((with_reducible refine Vz ?_); (first | refine Xp (.inr rfl) rfl rfl rfl (fun _ _ => rfl) ok28 (k := n + 0) (off := 0) rfl (Xb _ (by simp)) (X6 _ (Nat.le_refl _) 0) rfl rfl ?_ | refine Xp (.inr rfl) rfl rfl rfl (fun _ _ => rfl) ok28 (k := m + 0) (off := 0) rfl (Xb _ (by simp)) (X6 _ hm 0) rfl rfl ?_) <;> first | rfl | exact AV.le.rfl _ | (simp only [X4, sl, ti28, List.map_nil, X5, w1, g1, g2, gt_iff_lt, X0]; done) | (exact AV.le.rfl _) | (simp only [X4, sl, X5, w1, g1, g2, gt_iff_lt, X0]; done) | rfl | skip) | (refine hK _ ?_; clear hK K) | refine Vt rfl ?_ | refine Vf rfl ?_)
 ·have g1 : ¬ (64 : Int) < (key.length : Int) := by omega
  have g2 : ¬ (2048 : Int) < (b.length : Int) := by omega
  by_cases h2 : b.length < 32
  ·have w1 : IntKind.i64.wrap ((b.length : Int) - 32) = (b.length : Int) - 32 := by rw [wrap_i64] <;> omega
   have g3 : (b.length : Int) - 32 < 0 := by omega
   have e1 := Xbc h1 h2
   rw [Xay e1 (by decide), e1, eN]
   refine Xc 2 Tryz.func7 rfl fun n out _ _ => ?_
   simp only [Tryz.ntmps7, List.length_cons, List.length_nil, List.length_map, List.length_replicate, Xf, Nat.reduceAdd, Nat.reduceSub, List.replicate, List.cons_append, List.nil_append]
   repeat' (first | (with_reducible first | refine Vk fun K hK => ?_ | refine V0 ?_ | refine Vb ?_) | ((with_reducible refine gE ?_); simp (maxSteps:=9^7) only [ss, X1, tab, simprocAttr, -List.reduceReplicate, X5, w1, g1, g2, g3, gt_iff_lt, X0]) | ((with_reducible refine Vz ?_); (first | refine Xp (.inr rfl) rfl rfl rfl (fun _ _ => rfl) ok28 (k := n + 0) (off := 0) rfl (Xb _ (by simp)) (X6 _ (Nat.le_refl _) 0) rfl rfl ?_ | refine Xp (.inr rfl) rfl rfl rfl (fun _ _ => rfl) ok28 (k := m + 0) (off := 0) rfl (Xb _ (by simp)) (X6 _ hm 0) rfl rfl ?_) <;> first | rfl | exact AV.le.rfl _ | (simp only [X4, sl, ti28, List.map_nil, X5, w1, g1, g2, g3, gt_iff_lt, X0]; done) | (exact AV.le.rfl _) | (simp only [X4, sl, X5, w1, g1, g2, g3, gt_iff_lt, X0]; done) | rfl | skip) | (refine hK _ ?_; clear hK K) | refine Vt rfl ?_ | refine Vf rfl ?_)
  ·have w1 := X25 (n := b.length) 32 32 rfl (by omega) (by omega)
   have g3 : ¬ ((b.length - 32 : Nat) : Int) < 0 := by omega
   have ct := Hm.Xe8 key (Xab b) .sh .sh (by unfold Xab; rw [List.length_take]; omega)
   have ht32 : (Hm.Xaa key (Xab b)).length = 32 := Hm.Vc _
   have etg : Hm.Xe7 key (Xab b) = .tup [.agg ((Hm.Xaa key (Xab b)).map b8), i64 0] := if_pos (by omega)
   rw [etg] at ct
   have hX : (Xb0 b).length = 32 := by unfold Xb0; rw [List.length_drop]; omega
   have cs := Hm.Xe9 (Hm.Xaa key (Xab b)) (Xb0 b) ht32 hX
   rw [show (Hm.Xaa key (Xab b) == Xb0 b) = Xbt key b from rfl] at cs
   generalize Hm.Xaa key (Xab b) = T at ct cs ht32
   have k1 : b.length - 32 ≤ b.length := Nat.sub_le _ _
   have k2 : b.length - (b.length - 32) = 32 := by omega
   have k3 : List.take (b.length - 32) b = Xab b := rfl
   have k4 : List.drop (b.length - 32) b = Xb0 b := rfl
   have k5 : List.take 32 (Xb0 b) = Xb0 b := List.take_of_length_le (by omega)
   have k6 : 32 ≤ (Xb0 b).length := by omega
   cases hR : Xbt key b with
   | false =>
    have e1 := Xbv h1 h2 hR
    rw [Xay e1 (by decide), e1, eN]
    rw [hR] at cs
    refine Xc 2 Tryz.func7 rfl fun n out _ _ => ?_
    simp only [Tryz.ntmps7, List.length_cons, List.length_nil, List.length_map, List.length_replicate, Xf, Nat.reduceAdd, Nat.reduceSub, List.replicate, List.cons_append, List.nil_append]
    repeat' (first | (with_reducible first | refine Vk fun K hK => ?_ | refine V0 ?_ | refine Vb ?_ | refine Vs ?_ | refine Vd 10 [] [[1],[],[],[],[],[],[],[]] [[],[],[],[],[],[],[],[]] (by kernel_rfl) (by decide) (by decide) (by kernel_rfl) ?_) | ((with_reducible first | refine gE ?_ | refine gR ?_ | refine gD ?_ | refine gF ?_); simp (maxSteps:=9^7) only [ss, X1, tab, simprocAttr, -List.reduceReplicate, X5, w1, g1, g2, g3, gt_iff_lt, X0, P6, Nh, k1, k2, Q2, Q1, Nat.sub_zero, k3, k4, k5, k6, Xa7, E6, List.length_map, ht32, hX]) | ((with_reducible refine Vz ?_); (first | refine Xp (.inr rfl) rfl rfl rfl (fun _ _ => rfl) ok28 (k := n + 0) (off := 0) rfl (Xb _ (by simp)) (X6 _ (Nat.le_refl _) 0) rfl rfl ?_ | refine Xp (.inr rfl) rfl rfl rfl (fun _ _ => rfl) ok28 (k := m + 0) (off := 0) rfl (Xb _ (by simp)) (X6 _ hm 0) rfl rfl ?_) <;> first | rfl | exact AV.le.rfl _ | (simp only [X4, sl, ti28, List.map_nil, X5, w1, g1, g2, g3, gt_iff_lt, X0, P6, Nh, k1, k2, Q2, Q1, Nat.sub_zero, k3, k4, k5, k6, Xa7, E6, List.length_map, ht32, hX, Int.reduceBNe]; done) | (exact AV.le.rfl _) | (simp only [X4, sl, X5, w1, g1, g2, g3, gt_iff_lt, X0, P6, Nh, k1, k2, Q2, Q1, Nat.sub_zero, k3, k4, k5, k6, Xa7, E6, List.length_map, ht32, hX, Int.reduceBNe]; done) | rfl | skip) | (refine X3 (ct) ?_) | (refine X3 (cs) ?_) | (refine hK _ ?_; clear hK K) | refine Vt rfl ?_ | refine Vf rfl ?_)
   | true =>
    have cp := X2y (Xab b) (by unfold Xab; rw [List.length_take]; omega)
    have e1 := Xc4 h1 h2 hR
    have e2 : Xav key b = if Z6 (Xab b) then (V6 (Xab b)).1 else Aq := by
     unfold Xav
     rw [e1]
     by_cases h : Z6 (Xab b) = true
     ·rw [if_pos h, if_pos h]; rfl
     ·rw [if_neg h, if_neg h]; rfl
    rw [← e2, ← e1] at cp
    rw [hR] at cs
    generalize Xav key b = Q at cp ⊢
    generalize Xau key b = E at cp ⊢
    simp only [plA, plC] at cp ⊢
    refine Xc 2 Tryz.func7 rfl fun n out _ _ => ?_
    simp only [Tryz.ntmps7, List.length_cons, List.length_nil, List.length_map, List.length_replicate, Xf, Nat.reduceAdd, Nat.reduceSub, List.replicate, List.cons_append, List.nil_append]
    repeat' (first | (with_reducible first | refine Vk fun K hK => ?_ | refine V0 ?_ | refine Vb ?_ | refine Vs ?_ | refine Vd 10 [] [[1],[],[],[],[],[],[],[]] [[],[],[],[],[],[],[],[]] (by kernel_rfl) (by decide) (by decide) (by kernel_rfl) ?_) | ((with_reducible first | refine gE ?_ | refine gR ?_ | refine gD ?_ | refine gF ?_); simp (maxSteps:=9^7) only [ss, X1, tab, simprocAttr, -List.reduceReplicate, X5, w1, g1, g2, g3, gt_iff_lt, X0, P6, Nh, k1, k2, Q2, Q1, Nat.sub_zero, k3, k4, k5, k6, Xa7, E6, List.length_map, ht32, hX]) | ((with_reducible refine Vz ?_); (first | refine Xp (.inr rfl) rfl rfl rfl (fun _ _ => rfl) ok28 (k := n + 0) (off := 0) rfl (Xb _ (by simp)) (X6 _ (Nat.le_refl _) 0) rfl rfl ?_ | refine Xp (.inr rfl) rfl rfl rfl (fun _ _ => rfl) ok28 (k := m + 0) (off := 0) rfl (Xb _ (by simp)) (X6 _ hm 0) rfl rfl ?_) <;> first | rfl | exact AV.le.rfl _ | (simp only [X4, sl, ti28, List.map_nil, X5, w1, g1, g2, g3, gt_iff_lt, X0, P6, Nh, k1, k2, Q2, Q1, Nat.sub_zero, k3, k4, k5, k6, Xa7, E6, List.length_map, ht32, hX, Int.reduceBNe]; done) | (exact AV.le.rfl _) | (simp only [X4, sl, X5, w1, g1, g2, g3, gt_iff_lt, X0, P6, Nh, k1, k2, Q2, Q1, Nat.sub_zero, k3, k4, k5, k6, Xa7, E6, List.length_map, ht32, hX, Int.reduceBNe]; done) | rfl | skip) | (refine X3 (ct) ?_) | (refine X3 (cs) ?_) | (refine X3 (cp) ?_) | (refine hK _ ?_; clear hK K) | refine Vf rfl ?_)
end Go.Proofs.YtgdhnngpfieloaaGreat.Pln
end
