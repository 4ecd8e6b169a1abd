/- The layer of abstract values, joined: KF. -/
import Derived.Test.YtgdhnngpfieloaaZGA
import Derived.Test.YtgdhnngpfieloaaZKE
import Derived.Test.YtgdhnngpfieloaaZK9
import Derived.Test.YtgdhnngpfieloaaZKB
import Derived.Test.YtgdhnngpfieloaaZPP
import Derived.Test.YtgdhnngpfieloaaZKA
import Derived.Test.YtgdhnngpfieloaaZHC
section
namespace Go.Proofs.Ytgdhnngpfieloaa.Pln
set_option linter.unusedVariables false
set_option linter.unusedSimpArgs false
open Go Go.VS Tab
set_option maxHeartbeats 8000000
set_option maxRecDepth 4000
theorem X1z (wr : List Nat) (R : AState → Prop) (fr : List AV) (lo : List (Option Res)) (out : Nat → Option Res) (n0 n : Nat) (df : List Deferred) (d : Option Tmp) (r : AV) (x y : Nat) (p q : Res) :
  Lt wr R ⟨fr, lo, out, n0, n, df⟩ d r [(n + x, p), (n + y, q)] = ((wr.contains x = true ∧ wr.contains y = true) ∧ R (AState.next ⟨fr, lo, out, n0, n, df⟩ d r [(n + x, p), (n + y, q)])) := by
 simp only [Lt, List.mem_cons, List.not_mem_nil, or_false, forall_eq_or_imp, forall_eq, List.contains_iff_mem, Nat.add_left_cancel_iff, exists_eq_right', eq_iff_iff]
def Aq : Pl := ⟨0, 0, [], [], [], []⟩
theorem X20 {p : Pl} (h : Uf p = true) : Sm p := by
 obtain ⟨v, w, sl, s, pl, q, gl, g, rl, r⟩ := Us h
 refine ⟨by omega, fun x hx => ?_, by omega, by omega, by omega, fun x hx => ?_⟩
 ·have := (s x hx).2.2.2
  rw [this]; split <;> decide
 ·obtain ⟨_, _, _, _, _, _, _, l1, l2, l3⟩ := r x hx; omega
theorem scB : Xd Try.prog 31 = True := hb0 _ (by decide) (by decide)
theorem poB : Xd Try.prog 33 = True := hb0 _ (by decide) (by decide)
theorem siB : Xd Try.prog 35 = True := hb0 _ (by decide) (by decide)
theorem roB : Xd Try.prog 37 = True := hb0 _ (by decide) (by decide)
theorem X2y (b : List UInt8) (hb : b.length ≤ 1000000) : Xr Try.prog 12 [.sl 1 (Xo b) .sh] [] (.tup [plA (if Z6 b then (V6 b).1 else Aq), i64 (if Z6 b then 0 else 8)]) [] := by
 obtain ⟨x1, s1, h1⟩ : ∃ x t, rdN b (0, false) = (x, t) := ⟨_, _, rfl⟩
 obtain ⟨x2, s2, h2⟩ : ∃ x t, rdN b s1 = (x, t) := ⟨_, _, rfl⟩
 obtain ⟨lS, s3, h3⟩ : ∃ x t, rdL Ft b s2 = (x, t) := ⟨_, _, rfl⟩
 obtain ⟨lP, s4, h4⟩ : ∃ x t, rdL Kd b s3 = (x, t) := ⟨_, _, rfl⟩
 obtain ⟨lG, s5, h5⟩ : ∃ x t, rdL G8 b s4 = (x, t) := ⟨_, _, rfl⟩
 obtain ⟨lR, s6, h6⟩ : ∃ x t, rdL B4 b s5 = (x, t) := ⟨_, _, rfl⟩
 have e : V6 b = (⟨x1, x2, lS, lP, lG, lR⟩, s6) := by
  unfold V6 X7u rdB
  rw [h1]; dsimp only; rw [h2]
  show (match rdL Ft b s2 with | v => rdB (rdL Kd) (fun pts => rdB (rdL G8) fun sgs => rdB (rdL B4) fun rts => rdP (⟨x1, x2, v.1, pts, sgs, rts⟩ : Pl)) b v.2) = _
  rw [h3]
  show (match rdL Kd b s3 with | v => rdB (rdL G8) (fun sgs => rdB (rdL B4) fun rts => rdP (⟨x1, x2, lS, v.1, sgs, rts⟩ : Pl)) b v.2) = _
  rw [h4]
  show (match rdL G8 b s4 with | v => rdB (rdL B4) (fun rts => rdP (⟨x1, x2, lS, lP, v.1, rts⟩ : Pl)) b v.2) = _
  rw [h5]
  show (match rdL B4 b s5 with | v => ((⟨x1, x2, lS, lP, lG, v.1⟩ : Pl), v.2)) = _
  rw [h6]
 have hsb := A7 b
 have hok : Z6 b = Sh (V6 b).1 (V6 b).2 (Wg (V6 b).1) b := rfl
 have c1 := fun n : Nat => Yo b hb (n + 2) (n + 3) (by omega) (0, false)
 have c2 := fun n : Nat => Yo b hb (n + 2) (n + 3) (by omega) s1
 have c3 := fun n : Nat => Aj b hb (n + 2) (n + 3) (by omega) _ _ scB Ft Qh (fun _ => rfl) (X2w b hb (n + 2) (n + 3) (by omega)) s2
 have c4 := fun n : Nat => Ak b hb (n + 2) (n + 3) (by omega) _ _ poB Kd jnA (fun _ => rfl) (X2t b hb (n + 2) (n + 3) (by omega)) s3
 have c5 := fun n : Nat => Al b hb (n + 2) (n + 3) (by omega) _ _ siB G8 sgA (fun _ => rfl) (X2v b hb (n + 2) (n + 3) (by omega)) s4
 have c6 := fun n : Nat => Am b hb (n + 2) (n + 3) (by omega) _ _ roB B4 rtA (fun _ => rfl) (X2x b hb (n + 2) (n + 3) (by omega)) s5
 rw [h1] at c1
 rw [h2] at c2
 rw [h3] at c3
 rw [h4] at c4
 rw [h5] at c5
 rw [h6] at c6
 rw [e] at hsb hok ⊢
 clear h1 h2 h3 h4 h5 h6 e
 dsimp only at c1 c2 c3 c4 c5 c6 hsb hok ⊢
 have cp := Ss _ hsb
 have cw := fun h : Uf (⟨x1, x2, lS, lP, lG, lR⟩ : Pl) = true => G5 _ (X20 h) (Nat.le_trans (R7 h) (by decide))
 generalize Z6 b = ok at hok ⊢
 obtain ⟨Q, hQ⟩ : ∃ Q : Pl, Q = ⟨x1, x2, lS, lP, lG, lR⟩ := ⟨_, rfl⟩
 rw [← hQ] at hsb hok cp cw ⊢
 have eQ : plA Q = .agg [i64 x1, i64 x2, .sl 3 (lS.map Y6) .sh, .sl 2 (lP.map jnC) .sh, .sl 3 (lG.map sgC) .sh, .sl 7 (lR.map rtC) .sh] := by rw [hQ]; rfl
 rw [eQ] at cp cw
 clear hQ
 refine Xc 7 Try.func12 rfl fun n out _ _ => ?_
 simp only [Try.ntmps12, List.length_cons, List.length_nil, List.length_map, List.length_replicate, Xf, Nat.reduceAdd, Nat.reduceSub, List.replicate, List.cons_append, List.nil_append]
 refine X9 fun K hK => Xn Xj [] ?_
 simp (maxSteps:=9^7) only [ss, X1, tab, simprocAttr, -List.reduceReplicate]
 repeat' (first | (with_reducible refine hK _ ?_; clear hK K) | with_reducible apply And.intro)
 refine X9 fun K hK => Xn Xj [] ?_
 simp (maxSteps:=9^7) only [ss, X1, tab, simprocAttr, -List.reduceReplicate]
 repeat' (first | (with_reducible refine hK _ ?_; clear hK K) | with_reducible apply And.intro)
 refine Yy (Zi (i := 0) (t := 1) 1 (.ref [.sl 1 (Xo b) .sh]) rfl rfl (.ptr 0)) ?_
 simp only [s_0, s_s]
 refine X9 fun K hK => Xn Xj [] ?_
 simp (maxSteps:=9^7) only [ss, X1, tab, simprocAttr, -List.reduceReplicate]
 repeat' (first | (with_reducible refine hK _ ?_; clear hK K) | with_reducible apply And.intro)
 refine Yy (Zi (i := 4) (t := 6) 1 (.ref [nxF b (n + 2) (n + 3)]) rfl rfl (.ptr 0)) ?_
 simp only [s_0, s_s]
 refine X9 fun K hK => Ny Xj [] [[], [], [2, 3], [], [], [2, 3], [], [5], [5]] [[], [], [2, 3], [], [], [2, 3], [], [5], [5]] follows (by kernel_rfl) (by decide) (by decide) (by kernel_rfl) ?_
 simp (maxSteps:=9^7) only [ss, X1, tab, simprocAttr, -List.reduceReplicate, nxB]
 repeat' (first | (with_reducible refine hK _ ?_; clear hK K) | with_reducible apply And.intro)
 refine Xk (c1 n) (X6 _ (Nat.le_refl _) 2) (X6 _ (Nat.le_refl _) 3) (Xb _ (by simp)) (Xb _ (by simp)) (by simp) (by simp) ?_
 simp (maxSteps:=9^7) only [ss, X1, tab, simprocAttr, -List.reduceReplicate, nxB, X0, X1z, W0 (Nat.le_refl n)]
 repeat' (first | (with_reducible refine hK _ ?_; clear hK K) | with_reducible apply And.intro)
 refine Xk (c2 n) (X6 _ (Nat.le_refl _) 2) (X6 _ (Nat.le_refl _) 3) (Xb _ (by simp)) (Xb _ (by simp)) (by simp) (by simp) ?_
 simp (maxSteps:=9^7) only [ss, X1, tab, simprocAttr, -List.reduceReplicate, nxB, X0, X1z, W0 (Nat.le_refl n)]
 repeat' (first | (with_reducible refine hK _ ?_; clear hK K) | with_reducible apply And.intro)
 refine X9 fun K hK => Xn Xj [] ?_
 simp (maxSteps:=9^7) only [ss, X1, tab, simprocAttr, -List.reduceReplicate]
 repeat' (first | (with_reducible refine hK _ ?_; clear hK K) | with_reducible apply And.intro)
 refine Yy (Zi (i := 6) (t := 8) 1 (.ref [.fn (.func 29) [.ref [nxF b (n + 2) (n + 3)]]]) rfl rfl (.ptr 0)) ?_
 simp only [s_0, s_s]
 refine X9 fun K hK => Xn Xj [] ?_
 simp (maxSteps:=9^7) only [ss, X1, tab, simprocAttr, -List.reduceReplicate, scB, W0 (Nat.le_refl n)]
 repeat' (first | (with_reducible refine hK _ ?_; clear hK K) | with_reducible apply And.intro)
 refine Xk (c3 n) (X6 _ (Nat.le_refl _) 2) (X6 _ (Nat.le_refl _) 3) (Xb _ (by simp)) (Xb _ (by simp)) (by simp) (by simp) ?_
 simp (maxSteps:=9^7) only [ss, X1, tab, simprocAttr, -List.reduceReplicate, X0, W0 (Nat.le_refl n)]
 repeat' (first | (with_reducible refine hK _ ?_; clear hK K) | with_reducible apply And.intro)
 refine X9 fun K hK => Xn Xj [] ?_
 simp (maxSteps:=9^7) only [ss, X1, tab, simprocAttr, -List.reduceReplicate, poB, W0 (Nat.le_refl n)]
 repeat' (first | (with_reducible refine hK _ ?_; clear hK K) | with_reducible apply And.intro)
 refine Xk (c4 n) (X6 _ (Nat.le_refl _) 2) (X6 _ (Nat.le_refl _) 3) (Xb _ (by simp)) (Xb _ (by simp)) (by simp) (by simp) ?_
 simp (maxSteps:=9^7) only [ss, X1, tab, simprocAttr, -List.reduceReplicate, X0, W0 (Nat.le_refl n)]
 repeat' (first | (with_reducible refine hK _ ?_; clear hK K) | with_reducible apply And.intro)
 refine X9 fun K hK => Xn Xj [] ?_
 simp (maxSteps:=9^7) only [ss, X1, tab, simprocAttr, -List.reduceReplicate, siB, W0 (Nat.le_refl n)]
 repeat' (first | (with_reducible refine hK _ ?_; clear hK K) | with_reducible apply And.intro)
 refine Xk (c5 n) (X6 _ (Nat.le_refl _) 2) (X6 _ (Nat.le_refl _) 3) (Xb _ (by simp)) (Xb _ (by simp)) (by simp) (by simp) ?_
 simp (maxSteps:=9^7) only [ss, X1, tab, simprocAttr, -List.reduceReplicate, X0, W0 (Nat.le_refl n)]
 repeat' (first | (with_reducible refine hK _ ?_; clear hK K) | with_reducible apply And.intro)
 refine X9 fun K hK => Xn Xj [] ?_
 simp (maxSteps:=9^7) only [ss, X1, tab, simprocAttr, -List.reduceReplicate, roB, W0 (Nat.le_refl n)]
 repeat' (first | (with_reducible refine hK _ ?_; clear hK K) | with_reducible apply And.intro)
 refine Xk (c6 n) (X6 _ (Nat.le_refl _) 2) (X6 _ (Nat.le_refl _) 3) (Xb _ (by simp)) (Xb _ (by simp)) (by simp) (by simp) ?_
 simp (maxSteps:=9^7) only [ss, X1, tab, simprocAttr, -List.reduceReplicate, X0, W0 (Nat.le_refl n)]
 repeat' (first | (with_reducible refine hK _ ?_; clear hK K) | with_reducible apply And.intro)
 obtain ⟨a6, d6⟩ := s6
 unfold Sh at hok
 dsimp only at hok ⊢
 have eN : plA Aq = .agg [i64 0, i64 0, .sl 3 [] .sh, .sl 2 [] .sh, .sl 3 [] .sh, .sl 7 [] .sh] := rfl
 cases d6 with
 | true =>
  rw [hok]
  simp only [Bool.not_true, Bool.false_and, Bool.false_eq_true, if_false, eN]
  repeat' (first | (with_reducible first | refine Vk fun K hK => ?_ | refine V0 ?_ | refine Vs ?_ | apply And.intro | refine Vd 9 [] [[3],[],[2],[],[],[],[],[],[5],[],[],[],[],[5],[],[],[],[],[],[]] [[],[],[],[],[],[],[],[],[],[],[],[],[],[],[],[],[],[],[],[]] (by kernel_rfl) (by decide) (by decide) (by kernel_rfl) ?_ | refine Vq (by kernel_rfl) ?_) | ((with_reducible first | refine gE ?_ | refine gR ?_ | refine gD ?_ | refine gF ?_); simp (maxSteps:=9^7) only [ss, X1, tab, simprocAttr, -List.reduceReplicate, sg, X0]) | exact Vn | ((with_reducible refine Vz ?_); (first | refine Xp (.inr rfl) rfl rfl rfl (fun _ _ => rfl) ok27 (k := n + 1) (off := 0) rfl (Xb _ (by simp)) (X6 _ (Nat.le_refl _) 1) rfl rfl ?_ | refine Xp (.inr rfl) rfl rfl rfl (fun _ _ => rfl) ok27 (k := m + 1) (off := 0) rfl (Xb _ (by simp)) (X6 _ hm 1) rfl rfl ?_) <;> first | rfl | exact AV.le.rfl _ | (simp only [X4, sl, ti27, List.map_nil, sg, X0]; done) | (exact AV.le.rfl _) | (simp only [X4, sl, sg, X0]; done) | rfl | skip) | ((with_reducible first | refine Vg (fun hg => ?_) (fun hg => ?_) | refine Y5 (fun hg => ?_) (fun hg => ?_)) <;> (try simp only [nb] at hg) <;> simp (maxSteps:=9^7) only [ss, X1, tab, simprocAttr, -List.reduceReplicate, hg, sg, X0]) | (refine hK _ ?_; clear hK K) | refine Vt rfl ?_ | refine Vf rfl ?_ | refine Vi rfl (fun hg => ?_) (fun hg => ?_) | clear hK K)
 | false =>
  by_cases ha : a6 = b.length
  ·subst ha
   have hne : ((b.length : Int) != (b.length : Int)) = false := by simp
   cases hmy : Uf Q with
   | false =>
    rw [hmy] at cp hok
    rw [hok]
    simp only [Bool.and_false, Bool.false_and, Bool.false_eq_true, if_false, eN] at cp ⊢
    repeat' (first | (with_reducible first | refine Vk fun K hK => ?_ | refine V0 ?_ | refine Vs ?_ | apply And.intro | refine Vd 9 [] [[3],[],[2],[],[],[],[],[],[5],[],[],[],[],[5],[],[],[],[],[],[]] [[],[],[],[],[],[],[],[],[],[],[],[],[],[],[],[],[],[],[],[]] (by kernel_rfl) (by decide) (by decide) (by kernel_rfl) ?_ | refine Vq (by kernel_rfl) ?_) | ((with_reducible first | refine gE ?_ | refine gR ?_ | refine gD ?_ | refine gF ?_); simp (maxSteps:=9^7) only [ss, X1, tab, simprocAttr, -List.reduceReplicate, sg, X0, X5, hne]) | exact Vn | ((with_reducible refine Vz ?_); (first | refine Xp (.inr rfl) rfl rfl rfl (fun _ _ => rfl) ok27 (k := n + 1) (off := 0) rfl (Xb _ (by simp)) (X6 _ (Nat.le_refl _) 1) rfl rfl ?_ | refine Xp (.inr rfl) rfl rfl rfl (fun _ _ => rfl) ok27 (k := m + 1) (off := 0) rfl (Xb _ (by simp)) (X6 _ hm 1) rfl rfl ?_) <;> first | rfl | exact AV.le.rfl _ | (simp only [X4, sl, ti27, List.map_nil, sg, X0, X5, hne, Int.reduceBNe]; done) | (exact AV.le.rfl _) | (simp only [X4, sl, sg, X0, X5, hne, Int.reduceBNe]; done) | rfl | skip) | (refine X3 (cp) ?_) | ((with_reducible first | refine Vg (fun hg => ?_) (fun hg => ?_) | refine Y5 (fun hg => ?_) (fun hg => ?_)) <;> (try simp only [nb] at hg) <;> simp (maxSteps:=9^7) only [ss, X1, tab, simprocAttr, -List.reduceReplicate, hg, sg, X0, X5, hne]) | (refine hK _ ?_; clear hK K) | refine Vt rfl ?_ | refine Vf rfl ?_ | refine Vi rfl (fun hg => ?_) (fun hg => ?_) | clear hK K)
   | true =>
    have cw := cw hmy
    rw [hmy] at cp hok
    simp only [if_true] at cp
    by_cases hw : Wg Q = b
    ·rw [hok]
     have hwb : (Wg Q == b) = true := beq_iff_eq.2 hw
     simp only [hwb, decide_true, Bool.not_false, Bool.and_true, if_true, eQ]
     repeat' (first | (with_reducible first | refine Vk fun K hK => ?_ | refine V0 ?_ | refine Vs ?_ | apply And.intro | refine Vd 9 [] [[3],[],[2],[],[],[],[],[],[5],[],[],[],[],[5],[],[],[],[],[],[]] [[],[],[],[],[],[],[],[],[],[],[],[],[],[],[],[],[],[],[],[]] (by kernel_rfl) (by decide) (by decide) (by kernel_rfl) ?_ | refine Vq (by kernel_rfl) ?_) | ((with_reducible first | refine gE ?_ | refine gR ?_ | refine gD ?_ | refine gF ?_); simp (maxSteps:=9^7) only [ss, X1, tab, simprocAttr, -List.reduceReplicate, sg, X0, X5, hne, Ya, Z5, hwb]) | exact Vn | ((with_reducible refine Vz ?_); (first | refine Xp (.inr rfl) rfl rfl rfl (fun _ _ => rfl) ok27 (k := n + 1) (off := 0) rfl (Xb _ (by simp)) (X6 _ (Nat.le_refl _) 1) rfl rfl ?_ | refine Xp (.inr rfl) rfl rfl rfl (fun _ _ => rfl) ok27 (k := m + 1) (off := 0) rfl (Xb _ (by simp)) (X6 _ hm 1) rfl rfl ?_) <;> first | rfl | exact AV.le.rfl _ | (simp only [X4, sl, ti27, List.map_nil, sg, X0, X5, hne, Int.reduceBNe, Ya, Z5, hwb]; done) | (exact AV.le.rfl _) | (simp only [X4, sl, sg, X0, X5, hne, Int.reduceBNe, Ya, Z5, hwb]; done) | rfl | skip) | (refine X3 (cp) ?_) | (refine X3 (cw) ?_) | ((with_reducible first | refine Vg (fun hg => ?_) (fun hg => ?_) | refine Y5 (fun hg => ?_) (fun hg => ?_)) <;> (try simp only [nb] at hg) <;> simp (maxSteps:=9^7) only [ss, X1, tab, simprocAttr, -List.reduceReplicate, hg, sg, X0, X5, hne, Ya, Z5, hwb]) | (refine hK _ ?_; clear hK K) | refine Vt rfl ?_ | refine Vf rfl ?_ | refine Vi rfl (fun hg => ?_) (fun hg => ?_) | clear hK K)
    ·have hwb : (Wg Q == b) = false := beq_eq_false_iff_ne.2 hw
     rw [hok]
     simp only [hwb, Bool.and_false, Bool.false_eq_true, if_false, eN]
     repeat' (first | (with_reducible first | refine Vk fun K hK => ?_ | refine V0 ?_ | refine Vs ?_ | apply And.intro | refine Vd 9 [] [[3],[],[2],[],[],[],[],[],[5],[],[],[],[],[5],[],[],[],[],[],[]] [[],[],[],[],[],[],[],[],[],[],[],[],[],[],[],[],[],[],[],[]] (by kernel_rfl) (by decide) (by decide) (by kernel_rfl) ?_ | refine Vq (by kernel_rfl) ?_) | ((with_reducible first | refine gE ?_ | refine gR ?_ | refine gD ?_ | refine gF ?_); simp (maxSteps:=9^7) only [ss, X1, tab, simprocAttr, -List.reduceReplicate, sg, X0, X5, hne, Ya, Z5, hwb]) | exact Vn | ((with_reducible refine Vz ?_); (first | refine Xp (.inr rfl) rfl rfl rfl (fun _ _ => rfl) ok27 (k := n + 1) (off := 0) rfl (Xb _ (by simp)) (X6 _ (Nat.le_refl _) 1) rfl rfl ?_ | refine Xp (.inr rfl) rfl rfl rfl (fun _ _ => rfl) ok27 (k := m + 1) (off := 0) rfl (Xb _ (by simp)) (X6 _ hm 1) rfl rfl ?_) <;> first | rfl | exact AV.le.rfl _ | (simp only [X4, sl, ti27, List.map_nil, sg, X0, X5, hne, Int.reduceBNe, Ya, Z5, hwb]; done) | (exact AV.le.rfl _) | (simp only [X4, sl, sg, X0, X5, hne, Int.reduceBNe, Ya, Z5, hwb]; done) | rfl | skip) | (refine X3 (cp) ?_) | (refine X3 (cw) ?_) | ((with_reducible first | refine Vg (fun hg => ?_) (fun hg => ?_) | refine Y5 (fun hg => ?_) (fun hg => ?_)) <;> (try simp only [nb] at hg) <;> simp (maxSteps:=9^7) only [ss, X1, tab, simprocAttr, -List.reduceReplicate, hg, sg, X0, X5, hne, Ya, Z5, hwb]) | (refine hK _ ?_; clear hK K) | refine Vt rfl ?_ | refine Vf rfl ?_ | refine Vi rfl (fun hg => ?_) (fun hg => ?_) | clear hK K)
  ·have hne : ((a6 : Int) != (b.length : Int)) = true := by simpa using fun h : (a6 : Int) = (b.length : Int) => ha (by omega)
   rw [hok]
   simp only [ha, decide_false, Bool.and_false, Bool.false_and, Bool.false_eq_true, if_false, eN]
   repeat' (first | (with_reducible first | refine Vk fun K hK => ?_ | refine V0 ?_ | refine Vs ?_ | apply And.intro | refine Vd 9 [] [[3],[],[2],[],[],[],[],[],[5],[],[],[],[],[5],[],[],[],[],[],[]] [[],[],[],[],[],[],[],[],[],[],[],[],[],[],[],[],[],[],[],[]] (by kernel_rfl) (by decide) (by decide) (by kernel_rfl) ?_ | refine Vq (by kernel_rfl) ?_) | ((with_reducible first | refine gE ?_ | refine gR ?_ | refine gD ?_ | refine gF ?_); simp (maxSteps:=9^7) only [ss, X1, tab, simprocAttr, -List.reduceReplicate, sg, X0, X5, hne]) | exact Vn | ((with_reducible refine Vz ?_); (first | refine Xp (.inr rfl) rfl rfl rfl (fun _ _ => rfl) ok27 (k := n + 1) (off := 0) rfl (Xb _ (by simp)) (X6 _ (Nat.le_refl _) 1) rfl rfl ?_ | refine Xp (.inr rfl) rfl rfl rfl (fun _ _ => rfl) ok27 (k := m + 1) (off := 0) rfl (Xb _ (by simp)) (X6 _ hm 1) rfl rfl ?_) <;> first | rfl | exact AV.le.rfl _ | (simp only [X4, sl, ti27, List.map_nil, sg, X0, X5, hne]; done) | (exact AV.le.rfl _) | (simp only [X4, sl, sg, X0, X5, hne]; done) | rfl | skip) | ((with_reducible first | refine Vg (fun hg => ?_) (fun hg => ?_) | refine Y5 (fun hg => ?_) (fun hg => ?_)) <;> (try simp only [nb] at hg) <;> simp (maxSteps:=9^7) only [ss, X1, tab, simprocAttr, -List.reduceReplicate, hg, sg, X0, X5, hne]) | (refine hK _ ?_; clear hK K) | refine Vt rfl ?_ | refine Vf rfl ?_ | refine Vi rfl (fun hg => ?_) (fun hg => ?_) | clear hK K)
end Go.Proofs.Ytgdhnngpfieloaa.Pln
end
section
namespace Go.Proofs.Ytgdhnngpfieloaa.Pln
set_option linter.unusedVariables false
set_option linter.unusedSimpArgs false
open Go Go.VS Tab
set_option maxHeartbeats 8000000
set_option maxRecDepth 4000
def Bl (p : Pl) : Int := if Uf p then 0 else 8
def Bm (p : Pl) : List UInt8 := if Uf p then Wg p else []
theorem X2z (k : Nat) (p : Pl) (hs : Sm p) (h : Uf p = true) : Xr Try.prog 10 [plA p] [(k, none)] (.tup [.sl 1 (Xo (Wg p)) (.own k), i64 0]) [(k, .row 5 1 (Wg p).length)] := by
 have c1 := Dr p hs
 have hl := R7 h
 have c2 := fun k => Pj k p hs (by omega)
 rw [h] at c1
 simp only [plA, plC, if_true] at c1 c2
 refine Xc 1 Try.func10 rfl fun n out _ _ => ?_
 simp only [Try.ntmps10, List.length_cons, List.length_nil, List.length_map, List.length_replicate, Xf, Nat.reduceAdd, Nat.reduceSub, List.replicate, List.cons_append, List.nil_append]
 rename_i hneeds hgv
 obtain ⟨hk, _⟩ := hneeds
 obtain ⟨hkn, _⟩ := hgv
 repeat' (first | (with_reducible first | refine Vk fun K hK => ?_ | refine V0 ?_ | refine Vs ?_ | apply And.intro) | ((with_reducible first | refine gE ?_ | refine gR ?_); simp (maxSteps:=9^7) only [ss, X1, tab, simprocAttr, -List.reduceReplicate, plA, plC, X0, X8 hkn, X7 hkn, Cz hkn]) | exact Vn | ((with_reducible refine Vz ?_); refine Vp rfl rfl rfl (fun _ _ => rfl) ?_ ?_ <;> first | rfl | skip) | (refine X3 (c1) ?_) | (refine Sb (c2 k) (by rw [X8 hkn]; exact hk) (by rw [X7 hkn]; trivial) (by simp) ?_) | (refine hK _ ?_; clear hK K) | refine Vt rfl ?_ | refine Vf rfl ?_ | refine Vi rfl (fun hg => ?_) (fun hg => ?_) | clear hK K)
theorem X5q (p : Pl) (hs : Sm p) : Xr Try.prog 10 [plA p] [] (.tup [.sl 1 (Xo (Bm p)) .sh, i64 (Bl p)]) [] := by
 cases h : Uf p with
 | true =>
  have e1 : Bm p = Wg p := if_pos h
  have e2 : Bl p = 0 := if_pos h
  rw [e1, e2]
  refine Lc (fun k => X2z k p hs h) fun k => ?_
  simp only [X4, sl]
 | false =>
  have h' : ¬ Uf p = true := by rw [h]; decide
  have e1 : Bm p = [] := if_neg h'
  have e2 : Bl p = 8 := if_neg h'
  rw [e1, e2, Wb]
  have c1 := Dr p hs
  rw [h] at c1
  simp only [plA, plC, Bool.false_eq_true, if_false] at c1
  refine Xc 1 Try.func10 rfl fun n out _ _ => ?_
  simp only [Try.ntmps10, List.length_cons, List.length_nil, List.length_map, List.length_replicate, Xf, Nat.reduceAdd, Nat.reduceSub, List.replicate, List.cons_append, List.nil_append]
  repeat' (first | (with_reducible first | refine Vk fun K hK => ?_ | refine V0 ?_ | refine Vs ?_ | apply And.intro) | ((with_reducible first | refine gE ?_ | refine gR ?_); simp (maxSteps:=9^7) only [ss, X1, tab, simprocAttr, -List.reduceReplicate, plA, plC, X0]) | exact Vn | ((with_reducible refine Vz ?_); refine Za (.inr rfl) rfl rfl rfl (fun _ _ => rfl) rfl rfl ?_ ?_ <;> first | rfl | (exact AV.le.rfl _) | (simp only [X4, sl, plA, plC, X0, Int.reduceBNe]; done) | rfl | skip) | (refine X3 (c1) ?_) | (refine hK _ ?_; clear hK K) | refine Vt rfl ?_ | refine Vf rfl ?_ | refine Vi rfl (fun hg => ?_) (fun hg => ?_) | clear hK K)
end Go.Proofs.Ytgdhnngpfieloaa.Pln
end
