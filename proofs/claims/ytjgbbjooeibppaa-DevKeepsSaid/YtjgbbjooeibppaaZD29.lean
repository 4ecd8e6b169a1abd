/-
 A byte of a disk that is turned, told by the program.
-/
import Derived.Test.YtjgbbjooeibppaaZGA
import Derived.Test.YtjgbbjooeibppaaZD28
namespace Go.Proofs.Ytjgbbjooeibppaa
set_option linter.unusedVariables false
set_option linter.unusedSimpArgs false
open Go Go.VS Tab
set_option maxHeartbeats 4000000
set_option maxRecDepth 4000
def Xio (d : Dsk) (a b : Int) : Int := if may d then (if (decide (0 ≤ a) && decide (a < 32)) && (decide (0 ≤ b) && decide (b < 128)) then 0 else 2) else 8
def Xie (l : List UInt8) (y : Nat) (x : UInt8) : List UInt8 := l.set y (l.getD y 0 ^^^ x)
def Xlk (s : List (List UInt8)) (z y : Nat) (x : UInt8) : List (List UInt8) := s.set z (Xie (s.getD z []) y x)
def Xhg (d : Dsk) (a b : Int) (x : UInt8) : Dsk := if Xio d a b = 0 then ⟨Xlk d.sectors a.toNat b.toNat x, d.waits⟩ else Xhm
theorem Xjx {d : Dsk} {a b : Int} : Xio d a b = 0 ↔ may d = true ∧ (0 ≤ a ∧ a < 32) ∧ 0 ≤ b ∧ b < 128 := by
 unfold Xio
 cases may d <;> simp [and_assoc]
theorem Xip (l : List UInt8) (y : Nat) (x : UInt8) : (Xie l y x).length = l.length := by unfold Xie; simp
theorem Xn9 (d : Dsk) (hd : Small d) (a b : Int) (x : UInt8) : Xr Try.prog 20 [A2 d, i64 a, i64 b, b8 x] [] (.tup [A2 (Xhg d a b x), i64 (Xio d a b)]) [] := by
 have hds := hd.s
 have hdw := hd.w
 have ca := fun q => Xiw d q (by omega) (by omega)
 have cb1 := Xht a 32
 have cb2 := Xht b 128
 by_cases hE : Xio d a b = 0
 ·obtain ⟨hm, ⟨ha1, ha2⟩, hb1, hb2⟩ := Xjx.1 hE
  obtain ⟨z, rfl⟩ := Int.eq_ofNat_of_zero_le ha1
  obtain ⟨y, rfl⟩ := Int.eq_ofNat_of_zero_le hb1
  obtain ⟨h32, hw, hs, _⟩ := (Xho d).1 hm
  have hz : z < d.sectors.length := by omega
  have hl : (d.sectors[z]).length = 128 := hs _ (List.getElem_mem hz)
  have hy : y < (d.sectors[z]).length := by omega
  have eD : Xhg d z y x = ⟨d.sectors.set z (Xie d.sectors[z] y x), d.waits⟩ := by
   unfold Xhg Xlk
   rw [if_pos hE]
   simp [List.getD_eq_getElem?_getD, hz]
  rw [hE, eD]
  have q1 : (decide (0 ≤ (z : Int)) && decide ((z : Int) < 32)) = true := by simp; omega
  have q2 : (decide (0 ≤ (y : Int)) && decide ((y : Int) < 128)) = true := by simp; omega
  rw [q1] at cb1
  rw [q2] at cb2
  have ca1 := ca true
  rw [hm] at ca1
  simp only [if_true] at ca1
  have ct := fun k => Xn8 0 k d hd z hz (by omega)
  obtain ⟨S, hS⟩ : ∃ S : Nat → List (List AV), S = fun k => (d.sectors.map Y6).set z [.bsl k 0 (d.sectors[z]).length false] := ⟨_, rfl⟩
  have hS' : ∀ k, (d.sectors.map Y6).set z [.bsl k 0 (d.sectors[z]).length false] = S k := fun k => by rw [hS]
  have gz : ∀ k, (S k).getD z [] = [.bsl k 0 (d.sectors[z]).length false] := fun k => by rw [hS]; simp [List.getD_eq_getElem?_getD, hz]
  have gl : ∀ k, (S k).length = d.sectors.length := fun k => by rw [hS]; simp
  have gp := X0z 1 b8 d.sectors[z] y 0 hy
  have gy : (d.sectors[z]).getD y 0 = (d.sectors[z])[y] := by simp [List.getD_eq_getElem?_getD, hy]
  have gs := F7 b8 d.sectors[z] y ((d.sectors[z]).getD y 0 ^^^ x) hy
  have gt : (d.sectors[z]).set y ((d.sectors[z]).getD y 0 ^^^ x) = Xie d.sectors[z] y x := rfl
  rw [gt] at gs
  simp only [A2, Xha] at ct ca1
  simp only [hS'] at ct
  refine Xc 3 Try.func20 rfl fun n out _ _ => ?_
  simp only [Try.ntmps20, List.length_cons, List.length_nil, List.length_map, List.length_replicate, Xf, Nat.reduceAdd, Nat.reduceSub, List.replicate, List.cons_append, List.nil_append]
  repeat' (first | (with_reducible first | refine Vk fun K hK => ?_ | refine V0 ?_ | refine Vs ?_ | apply And.intro | refine Vq (by kernel_rfl) ?_) | ((with_reducible first | refine gE ?_ | refine gR ?_); simp (maxSteps:=9^7) only [ss, X1, tab, simprocAttr, -List.reduceReplicate, A2, Xha]) | exact Vn | ((with_reducible refine Vz ?_); (first | refine Xp (.inr rfl) rfl rfl rfl (fun _ _ => rfl) ok43 (k := n + 1) (off := 0) rfl (Xb _ (by simp)) (X6 _ (Nat.le_refl _) 1) rfl rfl ?_ | refine Xp (.inr rfl) rfl rfl rfl (fun _ _ => rfl) ok43 (k := m + 1) (off := 0) rfl (Xb _ (by simp)) (X6 _ hm 1) rfl rfl ?_) <;> first | rfl | exact AV.le.rfl _ | (simp only [E1, sl, ti43, List.map_nil, A2, Xha, Int.reduceBEq]; done) | rfl | skip) | (refine Pl (cb1) ?_) | (refine Pl (cb2) ?_) | (refine Pl (ca1) ?_) | (refine Sb (ct (n + 2)) (X6 _ (Nat.le_refl _) 2) (Xb _ (by simp)) (by simp) ?_) | ((with_reducible refine Vg (fun hg => ?_) (fun hg => ?_)) <;> (try simp only [nb] at hg) <;> simp (maxSteps:=9^7) only [ss, X1, tab, simprocAttr, -List.reduceReplicate, hg, A2, Xha]) | (refine hK _ ?_; clear hK K) | refine Vt rfl ?_ | refine Vf rfl ?_ | refine Vi rfl (fun hg => ?_) (fun hg => ?_) | clear hK K)
  ·rw [gl]; exact hz
  simp (maxSteps:=9^7) only [ss, X1, tab, simprocAttr, -List.reduceReplicate, gz, gl, hz, Y9, hy, gp, Xc6, gs, List.length_map]
  repeat' (first | (with_reducible refine hK _ ?_; clear hK K) | with_reducible apply And.intro)
  ·omega
  have hfz : Fz (n + 2) 1 ((Xie d.sectors[z] y x).map b8) (.sl 1 (S (n + 2)) .sh) (.sl 1 ((d.sectors.set z (Xie d.sectors[z] y x)).map Y6) .sh) := by
   rw [← hS' (n + 2), List.map_set]
   have h := Fz.bsl (k := n + 2) (sz := 1) (cs := (Xie d.sectors[z] y x).map b8) 0 (d.sectors[z]).length false ⟨by omega, by rw [List.length_map, Xip]; omega⟩
   rw [List.drop_zero, Xa1 _ (Xip _ _ _)] at h
   exact Xnw z ⟨h, trivial⟩
  refine Yy (Xls (i := 2) 1 [] (lo1 := [some (.box 43 [.sl 1 (d.sectors.map Y6) .sh, .sl 2 (d.waits.map wrC) .sh]), some (.box 43 [.sl 1 ((d.sectors.set z (Xie d.sectors[z] y x)).map Y6) .sh, .sl 2 (d.waits.map wrC) .sh]), some (.box 5 ((Xie d.sectors[z] y x).map b8))]) rfl (Xjc _) ?_) ?_
  ·simp only [Xmh, Xmy, Xlz, Xmi, Xmz, Xnm, Xnn, hfz, true_and, and_true]
  simp only [E1, s_0, s_s]
  refine Yd ?_
  refine Xp (.inr rfl) rfl rfl rfl (fun _ _ => rfl) ok43 (k := n + 1) (off := 0) rfl (Xb _ (by simp)) (X6 _ (Nat.le_refl _) 1) rfl rfl ?_
  simp only [A2, Xha, E1, sl]
 ·have e1 : Xhg d a b x = Xhm := by unfold Xhg; rw [if_neg hE]
  have hE' : (Xio d a b == 0) = false := by simpa using hE
  rw [e1]
  obtain ⟨E, hEE⟩ : ∃ E, E = Xio d a b := ⟨_, rfl⟩
  have cq := ca ((decide (0 ≤ a) && decide (a < 32)) && (decide (0 ≤ b) && decide (b < 128)))
  rw [show (if may d = true then if ((decide (0 ≤ a) && decide (a < 32)) && (decide (0 ≤ b) && decide (b < 128))) = true then (0 : Int) else 2 else 8) = E from hEE.symm] at cq
  rw [← hEE] at hE' ⊢
  clear hEE
  generalize (decide (0 ≤ a) && decide (a < 32)) = P1 at *
  generalize (decide (0 ≤ b) && decide (b < 128)) = P2 at *
  simp only [A2, Xha] at cq
  cases P1 <;> cases P2 <;> simp only [Bool.and_false, Bool.and_true, Bool.false_and, Bool.true_and] at cq
  ·refine Xc 3 Try.func20 rfl fun n out _ _ => ?_
   simp only [Try.ntmps20, List.length_cons, List.length_nil, List.length_map, List.length_replicate, Xf, Nat.reduceAdd, Nat.reduceSub, List.replicate, List.cons_append, List.nil_append]
   repeat' (first | (with_reducible first | refine Vk fun K hK => ?_ | refine V0 ?_ | refine Vs ?_ | apply And.intro | refine Vq (by kernel_rfl) ?_) | ((with_reducible first | refine gE ?_ | refine gR ?_); simp (maxSteps:=9^7) only [ss, X1, tab, simprocAttr, -List.reduceReplicate, A2, Xha, Xhm, List.map_nil, hE']) | exact Vn | ((with_reducible refine Vz ?_); (first | refine Xp (.inr rfl) rfl rfl rfl (fun _ _ => rfl) ok43 (k := n + 1) (off := 0) rfl (Xb _ (by simp)) (X6 _ (Nat.le_refl _) 1) rfl rfl ?_ | refine Xp (.inr rfl) rfl rfl rfl (fun _ _ => rfl) ok43 (k := m + 1) (off := 0) rfl (Xb _ (by simp)) (X6 _ hm 1) rfl rfl ?_) <;> first | rfl | exact AV.le.rfl _ | (simp only [E1, sl, ti43, List.map_nil, A2, Xha, Xhm, List.map_nil, hE']; done) | rfl | skip) | (refine Pl (cb1) ?_) | (refine Pl (cb2) ?_) | (refine Pl (cq) ?_) | ((with_reducible refine Vg (fun hg => ?_) (fun hg => ?_)) <;> (try simp only [nb] at hg) <;> simp (maxSteps:=9^7) only [ss, X1, tab, simprocAttr, -List.reduceReplicate, hg, A2, Xha, Xhm, List.map_nil, hE']) | (refine hK _ ?_; clear hK K) | refine Vt rfl ?_ | refine Vf rfl ?_ | refine Vi rfl (fun hg => ?_) (fun hg => ?_) | clear hK K)
  ·refine Xc 3 Try.func20 rfl fun n out _ _ => ?_
   simp only [Try.ntmps20, List.length_cons, List.length_nil, List.length_map, List.length_replicate, Xf, Nat.reduceAdd, Nat.reduceSub, List.replicate, List.cons_append, List.nil_append]
   repeat' (first | (with_reducible first | refine Vk fun K hK => ?_ | refine V0 ?_ | refine Vs ?_ | apply And.intro | refine Vq (by kernel_rfl) ?_) | ((with_reducible first | refine gE ?_ | refine gR ?_); simp (maxSteps:=9^7) only [ss, X1, tab, simprocAttr, -List.reduceReplicate, A2, Xha, Xhm, List.map_nil, hE']) | exact Vn | ((with_reducible refine Vz ?_); (first | refine Xp (.inr rfl) rfl rfl rfl (fun _ _ => rfl) ok43 (k := n + 1) (off := 0) rfl (Xb _ (by simp)) (X6 _ (Nat.le_refl _) 1) rfl rfl ?_ | refine Xp (.inr rfl) rfl rfl rfl (fun _ _ => rfl) ok43 (k := m + 1) (off := 0) rfl (Xb _ (by simp)) (X6 _ hm 1) rfl rfl ?_) <;> first | rfl | exact AV.le.rfl _ | (simp only [E1, sl, ti43, List.map_nil, A2, Xha, Xhm, List.map_nil, hE']; done) | rfl | skip) | (refine Pl (cb1) ?_) | (refine Pl (cb2) ?_) | (refine Pl (cq) ?_) | ((with_reducible refine Vg (fun hg => ?_) (fun hg => ?_)) <;> (try simp only [nb] at hg) <;> simp (maxSteps:=9^7) only [ss, X1, tab, simprocAttr, -List.reduceReplicate, hg, A2, Xha, Xhm, List.map_nil, hE']) | (refine hK _ ?_; clear hK K) | refine Vt rfl ?_ | refine Vf rfl ?_ | refine Vi rfl (fun hg => ?_) (fun hg => ?_) | clear hK K)
  ·refine Xc 3 Try.func20 rfl fun n out _ _ => ?_
   simp only [Try.ntmps20, List.length_cons, List.length_nil, List.length_map, List.length_replicate, Xf, Nat.reduceAdd, Nat.reduceSub, List.replicate, List.cons_append, List.nil_append]
   repeat' (first | (with_reducible first | refine Vk fun K hK => ?_ | refine V0 ?_ | refine Vs ?_ | apply And.intro | refine Vq (by kernel_rfl) ?_) | ((with_reducible first | refine gE ?_ | refine gR ?_); simp (maxSteps:=9^7) only [ss, X1, tab, simprocAttr, -List.reduceReplicate, A2, Xha, Xhm, List.map_nil, hE']) | exact Vn | ((with_reducible refine Vz ?_); (first | refine Xp (.inr rfl) rfl rfl rfl (fun _ _ => rfl) ok43 (k := n + 1) (off := 0) rfl (Xb _ (by simp)) (X6 _ (Nat.le_refl _) 1) rfl rfl ?_ | refine Xp (.inr rfl) rfl rfl rfl (fun _ _ => rfl) ok43 (k := m + 1) (off := 0) rfl (Xb _ (by simp)) (X6 _ hm 1) rfl rfl ?_) <;> first | rfl | exact AV.le.rfl _ | (simp only [E1, sl, ti43, List.map_nil, A2, Xha, Xhm, List.map_nil, hE']; done) | rfl | skip) | (refine Pl (cb1) ?_) | (refine Pl (cb2) ?_) | (refine Pl (cq) ?_) | ((with_reducible refine Vg (fun hg => ?_) (fun hg => ?_)) <;> (try simp only [nb] at hg) <;> simp (maxSteps:=9^7) only [ss, X1, tab, simprocAttr, -List.reduceReplicate, hg, A2, Xha, Xhm, List.map_nil, hE']) | (refine hK _ ?_; clear hK K) | refine Vt rfl ?_ | refine Vf rfl ?_ | refine Vi rfl (fun hg => ?_) (fun hg => ?_) | clear hK K)
  ·refine Xc 3 Try.func20 rfl fun n out _ _ => ?_
   simp only [Try.ntmps20, List.length_cons, List.length_nil, List.length_map, List.length_replicate, Xf, Nat.reduceAdd, Nat.reduceSub, List.replicate, List.cons_append, List.nil_append]
   repeat' (first | (with_reducible first | refine Vk fun K hK => ?_ | refine V0 ?_ | refine Vs ?_ | apply And.intro | refine Vq (by kernel_rfl) ?_) | ((with_reducible first | refine gE ?_ | refine gR ?_); simp (maxSteps:=9^7) only [ss, X1, tab, simprocAttr, -List.reduceReplicate, A2, Xha, Xhm, List.map_nil, hE']) | exact Vn | ((with_reducible refine Vz ?_); (first | refine Xp (.inr rfl) rfl rfl rfl (fun _ _ => rfl) ok43 (k := n + 1) (off := 0) rfl (Xb _ (by simp)) (X6 _ (Nat.le_refl _) 1) rfl rfl ?_ | refine Xp (.inr rfl) rfl rfl rfl (fun _ _ => rfl) ok43 (k := m + 1) (off := 0) rfl (Xb _ (by simp)) (X6 _ hm 1) rfl rfl ?_) <;> first | rfl | exact AV.le.rfl _ | (simp only [E1, sl, ti43, List.map_nil, A2, Xha, Xhm, List.map_nil, hE']; done) | rfl | skip) | (refine Pl (cb1) ?_) | (refine Pl (cb2) ?_) | (refine Pl (cq) ?_) | ((with_reducible refine Vg (fun hg => ?_) (fun hg => ?_)) <;> (try simp only [nb] at hg) <;> simp (maxSteps:=9^7) only [ss, X1, tab, simprocAttr, -List.reduceReplicate, hg, A2, Xha, Xhm, List.map_nil, hE']) | (refine hK _ ?_; clear hK K) | refine Vt rfl ?_ | refine Vf rfl ?_ | refine Vi rfl (fun hg => ?_) (fun hg => ?_) | clear hK K)
end Go.Proofs.Ytjgbbjooeibppaa
