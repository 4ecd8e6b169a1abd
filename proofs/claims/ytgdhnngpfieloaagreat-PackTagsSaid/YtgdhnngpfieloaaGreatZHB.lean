/- The layer of abstract values, joined: HB. -/
import Derived.Test.YtgdhnngpfieloaaGreatZGA
import Derived.Test.YtgdhnngpfieloaaGreatZHA
section
namespace Go.Proofs.YtgdhnngpfieloaaGreat.Hm
set_option linter.unusedVariables false
set_option linter.unusedSimpArgs false
open Go Go.VS Tab
set_option maxHeartbeats 1000000
theorem Xe3 (k : Nat) (l : List UInt8) (x : BitVec 64) (m : Nat) (hl : l.length ≤ 100000000) (hm : 1 ≤ m) (hm8 : m ≤ 8) :
  Xr Tryz.prog 76 [.sl 1 (Xo l) (.own k), w64 x, i64 (m : Int)] [(k, some (.row 5 1 l.length))] (.sl 1 (Xo (l ++ be x m)) (.own k)) [(k, .row 5 1 (l.length + m))] := by
 refine Xc 0 Tryz.func76 rfl fun n out _ _ => ?_
 simp only [Tryz.ntmps76, List.length_cons, List.length_nil, List.length_map, List.length_replicate, Xf, Nat.reduceAdd, Nat.reduceSub, List.replicate, List.cons_append, List.nil_append]
 rename_i hneeds hg
 obtain ⟨hk, _⟩ := hneeds
 obtain ⟨hkn, _⟩ := hg
 refine X9 fun K hK => Xn Xj [] ?_
 simp (maxSteps:=9^7) only [ss, X1, tab, reduceCtorEq, reduceIte, Nat.reduceEqDiff, Nat.reduceBEq, Int.reduceLE, Int.reduceToNat, Nat.reduceAdd, Nat.reduceLT, Nat.reduceLeDiff]
 (refine hK _ ?_; clear hK K)
 refine X9 fun KB hKB => ?_
 refine X9 fun K hK => Xn Xj [] ?_
 simp (maxSteps:=9^7) only [ss, X1, tab, reduceCtorEq, reduceIte, Nat.reduceEqDiff, Nat.reduceBEq, Int.reduceLE, Int.reduceToNat, Nat.reduceAdd, Nat.reduceLT, Nat.reduceLeDiff]
 (refine hK _ ?_; clear hK K)
 refine Xe ?_
 refine Xai (fun c : Nat => [(0, .sl 1 (Xo (l ++ (be x m).take c)) (.own k)), (7, i64 ((m : Int) - 1 - c)), (10, .top), (11, .top), (12, .top), (13, .top), (14, .top), (15, .top), (16, .top), (17, .top), (18, .top), (19, .top), (20, .top), (21, .top)]) (fun _ => []) (fun c => Xw out k (.row 5 1 (l.length + c))) (fun c => c ≤ m) (fun c => m - c) 0 (by omega) ?_ rfl (Qb hk) fun c hc => ?_
 ·have e : IntKind.i64.wrap ((m : Int) - 1) = (m : Int) - 1 - (0 : Nat) := by rw [wrap_i64] <;> omega
  simp only [X4, s_0, s_s, X18, X4a, Co, Fe, Py, J1, true_and, and_true, List.take_zero, List.append_nil, e]
 simp only [X4, s_0, s_s]
 refine X9 fun KC hKC => ?_
 refine X9 fun K hK => Xn Xj [] ?_
 simp (maxSteps:=9^7) only [ss, X1, tab, reduceCtorEq, reduceIte, Nat.reduceEqDiff, Nat.reduceBEq, Int.reduceLE, Int.reduceToNat, Nat.reduceAdd, Nat.reduceLT, Nat.reduceLeDiff]
 (refine hK _ ?_; clear hK K)
 refine Uz rfl (fun ht => Z1 (hKC _ ?_)) (fun hf => Qi (id ?_))
 rotate_left
 ·simp only [Qd, Z4, if_true]
  refine hKB _ ?_
  clear hKB KB hKC KC
  have hcm : c = m := by have := of_decide_eq_false hf; omega
  subst hcm
  refine X9 fun K hK => Xn Xj [] ?_
  simp (maxSteps:=9^7) only [ss, X1, tab, reduceCtorEq, reduceIte, Nat.reduceEqDiff, Nat.reduceBEq, Int.reduceLE, Int.reduceToNat, Nat.reduceAdd, Nat.reduceLT, Nat.reduceLeDiff]
  (refine hK _ ?_; clear hK K)
  refine Yd ?_
  have e2 : (be x c).take c = be x c := List.take_of_length_le (by rw [Xaq]; omega)
  rw [e2]
  exact Qv (.inr rfl) rfl rfl rfl (fun _ _ => rfl) rfl
 clear hKC KC
 refine X9 fun KC hKC => Xe ?_
 have hc2 : c < m := by have := of_decide_eq_true ht; omega
 have e1 : IntKind.i64.wrap (8 * ((m : Int) - 1 - c)) = ((8 * (m - 1 - c) : Nat) : Int) := by rw [wrap_i64] <;> omega
 have e2 : ((l ++ (be x m).take c).length) = l.length + c := by simp [Xaq]; omega
 have e3 : l.length + c + 1 ≤ 140737488355328 := by omega
 have e4 : l.length + c + 1 ≤ 9223372036854775807 := by omega
 refine Xn Xj [] ?_
 simp (maxSteps:=9^7) only [ss, X1, tab, reduceCtorEq, reduceIte, Nat.reduceEqDiff, Nat.reduceBEq, Int.reduceLE, Int.reduceToNat, Nat.reduceAdd, Nat.reduceLT, Nat.reduceLeDiff, e1, X3y x (b := ((8 * (m - 1 - c) : Nat) : Int)) (by omega), Xda, X8 hkn, X7 hkn, Cz hkn, Xt, Jp, X5, e2, e3, e4, Xah]
 refine hKC _ ?_
 clear hKC KC
 refine Xn Xj [] ?_
 simp (maxSteps:=9^7) only [ss, X1, tab, reduceCtorEq, reduceIte, Nat.reduceEqDiff, Nat.reduceBEq, Int.reduceLE, Int.reduceToNat, Nat.reduceAdd, Nat.reduceLT, Nat.reduceLeDiff]
 refine ⟨c + 1, by omega, by omega, ?_⟩
 have e5 : IntKind.i64.wrap ((m : Int) - 1 - c - 1) = (m : Int) - 1 - ((c + 1 : Nat) : Int) := by rw [wrap_i64] <;> omega
 rw [e5, List.append_assoc, ← Xdx x m c hc2]
 refine X2 ?_ ?_ rfl rfl rfl rfl <;> simp only [X4, sl]
theorem Xds (k : Nat) (l : List UInt8) (hl : l.length ≤ 100000000) :
  Xr Tryz.prog 105 [.sl 1 (Xo l) .sh] [(k, none)] (.sl 1 (Xo l) (.own k)) [(k, .row 5 1 l.length)] := by
 refine Xbz (fun h => ?_) ?_
 ·have h0 : l = [] := by simpa [Xo] using h
  subst h0
  rw [Wb]
  refine Xc 0 Tryz.func105 rfl fun n out _ _ => ?_
  simp only [Tryz.ntmps105, List.length_cons, List.length_nil, List.length_map, List.length_replicate, Xf, Nat.reduceAdd, Nat.reduceSub, List.replicate, List.cons_append, List.nil_append]
  rename_i hneeds hg
  obtain ⟨hk, _⟩ := hneeds
  obtain ⟨hkn, _⟩ := hg
  refine X9 fun K hK => Xn Xj [] ?_
  simp (maxSteps:=9^7) only [ss, X1, tab, reduceCtorEq, reduceIte, Nat.reduceEqDiff, Nat.reduceBEq, Int.reduceLE, Int.reduceToNat, Nat.reduceAdd, Nat.reduceLT, Nat.reduceLeDiff]
  (refine hK _ ?_; clear hK K)
  refine X9 fun KB hKB => ?_
  refine X9 fun K hK => Xn Xj [] ?_
  simp (maxSteps:=9^7) only [ss, X1, tab, reduceCtorEq, reduceIte, Nat.reduceEqDiff, Nat.reduceBEq, Int.reduceLE, Int.reduceToNat, Nat.reduceAdd, Nat.reduceLT, Nat.reduceLeDiff]
  (refine hK _ ?_; clear hK K)
  refine Wm rfl ?_
  refine Yy (X3x (k := k) 5 1 (by rw [X7 hkn]; trivial) (by rw [X8 hkn]; exact hk)) ?_
  rw [X79 hkn]
  refine X9 fun K hK => Xn Xj [] ?_
  simp (maxSteps:=9^7) only [ss, X1, tab, reduceCtorEq, reduceIte, Nat.reduceEqDiff, Nat.reduceBEq, Int.reduceLE, Int.reduceToNat, Nat.reduceAdd, Nat.reduceLT, Nat.reduceLeDiff]
  (refine hK _ ?_; clear hK K)
  refine Yd ?_
  exact Xv (.inr rfl) rfl rfl rfl (fun _ _ => rfl) ((Nz _ _ _).2 trivial) rfl
 ·refine Xc 0 Tryz.func105 rfl fun n out _ _ => ?_
  simp only [Tryz.ntmps105, List.length_cons, List.length_nil, List.length_map, List.length_replicate, Xf, Nat.reduceAdd, Nat.reduceSub, List.replicate, List.cons_append, List.nil_append]
  rename_i hneeds hg
  obtain ⟨hk, _⟩ := hneeds
  obtain ⟨hkn, _⟩ := hg
  refine X9 fun K hK => Xn Xj [] ?_
  simp (maxSteps:=9^7) only [ss, X1, tab, reduceCtorEq, reduceIte, Nat.reduceEqDiff, Nat.reduceBEq, Int.reduceLE, Int.reduceToNat, Nat.reduceAdd, Nat.reduceLT, Nat.reduceLeDiff]
  (refine hK _ ?_; clear hK K)
  refine X9 fun KB hKB => ?_
  refine X9 fun K hK => Xn Xj [] ?_
  simp (maxSteps:=9^7) only [ss, X1, tab, reduceCtorEq, reduceIte, Nat.reduceEqDiff, Nat.reduceBEq, Int.reduceLE, Int.reduceToNat, Nat.reduceAdd, Nat.reduceLT, Nat.reduceLeDiff]
  (refine hK _ ?_; clear hK K)
  refine Uy rfl (Z1 (hKB _ ?_))
  clear hKB KB
  by_cases hl0 : l = []
  ·subst hl0
   refine X9 fun K hK => Xn Xj [] ?_
   simp (maxSteps:=9^7) only [ss, X1, tab, reduceCtorEq, reduceIte, Nat.reduceEqDiff, Nat.reduceBEq, Int.reduceLE, Int.reduceToNat, Nat.reduceAdd, Nat.reduceLT, Nat.reduceLeDiff, Wb]
   (refine hK _ ?_; clear hK K)
   refine Yy (X3x (k := k) 5 1 (by rw [X7 hkn]; trivial) (by rw [X8 hkn]; exact hk)) ?_
   rw [X79 hkn]
   refine Yy (Xd8 (k := k) (t := 2) (sz := 1) (e := 5) (md := .full) (by rw [X7 hkn]; trivial) (by rw [X8 hkn]; exact Xt _ _ _) rfl (.inr rfl)) ?_
   refine Yd ?_
   exact Qv (.inr rfl) rfl rfl rfl (fun _ _ => rfl) rfl
  ·have hne : Xo l ≠ [] := by intro h; exact hl0 (by simpa [Xo] using h)
   have e3 : l.length ≤ 140737488355328 := by omega
   have e4 : l.length ≤ 9223372036854775807 := by omega
   refine X9 fun K hK => Xn Xj [(7, some k)] ?_
   simp (maxSteps:=9^7) only [ss, X1, tab, reduceCtorEq, reduceIte, Nat.reduceEqDiff, Nat.reduceBEq, Int.reduceLE, Int.reduceToNat, Nat.reduceAdd, Nat.reduceLT, Nat.reduceLeDiff, X5, e3, e4, hne, ne_eq, not_false_eq_true, X8 hkn, X7 hkn, Cz hkn, hk]
   (refine hK _ ?_; clear hK K)
   refine Yd ?_
   exact Qv (.inr rfl) rfl rfl rfl (fun _ _ => rfl) rfl
def pad (n : Nat) : Nat := (119 - n % 64) % 64
def Xa4 (l : List UInt8) : List UInt8 := l ++ [128] ++ List.replicate (pad l.length) 0 ++ be (BitVec.ofNat 64 (8 * l.length)) 8
theorem Xd3 (l : List UInt8) (hl : l.length ≤ 1000000) :
  Xr Tryz.prog 74 [.sl 1 (Xo l) .sh] [] (.sl 1 (Xo (Xa4 l)) .sh) [] := by
 refine Xc 1 Tryz.func74 rfl fun n out _ _ => ?_
 simp only [Tryz.ntmps74, List.length_cons, List.length_nil, List.length_map, List.length_replicate, Xf, Nat.reduceAdd, Nat.reduceSub, List.replicate, List.cons_append, List.nil_append]
 refine X9 fun K hK => Xn Xj [] ?_
 simp (maxSteps:=9^7) only [ss, X1, tab, reduceCtorEq, reduceIte, Nat.reduceEqDiff, Nat.reduceBEq, Int.reduceLE, Int.reduceToNat, Nat.reduceAdd, Nat.reduceLT, Nat.reduceLeDiff]
 (refine hK _ ?_; clear hK K)
 have e3 : l.length + 1 ≤ 140737488355328 := by omega
 have e4 : l.length + 1 ≤ 9223372036854775807 := by omega
 refine X9 fun K hK => Xn Xj [] ?_
 simp (maxSteps:=9^7) only [ss, X1, tab, reduceCtorEq, reduceIte, Nat.reduceEqDiff, Nat.reduceBEq, Int.reduceLE, Int.reduceToNat, Nat.reduceAdd, Nat.reduceLT, Nat.reduceLeDiff]
 skip
 refine Sb (Xds (n + 0) l (by omega)) (X6 _ (Nat.le_refl _) 0) (Xb _ (by simp)) (by simp) ?_
 simp (maxSteps:=9^7) only [ss, X1, tab, reduceCtorEq, reduceIte, Nat.reduceEqDiff, Nat.reduceBEq, Int.reduceLE, Int.reduceToNat, Nat.reduceAdd, Nat.reduceLT, Nat.reduceLeDiff, X5, e3, e4]
 (refine hK _ ?_; clear hK K)
 have e5 : Xo l ++ [[.val (.int .u8 128)]] = Xo (l ++ [128]) := Xah l 128
 rw [e5]
 refine X9 fun KB hKB => Xe ?_
 refine Xai (fun c : Nat => [(3, .sl 1 (Xo (l ++ [128] ++ List.replicate c 0)) (.own (n + 0))), (8, .top), (9, .top), (10, .top), (11, .top), (12, .top), (13, .top), (14, .top)]) (fun c => [some (.row 5 1 (l.length + 1 + c))]) (fun _ => out) (fun c => c ≤ pad l.length) (fun c => 64 - c) 0 (Nat.zero_le _) ?_ rfl rfl fun c hc => ?_
 ·simp only [X4, s_0, s_s, X18, X4a, Co, Fe, Py, J1, true_and, and_true, List.replicate_zero, List.append_nil]
 have hc64 : pad l.length < 64 := Nat.mod_lt _ (by decide)
 have el : (l ++ [128] ++ List.replicate c 0).length = l.length + 1 + c := by simp; omega
 simp only [X4, s_0, s_s]
 refine X9 fun KC hKC => ?_
 have er : ((l.length + 1 + c : Nat) : Int).tmod 64 = (((l.length + 1 + c) % 64 : Nat) : Int) := by rw [Int.tmod_eq_emod_of_nonneg (by omega)]; omega
 refine X9 fun K hK => Xn Xj [] ?_
 simp (maxSteps:=9^7) only [ss, X1, tab, reduceCtorEq, reduceIte, Nat.reduceEqDiff, Nat.reduceBEq, Int.reduceLE, Int.reduceToNat, Nat.reduceAdd, Nat.reduceLT, Nat.reduceLeDiff, X5a _ _ (b := 64) (by decide), X5, el, er]
 (refine hK _ ?_; clear hK K)
 refine Uz rfl (fun ht => Z1 (hKC _ ?_)) (fun hf => Qi (id ?_))
 rotate_left
 ·simp only [Qd, Z4, if_true]
  refine hKB _ ?_
  clear hKB KB hKC KC
  have hcm : c = pad l.length := by
   have h1 : (((l.length + 1 + c) % 64 : Nat) : Int) = 56 := by simpa using hf
   unfold pad at hc ⊢
   omega
  subst hcm
  have e6 : IntKind.u64.wrap (l.length : Int) = (l.length : Int) := X1m (by omega) (by omega)
  have e7 : IntKind.u64.wrap (8 * (l.length : Int)) = ((BitVec.ofNat 64 (8 * l.length)).toNat : Int) := by
   rw [X1m (by omega) (by omega), BitVec.toNat_ofNat, Nat.mod_eq_of_lt (by omega)]; omega
  refine X9 fun K hK => Xn Xj [] ?_
  simp (maxSteps:=9^7) only [ss, X1, tab, reduceCtorEq, reduceIte, Nat.reduceEqDiff, Nat.reduceBEq, Int.reduceLE, Int.reduceToNat, Nat.reduceAdd, Nat.reduceLT, Nat.reduceLeDiff, X5, e6, e7]
  skip
  refine Sb (Xe3 (n + 0) _ _ 8 (by rw [el]; omega) (by decide) (by decide)) (by rw [el]; exact X6 _ (Nat.le_refl _) 0) (Xb _ (by simp)) (by simp) ?_
  simp (maxSteps:=9^7) only [ss, X1, tab, reduceCtorEq, reduceIte, Nat.reduceEqDiff, Nat.reduceBEq, Int.reduceLE, Int.reduceToNat, Nat.reduceAdd, Nat.reduceLT, Nat.reduceLeDiff]
  (refine hK _ ?_; clear hK K)
  refine Yy (Xb9 (fr' := [.top, .top, .sl 1 (Xo (Xa4 l)) .sh, .top, .top, .top, .top, .top, .top, .top, .top, .top, .top, .top, .top, .top, .top, .top, .top, .top, .top]) ?_) ?_
  ·simp only [X4, s_0, s_s, X18, X4a, Co, Fe, Py, J1, true_and, and_true]
   exact .sh _ _ _
  refine Yd ?_
  exact Qv (.inr rfl) rfl rfl rfl (fun _ _ => rfl) rfl
 clear hKC KC
 have hc2 : c < pad l.length := by
  have h1 : ¬ (((l.length + 1 + c) % 64 : Nat) : Int) = 56 := by simpa using ht
  rcases Nat.lt_or_ge c (pad l.length) with h | h
  ·exact h
  ·have : c = pad l.length := by omega
   subst this
   unfold pad at h1
   omega
 refine Xe ?_
 have e6 : l.length + 1 + c + 1 ≤ 140737488355328 := by omega
 have e7 : l.length + 1 + c + 1 ≤ 9223372036854775807 := by omega
 refine Xn Xj [] ?_
 simp (maxSteps:=9^7) only [ss, X1, tab, reduceCtorEq, reduceIte, Nat.reduceEqDiff, Nat.reduceBEq, Int.reduceLE, Int.reduceToNat, Nat.reduceAdd, Nat.reduceLT, Nat.reduceLeDiff, X5, el, e6, e7]
 refine ⟨c + 1, hc2, by omega, ?_⟩
 have e8 : Xo (l ++ [128] ++ List.replicate c 0) ++ [[.val (.int .u8 0)]] = Xo (l ++ [128] ++ List.replicate (c + 1) 0) := by
  rw [List.replicate_succ', ← List.append_assoc]; exact Xah _ 0
 rw [e8]
 refine X2 ?_ ?_ rfl rfl rfl rfl <;> simp only [X4, sl, show l.length + 1 + (c + 1) = l.length + 1 + c + 1 from rfl]
end Go.Proofs.YtgdhnngpfieloaaGreat.Hm
end
section
namespace Go.Proofs.YtgdhnngpfieloaaGreat.Hm
set_option linter.unusedVariables false
set_option linter.unusedSimpArgs false
open Go Go.VS Tab Sha
set_option maxHeartbeats 1000000
theorem Xdt (els : List (List AV)) (md : Md) (m : Int) (hm : 1 ≤ m) :
  Xr Tryz.prog 73 [.sl 1 els md, i64 m] [] (.fn (.func 104) [.ref [.sl 1 els md], .ref [i64 m]]) [] := by
 refine Xc 2 Tryz.func73 rfl fun n out _ _ => ?_
 simp only [Tryz.ntmps73, List.length_cons, List.length_nil, List.length_map, List.length_replicate, Xf, Nat.reduceAdd, Nat.reduceSub, List.replicate, List.cons_append, List.nil_append]
 refine X9 fun K hK => Xn Xj [] ?_
 simp (maxSteps:=9^7) only [ss, X1, tab, reduceCtorEq, reduceIte, Nat.reduceEqDiff, Nat.reduceBEq, Int.reduceLE, Int.reduceToNat, Nat.reduceAdd, Nat.reduceLT, Nat.reduceLeDiff]
 (refine hK _ ?_; clear hK K)
 refine Yy (Xa9 (i := 0) 1 (e := 22) (cs := [.sl 1 els md]) rfl (by simp)) ?_
 simp only [List.map_cons, List.map_nil, AV.frz, Xcu, Xcv, Nat.add_left_cancel_iff, reduceIte, Nat.reduceEqDiff, s_0, s_s, List.drop_zero]
 refine Yy (Xa9 (i := 1) 1 (e := 3) (cs := [i64 m]) rfl (by simp)) ?_
 simp only [List.map_cons, List.map_nil, AV.frz, Xcu, Xcv, Nat.add_left_cancel_iff, reduceIte, Nat.reduceEqDiff, s_0, s_s, List.drop_zero]
 refine X9 fun KB hKB => ?_
 refine X9 fun K hK => Xn Xj [] ?_
 simp (maxSteps:=9^7) only [ss, X1, tab, reduceCtorEq, reduceIte, Nat.reduceEqDiff, Nat.reduceBEq, Int.reduceLE, Int.reduceToNat, Nat.reduceAdd, Nat.reduceLT, Nat.reduceLeDiff]
 (refine hK _ ?_; clear hK K)
 have hm1 : decide (m < 1) = false := decide_eq_false (by omega)
 rw [hm1]
 refine Uy rfl (Z1 ?_)
 refine hKB _ ?_
 clear hKB KB
 refine X9 fun K hK => Xn Xj [] ?_
 simp (maxSteps:=9^7) only [ss, X1, tab, reduceCtorEq, reduceIte, Nat.reduceEqDiff, Nat.reduceBEq, Int.reduceLE, Int.reduceToNat, Nat.reduceAdd, Nat.reduceLT, Nat.reduceLeDiff]
 (refine hK _ ?_; clear hK K)
 refine Yd ?_
 exact Qv (.inr rfl) rfl rfl rfl (fun _ _ => rfl) rfl
def X7t (b : List UInt8) (m i : Nat) : List UInt8 := (b.drop (m * i)).take m
theorem Xd4 (l kl kh : Nat) (hne : kl ≠ kh) (P0 : Res) (hP : P0 ≠ .dead) (B : Nat → Res) (hB : ∀ i, B i ≠ .dead) (b : List UInt8) (md : Md) (hb : b.length ≤ 1000000) (m cnt : Nat) (hm : 1 ≤ m) (hm2 : m ≤ 1000000)
  (hcnt : b.length ≤ m * cnt) (hcnt2 : ∀ i, i < cnt → m * i < b.length)
  (hy : ∀ i, i < cnt → X6t Tryz.prog l [.sl 1 (Xo (X7t b m i)) .full] [(kl, some P0), (kh, some (B i))] (.val (.bool true)) [(kh, B (i + 1))]) :
  Xr Tryz.prog 104 [.fn (.yield l) [], .ref [.sl 1 (Xo b) md], .ref [i64 (m : Int)]] [(kl, some P0), (kh, some (B 0))] (.tup []) [(kh, B cnt)] := by
 refine Kz 0 Tryz.func104 rfl fun n out _ _ _ => ?_
 simp only [Tryz.ntmps104, List.length_cons, List.length_nil, List.length_map, List.length_replicate, Xf, Nat.reduceAdd, Nat.reduceSub, List.replicate, List.cons_append, List.nil_append]
 rename_i hneeds hg hz
 obtain ⟨hkl, hk, _⟩ := hneeds
 obtain ⟨hkn, _⟩ := hg
 refine X9 fun K hK => Xn Xj [] ?_
 simp (maxSteps:=9^7) only [ss, X1, tab, reduceCtorEq, reduceIte, Nat.reduceEqDiff, Nat.reduceBEq, Int.reduceLE, Int.reduceToNat, Nat.reduceAdd, Nat.reduceLT, Nat.reduceLeDiff]
 (refine hK _ ?_; clear hK K)
 refine Xe ?_
 refine Xai (fun c : Nat => [(4, i64 ((m * c : Nat) : Int)), (5, .top), (6, .top), (7, .top), (8, .top), (9, .top), (10, .top), (11, .top), (12, .top), (13, .top), (14, .top), (15, .top), (16, .top), (17, .top), (18, .top), (19, .top), (20, .top), (21, .top), (22, .top), (23, .top), (24, .top), (25, .top), (26, .top), (27, .top), (28, .top), (29, .top), (30, .top)]) (fun _ => []) (fun c => Xw out kh (B c)) (fun c => c ≤ cnt) (fun c => cnt - c) 0 (Nat.zero_le _) ?_ rfl (Qb hk) fun c hc => ?_
 ·simp only [X4, s_0, s_s, X18, X4a, Co, Fe, Py, J1, true_and, and_true, Nat.mul_zero, Int.natCast_zero]
 simp only [X4, s_0, s_s]
 refine X9 fun KC hKC => ?_
 refine X9 fun K hK => Xn Xj [] ?_
 simp (maxSteps:=9^7) only [ss, X1, tab, reduceCtorEq, reduceIte, Nat.reduceEqDiff, Nat.reduceBEq, Int.reduceLE, Int.reduceToNat, Nat.reduceAdd, Nat.reduceLT, Nat.reduceLeDiff, X5]
 (refine hK _ ?_; clear hK K)
 refine Uz rfl (fun ht => Z1 (hKC _ ?_)) (fun hf => Qi (id ?_))
 rotate_left
 ·simp only [Qd, Z4, if_true]
  have hcc : c = cnt := by
   have h1 := of_decide_eq_false hf
   rcases Nat.lt_or_ge c cnt with h | h
   ·have := hcnt2 c h; omega
   ·omega
  subst hcc
  exact Xy (.inl rfl) rfl rfl rfl (fun _ _ => rfl)
 clear hKC KC
 have h1 : m * c < b.length := by have := of_decide_eq_true ht; omega
 have hcc : c < cnt := by
  rcases Nat.lt_or_ge c cnt with h | h
  ·exact h
  ·have : c = cnt := by omega
   subst this; omega
 refine X9 fun KC hKC => Xe ?_
 have hkln : kl < n := by
  rcases Nat.lt_or_ge kl n with h | h
  ·exact h
  ·rw [hz kl h] at hkl; cases hkl
 obtain ⟨q, hq⟩ : ∃ q, q = min m (b.length - m * c) := ⟨_, rfl⟩
 have e1 : (List.take (b.length - m * c) (List.drop (m * c) (Xo b))).length = b.length - m * c := by simp [Xo]
 have e2 : (if b.length - m * c < m then ((b.length - m * c : Nat) : Int) else (m : Int)) = (q : Int) := by rw [hq]; split <;> omega
 have e3 : (b.drop (m * c)).take q = X7t b m c := by
  rw [hq, X7t]
  apply List.ext_getElem?
  intro i
  simp only [List.getElem?_take, List.getElem?_drop]
  by_cases h : i < min m (b.length - m * c)
  ·rw [if_pos h, if_pos (by omega)]
  ·rw [if_neg h]
   split
   ·rw [List.getElem?_eq_none (by omega)]
   ·rfl
 have e4 : m * c ≤ m * c + q := by omega
 have e5 : m * c + q ≤ b.length := by omega
 refine X9 fun K hK => Tn Xj follows (by kernel_rfl) ?_
 simp (maxSteps:=9^7) only [ss, X1, tab, reduceCtorEq, reduceIte, Nat.reduceEqDiff, Nat.reduceBEq, Int.reduceLE, Int.reduceToNat, Nat.reduceAdd, Nat.reduceLT, Nat.reduceLeDiff, X5, P6, Nh, Nat.le_of_lt h1, e1, e2]
 (refine hK _ ?_; clear hK K)
 refine X9 fun K hK => Xn Xj [] ?_
 simp (maxSteps:=9^7) only [ss, X1, tab, reduceCtorEq, reduceIte, Nat.reduceEqDiff, Nat.reduceBEq, Int.reduceLE, Int.reduceToNat, Nat.reduceAdd, Nat.reduceLT, Nat.reduceLeDiff, X5, P6, Nh, Yl (n := m * c) (q : Int) q rfl (by omega), e4, e5, Nat.add_sub_cancel_left, Q1, Q2, e3]
 skip
 refine X6i (hy c hcc) ⟨?_, ?_, trivial⟩ ⟨?_, trivial⟩ ?_ ?_
 ·rw [X8 hkln, Zp _ _ hne]; exact hkl
 ·rw [X8 hkn]; exact Xt _ _ _
 ·rw [X7 hkn]; trivial
 ·intro x hx
  simp only [List.mem_cons, List.not_mem_nil, or_false] at hx
  rcases hx with rfl | rfl
  ·exact ⟨by rw [X7 hkln]; trivial, by simpa using hP⟩
  ·exact ⟨by rw [X7 hkn]; trivial, by simpa using hB c⟩
 simp (maxSteps:=9^7) only [ss, X1, tab, reduceCtorEq, reduceIte, Nat.reduceEqDiff, Nat.reduceBEq, Int.reduceLE, Int.reduceToNat, Nat.reduceAdd, Nat.reduceLT, Nat.reduceLeDiff, Cz hkn, Jp, Bool.not_true]
 (refine hK _ ?_; clear hK K)
 refine Uy rfl (Z1 ?_)
 simp only [Qd, Z4]
 refine hKC _ ?_
 clear hKC KC
 have e6 : IntKind.i64.wrap (((m * c : Nat) : Int) + (m : Int)) = ((m * (c + 1) : Nat) : Int) := by rw [Nat.mul_succ, wrap_i64] <;> omega
 refine Xn Xj [] ?_
 simp (maxSteps:=9^7) only [ss, X1, tab, reduceCtorEq, reduceIte, Nat.reduceEqDiff, Nat.reduceBEq, Int.reduceLE, Int.reduceToNat, Nat.reduceAdd, Nat.reduceLT, Nat.reduceLeDiff, e6]
 refine ⟨c + 1, by omega, by omega, ?_⟩
 refine X2 ?_ ?_ rfl rfl rfl rfl <;> simp only [X4, sl]
end Go.Proofs.YtgdhnngpfieloaaGreat.Hm
end
section
namespace Go.Proofs.YtgdhnngpfieloaaGreat.Hm
set_option linter.unusedVariables false
set_option linter.unusedSimpArgs false
open Go Go.VS Tab Sha
set_option maxHeartbeats 1000000
theorem Xb2 (l : List UInt8) : (Xa4 l).length = 64 * ((l.length + 72) / 64) := by
 simp [Xa4, Xaq, pad]; omega
def hs (b : List UInt8) : Nat → V8
 | 0 => X5e
 | i + 1 => block (hs b i) (X7t b 64 i)
def Xcj (v : V8) : List UInt8 := v.list.flatMap fun w => be (w.setWidth 64) 4
def Xb7 (l : List UInt8) : List UInt8 := Xcj (hs (Xa4 l) ((l.length + 72) / 64))
def dg (v : V8) (i : Nat) : List UInt8 := (v.list.take i).flatMap fun w => be (w.setWidth 64) 4
theorem Xck (v : V8) (i : Nat) (h : i < 8) : dg v (i + 1) = dg v i ++ be ((v.list.getD i 0).setWidth 64) 4 := by
 have hl : i < v.list.length := h
 rw [dg, dg, List.take_succ_eq_append_getElem hl, List.flatMap_append, List.getD_eq_getElem?_getD, List.getElem?_eq_getElem hl]
 simp
theorem Xao (v : V8) : ∀ i, i ≤ 8 → (dg v i).length = 4 * i
 | 0, _ => rfl
 | i + 1, h => by rw [Xck v i (by omega), List.length_append, Xao v i (by omega), Xaq]; omega
theorem Xee (l : List UInt8) (hl : l.length ≤ 900000) :
  Xr Tryz.prog 24 [.sl 1 (Xo l) .sh] [] (.agg ((Xb7 l).map b8)) [] := by
 refine Ph 5 Tryz.func24 rfl fun n out _ _ => ?_
 simp only [Tryz.ntmps24, List.length_cons, List.length_nil, List.length_map, List.length_replicate, Xf, Nat.reduceAdd, Nat.reduceSub, List.replicate, List.cons_append, List.nil_append]
 refine V4 fun K hK => AWp.zero (Xn Xj [] ?_)
 simp (maxSteps:=9^7) only [ss, X1, tab, reduceCtorEq, reduceIte, Nat.reduceEqDiff, Nat.reduceBEq, Int.reduceLE, Int.reduceToNat, Nat.reduceAdd, Nat.reduceLT, Nat.reduceLeDiff]
 (refine hK _ ?_; clear hK K)
 refine V4 fun K hK => AWp.zero (Xn Xj [] ?_)
 simp (maxSteps:=9^7) only [ss, X1, tab, reduceCtorEq, reduceIte, Nat.reduceEqDiff, Nat.reduceBEq, Int.reduceLE, Int.reduceToNat, Nat.reduceAdd, Nat.reduceLT, Nat.reduceLeDiff]
 skip
 refine X3 Xdp ?_
 simp (maxSteps:=9^7) only [ss, X1, tab, reduceCtorEq, reduceIte, Nat.reduceEqDiff, Nat.reduceBEq, Int.reduceLE, Int.reduceToNat, Nat.reduceAdd, Nat.reduceLT, Nat.reduceLeDiff, X0, Xaf]
 (refine hK _ ?_; clear hK K)
 refine V4 fun KB hKB => ?_
 refine V4 fun K hK => AWp.zero (Xn Xj [] ?_)
 simp (maxSteps:=9^7) only [ss, X1, tab, reduceCtorEq, reduceIte, Nat.reduceEqDiff, Nat.reduceBEq, Int.reduceLE, Int.reduceToNat, Nat.reduceAdd, Nat.reduceLT, Nat.reduceLeDiff]
 skip
 refine X3 (Xd3 l (by omega)) ?_
 simp (maxSteps:=9^7) only [ss, X1, tab, reduceCtorEq, reduceIte, Nat.reduceEqDiff, Nat.reduceBEq, Int.reduceLE, Int.reduceToNat, Nat.reduceAdd, Nat.reduceLT, Nat.reduceLeDiff]
 refine X3 (Xdt _ .sh 64 (by decide)) ?_
 simp (maxSteps:=9^7) only [ss, X1, tab, reduceCtorEq, reduceIte, Nat.reduceEqDiff, Nat.reduceBEq, Int.reduceLE, Int.reduceToNat, Nat.reduceAdd, Nat.reduceLT, Nat.reduceLeDiff]
 (refine hK _ ?_; clear hK K)
 obtain ⟨cnt, hcnt⟩ : ∃ cnt, cnt = (l.length + 72) / 64 := ⟨_, rfl⟩
 have hfl : (Xa4 l).length = 64 * cnt := by rw [Xb2, hcnt]
 have hcb : 64 * cnt ≤ 1000000 := by omega
 refine Fp (Fq (r := .tup []) (gf := 104) (caps := [.ref [.sl 1 (Xo (Xa4 l)) .sh], .ref [i64 64]]) 2 3 Tryz.func104 (by kernel_rfl) (by kernel_rfl) rfl (by decide) rfl rfl ?_)
 intro D lp rec F hF h1 h2 h3 h4 h5
 refine ⟨_, _, Xd4 lp (n + 3) (n + 1) (by omega) (.pin lp (.loop rec) F) (by simp) (fun i => .box 123 ((hs (Xa4 l) i).list.map w32)) (by simp) (Xa4 l) .sh (by omega) 64 cnt (by decide) (by decide) (by omega) (fun i hi => by omega) (fun i hi => B0 (fr := F) (fr1 := (F.set 12 (.sl 1 (Xo (X7t (Xa4 l) 64 i)) .full)).set 4 (.sl 1 (Xo (X7t (Xa4 l) 64 i)) .full)) (ps := [12]) 0 h1 h2 h3 h4 h5 rfl (by simp) (by simp) ?_ ?_), ?_, ?_, ?_, ?_, ?_⟩
 ·intro n' out'
  subst hF
  simp only [List.zip_cons_cons, List.zip_nil_left, List.zip_nil_right, setAll, s_0, s_s]
  refine Xn Xj [] ?_
  simp (maxSteps:=9^7) only [ss, X1, tab, reduceCtorEq, reduceIte, Nat.reduceEqDiff, Nat.reduceBEq, Int.reduceLE, Int.reduceToNat, Nat.reduceAdd, Nat.reduceLT, Nat.reduceLeDiff]
 ·intro n' out' hh hg
  obtain ⟨hk, _⟩ := hh
  obtain ⟨hkn, _⟩ := hg
  have hpl : (X7t (Xa4 l) 64 i).length = 64 := by simp [X7t]; omega
  refine Xe ?_
  subst hF
  simp only [List.replicate, s_0, s_s]
  have hv8 : ∀ v : V8, v.list.length = 8 := fun _ => rfl
  refine Xc0 Xj [] 5 [0, 3] follows (by kernel_rfl) (by kernel_rfl) ?_
  simp (maxSteps:=9^7) only [ss, X1, tab, reduceCtorEq, reduceIte, Nat.reduceEqDiff, Nat.reduceBEq, Int.reduceLE, Int.reduceToNat, Nat.reduceAdd, Nat.reduceLT, Nat.reduceLeDiff, X8 hkn, X7 hkn, hk, E6, hv8, Xa7, X5, hpl]
  refine X3 (Xdr _ _ hpl) ?_
  simp (maxSteps:=9^7) only [ss, X1, tab, reduceCtorEq, reduceIte, Nat.reduceEqDiff, Nat.reduceBEq, Int.reduceLE, Int.reduceToNat, Nat.reduceAdd, Nat.reduceLT, Nat.reduceLeDiff, X8 hkn, X7 hkn, Xdy hkn, hk, hv8, X0]
  exact fun _ _ => rfl
 ·subst hF
  simp only [holds, s_0, s_s, X2a, List.getElem?_cons_zero, List.getElem?_cons_succ, Option.join_some, and_true, true_and]
  rfl
 ·exact ⟨Xb _ (by simp), trivial⟩
 ·intro x hx
  simp only [List.mem_cons, List.not_mem_nil, or_false] at hx
  rcases hx with rfl | rfl
  ·exact Xb _ (by simp)
  ·exact Xb _ (by simp)
 ·intro x hx
  simp only [List.mem_cons, List.not_mem_nil, or_false] at hx
  subst hx
  show n + 1 ≠ n + 3
  omega
 simp only [Qd, Z4, s_0, s_s, Xeb]
 refine hKB _ ?_
 clear hKB KB
 refine AWp.zero ?_
 obtain ⟨V, hV⟩ : ∃ V, V = hs (Xa4 l) cnt := ⟨_, rfl⟩
 rw [← hV]
 have hv8 : V.list.length = 8 := rfl
 refine X9 fun K hK => Xn Xj [] ?_
 simp (maxSteps:=9^7) only [ss, X1, tab, reduceCtorEq, reduceIte, Nat.reduceEqDiff, Nat.reduceBEq, Int.reduceLE, Int.reduceToNat, Nat.reduceAdd, Nat.reduceLT, Nat.reduceLeDiff]
 (refine hK _ ?_; clear hK K)
 refine Yy (Q9 (i := 4) 5 1 rfl) ?_
 simp only [s_0, s_s]
 refine X9 fun KB hKB => ?_
 refine X9 fun K hK => Xn Xj [] ?_
 simp (maxSteps:=9^7) only [ss, X1, tab, reduceCtorEq, reduceIte, Nat.reduceEqDiff, Nat.reduceBEq, Int.reduceLE, Int.reduceToNat, Nat.reduceAdd, Nat.reduceLT, Nat.reduceLeDiff, E6, hv8]
 (refine hK _ ?_; clear hK K)
 refine Xe ?_
 refine X9z (fun i : Nat => [(5, .sl 1 (Xo (dg V i)) (.own (n + 4))), (19, i64 (i : Int)), (7, .top), (20, .top), (21, .top), (22, .top), (23, .top), (24, .top), (25, .top), (26, .top)]) (fun i => [some (.box 47 (List.replicate 32 (.val (.int .u8 0)))), some (.box 123 (V.list.map w32)), some (.pin D (.deferred (some [])) []), some .dead, some (.row 5 1 (4 * i))]) (fun i => i ≤ 8) (fun i => 8 - i) 0 (by omega) ?_ fun i hi => ?_
 ·refine X2 ?_ ?_ rfl rfl rfl rfl <;> simp only [X4, sl]
  exact (Nz _ _ _).2 trivial
 simp only [X4, s_0, s_s]
 refine X9 fun K hK => Xn Xj [] ?_
 simp (maxSteps:=9^7) only [ss, X1, tab, reduceCtorEq, reduceIte, Nat.reduceEqDiff, Nat.reduceBEq, Int.reduceLE, Int.reduceToNat, Nat.reduceAdd, Nat.reduceLT, Nat.reduceLeDiff]
 (refine hK _ ?_; clear hK K)
 refine I0 (Uz rfl (fun ht => Z1 (id ?_)) (fun hf => Qi (id ?_)))
 rotate_left
 ·simp only [Qd, Z4, if_true]
  refine hKB _ ?_
  clear hKB KB
  have hi8 : i = 8 := by have := of_decide_eq_false hf; omega
  subst hi8
  have hd32 : (dg V 8).length = 32 := Xao V 8 (by decide)
  refine X9 fun K hK => Xn Xj [] ?_
  simp (maxSteps:=9^7) only [ss, X1, tab, reduceCtorEq, reduceIte, Nat.reduceEqDiff, Nat.reduceBEq, Int.reduceLE, Int.reduceToNat, Nat.reduceAdd, Nat.reduceLT, Nat.reduceLeDiff, X5, Xa7, hd32, E6, X0]
  (refine hK _ ?_; clear hK K)
  refine Yd ?_
  have e : Xb7 l = dg V 8 := by rw [hV, hcnt]; rfl
  rw [e]
  exact ⟨2, D, rfl, rfl, X1b (.inr rfl) rfl rfl rfl (fun _ _ => rfl) ok47 (k := n + 0) (off := 0) rfl (Xb _ (by simp)) (X6 _ (Nat.le_refl _) 0) (E6 (by simp [hd32]))⟩
 have hi2 : i < 8 := by have := of_decide_eq_true ht; omega
 have hi3 : (i : Int) < 8 := by omega
 refine X9 fun KC hKC => Xe ?_
 refine X9 fun K hK => Xn Xj [] ?_
 simp (maxSteps:=9^7) only [ss, X1, tab, reduceCtorEq, reduceIte, Nat.reduceEqDiff, Nat.reduceBEq, Int.reduceLE, Int.reduceToNat, Nat.reduceAdd, Nat.reduceLT, Nat.reduceLeDiff, nc, hi3, X0z 1 w32 V.list i 0 hi2]
 (refine hK _ ?_; clear hK K)
 refine Xn Xj [] ?_
 simp (maxSteps:=9^7) only [ss, X1, tab, reduceCtorEq, reduceIte, Nat.reduceEqDiff, Nat.reduceBEq, Int.reduceLE, Int.reduceToNat, Nat.reduceAdd, Nat.reduceLT, Nat.reduceLeDiff, Xcs]
 refine Sb (Xe3 (n + 4) _ _ 4 (by rw [Xao V i hi]; omega) (by decide) (by decide)) (by rw [Xao V i hi]; exact X6 _ (Nat.le_refl _) 4) (Xb _ (by simp)) (by simp) ?_
 simp (maxSteps:=9^7) only [ss, X1, tab, reduceCtorEq, reduceIte, Nat.reduceEqDiff, Nat.reduceBEq, Int.reduceLE, Int.reduceToNat, Nat.reduceAdd, Nat.reduceLT, Nat.reduceLeDiff]
 refine hKC _ ?_
 clear hKC KC
 rw [Xao V i hi, ← Xck V i hi2]
 refine Xn Xj [] ?_
 simp (maxSteps:=9^7) only [ss, X1, tab, reduceCtorEq, reduceIte, Nat.reduceEqDiff, Nat.reduceBEq, Int.reduceLE, Int.reduceToNat, Nat.reduceAdd, Nat.reduceLT, Nat.reduceLeDiff, Yl (n := i) 1 1 rfl (by omega)]
 refine ⟨i + 1, by omega, by omega, ?_⟩
 rw [show 4 * i + 4 = 4 * (i + 1) by omega]
 refine X2 ?_ ?_ rfl rfl rfl rfl <;> simp only [X4, sl]
theorem Vc (l : List UInt8) : (Xb7 l).length = 32 := Xao _ 8 (by decide)
end Go.Proofs.YtgdhnngpfieloaaGreat.Hm
end
