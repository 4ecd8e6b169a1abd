/- The layer of abstract values, joined: HE. -/
import Derived.Test.YtgdhnngpfieloaaGreatZGA
import Derived.Test.YtgdhnngpfieloaaGreatZHD
import Derived.Test.YtgdhnngpfieloaaGreatZHB
import Derived.Test.YtgdhnngpfieloaaGreatZHC
section
namespace Go.Proofs.YtgdhnngpfieloaaGreat.Hm
set_option linter.unusedVariables false
set_option linter.unusedSimpArgs false
open Go Go.VS Tab Sha
set_option maxHeartbeats 1000000
def tl (n c : Nat) : List UInt8 := (List.range 8).map fun j => if 8 ≤ j + c then UInt8.ofNat (n / 256 ^ (7 - j)) else 0
theorem Xat (n c : Nat) : (tl n c).length = 8 := rfl
theorem Xdz (n c : Nat) (h : c < 8) : (tl n c).set (7 - c) (UInt8.ofNat (n / 256 ^ c)) = tl n (c + 1) := by
 refine List.ext_getElem (by simp [Xat]) fun i h1 h2 => ?_
 rw [List.getElem_set]
 have h3 : i < 8 := h2
 simp only [tl, List.getElem_map, List.getElem_range]
 split
 ·rename_i he
  rw [if_pos (by omega)]
  have : 7 - i = c := by omega
  rw [this]
 ·rename_i he
  by_cases h8 : 8 ≤ i + c
  ·rw [if_pos h8, if_pos (by omega)]
  ·rw [if_neg h8, if_neg (by omega)]
theorem Xec (n : Nat) (h : n < 2 ^ 64) : tl n 8 = be (BitVec.ofNat 64 n) 8 := by
 have e : ∀ m, UInt8.ofNat ((BitVec.ofNat 64 n) >>> (8 * m)).toNat = UInt8.ofNat (n / 256 ^ m) := fun m => by
  rw [BitVec.toNat_ushiftRight, BitVec.toNat_ofNat, Nat.mod_eq_of_lt h, Nat.shiftRight_eq_div_pow, Nat.pow_mul]
 simp only [be, e]
 rfl
theorem Xcb (l : List UInt8) (md : Md) (hl : l.length ≤ 1000000) :
  Xr Tryz.prog 86 [.sl 1 (Xo l) md] [] (.sl 1 (Xo (Xa4 l)) .sh) [] := by
 refine Xc 2 Tryz.func86 rfl fun n out _ _ => ?_
 simp only [Tryz.ntmps86, List.length_cons, List.length_nil, List.length_map, List.length_replicate, Xf, Nat.reduceAdd, Nat.reduceSub, List.replicate, List.cons_append, List.nil_append]
 refine X9 fun K hK => Xn Xj [] ?_
 simp (maxSteps:=9^7) only [ss, X1, tab, reduceCtorEq, reduceIte, Nat.reduceEqDiff, Nat.reduceBEq, Int.reduceLE, Int.reduceToNat, Nat.reduceAdd, Nat.reduceLT, Nat.reduceLeDiff]
 repeat' (first | (with_reducible refine hK _ ?_; clear hK K) | with_reducible apply And.intro)
 refine X9 fun K hK => Xn Xj [] ?_
 simp (maxSteps:=9^7) only [ss, X1, tab, reduceCtorEq, reduceIte, Nat.reduceEqDiff, Nat.reduceBEq, Int.reduceLE, Int.reduceToNat, Nat.reduceAdd, Nat.reduceLT, Nat.reduceLeDiff]
 repeat' (first | (with_reducible refine hK _ ?_; clear hK K) | with_reducible apply And.intro)
 refine Yy (Q9 (i := 0) 5 1 rfl) ?_
 simp only [s_0, s_s]
 refine Yy (Xbm [(3, .sl 1 [] (.own (n + 0)))] ?_) ?_
 ·simp only [X4, s_0, s_s, X18, X4a, Co, Fe, Py, J1, true_and, and_true, nc, Nz]
  all_goals repeat' (first | exact (Tq _).2 trivial | exact .rfl _ | exact (Nz _ _ _).2 trivial | apply And.intro)
 simp only [X4, s_0, s_s]
 have e1 : l.length ≤ 140737488355328 := by omega
 have e2 : l.length ≤ 9223372036854775807 := by omega
 have e3 : l.length + 1 ≤ 140737488355328 := by omega
 have e4 : l.length + 1 ≤ 9223372036854775807 := by omega
 have e5 : Xo l ++ [[.val (.int .u8 128)]] = Xo (l ++ [128]) := Xah l 128
 refine X9 fun K hK => Xn Xj [] ?_
 simp (maxSteps:=9^7) only [ss, X1, tab, reduceCtorEq, reduceIte, Nat.reduceEqDiff, Nat.reduceBEq, Int.reduceLE, Int.reduceToNat, Nat.reduceAdd, Nat.reduceLT, Nat.reduceLeDiff, X5, e1, e2]
 repeat' (first | (with_reducible refine hK _ ?_; clear hK K) | with_reducible apply And.intro)
 refine X9 fun K hK => Xn Xj [] ?_
 simp (maxSteps:=9^7) only [ss, X1, tab, reduceCtorEq, reduceIte, Nat.reduceEqDiff, Nat.reduceBEq, Int.reduceLE, Int.reduceToNat, Nat.reduceAdd, Nat.reduceLT, Nat.reduceLeDiff, X5, e3, e4, e5]
 repeat' (first | (with_reducible refine hK _ ?_; clear hK K) | with_reducible apply And.intro)
 refine X9 fun KB hKB => Xe ?_
 refine Xai (fun c : Nat => [(3, .sl 1 (Xo (l ++ [128] ++ List.replicate c 0)) (.own (n + 0))), (13, .top), (14, .top), (15, .top), (16, .top), (17, .top), (18, .top), (19, .top)]) (fun c => [some (.row 5 1 (l.length + 1 + c)), none]) (fun _ => out) (fun c => c ≤ pad l.length) (fun c => 64 - c) 0 (Nat.zero_le _) ?_ rfl rfl fun c hc => ?_
 ·simp only [X4, s_0, s_s, X18, X4a, Co, Fe, Py, J1, true_and, and_true, List.replicate_zero, List.append_nil, List.isEmpty_cons, Bool.and_false]
  all_goals repeat' (first | exact (Tq _).2 trivial | exact .rfl _ | exact (Nz _ _ _).2 trivial | apply And.intro)
 have hc64 : pad l.length < 64 := Nat.mod_lt _ (by decide)
 have el : (l ++ [128] ++ List.replicate c 0).length = l.length + 1 + c := by simp; omega
 simp only [X4, s_0, s_s]
 refine X9 fun KC hKC => ?_
 have er : ((l.length + 1 + c : Nat) : Int).tmod 64 = (((l.length + 1 + c) % 64 : Nat) : Int) := by rw [Int.tmod_eq_emod_of_nonneg (by omega)]; omega
 refine X9 fun K hK => Xn Xj [] ?_
 simp (maxSteps:=9^7) only [ss, X1, tab, reduceCtorEq, reduceIte, Nat.reduceEqDiff, Nat.reduceBEq, Int.reduceLE, Int.reduceToNat, Nat.reduceAdd, Nat.reduceLT, Nat.reduceLeDiff, X5a _ _ (b := 64) (by decide), X5, el, er]
 repeat' (first | (with_reducible refine hK _ ?_; clear hK K) | with_reducible apply And.intro)
 refine Uz rfl (fun ht => Z1 (hKC _ ?_)) (fun hf => Qi (id ?_))
 rotate_left
 ·simp only [Qd, Z4, if_true]
  refine hKB _ ?_
  clear hKB KB hKC KC
  have hcm : c = pad l.length := by
   have h1 : (((l.length + 1 + c) % 64 : Nat) : Int) = 56 := by simpa using hf
   unfold pad at hc ⊢
   omega
  subst hcm
  have e7 : IntKind.i64.wrap (8 * (l.length : Int)) = ((8 * l.length : Nat) : Int) := by rw [wrap_i64] <;> omega
  refine X9 fun K hK => Xn Xj [] ?_
  simp (maxSteps:=9^7) only [ss, X1, tab, reduceCtorEq, reduceIte, Nat.reduceEqDiff, Nat.reduceBEq, Int.reduceLE, Int.reduceToNat, Nat.reduceAdd, Nat.reduceLT, Nat.reduceLeDiff, X5, e7]
  repeat' (first | (with_reducible refine hK _ ?_; clear hK K) | with_reducible apply And.intro)
  refine X9 fun K hK => Xn Xj [(23, none)] ?_
  simp (maxSteps:=9^7) only [ss, X1, tab, reduceCtorEq, reduceIte, Nat.reduceEqDiff, Nat.reduceBEq, Int.reduceLE, Int.reduceToNat, Nat.reduceAdd, Nat.reduceLT, Nat.reduceLeDiff]
  repeat' (first | (with_reducible refine hK _ ?_; clear hK K) | with_reducible apply And.intro)
  all_goals try decide
  refine X9 fun KB hKB => ?_
  refine X9 fun K hK => Xn Xj [] ?_
  simp (maxSteps:=9^7) only [ss, X1, tab, reduceCtorEq, reduceIte, Nat.reduceEqDiff, Nat.reduceBEq, Int.reduceLE, Int.reduceToNat, Nat.reduceAdd, Nat.reduceLT, Nat.reduceLeDiff]
  repeat' (first | (with_reducible refine hK _ ?_; clear hK K) | with_reducible apply And.intro)
  refine Xe ?_
  have ez : Y7 [Value.int .u8 0] 8 = (tl (8 * l.length) 0).map b8 := rfl
  rw [ez]
  refine X9z (fun i : Nat => [(4, i64 ((8 * l.length / 256 ^ i : Nat) : Int)), (6, i64 (7 - (i : Int))), (24, .top), (25, .top), (26, .top), (27, .top), (28, .top), (29, .top), (30, .top), (31, .top), (32, .top), (33, .top), (34, .top), (35, .top)]) (fun i => [some (.row 5 1 (l.length + 1 + pad l.length)), some (.box 5 ((tl (8 * l.length) i).map b8))]) (fun i => i ≤ 8) (fun i => 8 - i) 0 (by omega) ?_ fun i hi => ?_
  ·refine X2 ?_ ?_ rfl rfl rfl rfl <;> simp only [X4, sl, Nat.pow_zero, Nat.div_one]
   all_goals repeat' (first | exact (Tq _).2 trivial | exact .rfl _ | exact (Nz _ _ _).2 trivial | apply And.intro)
  simp only [X4, s_0, s_s]
  refine X9 fun KC hKC => ?_
  refine X9 fun K hK => Xn Xj [] ?_
  simp (maxSteps:=9^7) only [ss, X1, tab, reduceCtorEq, reduceIte, Nat.reduceEqDiff, Nat.reduceBEq, Int.reduceLE, Int.reduceToNat, Nat.reduceAdd, Nat.reduceLT, Nat.reduceLeDiff]
  repeat' (first | (with_reducible refine hK _ ?_; clear hK K) | with_reducible apply And.intro)
  refine Uz rfl (fun ht => Z1 (hKC _ ?_)) (fun hf => Qi (id ?_))
  rotate_left
  ·simp only [Qd, Z4, if_true]
   refine hKB _ ?_
   clear hKB KB hKC KC
   have hi8 : i = 8 := by have := of_decide_eq_false hf; omega
   subst hi8
   refine Yy (Xa9 (i := 1) 1 (e := 5) (cs := (tl (8 * l.length) 8).map b8) rfl (by simp [Xat])) ?_
   simp only [List.map_cons, List.map_nil, AV.frz, Xcu, Xcv, s_0, s_s, Nat.add_left_cancel_iff, reduceCtorEq, if_true, if_false, Nat.reduceEqDiff, reduceIte, List.drop_zero]
   rw [Xa1 _ (Xat _ _), Xec _ (by omega)]
   have e8 : l.length + 1 + pad l.length + 8 ≤ 140737488355328 := by omega
   have e9 : l.length + 1 + pad l.length + 8 ≤ 9223372036854775807 := by omega
   refine X9 fun K hK => Xn Xj [] ?_
   simp (maxSteps:=9^7) only [ss, X1, tab, reduceCtorEq, reduceIte, Nat.reduceEqDiff, Nat.reduceBEq, Int.reduceLE, Int.reduceToNat, Nat.reduceAdd, Nat.reduceLT, Nat.reduceLeDiff, X5, Xaq, el, e8, e9, L6]
   repeat' (first | (with_reducible refine hK _ ?_; clear hK K) | with_reducible apply And.intro)
   refine Yy (Xbm [(2, .sl 1 (Xo (Xa4 l)) .sh)] ?_) ?_
   ·simp only [X4, s_0, s_s, X18, X4a, Co, Fe, Py, J1, true_and, and_true, nc, Nz]
    all_goals repeat' (first | exact (Tq _).2 trivial | exact .rfl _ | exact (Nz _ _ _).2 trivial | apply And.intro)
    exact .sh _ _ _
   simp only [X4, s_0, s_s]
   refine Yd ?_
   exact Qv (.inr rfl) rfl rfl rfl (fun _ _ => rfl) rfl
  clear hKC KC
  have hi2 : i < 8 := by have := of_decide_eq_true ht; omega
  refine X9 fun KC hKC => Xe ?_
  have g1 : (7 - (i : Int)) = ((7 - i : Nat) : Int) := by omega
  have g2 : 7 - i < 8 := by omega
  obtain ⟨X, hX⟩ : ∃ X, X = 8 * l.length / 256 ^ i := ⟨_, rfl⟩
  rw [← hX]
  have g3 : ((X : Nat) : Int).tmod 256 = ((X % 256 : Nat) : Int) := by rw [Int.tmod_eq_emod_of_nonneg (by omega)]; omega
  have g4 : IntKind.u8.wrap ((X % 256 : Nat) : Int) = ((UInt8.ofNat X).toNat : Int) := by
   have : (UInt8.ofNat X).toNat = X % 256 := by simp
   rw [this, Se (by omega) (by omega)]
  have g5 : ((X : Nat) : Int).tdiv 256 = ((X / 256 : Nat) : Int) := by rw [Int.tdiv_eq_ediv_of_nonneg (by omega)]; omega
  have g6 : IntKind.i64.wrap ((X / 256 : Nat) : Int) = ((X / 256 : Nat) : Int) := by
   have : X ≤ 8 * l.length := by rw [hX]; exact Nat.div_le_self _ _
   rw [wrap_i64] <;> omega
  have g7 : 7 - i ≤ 7 := by omega
  refine X9 fun K hK => Xn Xj [] ?_
  simp (maxSteps:=9^7) only [ss, X1, tab, reduceCtorEq, reduceIte, Nat.reduceEqDiff, Nat.reduceBEq, Int.reduceLE, Int.reduceToNat, Nat.reduceAdd, Nat.reduceLT, Nat.reduceLeDiff, X5a _ _ (b := 256) (by decide), g1, g2, g3, g4, Xat, g7, Nat.sub_le]
  repeat' (first | (with_reducible refine hK _ ?_; clear hK K) | with_reducible apply And.intro)
  refine Xn Xj [] ?_
  simp (maxSteps:=9^7) only [ss, X1, tab, reduceCtorEq, reduceIte, Nat.reduceEqDiff, Nat.reduceBEq, Int.reduceLE, Int.reduceToNat, Nat.reduceAdd, Nat.reduceLT, Nat.reduceLeDiff, X7l _ _ (b := 256) (by decide), g5, g6]
  refine hKC _ ?_
  clear hKC KC
  have hY : X / 256 = 8 * l.length / 256 ^ (i + 1) := by rw [hX, Nat.pow_succ, Nat.div_div_eq_div_mul]
  have g8 : IntKind.i64.wrap (((7 - i : Nat) : Int) - 1) = 7 - ((i + 1 : Nat) : Int) := by rw [wrap_i64] <;> omega
  have g9 : Yf ((tl (8 * l.length) i).map b8) (7 - i) [b8 (UInt8.ofNat X)] = (tl (8 * l.length) (i + 1)).map b8 := by
   rw [F7 b8 _ _ _ (by rw [Xat]; omega), hX, Xdz _ _ hi2]
  refine Xn Xj [] ?_
  simp (maxSteps:=9^7) only [ss, X1, tab, reduceCtorEq, reduceIte, Nat.reduceEqDiff, Nat.reduceBEq, Int.reduceLE, Int.reduceToNat, Nat.reduceAdd, Nat.reduceLT, Nat.reduceLeDiff, g1, g8]
  refine ⟨i + 1, by omega, by omega, ?_⟩
  rw [hY, g9]
  refine X2 ?_ ?_ rfl rfl rfl rfl <;> simp only [X4, sl]
 clear hKC KC
 have hc2 : c < pad l.length := by
  have h1 : ¬ (((l.length + 1 + c) % 64 : Nat) : Int) = 56 := by simpa using ht
  rcases Nat.lt_or_ge c (pad l.length) with h | h
  ·exact h
  ·have : c = pad l.length := by omega
   subst this
   unfold pad at h1
   omega
 refine Xe ?_
 have e6 : l.length + 1 + c + 1 ≤ 140737488355328 := by omega
 have e7 : l.length + 1 + c + 1 ≤ 9223372036854775807 := by omega
 refine Xn Xj [] ?_
 simp (maxSteps:=9^7) only [ss, X1, tab, reduceCtorEq, reduceIte, Nat.reduceEqDiff, Nat.reduceBEq, Int.reduceLE, Int.reduceToNat, Nat.reduceAdd, Nat.reduceLT, Nat.reduceLeDiff, X5, el, e6, e7]
 refine ⟨c + 1, hc2, by omega, ?_⟩
 have e8 : Xo (l ++ [128] ++ List.replicate c 0) ++ [[.val (.int .u8 0)]] = Xo (l ++ [128] ++ List.replicate (c + 1) 0) := by
  rw [List.replicate_succ', ← List.append_assoc]; exact Xah _ 0
 rw [e8]
 refine X2 ?_ ?_ rfl rfl rfl rfl <;> simp only [X4, sl, show l.length + 1 + (c + 1) = l.length + 1 + c + 1 from rfl]
end Go.Proofs.YtgdhnngpfieloaaGreat.Hm
end
section
namespace Go.Proofs.YtgdhnngpfieloaaGreat.Hm
set_option linter.unusedVariables false
set_option linter.unusedSimpArgs false
open Go Go.VS Tab Sha
set_option maxHeartbeats 1000000
theorem Xbe (b : List UInt8) (i : Nat) (h : i < 16) : Fy (b.take 64) i = Fy b i := by
 have e : ∀ j, j < 64 → (b.take 64).getD j 0 = b.getD j 0 := fun j hj => by
  rw [List.getD_eq_getElem?_getD, List.getD_eq_getElem?_getD, List.getElem?_take_of_lt hj]
 simp only [Fy]
 rw [e _ (by omega), e _ (by omega), e _ (by omega), e _ (by omega)]
theorem Xcc (b : List UInt8) : ∀ t, ws (b.take 64) t = ws b t
 | 0 => rfl
 | t + 1 => by
  simp only [ws, Xcc b t]
  split
  ·rename_i h; rw [Xbe b t h]
  ·rfl
theorem Xc8 (h : V8) (b : List UInt8) : block h (b.take 64) = block h b := by
 simp only [block, Xcc]
def dgs (V : V8) (i : Nat) : List UInt8 := (List.range 32).map fun j => if j < i then UInt8.ofNat (V.list.getD (j / 4) 0 >>> (24 - 8 * (j % 4))).toNat else 0
theorem Xan (V : V8) (i : Nat) : (dgs V i).length = 32 := by simp [dgs]
theorem Xdh (V : V8) (i : Nat) (h : i < 32) : (dgs V i).set i (UInt8.ofNat (V.list.getD (i / 4) 0 >>> (24 - 8 * (i % 4))).toNat) = dgs V (i + 1) := by
 refine List.ext_getElem (by simp [Xan]) fun j h1 h2 => ?_
 rw [List.getElem_set]
 simp only [dgs, List.getElem_map, List.getElem_range]
 split
 ·rename_i he; subst he; rw [if_pos (by omega)]
 ·rename_i he
  by_cases h8 : j < i
  ·rw [if_pos h8, if_pos (by omega)]
  ·rw [if_neg h8, if_neg (by omega)]
theorem be4 (w : BitVec 32) (k : Nat) : UInt8.ofNat ((w.setWidth 64) >>> k).toNat = UInt8.ofNat (w >>> k).toNat := by
 have e : ((w.setWidth 64) >>> k).toNat = (w >>> k).toNat := by
  rw [BitVec.toNat_ushiftRight, BitVec.toNat_ushiftRight, BitVec.toNat_setWidth, Nat.mod_eq_of_lt (by have := w.isLt; omega)]
 rw [e]
theorem Xdi (V : V8) : dgs V 32 = Xcj V := by
 simp only [Xcj, V8.list, List.flatMap_cons, List.flatMap_nil, be, be4]
 rfl
theorem Xdd (l : List UInt8) (md : Md) (hl : l.length ≤ 900000) :
  Xr Tryz.prog 46 [.sl 1 (Xo l) md] [] (.agg ((Xb7 l).map b8)) [] := by
 refine Xc 3 Tryz.func46 rfl fun n out _ _ => ?_
 simp only [Tryz.ntmps46, List.length_cons, List.length_nil, List.length_map, List.length_replicate, Xf, Nat.reduceAdd, Nat.reduceSub, List.replicate, List.cons_append, List.nil_append]
 refine X9 fun K hK => Xn Xj [] ?_
 simp (maxSteps:=9^7) only [ss, X1, tab, reduceCtorEq, reduceIte, Nat.reduceEqDiff, Nat.reduceBEq, Int.reduceLE, Int.reduceToNat, Nat.reduceAdd, Nat.reduceLT, Nat.reduceLeDiff]
 repeat' (first | (with_reducible refine hK _ ?_; clear hK K) | with_reducible apply And.intro)
 refine X9 fun K hK => Xn Xj [] ?_
 simp (maxSteps:=9^7) only [ss, X1, tab, reduceCtorEq, reduceIte, Nat.reduceEqDiff, Nat.reduceBEq, Int.reduceLE, Int.reduceToNat, Nat.reduceAdd, Nat.reduceLT, Nat.reduceLeDiff]
 repeat' (first | (with_reducible refine hK _ ?_; clear hK K) | with_reducible apply And.intro)
 refine X3 (Xcb l md (by omega)) ?_
 simp (maxSteps:=9^7) only [ss, X1, tab, reduceCtorEq, reduceIte, Nat.reduceEqDiff, Nat.reduceBEq, Int.reduceLE, Int.reduceToNat, Nat.reduceAdd, Nat.reduceLT, Nat.reduceLeDiff]
 repeat' (first | (with_reducible refine hK _ ?_; clear hK K) | with_reducible apply And.intro)
 refine X9 fun K hK => Xn Xj [] ?_
 simp (maxSteps:=9^7) only [ss, X1, tab, reduceCtorEq, reduceIte, Nat.reduceEqDiff, Nat.reduceBEq, Int.reduceLE, Int.reduceToNat, Nat.reduceAdd, Nat.reduceLT, Nat.reduceLeDiff]
 repeat' (first | (with_reducible refine hK _ ?_; clear hK K) | with_reducible apply And.intro)
 refine X3 Xcz ?_
 simp (maxSteps:=9^7) only [ss, X1, tab, reduceCtorEq, reduceIte, Nat.reduceEqDiff, Nat.reduceBEq, Int.reduceLE, Int.reduceToNat, Nat.reduceAdd, Nat.reduceLT, Nat.reduceLeDiff, X0, Xaf]
 repeat' (first | (with_reducible refine hK _ ?_; clear hK K) | with_reducible apply And.intro)
 obtain ⟨cnt, hcnt⟩ : ∃ cnt, cnt = (l.length + 72) / 64 := ⟨_, rfl⟩
 have hfl : (Xa4 l).length = 64 * cnt := by rw [Xb2, hcnt]
 have hcb : 64 * cnt ≤ 1000000 := by omega
 refine X9 fun KB hKB => ?_
 refine X9 fun K hK => Xn Xj [] ?_
 simp (maxSteps:=9^7) only [ss, X1, tab, reduceCtorEq, reduceIte, Nat.reduceEqDiff, Nat.reduceBEq, Int.reduceLE, Int.reduceToNat, Nat.reduceAdd, Nat.reduceLT, Nat.reduceLeDiff]
 repeat' (first | (with_reducible refine hK _ ?_; clear hK K) | with_reducible apply And.intro)
 refine Xe ?_
 refine X9z (fun i : Nat => [(5, i64 ((64 * i : Nat) : Int)), (11, .top), (12, .top), (13, .top), (14, .top), (15, .top), (16, .top), (17, .top), (18, .top), (19, .top), (20, .top)]) (fun i => [some (.box 47 ((List.replicate 32 (0 : UInt8)).map b8)), some (.box 123 ((hs (Xa4 l) i).list.map w32)), none]) (fun i => i ≤ cnt) (fun i => cnt - i) 0 (by omega) ?_ fun i hi => ?_
 ·refine X2 ?_ ?_ rfl rfl rfl rfl <;> simp only [X4, sl]
  all_goals repeat' (first | exact (Tq _).2 trivial | exact .rfl _ | exact (Nz _ _ _).2 trivial | apply And.intro)
 simp only [X4, s_0, s_s]
 refine X9 fun KC hKC => ?_
 refine X9 fun K hK => Xn Xj [] ?_
 simp (maxSteps:=9^7) only [ss, X1, tab, reduceCtorEq, reduceIte, Nat.reduceEqDiff, Nat.reduceBEq, Int.reduceLE, Int.reduceToNat, Nat.reduceAdd, Nat.reduceLT, Nat.reduceLeDiff, X5, hfl]
 repeat' (first | (with_reducible refine hK _ ?_; clear hK K) | with_reducible apply And.intro)
 refine Uz rfl (fun ht => Z1 (hKC _ ?_)) (fun hf => Qi (id ?_))
 rotate_left
 ·simp only [Qd, Z4, if_true]
  refine hKB _ ?_
  clear hKB KB hKC KC
  have hic : i = cnt := by have := of_decide_eq_false hf; omega
  subst hic
  obtain ⟨V, hV⟩ : ∃ V, V = hs (Xa4 l) i := ⟨_, rfl⟩
  rw [← hV]
  have hv8 : V.list.length = 8 := rfl
  refine X9 fun K hK => Xn Xj [] ?_
  simp (maxSteps:=9^7) only [ss, X1, tab, reduceCtorEq, reduceIte, Nat.reduceEqDiff, Nat.reduceBEq, Int.reduceLE, Int.reduceToNat, Nat.reduceAdd, Nat.reduceLT, Nat.reduceLeDiff]
  repeat' (first | (with_reducible refine hK _ ?_; clear hK K) | with_reducible apply And.intro)
  have ez : (List.replicate 32 (AV.val (.int .u8 0))) = (dgs V 0).map b8 := rfl
  have ez2 : (List.replicate 32 (0 : UInt8)).map b8 = (dgs V 0).map b8 := rfl
  rw [ez, ez2]
  refine X9 fun KB hKB => ?_
  refine X9 fun K hK => Xn Xj [] ?_
  simp (maxSteps:=9^7) only [ss, X1, tab, reduceCtorEq, reduceIte, Nat.reduceEqDiff, Nat.reduceBEq, Int.reduceLE, Int.reduceToNat, Nat.reduceAdd, Nat.reduceLT, Nat.reduceLeDiff]
  repeat' (first | (with_reducible refine hK _ ?_; clear hK K) | with_reducible apply And.intro)
  refine Xe ?_
  refine X9z (fun j : Nat => [(7, i64 (j : Int)), (21, .top), (22, .top), (23, .top), (24, .top), (25, .top), (26, .top), (27, .top), (28, .top), (29, .top), (30, .top), (31, .top), (32, .top), (33, .top), (34, .top), (35, .top), (36, .top), (37, .top)]) (fun j => [some (.box 47 ((dgs V 0).map b8)), some (.box 123 (V.list.map w32)), some (.box 47 ((dgs V j).map b8))]) (fun j => j ≤ 32) (fun j => 32 - j) 0 (by omega) ?_ fun j hj => ?_
  ·refine X2 ?_ ?_ rfl rfl rfl rfl <;> simp only [X4, sl]
   all_goals repeat' (first | exact (Tq _).2 trivial | exact .rfl _ | exact (Nz _ _ _).2 trivial | apply And.intro)
  simp only [X4, s_0, s_s]
  refine X9 fun KC hKC => ?_
  refine X9 fun K hK => Xn Xj [] ?_
  simp (maxSteps:=9^7) only [ss, X1, tab, reduceCtorEq, reduceIte, Nat.reduceEqDiff, Nat.reduceBEq, Int.reduceLE, Int.reduceToNat, Nat.reduceAdd, Nat.reduceLT, Nat.reduceLeDiff]
  repeat' (first | (with_reducible refine hK _ ?_; clear hK K) | with_reducible apply And.intro)
  refine Uz rfl (fun ht => Z1 (hKC _ ?_)) (fun hf => Qi (id ?_))
  rotate_left
  ·simp only [Qd, Z4, if_true]
   refine hKB _ ?_
   clear hKB KB hKC KC
   have hj32 : j = 32 := by have := of_decide_eq_false hf; omega
   subst hj32
   have hd := Xan V 32
   have hd0 := Xan V 0
   refine X9 fun K hK => Xn Xj [] ?_
   simp (maxSteps:=9^7) only [ss, X1, tab, reduceCtorEq, reduceIte, Nat.reduceEqDiff, Nat.reduceBEq, Int.reduceLE, Int.reduceToNat, Nat.reduceAdd, Nat.reduceLT, Nat.reduceLeDiff, E6, hd, hd0, X0]
   repeat' (first | (with_reducible refine hK _ ?_; clear hK K) | with_reducible apply And.intro)
   refine Yd ?_
   have e : Xb7 l = dgs V 32 := by rw [Xdi, hV, hcnt]; rfl
   rw [e]
   exact X1b (.inr rfl) rfl rfl rfl (fun _ _ => rfl) ok47 (k := n + 0) (off := 0) rfl (Xb _ (by simp)) (X6 _ (Nat.le_refl _) 0) (E6 (by simp [hd]))
  clear hKC KC
  have hj2 : j < 32 := by have := of_decide_eq_true ht; omega
  have hj3 : (j : Int) < 32 := by omega
  have hj4 : j / 4 < 8 := by omega
  refine X9 fun KC hKC => Xe ?_
  have q1 : (j : Int).tdiv 4 = ((j / 4 : Nat) : Int) := by rw [Int.tdiv_eq_ediv_of_nonneg (by omega)]; omega
  have q2 : IntKind.i64.wrap ((j / 4 : Nat) : Int) = ((j / 4 : Nat) : Int) := by rw [wrap_i64] <;> omega
  have q3 : (j : Int).tmod 4 = ((j % 4 : Nat) : Int) := by rw [Int.tmod_eq_emod_of_nonneg (by omega)]; omega
  have q4 : IntKind.i64.wrap (8 * ((j % 4 : Nat) : Int)) = ((8 * (j % 4) : Nat) : Int) := by rw [wrap_i64] <;> omega
  have q5 : IntKind.i64.wrap (24 - ((8 * (j % 4) : Nat) : Int)) = ((24 - 8 * (j % 4) : Nat) : Int) := by rw [wrap_i64] <;> omega
  have hd := Xan V j
  have hj6 : ((j / 4 : Nat) : Int) < 8 := by omega
  refine Xn Xj [] ?_
  simp (maxSteps:=9^7) only [ss, X1, tab, reduceCtorEq, reduceIte, Nat.reduceEqDiff, Nat.reduceBEq, Int.reduceLE, Int.reduceToNat, Nat.reduceAdd, Nat.reduceLT, Nat.reduceLeDiff, X7l _ _ (b := 4) (by decide), X5a _ _ (b := 4) (by decide), q1, q2, q3, q4, q5, hv8, nc, hj3, hj4, hj6, X0z 1 w32 V.list (j / 4) 0 hj4, hd]
  refine X3 (Xba _ (24 - 8 * (j % 4)) (by omega)) ?_
  obtain ⟨X, hX⟩ : ∃ X, X = V.list.getD (j / 4) 0 >>> (24 - 8 * (j % 4)) := ⟨_, rfl⟩
  rw [← hX]
  have q6 : (X.toNat : Int).tmod 256 = ((X.toNat % 256 : Nat) : Int) := by rw [Int.tmod_eq_emod_of_nonneg (by omega)]; omega
  have q7 : IntKind.u8.wrap ((X.toNat % 256 : Nat) : Int) = ((UInt8.ofNat X.toNat).toNat : Int) := by
   have : (UInt8.ofNat X.toNat).toNat = X.toNat % 256 := by simp
   rw [this, Se (by omega) (by omega)]
  have q8 : Yf ((dgs V j).map b8) j [b8 (UInt8.ofNat X.toNat)] = (dgs V (j + 1)).map b8 := by
   rw [F7 b8 _ _ _ (by rw [Xan]; exact hj2), hX, Xdh _ _ hj2]
  have hj5 : j ≤ 31 := by omega
  simp (maxSteps:=9^7) only [ss, X1, tab, reduceCtorEq, reduceIte, Nat.reduceEqDiff, Nat.reduceBEq, Int.reduceLE, Int.reduceToNat, Nat.reduceAdd, Nat.reduceLT, Nat.reduceLeDiff, X5a _ _ (b := 256) (by decide), q6, q7, hd, hj3, hj2, hj5]
  refine hKC _ ?_
  clear hKC KC
  rw [q8]
  refine Xn Xj [] ?_
  simp (maxSteps:=9^7) only [ss, X1, tab, reduceCtorEq, reduceIte, Nat.reduceEqDiff, Nat.reduceBEq, Int.reduceLE, Int.reduceToNat, Nat.reduceAdd, Nat.reduceLT, Nat.reduceLeDiff, Yl (n := j) 1 1 rfl (by omega)]
  refine ⟨j + 1, by omega, by omega, ?_⟩
  refine X2 ?_ ?_ rfl rfl rfl rfl <;> simp only [X4, sl]
 clear hKC KC
 have hi2 : i < cnt := by have := of_decide_eq_true ht; omega
 refine X9 fun KC hKC => Xe ?_
 have hv8 : ∀ v : V8, v.list.length = 8 := fun _ => rfl
 refine Xn Xj [] ?_
 simp (maxSteps:=9^7) only [ss, X1, tab, reduceCtorEq, reduceIte, Nat.reduceEqDiff, Nat.reduceBEq, Int.reduceLE, Int.reduceToNat, Nat.reduceAdd, Nat.reduceLT, Nat.reduceLeDiff, E6, hv8]
 refine X3 (Xcw _ (Xa4 l) .sh (64 * i) (by omega) (by omega)) ?_
 simp (maxSteps:=9^7) only [ss, X1, tab, reduceCtorEq, reduceIte, Nat.reduceEqDiff, Nat.reduceBEq, Int.reduceLE, Int.reduceToNat, Nat.reduceAdd, Nat.reduceLT, Nat.reduceLeDiff, X0, hv8]
 refine hKC _ ?_
 clear hKC KC
 have eb : block (hs (Xa4 l) i) ((Xa4 l).drop (64 * i)) = hs (Xa4 l) (i + 1) := by
  rw [← Xc8]; rfl
 have q1 : IntKind.i64.wrap (((64 * i : Nat) : Int) + 64) = ((64 * (i + 1) : Nat) : Int) := by rw [wrap_i64] <;> omega
 rw [eb]
 refine Xn Xj [] ?_
 simp (maxSteps:=9^7) only [ss, X1, tab, reduceCtorEq, reduceIte, Nat.reduceEqDiff, Nat.reduceBEq, Int.reduceLE, Int.reduceToNat, Nat.reduceAdd, Nat.reduceLT, Nat.reduceLeDiff, q1]
 refine ⟨i + 1, by omega, by omega, ?_⟩
 refine X2 ?_ ?_ rfl rfl rfl rfl <;> simp only [X4, sl]
end Go.Proofs.YtgdhnngpfieloaaGreat.Hm
end
section
namespace Go.Proofs.YtgdhnngpfieloaaGreat.Hm
set_option linter.unusedVariables false
set_option linter.unusedSimpArgs false
open Go Go.VS Tab Sha
set_option maxHeartbeats 2000000
set_option maxRecDepth 4000
theorem Xcd (key : List UInt8) (c : Nat) : (Xax key).getD c 0 = if c < key.length then key.getD c 0 else 0 := by
 rw [Xax, List.getD_eq_getElem?_getD]
 split
 ·rename_i h; rw [List.getElem?_append_left h, List.getD_eq_getElem?_getD]
 ·rename_i h
  rw [List.getElem?_append_right (by omega), List.getElem?_replicate]
  split <;> rfl
theorem Xbn (key : List UInt8) (x : UInt8) (c : Nat) (h : key.length ≤ 64) (hc : c < 64) : (Xa3 (Xax key) x).take (c + 1) = (Xa3 (Xax key) x).take c ++ [(Xax key).getD c 0 ^^^ x] := by
 have hl : c < (Xa3 (Xax key) x).length := by rw [Xak, Xae key h]; exact hc
 have hl2 : c < (Xax key).length := by rw [Xae key h]; exact hc
 rw [List.take_succ_eq_append_getElem hl]
 simp [Xa3, List.getD_eq_getElem?_getD, hl2]
theorem Xc1 (k : Nat) (key : List UInt8) (md : Md) (x : UInt8) (hk : key.length ≤ 64) :
  Xr Tryz.prog 47 [.sl 1 (Xo key) md, b8 x] [(k, none)] (.sl 1 (Xo (Xa3 (Xax key) x)) (.own k)) [(k, .row 5 1 64)] := by
 refine Xc 0 Tryz.func47 rfl fun n out _ _ => ?_
 simp only [Tryz.ntmps47, List.length_cons, List.length_nil, List.length_map, List.length_replicate, Xf, Nat.reduceAdd, Nat.reduceSub, List.replicate, List.cons_append, List.nil_append]
 rename_i hneeds hg
 obtain ⟨hkk, _⟩ := hneeds
 obtain ⟨hkn, _⟩ := hg
 have hml : (Xa3 (Xax key) x).length = 64 := by rw [Xak, Xae key hk]
 refine X9 fun K hK => Xn Xj [] ?_
 simp (maxSteps:=9^7) only [ss, X1, tab, reduceCtorEq, reduceIte, Nat.reduceEqDiff, Nat.reduceBEq, Int.reduceLE, Int.reduceToNat, Nat.reduceAdd, Nat.reduceLT, Nat.reduceLeDiff]
 repeat' (first | (with_reducible refine hK _ ?_; clear hK K) | with_reducible apply And.intro)
 refine X9 fun K hK => Xn Xj [] ?_
 simp (maxSteps:=9^7) only [ss, X1, tab, reduceCtorEq, reduceIte, Nat.reduceEqDiff, Nat.reduceBEq, Int.reduceLE, Int.reduceToNat, Nat.reduceAdd, Nat.reduceLT, Nat.reduceLeDiff]
 repeat' (first | (with_reducible refine hK _ ?_; clear hK K) | with_reducible apply And.intro)
 refine Yy (X3x (k := k) 5 1 (by rw [X7 hkn]; trivial) (by rw [X8 hkn]; exact hkk)) ?_
 rw [X79 hkn]
 refine Yy (Xbm [(5, .sl 1 [] (.own k))] ?_) ?_
 ·simp only [X4, s_0, s_s, X18, X4a, Co, Fe, Py, J1, true_and, and_true, nc, Nz]
  all_goals repeat' (first | exact (Tq _).2 trivial | exact .rfl _ | exact (Nz _ _ _).2 trivial | apply And.intro)
 simp only [X4, s_0, s_s]
 refine X9 fun KB hKB => ?_
 refine X9 fun K hK => Xn Xj [] ?_
 simp (maxSteps:=9^7) only [ss, X1, tab, reduceCtorEq, reduceIte, Nat.reduceEqDiff, Nat.reduceBEq, Int.reduceLE, Int.reduceToNat, Nat.reduceAdd, Nat.reduceLT, Nat.reduceLeDiff]
 repeat' (first | (with_reducible refine hK _ ?_; clear hK K) | with_reducible apply And.intro)
 refine Xe ?_
 refine Xai (fun c : Nat => [(5, .sl 1 (Xo ((Xa3 (Xax key) x).take c)) (.own k)), (6, i64 (c : Int)), (7, .top), (8, .top), (9, .top), (10, .top), (11, .top), (12, .top), (13, .top), (14, .top), (15, .top), (16, .top), (17, .top), (18, .top), (19, .top), (20, .top), (21, .top), (22, .top), (23, .top), (24, .top), (25, .top)]) (fun _ => []) (fun c => Xw out k (.row 5 1 c)) (fun c => c ≤ 64) (fun c => 64 - c) 0 (by omega) ?_ rfl rfl fun c hc => ?_
 ·simp only [X4, s_0, s_s, X18, X4a, Co, Fe, Py, J1, true_and, and_true, nc, Nz]
  all_goals repeat' (first | exact (Tq _).2 trivial | exact .rfl _ | exact (Nz _ _ _).2 trivial | apply And.intro)
 simp only [X4, s_0, s_s]
 refine X9 fun KC hKC => ?_
 refine X9 fun K hK => Xn Xj [] ?_
 simp (maxSteps:=9^7) only [ss, X1, tab, reduceCtorEq, reduceIte, Nat.reduceEqDiff, Nat.reduceBEq, Int.reduceLE, Int.reduceToNat, Nat.reduceAdd, Nat.reduceLT, Nat.reduceLeDiff]
 repeat' (first | (with_reducible refine hK _ ?_; clear hK K) | with_reducible apply And.intro)
 refine Uz rfl (fun ht => Z1 (hKC _ ?_)) (fun hf => Qi (id ?_))
 rotate_left
 ·simp only [Qd, Z4, if_true]
  refine hKB _ ?_
  clear hKB KB hKC KC
  have hc2 : c = 64 := by have := of_decide_eq_false hf; omega
  subst hc2
  refine X9 fun K hK => Xn Xj [] ?_
  simp (maxSteps:=9^7) only [ss, X1, tab, reduceCtorEq, reduceIte, Nat.reduceEqDiff, Nat.reduceBEq, Int.reduceLE, Int.reduceToNat, Nat.reduceAdd, Nat.reduceLT, Nat.reduceLeDiff]
  repeat' (first | (with_reducible refine hK _ ?_; clear hK K) | with_reducible apply And.intro)
  refine Yd ?_
  have e : (Xa3 (Xax key) x).take 64 = Xa3 (Xax key) x := List.take_of_length_le (Nat.le_of_eq hml)
  rw [e]
  exact Qv (.inr rfl) rfl rfl rfl (fun _ _ => rfl) rfl
 clear hKC KC
 have hc2 : c < 64 := by have := of_decide_eq_true ht; omega
 refine X9 fun KC hKC => Xe ?_
 refine X9 fun K hK => Xn Xj [] ?_
 simp (maxSteps:=9^7) only [ss, X1, tab, reduceCtorEq, reduceIte, Nat.reduceEqDiff, Nat.reduceBEq, Int.reduceLE, Int.reduceToNat, Nat.reduceAdd, Nat.reduceLT, Nat.reduceLeDiff]
 repeat' (first | (with_reducible refine hK _ ?_; clear hK K) | with_reducible apply And.intro)
 have hlt : ((Xa3 (Xax key) x).take c).length = c := by rw [List.length_take, hml]; omega
 have e3 : c + 1 ≤ 140737488355328 := by omega
 have e4 : c + 1 ≤ 9223372036854775807 := by omega
 have hcomm : ∀ a : UInt8, Xo ((Xa3 (Xax key) x).take c) ++ [[AV.val (.int .u8 ((a ^^^ x).toNat : Int))]] = Xo ((Xa3 (Xax key) x).take c ++ [a ^^^ x]) := fun a => Xah _ _
 by_cases hck : c < key.length
 ·have g1 : decide (c < key.length) = true := decide_eq_true hck
  have g2 : (Xo key).getD c [] = [b8 (key.getD c 0)] := Tf key c hck
  have g3 : (Xax key).getD c 0 = key.getD c 0 := by rw [Xcd, if_pos hck]
  refine X9 fun KD hKD => ?_
  refine X9 fun K hK => Xn Xj [] ?_
  simp (maxSteps:=9^7) only [ss, X1, tab, reduceCtorEq, reduceIte, Nat.reduceEqDiff, Nat.reduceBEq, Int.reduceLE, Int.reduceToNat, Nat.reduceAdd, Nat.reduceLT, Nat.reduceLeDiff, X5, g1]
  repeat' (first | (with_reducible refine hK _ ?_; clear hK K) | with_reducible apply And.intro)
  refine Wm rfl ?_
  refine Xn Xj [] ?_
  simp (maxSteps:=9^7) only [ss, X1, tab, reduceCtorEq, reduceIte, Nat.reduceEqDiff, Nat.reduceBEq, Int.reduceLE, Int.reduceToNat, Nat.reduceAdd, Nat.reduceLT, Nat.reduceLeDiff, X5, g2, hck]
  refine hKD _ ?_
  clear hKD KD
  refine Xn Xj [] ?_
  simp (maxSteps:=9^7) only [ss, X1, tab, reduceCtorEq, reduceIte, Nat.reduceEqDiff, Nat.reduceBEq, Int.reduceLE, Int.reduceToNat, Nat.reduceAdd, Nat.reduceLT, Nat.reduceLeDiff, X5, hlt, e3, e4, Xc6, X8 hkn, X7 hkn, Cz hkn, Xt, Jp]
  refine hKC _ ?_
  clear hKC KC
  rw [hcomm, ← g3, ← Xbn key x c hk hc2]
  refine Xn Xj [] ?_
  simp (maxSteps:=9^7) only [ss, X1, tab, reduceCtorEq, reduceIte, Nat.reduceEqDiff, Nat.reduceBEq, Int.reduceLE, Int.reduceToNat, Nat.reduceAdd, Nat.reduceLT, Nat.reduceLeDiff, Yl (n := c) 1 1 rfl (by omega)]
  refine ⟨c + 1, by omega, by omega, ?_⟩
  refine X2 ?_ ?_ rfl rfl rfl rfl <;> simp only [X4, sl]
 ·have g1 : decide (c < key.length) = false := decide_eq_false hck
  have g3 : (Xax key).getD c 0 = 0 := by rw [Xcd, if_neg hck]
  have g4 : Zr .xor .u8 0 (x.toNat : Int) = some (.int .u8 (((0 : UInt8) ^^^ x).toNat : Int)) := Xc6 0 x
  refine X9 fun KD hKD => ?_
  refine X9 fun K hK => Xn Xj [] ?_
  simp (maxSteps:=9^7) only [ss, X1, tab, reduceCtorEq, reduceIte, Nat.reduceEqDiff, Nat.reduceBEq, Int.reduceLE, Int.reduceToNat, Nat.reduceAdd, Nat.reduceLT, Nat.reduceLeDiff, X5, g1]
  repeat' (first | (with_reducible refine hK _ ?_; clear hK K) | with_reducible apply And.intro)
  refine Uy rfl (Z1 (hKD _ ?_))
  clear hKD KD
  refine Xn Xj [] ?_
  simp (maxSteps:=9^7) only [ss, X1, tab, reduceCtorEq, reduceIte, Nat.reduceEqDiff, Nat.reduceBEq, Int.reduceLE, Int.reduceToNat, Nat.reduceAdd, Nat.reduceLT, Nat.reduceLeDiff, X5, hlt, e3, e4, g4, X8 hkn, X7 hkn, Cz hkn, Xt, Jp]
  refine hKC _ ?_
  clear hKC KC
  rw [hcomm, ← g3, ← Xbn key x c hk hc2]
  refine Xn Xj [] ?_
  simp (maxSteps:=9^7) only [ss, X1, tab, reduceCtorEq, reduceIte, Nat.reduceEqDiff, Nat.reduceBEq, Int.reduceLE, Int.reduceToNat, Nat.reduceAdd, Nat.reduceLT, Nat.reduceLeDiff, Yl (n := c) 1 1 rfl (by omega)]
  refine ⟨c + 1, by omega, by omega, ?_⟩
  refine X2 ?_ ?_ rfl rfl rfl rfl <;> simp only [X4, sl]
theorem Xdj (key b : List UInt8) (m1 m2 : Md) (hk : key.length ≤ 64) (hb : b.length ≤ 800000) :
  Xr Tryz.prog 45 [.sl 1 (Xo key) m1, .sl 1 (Xo b) m2] [] (.agg ((Xa5 key b).map b8)) [] := by
 refine Xc 2 Tryz.func45 rfl fun n out _ _ => ?_
 simp only [Tryz.ntmps45, List.length_cons, List.length_nil, List.length_map, List.length_replicate, Xf, Nat.reduceAdd, Nat.reduceSub, List.replicate, List.cons_append, List.nil_append]
 have hml : (Xa3 (Xax key) 54).length = 64 := by rw [Xak, Xae key hk]
 refine X9 fun K hK => Xn Xj [] ?_
 simp (maxSteps:=9^7) only [ss, X1, tab, reduceCtorEq, reduceIte, Nat.reduceEqDiff, Nat.reduceBEq, Int.reduceLE, Int.reduceToNat, Nat.reduceAdd, Nat.reduceLT, Nat.reduceLeDiff]
 repeat' (first | (with_reducible refine hK _ ?_; clear hK K) | with_reducible apply And.intro)
 refine X9 fun K hK => Xn Xj [] ?_
 simp (maxSteps:=9^7) only [ss, X1, tab, reduceCtorEq, reduceIte, Nat.reduceEqDiff, Nat.reduceBEq, Int.reduceLE, Int.reduceToNat, Nat.reduceAdd, Nat.reduceLT, Nat.reduceLeDiff]
 repeat' (first | (with_reducible refine hK _ ?_; clear hK K) | with_reducible apply And.intro)
 refine Sb (Xc1 (n + 1) key m1 54 hk) (X6 _ (Nat.le_refl _) 1) (Xb _ (by simp)) (by simp) ?_
 have e3 : 64 + b.length ≤ 140737488355328 := by omega
 have e4 : 64 + b.length ≤ 9223372036854775807 := by omega
 simp (maxSteps:=9^7) only [ss, X1, tab, reduceCtorEq, reduceIte, Nat.reduceEqDiff, Nat.reduceBEq, Int.reduceLE, Int.reduceToNat, Nat.reduceAdd, Nat.reduceLT, Nat.reduceLeDiff, X5, hml, e3, e4, L6]
 refine X3 (Xdd (Xa3 (Xax key) 54 ++ b) _ (by rw [List.length_append]; omega)) ?_
 have hid : Xb7 (Xa3 (Xax key) 54 ++ b) = Xa5 key b := rfl
 have hi32 : (Xa5 key b).length = 32 := Vc _
 rw [hid]
 simp (maxSteps:=9^7) only [ss, X1, tab, reduceCtorEq, reduceIte, Nat.reduceEqDiff, Nat.reduceBEq, Int.reduceLE, Int.reduceToNat, Nat.reduceAdd, Nat.reduceLT, Nat.reduceLeDiff, X0, hi32]
 repeat' (first | (with_reducible refine hK _ ?_; clear hK K) | with_reducible apply And.intro)
 refine Yd ?_
 exact X1b (.inr rfl) rfl rfl rfl (fun _ _ => rfl) ok47 (k := n + 0) (off := 0) rfl (Xb _ (by simp)) (X6 _ (Nat.le_refl _) 0) (E6 (by simp [hi32]))
theorem Xei (key b : List UInt8) (m1 m2 : Md) (hk : key.length ≤ 64) (hb : b.length ≤ 800000) :
  Xr Tryz.prog 17 [.sl 1 (Xo key) m1, .sl 1 (Xo b) m2] [] (.agg ((Xaa key b).map b8)) [] := by
 refine Xc 3 Tryz.func17 rfl fun n out _ _ => ?_
 simp only [Tryz.ntmps17, List.length_cons, List.length_nil, List.length_map, List.length_replicate, Xf, Nat.reduceAdd, Nat.reduceSub, List.replicate, List.cons_append, List.nil_append]
 have hml : (Xa3 (Xax key) 92).length = 64 := by rw [Xak, Xae key hk]
 have hi32 : (Xa5 key b).length = 32 := Vc _
 refine X9 fun K hK => Xn Xj [] ?_
 simp (maxSteps:=9^7) only [ss, X1, tab, reduceCtorEq, reduceIte, Nat.reduceEqDiff, Nat.reduceBEq, Int.reduceLE, Int.reduceToNat, Nat.reduceAdd, Nat.reduceLT, Nat.reduceLeDiff]
 repeat' (first | (with_reducible refine hK _ ?_; clear hK K) | with_reducible apply And.intro)
 refine X9 fun K hK => Xn Xj [] ?_
 simp (maxSteps:=9^7) only [ss, X1, tab, reduceCtorEq, reduceIte, Nat.reduceEqDiff, Nat.reduceBEq, Int.reduceLE, Int.reduceToNat, Nat.reduceAdd, Nat.reduceLT, Nat.reduceLeDiff]
 repeat' (first | (with_reducible refine hK _ ?_; clear hK K) | with_reducible apply And.intro)
 refine X3 (Xdj key b m1 m2 hk hb) ?_
 simp (maxSteps:=9^7) only [ss, X1, tab, reduceCtorEq, reduceIte, Nat.reduceEqDiff, Nat.reduceBEq, Int.reduceLE, Int.reduceToNat, Nat.reduceAdd, Nat.reduceLT, Nat.reduceLeDiff, X0, hi32]
 repeat' (first | (with_reducible refine hK _ ?_; clear hK K) | with_reducible apply And.intro)
 refine Yy (Xa9 (i := 1) 1 (e := 47) (cs := (Xa5 key b).map b8) rfl (by simp)) ?_
 simp only [List.map_cons, List.map_nil, AV.frz, Xcu, Xcv, s_0, s_s, Nat.add_left_cancel_iff, reduceCtorEq, if_true, if_false, Nat.reduceEqDiff, reduceIte, List.drop_zero]
 have hib : (Xo (Xa5 key b)).length = 32 := by rw [X5]; exact hi32
 have hi33 : 32 ≤ (Xa5 key b).length := Nat.le_of_eq hi32.symm
 have e3 : 64 + 32 ≤ 140737488355328 := by decide
 refine X9 fun K hK => Ny Xj [] [[], [2], [], [2], [], [0]] [[], [2], [], [2], [], [0]] follows (by kernel_rfl) (by decide) (by decide) (by kernel_rfl) ?_
 simp (maxSteps:=9^7) only [ss, X1, tab, reduceCtorEq, reduceIte, Nat.reduceEqDiff, Nat.reduceBEq, Int.reduceLE, Int.reduceToNat, Nat.reduceAdd, Nat.reduceLT, Nat.reduceLeDiff]
 repeat' (first | (with_reducible refine hK _ ?_; clear hK K) | with_reducible apply And.intro)
 refine Sb (Xc1 (n + 2) key m1 92 hk) (X6 _ (Nat.le_refl _) 2) (Xb _ (by simp)) (by simp) ?_
 simp (maxSteps:=9^7) only [ss, X1, tab, reduceCtorEq, reduceIte, Nat.reduceEqDiff, Nat.reduceBEq, Int.reduceLE, Int.reduceToNat, Nat.reduceAdd, Nat.reduceLT, Nat.reduceLeDiff, P6, Nh, Nat.sub_zero, Xa1 _ hi32, List.take_of_length_le (Nat.le_of_eq hib), hi33, X5, hml, hi32, L6]
 have htd : Xb7 (Xa3 (Xax key) 92 ++ Xa5 key b) = Xaa key b := rfl
 have ht32 : (Xaa key b).length = 32 := Vc _
 refine X3 (Xdd (Xa3 (Xax key) 92 ++ Xa5 key b) _ (by rw [List.length_append]; omega)) ?_
 rw [htd]
 simp (maxSteps:=9^7) only [ss, X1, tab, reduceCtorEq, reduceIte, Nat.reduceEqDiff, Nat.reduceBEq, Int.reduceLE, Int.reduceToNat, Nat.reduceAdd, Nat.reduceLT, Nat.reduceLeDiff, X0, ht32]
 repeat' (first | (with_reducible refine hK _ ?_; clear hK K) | with_reducible apply And.intro)
 refine Yd ?_
 exact X1b (.inr rfl) rfl rfl rfl (fun _ _ => rfl) ok47 (k := n + 0) (off := 0) rfl (Xb _ (by simp)) (X6 _ (Nat.le_refl _) 0) (E6 (by simp [ht32]))
end Go.Proofs.YtgdhnngpfieloaaGreat.Hm
end
