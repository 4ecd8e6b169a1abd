/- The layer of abstract values, joined: HD. -/
import Derived.Test.YtgdhnngpfieloaaGreatZGA
import Derived.Test.YtgdhnngpfieloaaGreatZHA
section
namespace Go.Proofs.YtgdhnngpfieloaaGreat.Hm
set_option linter.unusedVariables false
set_option linter.unusedSimpArgs false
open Go Go.VS Tab Sha
set_option maxHeartbeats 1000000
theorem Xdk (x : BitVec 32) : IntKind.u32.wrap ((x.toNat : Int).tdiv 2) = ((x >>> 1).toNat : Int) := by
 have := x.isLt
 rw [BitVec.toNat_ushiftRight, Nat.shiftRight_eq_div_pow, Int.tdiv_eq_ediv_of_nonneg (by omega), Xc7 (by omega) (by omega)]
 omega
theorem Xek (x : BitVec 32) : (x.rotateRight 1).toNat = x.toNat / 2 + x.toNat % 2 * 2147483648 := by
 have hx := x.isLt
 have h0 : (x >>> 1) &&& (x <<< 31) = 0#32 := by
  apply BitVec.eq_of_getLsbD_eq
  intro i hi
  simp only [BitVec.getLsbD_and, BitVec.getLsbD_ushiftRight, BitVec.getLsbD_shiftLeft, BitVec.getLsbD_zero]
  by_cases h : i < 31
  ·simp [h]
  ·have : i = 31 := by omega
   subst this
   have : x.getLsbD (1 + 31) = false := BitVec.getLsbD_of_ge x _ (by omega)
   rw [this]; rfl
 rw [BitVec.rotateRight_def, ← BitVec.add_eq_or_of_and_eq_zero _ _ h0, BitVec.toNat_add, BitVec.toNat_ushiftRight, BitVec.toNat_shiftLeft, Nat.shiftRight_eq_div_pow, Nat.shiftLeft_eq]
 omega
theorem Xcx (x : BitVec 32) : IntKind.u32.wrap (IntKind.u32.wrap ((x.toNat : Int).tdiv 2) + IntKind.u32.wrap ((x.toNat : Int).tmod 2 * 2147483648)) = ((x.rotateRight 1).toNat : Int) := by
 have hx := x.isLt
 rw [Xek, Int.tdiv_eq_ediv_of_nonneg (by omega), Int.tmod_eq_emod_of_nonneg (by omega), Xar, Xar, Xar]
 omega
theorem Xdl (x : BitVec 32) (i : Nat) (h : i < 31) : (x.rotateRight i).rotateRight 1 = x.rotateRight (i + 1) := by
 apply BitVec.eq_of_getLsbD_eq
 intro j hj
 rw [BitVec.getLsbD_rotateRight, BitVec.getLsbD_rotateRight]
 simp only [BitVec.getLsbD_rotateRight, Nat.mod_eq_of_lt (show i < 32 by omega), Nat.mod_eq_of_lt (show i + 1 < 32 by omega), Nat.mod_eq_of_lt (show 1 < 32 by omega)]
 by_cases h1 : j < 31
 ·have a1 : j < 32 - 1 := h1
  by_cases h2 : 1 + j < 32 - i
  ·simp only [a1, h2, decide_true, cond_true]
   by_cases h3 : j < 32 - (i + 1)
   ·simp only [h3, decide_true, cond_true]; congr 1; omega
   ·omega
  ·have a2 : ¬ j < 32 - (i + 1) := by omega
   have a3 : 1 + j < 32 := by omega
   simp only [a1, h2, a2, a3, hj, decide_true, decide_false, cond_true, cond_false, Bool.true_and]; congr 1; omega
 ·have a1 : ¬ j < 32 - 1 := h1
  have a2 : ¬ j < 32 - (i + 1) := by omega
  have a3 : j - (32 - 1) < 32 - i := by omega
  simp only [a1, a2, a3, hj, decide_true, decide_false, cond_true, cond_false, Bool.true_and]; congr 1; omega
theorem Xam (x : BitVec 32) (a : Nat) (h : a ≤ 31) : Xr Tryz.prog 113 [w32 x, i64 (a : Int)] [] (w32 (x.rotateRight a)) [] := by
 refine Xc 0 Tryz.func113 rfl fun n out _ _ => ?_
 simp only [Tryz.ntmps113, List.length_cons, List.length_nil, List.length_map, List.length_replicate, Xf, Nat.reduceAdd, Nat.reduceSub, List.replicate, List.cons_append, List.nil_append]
 refine X9 fun K hK => Xn Xj [] ?_
 simp (maxSteps:=9^7) only [ss, X1, tab, reduceCtorEq, reduceIte, Nat.reduceEqDiff, Nat.reduceBEq, Int.reduceLE, Int.reduceToNat, Nat.reduceAdd, Nat.reduceLT, Nat.reduceLeDiff]
 repeat' (first | (with_reducible refine hK _ ?_; clear hK K) | with_reducible apply And.intro)
 refine X9 fun KB hKB => ?_
 refine X9 fun K hK => Xn Xj [] ?_
 simp (maxSteps:=9^7) only [ss, X1, tab, reduceCtorEq, reduceIte, Nat.reduceEqDiff, Nat.reduceBEq, Int.reduceLE, Int.reduceToNat, Nat.reduceAdd, Nat.reduceLT, Nat.reduceLeDiff]
 repeat' (first | (with_reducible refine hK _ ?_; clear hK K) | with_reducible apply And.intro)
 refine Xe ?_
 refine Xb6 (fun c : Nat => [(0, w32 (x.rotateRight c)), (5, i64 (c : Int)), (6, .top), (7, .top), (8, .top), (9, .top), (10, .top), (11, .top), (12, .top), (13, .top), (14, .top), (15, .top), (16, .top)]) (fun c => c ≤ a) (fun c => a - c) 0 (Nat.zero_le _) ?_ fun c hc => ?_
 ·have e0 : x.rotateRight 0 = x := by rw [BitVec.rotateRight_def]; simp
  rw [e0]
  simp only [X4, s_0, s_s, X18, X4a, Co, Fe, Py, J1, true_and, and_true, nc]
 simp only [X4, s_0, s_s]
 refine X9 fun KC hKC => ?_
 refine X9 fun K hK => Xn Xj [] ?_
 simp (maxSteps:=9^7) only [ss, X1, tab, reduceCtorEq, reduceIte, Nat.reduceEqDiff, Nat.reduceBEq, Int.reduceLE, Int.reduceToNat, Nat.reduceAdd, Nat.reduceLT, Nat.reduceLeDiff]
 repeat' (first | (with_reducible refine hK _ ?_; clear hK K) | with_reducible apply And.intro)
 refine Uz rfl (fun ht => Z1 (hKC _ ?_)) (fun hf => Qi (id ?_))
 rotate_left
 ·simp only [Qd, Z4, if_true]
  refine hKB _ ?_
  clear hKB KB hKC KC
  have hca : c = a := by have := of_decide_eq_false hf; omega
  subst hca
  refine X9 fun K hK => Xn Xj [] ?_
  simp (maxSteps:=9^7) only [ss, X1, tab, reduceCtorEq, reduceIte, Nat.reduceEqDiff, Nat.reduceBEq, Int.reduceLE, Int.reduceToNat, Nat.reduceAdd, Nat.reduceLT, Nat.reduceLeDiff]
  repeat' (first | (with_reducible refine hK _ ?_; clear hK K) | with_reducible apply And.intro)
  refine Yd ?_
  exact Qv (.inr rfl) rfl rfl rfl (fun _ _ => rfl) rfl
 clear hKC KC
 have hca : c < a := by have := of_decide_eq_true ht; omega
 refine X9 fun KC hKC => Xe ?_
 refine Xn Xj [] ?_
 simp (maxSteps:=9^7) only [ss, X1, tab, reduceCtorEq, reduceIte, Nat.reduceEqDiff, Nat.reduceBEq, Int.reduceLE, Int.reduceToNat, Nat.reduceAdd, Nat.reduceLT, Nat.reduceLeDiff, X7l _ _ (b := 2) (by decide), X5a _ _ (b := 2) (by decide), Xcx, Xdl x c (by omega)]
 refine hKC _ ?_
 clear hKC KC
 refine Xn Xj [] ?_
 simp (maxSteps:=9^7) only [ss, X1, tab, reduceCtorEq, reduceIte, Nat.reduceEqDiff, Nat.reduceBEq, Int.reduceLE, Int.reduceToNat, Nat.reduceAdd, Nat.reduceLT, Nat.reduceLeDiff, Yl (n := c) 1 1 rfl (by omega)]
 refine ⟨c + 1, by omega, by omega, ?_⟩
 refine X2 ?_ ?_ rfl rfl rfl rfl <;> simp only [X4, sl]
theorem Xdm (x : BitVec 32) (i : Nat) : x >>> i >>> 1 = x >>> (i + 1) := by rw [← BitVec.shiftRight_add]
theorem Xba (x : BitVec 32) (a : Nat) (h : a ≤ 31) : Xr Tryz.prog 89 [w32 x, i64 (a : Int)] [] (w32 (x >>> a)) [] := by
 refine Xc 0 Tryz.func89 rfl fun n out _ _ => ?_
 simp only [Tryz.ntmps89, List.length_cons, List.length_nil, List.length_map, List.length_replicate, Xf, Nat.reduceAdd, Nat.reduceSub, List.replicate, List.cons_append, List.nil_append]
 refine X9 fun K hK => Xn Xj [] ?_
 simp (maxSteps:=9^7) only [ss, X1, tab, reduceCtorEq, reduceIte, Nat.reduceEqDiff, Nat.reduceBEq, Int.reduceLE, Int.reduceToNat, Nat.reduceAdd, Nat.reduceLT, Nat.reduceLeDiff]
 repeat' (first | (with_reducible refine hK _ ?_; clear hK K) | with_reducible apply And.intro)
 refine X9 fun KB hKB => ?_
 refine X9 fun K hK => Xn Xj [] ?_
 simp (maxSteps:=9^7) only [ss, X1, tab, reduceCtorEq, reduceIte, Nat.reduceEqDiff, Nat.reduceBEq, Int.reduceLE, Int.reduceToNat, Nat.reduceAdd, Nat.reduceLT, Nat.reduceLeDiff]
 repeat' (first | (with_reducible refine hK _ ?_; clear hK K) | with_reducible apply And.intro)
 refine Xe ?_
 refine Xb6 (fun c : Nat => [(0, w32 (x >>> c)), (5, i64 (c : Int)), (6, .top), (7, .top), (8, .top), (9, .top), (10, .top), (11, .top), (12, .top)]) (fun c => c ≤ a) (fun c => a - c) 0 (Nat.zero_le _) ?_ fun c hc => ?_
 ·have e0 : x >>> 0 = x := by simp
  rw [e0]
  simp only [X4, s_0, s_s, X18, X4a, Co, Fe, Py, J1, true_and, and_true, nc]
 simp only [X4, s_0, s_s]
 refine X9 fun KC hKC => ?_
 refine X9 fun K hK => Xn Xj [] ?_
 simp (maxSteps:=9^7) only [ss, X1, tab, reduceCtorEq, reduceIte, Nat.reduceEqDiff, Nat.reduceBEq, Int.reduceLE, Int.reduceToNat, Nat.reduceAdd, Nat.reduceLT, Nat.reduceLeDiff]
 repeat' (first | (with_reducible refine hK _ ?_; clear hK K) | with_reducible apply And.intro)
 refine Uz rfl (fun ht => Z1 (hKC _ ?_)) (fun hf => Qi (id ?_))
 rotate_left
 ·simp only [Qd, Z4, if_true]
  refine hKB _ ?_
  clear hKB KB hKC KC
  have hca : c = a := by have := of_decide_eq_false hf; omega
  subst hca
  refine X9 fun K hK => Xn Xj [] ?_
  simp (maxSteps:=9^7) only [ss, X1, tab, reduceCtorEq, reduceIte, Nat.reduceEqDiff, Nat.reduceBEq, Int.reduceLE, Int.reduceToNat, Nat.reduceAdd, Nat.reduceLT, Nat.reduceLeDiff]
  repeat' (first | (with_reducible refine hK _ ?_; clear hK K) | with_reducible apply And.intro)
  refine Yd ?_
  exact Qv (.inr rfl) rfl rfl rfl (fun _ _ => rfl) rfl
 clear hKC KC
 have hca : c < a := by have := of_decide_eq_true ht; omega
 refine X9 fun KC hKC => Xe ?_
 refine Xn Xj [] ?_
 simp (maxSteps:=9^7) only [ss, X1, tab, reduceCtorEq, reduceIte, Nat.reduceEqDiff, Nat.reduceBEq, Int.reduceLE, Int.reduceToNat, Nat.reduceAdd, Nat.reduceLT, Nat.reduceLeDiff, X7l _ _ (b := 2) (by decide), Xdk, Xdm]
 refine hKC _ ?_
 clear hKC KC
 refine Xn Xj [] ?_
 simp (maxSteps:=9^7) only [ss, X1, tab, reduceCtorEq, reduceIte, Nat.reduceEqDiff, Nat.reduceBEq, Int.reduceLE, Int.reduceToNat, Nat.reduceAdd, Nat.reduceLT, Nat.reduceLeDiff, Yl (n := c) 1 1 rfl (by omega)]
 refine ⟨c + 1, by omega, by omega, ?_⟩
 refine X2 ?_ ?_ rfl rfl rfl rfl <;> simp only [X4, sl]
theorem Xcy (e f g : BitVec 32) : Xr Tryz.prog 114 [w32 e, w32 f, w32 g] [] (w32 (g ^^^ (e &&& (f ^^^ g)))) [] := by
 refine Xc 0 Tryz.func114 rfl fun n out _ _ => ?_
 simp only [Tryz.ntmps114, List.length_cons, List.length_nil, List.length_map, List.length_replicate, Xf, Nat.reduceAdd, Nat.reduceSub, List.replicate, List.cons_append, List.nil_append]
 refine X9 fun K hK => Xn Xj [] ?_
 simp (maxSteps:=9^7) only [ss, X1, tab, reduceCtorEq, reduceIte, Nat.reduceEqDiff, Nat.reduceBEq, Int.reduceLE, Int.reduceToNat, Nat.reduceAdd, Nat.reduceLT, Nat.reduceLeDiff]
 repeat' (first | (with_reducible refine hK _ ?_; clear hK K) | with_reducible apply And.intro)
 refine X9 fun K hK => Xn Xj [] ?_
 simp (maxSteps:=9^7) only [ss, X1, tab, reduceCtorEq, reduceIte, Nat.reduceEqDiff, Nat.reduceBEq, Int.reduceLE, Int.reduceToNat, Nat.reduceAdd, Nat.reduceLT, Nat.reduceLeDiff, Xac, Xbk]
 repeat' (first | (with_reducible refine hK _ ?_; clear hK K) | with_reducible apply And.intro)
 refine Yd ?_
 exact Qv (.inr rfl) rfl rfl rfl (fun _ _ => rfl) rfl
theorem Xe0 (a b c : BitVec 32) : Xr Tryz.prog 115 [w32 a, w32 b, w32 c] [] (w32 ((a &&& b) ||| (c &&& (a ||| b)))) [] := by
 refine Xc 0 Tryz.func115 rfl fun n out _ _ => ?_
 simp only [Tryz.ntmps115, List.length_cons, List.length_nil, List.length_map, List.length_replicate, Xf, Nat.reduceAdd, Nat.reduceSub, List.replicate, List.cons_append, List.nil_append]
 refine X9 fun K hK => Xn Xj [] ?_
 simp (maxSteps:=9^7) only [ss, X1, tab, reduceCtorEq, reduceIte, Nat.reduceEqDiff, Nat.reduceBEq, Int.reduceLE, Int.reduceToNat, Nat.reduceAdd, Nat.reduceLT, Nat.reduceLeDiff]
 repeat' (first | (with_reducible refine hK _ ?_; clear hK K) | with_reducible apply And.intro)
 refine X9 fun K hK => Xn Xj [] ?_
 simp (maxSteps:=9^7) only [ss, X1, tab, reduceCtorEq, reduceIte, Nat.reduceEqDiff, Nat.reduceBEq, Int.reduceLE, Int.reduceToNat, Nat.reduceAdd, Nat.reduceLT, Nat.reduceLeDiff, Xcq, Xbk]
 repeat' (first | (with_reducible refine hK _ ?_; clear hK K) | with_reducible apply And.intro)
 refine Yd ?_
 exact Qv (.inr rfl) rfl rfl rfl (fun _ _ => rfl) rfl
theorem Xce (e f g : BitVec 32) : g ^^^ (e &&& (f ^^^ g)) = (e &&& f) ^^^ (~~~e &&& g) := by
 apply BitVec.eq_of_getLsbD_eq
 intro i hi
 simp only [BitVec.getLsbD_xor, BitVec.getLsbD_and, BitVec.getLsbD_not, hi, decide_true, Bool.true_and]
 cases e.getLsbD i <;> cases f.getLsbD i <;> cases g.getLsbD i <;> rfl
theorem Xdn (a b c : BitVec 32) : (a &&& b) ||| (c &&& (a ||| b)) = (a &&& b) ^^^ (a &&& c) ^^^ (b &&& c) := by
 apply BitVec.eq_of_getLsbD_eq
 intro i hi
 simp only [BitVec.getLsbD_xor, BitVec.getLsbD_and, BitVec.getLsbD_or]
 cases a.getLsbD i <;> cases b.getLsbD i <;> cases c.getLsbD i <;> rfl
def Xbf (l : List (BitVec 32)) : BitVec 32 := l.foldl (· + ·) 0
theorem Xcf (l : List (BitVec 32)) (x : BitVec 32) : Xbf (l ++ [x]) = Xbf l + x := by simp [Xbf]
def Xa2 (l : List (BitVec 32)) : List (List AV) := l.map fun x => [w32 x]
theorem Xa0 (l : List (BitVec 32)) : (Xa2 l).length = l.length := by simp [Xa2]
theorem Xad (l : List (BitVec 32)) (i : Nat) (h : i < l.length) : (Xa2 l).getD i [] = [w32 (l.getD i 0)] := by
 simp [Xa2, List.getD_eq_getElem?_getD, h]
theorem Xbh (l : List (BitVec 32)) (md : Md) (h : l.length ≤ 1000) : Xr Tryz.prog 112 [.sl 1 (Xa2 l) md] [] (w32 (Xbf l)) [] := by
 refine Xc 0 Tryz.func112 rfl fun n out _ _ => ?_
 simp only [Tryz.ntmps112, List.length_cons, List.length_nil, List.length_map, List.length_replicate, Xf, Nat.reduceAdd, Nat.reduceSub, List.replicate, List.cons_append, List.nil_append]
 refine X9 fun K hK => Xn Xj [] ?_
 simp (maxSteps:=9^7) only [ss, X1, tab, reduceCtorEq, reduceIte, Nat.reduceEqDiff, Nat.reduceBEq, Int.reduceLE, Int.reduceToNat, Nat.reduceAdd, Nat.reduceLT, Nat.reduceLeDiff]
 repeat' (first | (with_reducible refine hK _ ?_; clear hK K) | with_reducible apply And.intro)
 refine X9 fun K hK => Xn Xj [] ?_
 simp (maxSteps:=9^7) only [ss, X1, tab, reduceCtorEq, reduceIte, Nat.reduceEqDiff, Nat.reduceBEq, Int.reduceLE, Int.reduceToNat, Nat.reduceAdd, Nat.reduceLT, Nat.reduceLeDiff]
 repeat' (first | (with_reducible refine hK _ ?_; clear hK K) | with_reducible apply And.intro)
 refine X9 fun KB hKB => ?_
 refine X9 fun K hK => Xn Xj [] ?_
 simp (maxSteps:=9^7) only [ss, X1, tab, reduceCtorEq, reduceIte, Nat.reduceEqDiff, Nat.reduceBEq, Int.reduceLE, Int.reduceToNat, Nat.reduceAdd, Nat.reduceLT, Nat.reduceLeDiff]
 repeat' (first | (with_reducible refine hK _ ?_; clear hK K) | with_reducible apply And.intro)
 refine Xe ?_
 refine Xb6 (fun c : Nat => [(3, i64 ((Xbf (l.take c)).toNat : Int)), (4, i64 (c : Int)), (5, .top), (6, .top), (7, .top), (8, .top), (9, .top), (10, .top), (11, .top), (12, .top), (13, .top), (14, .top), (15, .top), (16, .top), (17, .top), (18, .top)]) (fun c => c ≤ l.length) (fun c => l.length - c) 0 (Nat.zero_le _) ?_ fun c hc => ?_
 ·simp only [X4, s_0, s_s, X18, X4a, Co, Fe, Py, J1, true_and, and_true, nc]
  exact .rfl _
 simp only [X4, s_0, s_s]
 refine X9 fun KC hKC => ?_
 refine X9 fun K hK => Xn Xj [] ?_
 simp (maxSteps:=9^7) only [ss, X1, tab, reduceCtorEq, reduceIte, Nat.reduceEqDiff, Nat.reduceBEq, Int.reduceLE, Int.reduceToNat, Nat.reduceAdd, Nat.reduceLT, Nat.reduceLeDiff, Xa0]
 repeat' (first | (with_reducible refine hK _ ?_; clear hK K) | with_reducible apply And.intro)
 refine Uz rfl (fun ht => Z1 (hKC _ ?_)) (fun hf => Qi (id ?_))
 rotate_left
 ·simp only [Qd, Z4, if_true]
  refine hKB _ ?_
  clear hKB KB hKC KC
  have hca : c = l.length := by have := of_decide_eq_false hf; omega
  subst hca
  rw [List.take_length]
  refine X9 fun K hK => Xn Xj [] ?_
  simp (maxSteps:=9^7) only [ss, X1, tab, reduceCtorEq, reduceIte, Nat.reduceEqDiff, Nat.reduceBEq, Int.reduceLE, Int.reduceToNat, Nat.reduceAdd, Nat.reduceLT, Nat.reduceLeDiff, Xag]
  repeat' (first | (with_reducible refine hK _ ?_; clear hK K) | with_reducible apply And.intro)
  refine Yd ?_
  exact Qv (.inr rfl) rfl rfl rfl (fun _ _ => rfl) rfl
 clear hKC KC
 have hca : c < l.length := by have := of_decide_eq_true ht; omega
 refine X9 fun KC hKC => Xe ?_
 have ex : ∀ x : BitVec 32, IntKind.i64.wrap (x.toNat : Int) = (x.toNat : Int) := fun x => by have := x.isLt; rw [wrap_i64] <;> omega
 have es : (IntKind.i64.wrap (((Xbf (l.take c)).toNat : Int) + ((l.getD c 0).toNat : Int))).tmod 4294967296 = ((Xbf (l.take (c + 1))).toNat : Int) := by
  have h1 := (Xbf (l.take c)).isLt
  have h2 := (l.getD c 0).isLt
  have e : l.take (c + 1) = l.take c ++ [l.getD c 0] := by
   rw [List.take_succ_eq_append_getElem hca, List.getD_eq_getElem?_getD, List.getElem?_eq_getElem hca]; rfl
  rw [e, Xcf, BitVec.toNat_add, wrap_i64 (by omega) (by omega), Int.tmod_eq_emod_of_nonneg (by omega)]
  omega
 refine Xn Xj [] ?_
 simp (maxSteps:=9^7) only [ss, X1, tab, reduceCtorEq, reduceIte, Nat.reduceEqDiff, Nat.reduceBEq, Int.reduceLE, Int.reduceToNat, Nat.reduceAdd, Nat.reduceLT, Nat.reduceLeDiff, X5a _ _ (b := 4294967296) (by decide), Xa0, Xad l c hca, hca, ex, es]
 refine hKC _ ?_
 clear hKC KC
 refine Xn Xj [] ?_
 simp (maxSteps:=9^7) only [ss, X1, tab, reduceCtorEq, reduceIte, Nat.reduceEqDiff, Nat.reduceBEq, Int.reduceLE, Int.reduceToNat, Nat.reduceAdd, Nat.reduceLT, Nat.reduceLeDiff, Yl (n := c) 1 1 rfl (by omega)]
 refine ⟨c + 1, by omega, by omega, ?_⟩
 refine X2 ?_ ?_ rfl rfl rfl rfl <;> simp only [X4, sl]
end Go.Proofs.YtgdhnngpfieloaaGreat.Hm
end
section
namespace Go.Proofs.YtgdhnngpfieloaaGreat.Hm
set_option linter.unusedVariables false
set_option linter.unusedSimpArgs false
open Go Go.VS Tab Sha
set_option maxHeartbeats 1000000
theorem Xbo : Xr Tryz.prog 110 [] [] (.sl 1 (Xa2 X5d) .full) [] := by
 refine Xc 0 Tryz.func110 rfl fun n out _ _ => ?_
 simp only [Tryz.ntmps110, List.length_cons, List.length_nil, List.length_map, List.length_replicate, Xf, Nat.reduceAdd, Nat.reduceSub, List.replicate, List.cons_append, List.nil_append]
 refine X9 fun K hK => Xn Xj [] ?_
 simp (maxSteps:=9^7) only [ss, X1, tab, reduceCtorEq, reduceIte, Nat.reduceEqDiff, Nat.reduceBEq, Int.reduceLE, Int.reduceToNat, Nat.reduceAdd, Nat.reduceLT, Nat.reduceLeDiff]
 repeat' (first | (with_reducible refine hK _ ?_; clear hK K) | with_reducible apply And.intro)
 refine X9 fun K hK => Xn Xj [] ?_
 simp (maxSteps:=9^7) only [ss, tab, reduceCtorEq, reduceIte, Nat.reduceEqDiff, Nat.reduceBEq, Int.reduceLE, Int.reduceToNat, Nat.reduceAdd, Nat.reduceLT, Nat.reduceLeDiff]
 repeat' (first | (with_reducible refine hK _ ?_; clear hK K) | with_reducible apply And.intro)
 refine Xal 1 (Xa2 X5d) (by kernel_rfl) ?_
 simp (maxSteps:=9^7) only [ss, X1, tab, reduceCtorEq, reduceIte, Nat.reduceEqDiff, Nat.reduceBEq, Int.reduceLE, Int.reduceToNat, Nat.reduceAdd, Nat.reduceLT, Nat.reduceLeDiff]
 repeat' (first | (with_reducible refine hK _ ?_; clear hK K) | with_reducible apply And.intro)
 refine Yd ?_
 exact Qv (.inr rfl) rfl rfl rfl (fun _ _ => rfl) rfl
theorem Xcz : Xr Tryz.prog 87 [] [] (.agg (Xbp.map w32)) [] := by
 refine Xc 1 Tryz.func87 rfl fun n out _ _ => ?_
 simp only [Tryz.ntmps87, List.length_cons, List.length_nil, List.length_map, List.length_replicate, Xf, Nat.reduceAdd, Nat.reduceSub, List.replicate, List.cons_append, List.nil_append]
 refine X9 fun K hK => Xn Xj [] ?_
 simp (maxSteps:=9^7) only [ss, X1, tab, reduceCtorEq, reduceIte, Nat.reduceEqDiff, Nat.reduceBEq, Int.reduceLE, Int.reduceToNat, Nat.reduceAdd, Nat.reduceLT, Nat.reduceLeDiff]
 repeat' (first | (with_reducible refine hK _ ?_; clear hK K) | with_reducible apply And.intro)
 refine X9 fun K hK => Xn Xj [] ?_
 simp (maxSteps := 4000000) only [sx, sy, ne_eq, eq_self, if_true, if_false, Nat.reduceEqDiff, hbT, X1, Tk, tab, Cl, Qd, Z4, reduceCtorEq, reduceIte, Nat.reduceBEq, Int.reduceLE, Int.reduceToNat, Nat.reduceAdd, Nat.reduceLT, Nat.reduceLeDiff]
 repeat' (first | (with_reducible refine hK _ ?_; clear hK K) | with_reducible apply And.intro)
 refine Xap (Xbp.map w32) (by kernel_rfl) ?_
 simp (maxSteps:=9^7) only [ss, X1, tab, reduceCtorEq, reduceIte, Nat.reduceEqDiff, Nat.reduceBEq, Int.reduceLE, Int.reduceToNat, Nat.reduceAdd, Nat.reduceLT, Nat.reduceLeDiff, X0, List.length_map, Xaf]
 repeat' (first | (with_reducible refine hK _ ?_; clear hK K) | with_reducible apply And.intro)
 refine Yd ?_
 exact X1b (.inr rfl) rfl rfl rfl (fun _ _ => rfl) ok123 (k := n + 0) (off := 0) rfl (Xb _ (by simp)) (X6 _ (Nat.le_refl _) 0) rfl
theorem Xe1 (l : List (BitVec 32)) (md : Md) (t : Nat) (h : 16 ≤ t) (hl : l.length = t) (ht : t ≤ 64) : Xr Tryz.prog 128 [.sl 1 (Xa2 l) md, i64 (t : Int)] [] (w32 (X7s l t)) [] := by
 refine Xc 0 Tryz.func128 rfl fun n out _ _ => ?_
 simp only [Tryz.ntmps128, List.length_cons, List.length_nil, List.length_map, List.length_replicate, Xf, Nat.reduceAdd, Nat.reduceSub, List.replicate, List.cons_append, List.nil_append]
 have g1 : t - 15 < l.length := by omega
 have g2 : t - 2 < l.length := by omega
 have g3 : t - 16 < l.length := by omega
 have g4 : t - 7 < l.length := by omega
 have s1 := X25 (n := t) 15 15 rfl (by omega) (by omega)
 have s2 := X25 (n := t) 2 2 rfl (by omega) (by omega)
 have s3 := X25 (n := t) 16 16 rfl (by omega) (by omega)
 have s4 := X25 (n := t) 7 7 rfl (by omega) (by omega)
 have d1 := Xad l (t - 15) g1
 have d2 := Xad l (t - 2) g2
 have d3 := Xad l (t - 16) g3
 have d4 := Xad l (t - 7) g4
 refine X9 fun K hK => Xn Xj [] ?_
 simp (maxSteps:=9^7) only [ss, X1, tab, reduceCtorEq, reduceIte, Nat.reduceEqDiff, Nat.reduceBEq, Int.reduceLE, Int.reduceToNat, Nat.reduceAdd, Nat.reduceLT, Nat.reduceLeDiff]
 repeat' (first | (with_reducible refine hK _ ?_; clear hK K) | with_reducible apply And.intro)
 refine X9 fun K hK => Xn Xj [] ?_
 simp (maxSteps:=9^7) only [ss, X1, tab, reduceCtorEq, reduceIte, Nat.reduceEqDiff, Nat.reduceBEq, Int.reduceLE, Int.reduceToNat, Nat.reduceAdd, Nat.reduceLT, Nat.reduceLeDiff, Xa0, s1, g1, d1]
 repeat' (first | (with_reducible refine hK _ ?_; clear hK K) | with_reducible apply And.intro)
 refine X9 fun K hK => Xn Xj [] ?_
 simp (maxSteps:=9^7) only [ss, X1, tab, reduceCtorEq, reduceIte, Nat.reduceEqDiff, Nat.reduceBEq, Int.reduceLE, Int.reduceToNat, Nat.reduceAdd, Nat.reduceLT, Nat.reduceLeDiff, Xa0, s2, g2, d2]
 repeat' (first | (with_reducible refine hK _ ?_; clear hK K) | with_reducible apply And.intro)
 refine X9 fun K hK => Tn Xj follows (by kernel_rfl) ?_
 simp (maxSteps:=9^7) only [ss, tab, reduceCtorEq, reduceIte, Nat.reduceEqDiff, Nat.reduceBEq, Int.reduceLE, Int.reduceToNat, Nat.reduceAdd, Nat.reduceLT, Nat.reduceLeDiff, Xa0, s3, g3, d3]
 repeat' (first | (with_reducible refine hK _ ?_; clear hK K) | with_reducible apply And.intro)
 refine X3 (Xam _ 7 (by decide)) ?_
 simp (maxSteps:=9^7) only [ss, X1, tab, reduceCtorEq, reduceIte, Nat.reduceEqDiff, Nat.reduceBEq, Int.reduceLE, Int.reduceToNat, Nat.reduceAdd, Nat.reduceLT, Nat.reduceLeDiff]
 refine X3 (Xam _ 18 (by decide)) ?_
 simp (maxSteps:=9^7) only [ss, X1, tab, reduceCtorEq, reduceIte, Nat.reduceEqDiff, Nat.reduceBEq, Int.reduceLE, Int.reduceToNat, Nat.reduceAdd, Nat.reduceLT, Nat.reduceLeDiff, Xac]
 refine X3 (Xba _ 3 (by decide)) ?_
 simp (maxSteps:=9^7) only [ss, X1, tab, reduceCtorEq, reduceIte, Nat.reduceEqDiff, Nat.reduceBEq, Int.reduceLE, Int.reduceToNat, Nat.reduceAdd, Nat.reduceLT, Nat.reduceLeDiff, Xac, Xa0, s4, g4, d4]
 refine X3 (Xam _ 17 (by decide)) ?_
 simp (maxSteps:=9^7) only [ss, X1, tab, reduceCtorEq, reduceIte, Nat.reduceEqDiff, Nat.reduceBEq, Int.reduceLE, Int.reduceToNat, Nat.reduceAdd, Nat.reduceLT, Nat.reduceLeDiff]
 refine X3 (Xam _ 19 (by decide)) ?_
 simp (maxSteps:=9^7) only [ss, X1, tab, reduceCtorEq, reduceIte, Nat.reduceEqDiff, Nat.reduceBEq, Int.reduceLE, Int.reduceToNat, Nat.reduceAdd, Nat.reduceLT, Nat.reduceLeDiff, Xac]
 refine X3 (Xba _ 10 (by decide)) ?_
 simp (maxSteps:=9^7) only [ss, tab, reduceCtorEq, reduceIte, Nat.reduceEqDiff, Nat.reduceBEq, Int.reduceLE, Int.reduceToNat, Nat.reduceAdd, Nat.reduceLT, Nat.reduceLeDiff, Xac]
 refine Xal 1 (Xa2 [l.getD (t - 16) 0, smx (l.getD (t - 15) 0) 7 18 3, l.getD (t - 7) 0, smx (l.getD (t - 2) 0) 17 19 10]) rfl ?_
 simp (maxSteps:=9^7) only [ss, X1, tab, reduceCtorEq, reduceIte, Nat.reduceEqDiff, Nat.reduceBEq, Int.reduceLE, Int.reduceToNat, Nat.reduceAdd, Nat.reduceLT, Nat.reduceLeDiff]
 refine X3 (Xbh _ .full (by simp)) ?_
 simp (maxSteps:=9^7) only [ss, X1, tab, reduceCtorEq, reduceIte, Nat.reduceEqDiff, Nat.reduceBEq, Int.reduceLE, Int.reduceToNat, Nat.reduceAdd, Nat.reduceLT, Nat.reduceLeDiff]
 repeat' (first | (with_reducible refine hK _ ?_; clear hK K) | with_reducible apply And.intro)
 have e : Xbf [l.getD (t - 16) 0, smx (l.getD (t - 15) 0) 7 18 3, l.getD (t - 7) 0, smx (l.getD (t - 2) 0) 17 19 10] = X7s l t := by simp [Xbf, X7s]
 rw [e]
 refine Yd ?_
 exact Qv (.inr rfl) rfl rfl rfl (fun _ _ => rfl) rfl
end Go.Proofs.YtgdhnngpfieloaaGreat.Hm
end
section
namespace Go.Proofs.YtgdhnngpfieloaaGreat.Hm
set_option linter.unusedVariables false
set_option linter.unusedSimpArgs false
open Go Go.VS Tab Sha
set_option maxHeartbeats 1000000
def acc (b : List UInt8) (i : Nat) : Nat → Nat
 | 0 => 0
 | k + 1 => 256 * acc b i k + (b.getD (i + k) 0).toNat
theorem Xde (b : List UInt8) (i : Nat) : ∀ k, acc b i k < 256 ^ k
 | 0 => by simp [acc]
 | k + 1 => by
  have := Xde b i k
  have h := (b.getD (i + k) 0).toNat_lt
  rw [acc, Nat.pow_succ]
  omega
theorem Xbx (a b c d : UInt8) : (X7r a b c d).toNat = 256 * (256 * (256 * a.toNat + b.toNat) + c.toNat) + d.toNat := by
 have ha := a.toNat_lt
 have hb := b.toNat_lt
 have hc := c.toNat_lt
 have hd := d.toNat_lt
 have key : ∀ (x y : Nat), y < 2 ^ 8 → (x <<< 8) ||| y = 256 * x + y := fun x y h => by
  rw [← Nat.shiftLeft_add_eq_or_of_lt h, Nat.shiftLeft_eq]; omega
 have e : X7r a b c d = BitVec.ofNat 32 ((((a.toNat <<< 8 ||| b.toNat) <<< 8) ||| c.toNat) <<< 8 ||| d.toNat) := by
  simp only [X7r]
  apply BitVec.eq_of_toNat_eq
  simp only [BitVec.toNat_or, BitVec.toNat_shiftLeft, BitVec.toNat_ofNat, Nat.shiftLeft_or_distrib, ← Nat.shiftLeft_add]
  rw [Nat.mod_eq_of_lt (a := a.toNat) (by omega), Nat.mod_eq_of_lt (a := b.toNat) (by omega), Nat.mod_eq_of_lt (a := c.toNat) (by omega), Nat.mod_eq_of_lt (a := d.toNat) (by omega)]
  rw [Nat.mod_eq_of_lt (a := a.toNat <<< 24) (by rw [Nat.shiftLeft_eq]; omega), Nat.mod_eq_of_lt (a := b.toNat <<< 16) (by rw [Nat.shiftLeft_eq]; omega), Nat.mod_eq_of_lt (a := c.toNat <<< 8) (by rw [Nat.shiftLeft_eq]; omega)]
  have l1 : a.toNat <<< 24 < 2 ^ 32 := by rw [Nat.shiftLeft_eq]; omega
  have l2 : b.toNat <<< 16 < 2 ^ 32 := by rw [Nat.shiftLeft_eq]; omega
  have l3 : c.toNat <<< 8 < 2 ^ 32 := by rw [Nat.shiftLeft_eq]; omega
  rw [Nat.mod_eq_of_lt]
  exact Nat.or_lt_two_pow (Nat.or_lt_two_pow (Nat.or_lt_two_pow l1 l2) l3) (by omega)
 rw [e, key _ _ hb, key _ _ hc, key _ _ hd, BitVec.toNat_ofNat, Nat.mod_eq_of_lt (by omega)]
theorem Xd0 (b : List UInt8) (i : Nat) : acc b i 4 = (X7r (b.getD i 0) (b.getD (i + 1) 0) (b.getD (i + 2) 0) (b.getD (i + 3) 0)).toNat := by
 rw [Xbx]; simp [acc]
theorem Xc9 (l : List UInt8) (i : Nat) (h : i < l.length) : (Xo l).getD i [] = [b8 (l.getD i 0)] := by
 simp [Xo, List.getD_eq_getElem?_getD, h]
theorem Xbi (l : List (BitVec 32)) (x : BitVec 32) : Xa2 l ++ [[.val (.int .u32 (x.toNat : Int))]] = Xa2 (l ++ [x]) := by simp [Xa2]
theorem Xaw (l : List UInt8) (a i : Nat) : (l.drop a).getD i 0 = l.getD (a + i) 0 := by simp [List.getD_eq_getElem?_getD]
theorem Xd1 (b : List UInt8) (md : Md) (a : Nat) (h : a + 64 ≤ b.length) (hb : b.length ≤ 1000000) :
  Xr Tryz.prog 111 [.sl 1 (Xo b) md, i64 (a : Int)] [] (.sl 1 (Xa2 (ws (b.drop a) 64)) .sh) [] := by
 refine Xc 1 Tryz.func111 rfl fun n out _ _ => ?_
 simp only [Tryz.ntmps111, List.length_cons, List.length_nil, List.length_map, List.length_replicate, Xf, Nat.reduceAdd, Nat.reduceSub, List.replicate, List.cons_append, List.nil_append]
 refine X9 fun K hK => Xn Xj [] ?_
 simp (maxSteps:=9^7) only [ss, X1, tab, reduceCtorEq, reduceIte, Nat.reduceEqDiff, Nat.reduceBEq, Int.reduceLE, Int.reduceToNat, Nat.reduceAdd, Nat.reduceLT, Nat.reduceLeDiff]
 repeat' (first | (with_reducible refine hK _ ?_; clear hK K) | with_reducible apply And.intro)
 refine X9 fun K hK => Xn Xj [] ?_
 simp (maxSteps:=9^7) only [ss, X1, tab, reduceCtorEq, reduceIte, Nat.reduceEqDiff, Nat.reduceBEq, Int.reduceLE, Int.reduceToNat, Nat.reduceAdd, Nat.reduceLT, Nat.reduceLeDiff]
 repeat' (first | (with_reducible refine hK _ ?_; clear hK K) | with_reducible apply And.intro)
 refine Yy (Q9 (i := 0) 122 1 rfl) ?_
 simp only [s_0, s_s]
 refine X9 fun KB hKB => ?_
 refine X9 fun K hK => Xn Xj [] ?_
 simp (maxSteps:=9^7) only [ss, X1, tab, reduceCtorEq, reduceIte, Nat.reduceEqDiff, Nat.reduceBEq, Int.reduceLE, Int.reduceToNat, Nat.reduceAdd, Nat.reduceLT, Nat.reduceLeDiff]
 repeat' (first | (with_reducible refine hK _ ?_; clear hK K) | with_reducible apply And.intro)
 refine Xe ?_
 refine X9z (fun i : Nat => [(5, .sl 1 (Xa2 (ws (b.drop a) i)) (.own (n + 0))), (6, i64 (i : Int)), (7, .top), (8, .top), (10, .top), (11, .top), (12, .top), (13, .top), (14, .top), (15, .top), (16, .top), (17, .top), (18, .top), (19, .top), (20, .top), (21, .top), (22, .top), (23, .top), (24, .top), (25, .top), (26, .top), (27, .top), (28, .top), (29, .top), (30, .top), (31, .top), (32, .top), (33, .top), (34, .top), (35, .top)]) (fun i => [some (.row 122 1 i)]) (fun i => i ≤ 16) (fun i => 16 - i) 0 (by omega) ?_ fun i hi => ?_
 ·refine X2 ?_ ?_ rfl rfl rfl rfl <;> simp only [X4, sl]
  exact (Nz _ _ _).2 trivial
 simp only [X4, s_0, s_s]
 refine X9 fun KC hKC => ?_
 refine X9 fun K hK => Xn Xj [] ?_
 simp (maxSteps:=9^7) only [ss, X1, tab, reduceCtorEq, reduceIte, Nat.reduceEqDiff, Nat.reduceBEq, Int.reduceLE, Int.reduceToNat, Nat.reduceAdd, Nat.reduceLT, Nat.reduceLeDiff]
 repeat' (first | (with_reducible refine hK _ ?_; clear hK K) | with_reducible apply And.intro)
 refine Uz rfl (fun ht => Z1 (hKC _ ?_)) (fun hf => Qi (id ?_))
 rotate_left
 ·simp only [Qd, Z4, if_true]
  refine hKB _ ?_
  clear hKB KB hKC KC
  have hi16 : i = 16 := by have := of_decide_eq_false hf; omega
  subst hi16
  refine X9 fun KB hKB => ?_
  refine X9 fun K hK => Xn Xj [] ?_
  simp (maxSteps:=9^7) only [ss, X1, tab, reduceCtorEq, reduceIte, Nat.reduceEqDiff, Nat.reduceBEq, Int.reduceLE, Int.reduceToNat, Nat.reduceAdd, Nat.reduceLT, Nat.reduceLeDiff]
  repeat' (first | (with_reducible refine hK _ ?_; clear hK K) | with_reducible apply And.intro)
  refine Xe ?_
  refine X9z (fun i : Nat => [(5, .sl 1 (Xa2 (ws (b.drop a) i)) (.own (n + 0))), (9, i64 (i : Int)), (36, .top), (37, .top), (38, .top), (39, .top), (40, .top), (41, .top), (42, .top), (43, .top), (44, .top), (45, .top)]) (fun i => [some (.row 122 1 i)]) (fun i => 16 ≤ i ∧ i ≤ 64) (fun i => 64 - i) 16 (by omega) ?_ fun i hi => ?_
  ·refine X2 ?_ ?_ rfl rfl rfl rfl <;> simp only [X4, sl]
  simp only [X4, s_0, s_s]
  refine X9 fun KC hKC => ?_
  refine X9 fun K hK => Xn Xj [] ?_
  simp (maxSteps:=9^7) only [ss, X1, tab, reduceCtorEq, reduceIte, Nat.reduceEqDiff, Nat.reduceBEq, Int.reduceLE, Int.reduceToNat, Nat.reduceAdd, Nat.reduceLT, Nat.reduceLeDiff]
  repeat' (first | (with_reducible refine hK _ ?_; clear hK K) | with_reducible apply And.intro)
  refine Uz rfl (fun ht => Z1 (hKC _ ?_)) (fun hf => Qi (id ?_))
  rotate_left
  ·simp only [Qd, Z4, if_true]
   refine hKB _ ?_
   clear hKB KB hKC KC
   have hi64 : i = 64 := by have := of_decide_eq_false hf; omega
   subst hi64
   refine X9 fun K hK => Xn Xj [] ?_
   simp (maxSteps:=9^7) only [ss, X1, tab, reduceCtorEq, reduceIte, Nat.reduceEqDiff, Nat.reduceBEq, Int.reduceLE, Int.reduceToNat, Nat.reduceAdd, Nat.reduceLT, Nat.reduceLeDiff]
   repeat' (first | (with_reducible refine hK _ ?_; clear hK K) | with_reducible apply And.intro)
   refine Yd ?_
   refine Xv (.inr rfl) rfl rfl rfl (fun _ _ => rfl) (AV.le.sh _ _ _) rfl
  clear hKC KC
  have hi2 : i < 64 := by have := of_decide_eq_true ht; omega
  refine X9 fun KC hKC => Xe ?_
  refine Xn Xj [] ?_
  simp (maxSteps:=9^7) only [ss, X1, tab, reduceCtorEq, reduceIte, Nat.reduceEqDiff, Nat.reduceBEq, Int.reduceLE, Int.reduceToNat, Nat.reduceAdd, Nat.reduceLT, Nat.reduceLeDiff]
  refine X3 (Xe1 _ _ i hi.1 (Xa8 _ _) hi.2) ?_
  have e6 : i + 1 ≤ 35184372088832 := by omega
  have e7 : i + 1 ≤ 9223372036854775807 := by omega
  have e8 : (i + 1) * 4 ≤ 140737488355328 := by omega
  simp (maxSteps:=9^7) only [ss, X1, tab, reduceCtorEq, reduceIte, Nat.reduceEqDiff, Nat.reduceBEq, Int.reduceLE, Int.reduceToNat, Nat.reduceAdd, Nat.reduceLT, Nat.reduceLeDiff, Xa0, Xa8, e6, e7, e8, Xbi]
  refine hKC _ ?_
  clear hKC KC
  have e9 : ws (b.drop a) i ++ [X7s (ws (b.drop a) i) i] = ws (b.drop a) (i + 1) := by rw [ws, if_neg (by omega)]
  rw [e9]
  refine Xn Xj [] ?_
  simp (maxSteps:=9^7) only [ss, X1, tab, reduceCtorEq, reduceIte, Nat.reduceEqDiff, Nat.reduceBEq, Int.reduceLE, Int.reduceToNat, Nat.reduceAdd, Nat.reduceLT, Nat.reduceLeDiff, Yl (n := i) 1 1 rfl (by omega)]
  refine ⟨i + 1, by omega, by omega, ?_⟩
  refine X2 ?_ ?_ rfl rfl rfl rfl <;> simp only [X4, sl]
 clear hKC KC
 have hi2 : i < 16 := by have := of_decide_eq_true ht; omega
 refine X9 fun KC hKC => Xe ?_
 refine X9 fun K hK => Xn Xj [] ?_
 simp (maxSteps:=9^7) only [ss, X1, tab, reduceCtorEq, reduceIte, Nat.reduceEqDiff, Nat.reduceBEq, Int.reduceLE, Int.reduceToNat, Nat.reduceAdd, Nat.reduceLT, Nat.reduceLeDiff]
 repeat' (first | (with_reducible refine hK _ ?_; clear hK K) | with_reducible apply And.intro)
 refine X9 fun KD hKD => ?_
 refine X9 fun K hK => Xn Xj [] ?_
 simp (maxSteps:=9^7) only [ss, X1, tab, reduceCtorEq, reduceIte, Nat.reduceEqDiff, Nat.reduceBEq, Int.reduceLE, Int.reduceToNat, Nat.reduceAdd, Nat.reduceLT, Nat.reduceLeDiff]
 repeat' (first | (with_reducible refine hK _ ?_; clear hK K) | with_reducible apply And.intro)
 refine Xe ?_
 refine Xb6 (fun k : Nat => [(7, i64 (acc b (a + 4 * i) k : Int)), (8, i64 (k : Int)), (14, .top), (15, .top), (16, .top), (17, .top), (18, .top), (19, .top), (20, .top), (21, .top), (22, .top), (23, .top), (24, .top), (25, .top), (26, .top), (27, .top), (28, .top), (29, .top), (30, .top)]) (fun k => k ≤ 4) (fun k => 4 - k) 0 (by omega) ?_ fun k hk => ?_
 ·simp only [X4, s_0, s_s, X18, X4a, Co, Fe, Py, J1, true_and, and_true, nc]
  exact .rfl _
 simp only [X4, s_0, s_s]
 refine X9 fun KE hKE => ?_
 refine X9 fun K hK => Xn Xj [] ?_
 simp (maxSteps:=9^7) only [ss, X1, tab, reduceCtorEq, reduceIte, Nat.reduceEqDiff, Nat.reduceBEq, Int.reduceLE, Int.reduceToNat, Nat.reduceAdd, Nat.reduceLT, Nat.reduceLeDiff]
 repeat' (first | (with_reducible refine hK _ ?_; clear hK K) | with_reducible apply And.intro)
 refine Uz rfl (fun ht => Z1 (hKE _ ?_)) (fun hf => Qi (id ?_))
 rotate_left
 ·simp only [Qd, Z4, if_true]
  refine hKD _ ?_
  clear hKD KD hKE KE
  have hk4 : k = 4 := by have := of_decide_eq_false hf; omega
  subst hk4
  have e6 : i + 1 ≤ 35184372088832 := by omega
  have e7 : i + 1 ≤ 9223372036854775807 := by omega
  have e8 : (i + 1) * 4 ≤ 140737488355328 := by omega
  have ew : acc b (a + 4 * i) 4 = (Fy (b.drop a) i).toNat := by
   rw [Xd0, Fy, Xaw, Xaw, Xaw, Xaw]
   rfl
  refine Xn Xj [] ?_
  simp (maxSteps:=9^7) only [ss, X1, tab, reduceCtorEq, reduceIte, Nat.reduceEqDiff, Nat.reduceBEq, Int.reduceLE, Int.reduceToNat, Nat.reduceAdd, Nat.reduceLT, Nat.reduceLeDiff, ew, Xag, Xa0, Xa8, e6, e7, e8, Xbi]
  refine hKC _ ?_
  clear hKC KC
  have e9 : ws (b.drop a) i ++ [Fy (b.drop a) i] = ws (b.drop a) (i + 1) := by rw [ws, if_pos hi2]
  rw [e9]
  refine Xn Xj [] ?_
  simp (maxSteps:=9^7) only [ss, X1, tab, reduceCtorEq, reduceIte, Nat.reduceEqDiff, Nat.reduceBEq, Int.reduceLE, Int.reduceToNat, Nat.reduceAdd, Nat.reduceLT, Nat.reduceLeDiff, Yl (n := i) 1 1 rfl (by omega)]
  refine ⟨i + 1, by omega, by omega, ?_⟩
  refine X2 ?_ ?_ rfl rfl rfl rfl <;> simp only [X4, sl]
 clear hKE KE
 have hk2 : k < 4 := by have := of_decide_eq_true ht; omega
 have ha := Xde b (a + 4 * i) k
 have hp : 256 ^ k ≤ 256 ^ 3 := Nat.pow_le_pow_right (by decide) (by omega)
 have hbk := (b.getD (a + 4 * i + k) 0).toNat_lt
 have m1 := X95 (n := acc b (a + 4 * i) k) 256 256 rfl (by omega)
 have m2 := X95 (n := i) 4 4 rfl (by omega)
 have m3 := Yl (n := a) ((4 * i : Nat) : Int) (4 * i) rfl (by omega)
 have m4 := Yl (n := a + 4 * i) (k : Int) k rfl (by omega)
 have m5 : IntKind.i64.wrap ((b.getD (a + 4 * i + k) 0).toNat : Int) = ((b.getD (a + 4 * i + k) 0).toNat : Int) := by rw [wrap_i64] <;> omega
 have m6 := Yl (n := 256 * acc b (a + 4 * i) k) ((b.getD (a + 4 * i + k) 0).toNat : Int) (b.getD (a + 4 * i + k) 0).toNat rfl (by omega)
 have m7 : a + 4 * i + k < b.length := by omega
 refine X9 fun KE hKE => Xe ?_
 refine Xn Xj [] ?_
 simp (maxSteps:=9^7) only [ss, X1, tab, reduceCtorEq, reduceIte, Nat.reduceEqDiff, Nat.reduceBEq, Int.reduceLE, Int.reduceToNat, Nat.reduceAdd, Nat.reduceLT, Nat.reduceLeDiff, m1, m2, m3, m4, m5, m6, m7, X5, Xc9 b (a + 4 * i + k) m7]
 refine hKE _ ?_
 clear hKE KE
 refine Xn Xj [] ?_
 simp (maxSteps:=9^7) only [ss, X1, tab, reduceCtorEq, reduceIte, Nat.reduceEqDiff, Nat.reduceBEq, Int.reduceLE, Int.reduceToNat, Nat.reduceAdd, Nat.reduceLT, Nat.reduceLeDiff, Yl (n := k) 1 1 rfl (by omega)]
 refine ⟨k + 1, by omega, by omega, ?_⟩
 refine X2 ?_ ?_ rfl rfl rfl rfl <;> simp only [X4, sl]
 exact .rfl _
end Go.Proofs.YtgdhnngpfieloaaGreat.Hm
end
section
namespace Go.Proofs.YtgdhnngpfieloaaGreat.Hm
set_option linter.unusedVariables false
set_option linter.unusedSimpArgs false
open Go Go.VS Tab Sha
set_option maxHeartbeats 2000000
theorem Xcw (h : V8) (b : List UInt8) (md : Md) (a : Nat) (hb : a + 64 ≤ b.length) (hb2 : b.length ≤ 1000000) :
  Xr Tryz.prog 88 [.agg (h.list.map w32), .sl 1 (Xo b) md, i64 (a : Int)] [] (.agg ((block h (b.drop a)).list.map w32)) [] := by
 refine Xc 3 Tryz.func88 rfl fun n out _ _ => ?_
 simp only [Tryz.ntmps88, List.length_cons, List.length_nil, List.length_map, List.length_replicate, Xf, Nat.reduceAdd, Nat.reduceSub, List.replicate, List.cons_append, List.nil_append]
 have hl : h.list.length = 8 := rfl
 have hwl := Xa8 (b.drop a) 64
 refine X9 fun K hK => Xn Xj [] ?_
 simp (maxSteps:=9^7) only [ss, X1, tab, reduceCtorEq, reduceIte, Nat.reduceEqDiff, Nat.reduceBEq, Int.reduceLE, Int.reduceToNat, Nat.reduceAdd, Nat.reduceLT, Nat.reduceLeDiff]
 repeat' (first | (with_reducible refine hK _ ?_; clear hK K) | with_reducible apply And.intro)
 refine X9 fun K hK => Xn Xj [] ?_
 simp (maxSteps:=9^7) only [ss, X1, tab, reduceCtorEq, reduceIte, Nat.reduceEqDiff, Nat.reduceBEq, Int.reduceLE, Int.reduceToNat, Nat.reduceAdd, Nat.reduceLT, Nat.reduceLeDiff]
 repeat' (first | (with_reducible refine hK _ ?_; clear hK K) | with_reducible apply And.intro)
 refine X3 Xbo ?_
 simp (maxSteps:=9^7) only [ss, X1, tab, reduceCtorEq, reduceIte, Nat.reduceEqDiff, Nat.reduceBEq, Int.reduceLE, Int.reduceToNat, Nat.reduceAdd, Nat.reduceLT, Nat.reduceLeDiff]
 repeat' (first | (with_reducible refine hK _ ?_; clear hK K) | with_reducible apply And.intro)
 refine X9 fun K hK => Xn Xj [] ?_
 simp (maxSteps:=9^7) only [ss, X1, tab, reduceCtorEq, reduceIte, Nat.reduceEqDiff, Nat.reduceBEq, Int.reduceLE, Int.reduceToNat, Nat.reduceAdd, Nat.reduceLT, Nat.reduceLeDiff]
 repeat' (first | (with_reducible refine hK _ ?_; clear hK K) | with_reducible apply And.intro)
 refine X3 (Xd1 b md a hb hb2) ?_
 simp (maxSteps:=9^7) only [ss, X1, tab, reduceCtorEq, reduceIte, Nat.reduceEqDiff, Nat.reduceBEq, Int.reduceLE, Int.reduceToNat, Nat.reduceAdd, Nat.reduceLT, Nat.reduceLeDiff]
 repeat' (first | (with_reducible refine hK _ ?_; clear hK K) | with_reducible apply And.intro)
 have hx : h.list.map w32 = [w32 h.a, w32 h.b, w32 h.c, w32 h.d, w32 h.e, w32 h.f, w32 h.g, w32 h.h] := rfl
 rw [hx]
 refine X9 fun K hK => Tn Xj follows (by kernel_rfl) ?_
 simp (maxSteps:=9^7) only [ss, X1, tab, reduceCtorEq, reduceIte, Nat.reduceEqDiff, Nat.reduceBEq, Int.reduceLE, Int.reduceToNat, Nat.reduceAdd, Nat.reduceLT, Nat.reduceLeDiff, nc, Int.reduceLT]
 repeat' (first | (with_reducible refine hK _ ?_; clear hK K) | with_reducible apply And.intro)
 refine X9 fun KB hKB => ?_
 refine X9 fun K hK => Xn Xj [] ?_
 simp (maxSteps:=9^7) only [ss, X1, tab, reduceCtorEq, reduceIte, Nat.reduceEqDiff, Nat.reduceBEq, Int.reduceLE, Int.reduceToNat, Nat.reduceAdd, Nat.reduceLT, Nat.reduceLeDiff]
 repeat' (first | (with_reducible refine hK _ ?_; clear hK K) | with_reducible apply And.intro)
 refine Xe ?_
 generalize hV : X1p (ws (b.drop a) 64) h = V
 refine Xb6 (fun i : Nat => [(9, w32 (V i).a), (10, w32 (V i).b), (11, w32 (V i).c), (12, w32 (V i).d), (13, w32 (V i).e), (14, w32 (V i).f), (15, w32 (V i).g), (16, w32 (V i).h), (17, i64 (i : Int)), (18, .top), (19, .top), (42, .top), (43, .top), (44, .top), (45, .top), (46, .top), (47, .top), (48, .top), (49, .top), (50, .top), (51, .top), (52, .top), (53, .top), (54, .top), (55, .top), (56, .top), (57, .top), (58, .top), (59, .top), (60, .top), (61, .top), (62, .top), (63, .top), (64, .top), (65, .top), (66, .top), (67, .top), (68, .top), (69, .top), (70, .top), (71, .top), (72, .top), (73, .top), (74, .top), (75, .top), (76, .top), (77, .top), (78, .top), (79, .top), (80, .top), (81, .top), (82, .top), (83, .top), (84, .top), (85, .top), (86, .top), (87, .top), (88, .top), (89, .top), (90, .top), (91, .top), (92, .top), (93, .top), (94, .top), (95, .top), (96, .top)]) (fun i => i ≤ 64) (fun i => 64 - i) 0 (by omega) ?_ fun i hi => ?_
 ·rw [show V 0 = h by rw [← hV]; rfl]
  simp only [X4, s_0, s_s, X18, X4a, Co, Fe, Py, J1, true_and, and_true, nc]
 simp only [X4, s_0, s_s]
 refine X9 fun KC hKC => ?_
 refine X9 fun K hK => Xn Xj [] ?_
 simp (maxSteps:=9^7) only [ss, X1, tab, reduceCtorEq, reduceIte, Nat.reduceEqDiff, Nat.reduceBEq, Int.reduceLE, Int.reduceToNat, Nat.reduceAdd, Nat.reduceLT, Nat.reduceLeDiff]
 repeat' (first | (with_reducible refine hK _ ?_; clear hK K) | with_reducible apply And.intro)
 refine Uz rfl (fun ht => Z1 (hKC _ ?_)) (fun hf => Qi (id ?_))
 rotate_left
 ·simp only [Qd, Z4, if_true]
  refine hKB _ ?_
  clear hKB KB hKC KC
  have hi64 : i = 64 := by have := of_decide_eq_false hf; omega
  subst hi64
  have hvl : (V 64).list.length = 8 := rfl
  refine X9 fun K hK => Xn Xj [] ?_
  simp (maxSteps := 4000000) only [sx, sy, ne_eq, eq_self, if_true, if_false, Nat.reduceEqDiff, hbT, X1, Tk, tab, Cl, Qd, Z4, reduceCtorEq, reduceIte, Nat.reduceBEq, Int.reduceLE, Int.reduceToNat, Nat.reduceAdd, Nat.reduceLT, Nat.reduceLeDiff]
  repeat' (first | (with_reducible refine hK _ ?_; clear hK K) | with_reducible apply And.intro)
  refine Xap ((V 64).list.map w32) rfl ?_
  simp (maxSteps:=9^7) only [ss, X1, tab, reduceCtorEq, reduceIte, Nat.reduceEqDiff, Nat.reduceBEq, Int.reduceLE, Int.reduceToNat, Nat.reduceAdd, Nat.reduceLT, Nat.reduceLeDiff, X0, hvl]
  repeat' (first | (with_reducible refine hK _ ?_; clear hK K) | with_reducible apply And.intro)
  refine X9 fun KB hKB => ?_
  refine X9 fun K hK => Xn Xj [] ?_
  simp (maxSteps:=9^7) only [ss, X1, tab, reduceCtorEq, reduceIte, Nat.reduceEqDiff, Nat.reduceBEq, Int.reduceLE, Int.reduceToNat, Nat.reduceAdd, Nat.reduceLT, Nat.reduceLeDiff]
  repeat' (first | (with_reducible refine hK _ ?_; clear hK K) | with_reducible apply And.intro)
  refine Xe ?_
  refine X9z (fun i : Nat => [(21, i64 (i : Int)), (106, .top), (107, .top), (108, .top), (109, .top), (110, .top), (111, .top), (112, .top), (113, .top), (114, .top), (115, .top), (116, .top), (117, .top), (118, .top), (119, .top)]) (fun i => [some (.box 123 (h.list.map w32)), some (.box 123 (List.replicate 8 (.val (.int .u32 0)))), some (.box 123 ((Xaz (V 64).list h.list i).map w32))]) (fun i => i ≤ 8) (fun i => 8 - i) 0 (by omega) ?_ fun i hi => ?_
  ·refine X2 ?_ ?_ rfl rfl rfl rfl <;> simp only [X4, sl]
   repeat' (first | exact (Tq _).2 trivial | exact .rfl _ | apply And.intro)
  simp only [X4, s_0, s_s]
  refine X9 fun KC hKC => ?_
  refine X9 fun K hK => Xn Xj [] ?_
  simp (maxSteps:=9^7) only [ss, X1, tab, reduceCtorEq, reduceIte, Nat.reduceEqDiff, Nat.reduceBEq, Int.reduceLE, Int.reduceToNat, Nat.reduceAdd, Nat.reduceLT, Nat.reduceLeDiff]
  repeat' (first | (with_reducible refine hK _ ?_; clear hK K) | with_reducible apply And.intro)
  refine Uz rfl (fun ht => Z1 (hKC _ ?_)) (fun hf => Qi (id ?_))
  rotate_left
  ·simp only [Qd, Z4, if_true]
   refine hKB _ ?_
   clear hKB KB hKC KC
   have hi8 : i = 8 := by have := of_decide_eq_false hf; omega
   subst hi8
   have hal := Xaj (V 64).list h.list hvl hl 8 (by decide)
   refine X9 fun K hK => Xn Xj [] ?_
   simp (maxSteps:=9^7) only [ss, X1, tab, reduceCtorEq, reduceIte, Nat.reduceEqDiff, Nat.reduceBEq, Int.reduceLE, Int.reduceToNat, Nat.reduceAdd, Nat.reduceLT, Nat.reduceLeDiff, E6, hal, X0]
   repeat' (first | (with_reducible refine hK _ ?_; clear hK K) | with_reducible apply And.intro)
   refine Yd ?_
   have e : Xaz (V 64).list h.list 8 = (block h (b.drop a)).list := by
    rw [← hV]
    simp [Xaz, block, V8.list, BitVec.add_comm]
   rw [← e]
   exact X1b (.inr rfl) rfl rfl rfl (fun _ _ => rfl) ok123 (k := n + 1) (off := 0) rfl (Xb _ (by simp)) (X6 _ (Nat.le_refl _) 1) (E6 (by simp [hal]))
  clear hKC KC
  have hi2 : i < 8 := by have := of_decide_eq_true ht; omega
  have hi3 : i ≤ 7 := by omega
  have hal := Xaj (V 64).list h.list hvl hl i hi
  refine X9 fun KC hKC => Xe ?_
  refine Ny Xj [] [[], [], [], [2], [], [], [0], [], [], [], [2]] [[], [], [], [], [], [], [], [], [], [], [2]] follows (by kernel_rfl) (by decide) (by decide) (by kernel_rfl) ?_
  simp (maxSteps:=9^7) only [ss, tab, reduceCtorEq, reduceIte, Nat.reduceEqDiff, Nat.reduceBEq, Int.reduceLE, Int.reduceToNat, Nat.reduceAdd, Nat.reduceLT, Nat.reduceLeDiff, hi2, hi3, X0z 1 w32 (Xaz (V 64).list h.list i) i 0 (by omega), X0z 1 w32 h.list i 0 (by omega)]
  refine Xal 1 (Xa2 [(Xaz (V 64).list h.list i).getD i 0, h.list.getD i 0]) rfl ?_
  simp (maxSteps:=9^7) only [ss, X1, tab, reduceCtorEq, reduceIte, Nat.reduceEqDiff, Nat.reduceBEq, Int.reduceLE, Int.reduceToNat, Nat.reduceAdd, Nat.reduceLT, Nat.reduceLeDiff]
  refine X3 (Xbh _ .full (by simp)) ?_
  simp (maxSteps:=9^7) only [ss, X1, tab, reduceCtorEq, reduceIte, Nat.reduceEqDiff, Nat.reduceBEq, Int.reduceLE, Int.reduceToNat, Nat.reduceAdd, Nat.reduceLT, Nat.reduceLeDiff, hi2, hi3, hal, F7]
  have ed : ∀ x y : BitVec 32, Xbf [x, y] = x + y := fun x y => by simp [Xbf]
  refine hKC _ ?_
  clear hKC KC
  rw [ed, Xbq (V 64).list h.list hvl hl i hi2, Xbr (V 64).list h.list hvl hl i hi2]
  refine Xn Xj [] ?_
  simp (maxSteps:=9^7) only [ss, X1, tab, reduceCtorEq, reduceIte, Nat.reduceEqDiff, Nat.reduceBEq, Int.reduceLE, Int.reduceToNat, Nat.reduceAdd, Nat.reduceLT, Nat.reduceLeDiff, Yl (n := i) 1 1 rfl (by omega)]
  refine ⟨i + 1, by omega, by omega, ?_⟩
  refine X2 ?_ ?_ rfl rfl rfl rfl <;> simp only [X4, sl]
 clear hKC KC
 have hi2 : i < 64 := by have := of_decide_eq_true ht; omega
 have hi3 : i < X5d.length := by rw [Xa6]; exact hi2
 have hi4 : i < (ws (b.drop a) 64).length := by rw [hwl]; exact hi2
 refine X9 fun KC hKC => Xe ?_
 refine X9 fun K hK => Tn Xj follows (by kernel_rfl) ?_
 simp (maxSteps:=9^7) only [ss, tab, reduceCtorEq, reduceIte, Nat.reduceEqDiff, Nat.reduceBEq, Int.reduceLE, Int.reduceToNat, Nat.reduceAdd, Nat.reduceLT, Nat.reduceLeDiff]
 repeat' (first | (with_reducible refine hK _ ?_; clear hK K) | with_reducible apply And.intro)
 refine X3 (Xam _ 6 (by decide)) ?_
 simp (maxSteps:=9^7) only [ss, X1, tab, reduceCtorEq, reduceIte, Nat.reduceEqDiff, Nat.reduceBEq, Int.reduceLE, Int.reduceToNat, Nat.reduceAdd, Nat.reduceLT, Nat.reduceLeDiff]
 refine X3 (Xam _ 11 (by decide)) ?_
 simp (maxSteps:=9^7) only [ss, X1, tab, reduceCtorEq, reduceIte, Nat.reduceEqDiff, Nat.reduceBEq, Int.reduceLE, Int.reduceToNat, Nat.reduceAdd, Nat.reduceLT, Nat.reduceLeDiff, Xac]
 refine X3 (Xam _ 25 (by decide)) ?_
 simp (maxSteps:=9^7) only [ss, X1, tab, reduceCtorEq, reduceIte, Nat.reduceEqDiff, Nat.reduceBEq, Int.reduceLE, Int.reduceToNat, Nat.reduceAdd, Nat.reduceLT, Nat.reduceLeDiff, Xac]
 refine X3 (Xcy _ _ _) ?_
 simp (maxSteps:=9^7) only [ss, tab, reduceCtorEq, reduceIte, Nat.reduceEqDiff, Nat.reduceBEq, Int.reduceLE, Int.reduceToNat, Nat.reduceAdd, Nat.reduceLT, Nat.reduceLeDiff, Xa0, Xa6, hwl, hi2, Xad X5d i hi3, Xad (ws (b.drop a) 64) i hi4]
 refine Xal 1 (Xa2 [(V i).h, tn (V i).e 6 11 25, (V i).g ^^^ ((V i).e &&& ((V i).f ^^^ (V i).g)), X5d.getD i 0, (ws (b.drop a) 64).getD i 0]) rfl ?_
 simp (maxSteps:=9^7) only [ss, X1, tab, reduceCtorEq, reduceIte, Nat.reduceEqDiff, Nat.reduceBEq, Int.reduceLE, Int.reduceToNat, Nat.reduceAdd, Nat.reduceLT, Nat.reduceLeDiff]
 refine X3 (Xbh _ .full (by simp)) ?_
 simp (maxSteps:=9^7) only [ss, X1, tab, reduceCtorEq, reduceIte, Nat.reduceEqDiff, Nat.reduceBEq, Int.reduceLE, Int.reduceToNat, Nat.reduceAdd, Nat.reduceLT, Nat.reduceLeDiff]
 repeat' (first | (with_reducible refine hK _ ?_; clear hK K) | with_reducible apply And.intro)
 refine X9 fun K hK => Xn Xj [] ?_
 simp (maxSteps:=9^7) only [ss, tab, reduceCtorEq, reduceIte, Nat.reduceEqDiff, Nat.reduceBEq, Int.reduceLE, Int.reduceToNat, Nat.reduceAdd, Nat.reduceLT, Nat.reduceLeDiff]
 repeat' (first | (with_reducible refine hK _ ?_; clear hK K) | with_reducible apply And.intro)
 refine X3 (Xam _ 2 (by decide)) ?_
 simp (maxSteps:=9^7) only [ss, X1, tab, reduceCtorEq, reduceIte, Nat.reduceEqDiff, Nat.reduceBEq, Int.reduceLE, Int.reduceToNat, Nat.reduceAdd, Nat.reduceLT, Nat.reduceLeDiff]
 refine X3 (Xam _ 13 (by decide)) ?_
 simp (maxSteps:=9^7) only [ss, X1, tab, reduceCtorEq, reduceIte, Nat.reduceEqDiff, Nat.reduceBEq, Int.reduceLE, Int.reduceToNat, Nat.reduceAdd, Nat.reduceLT, Nat.reduceLeDiff, Xac]
 refine X3 (Xam _ 22 (by decide)) ?_
 simp (maxSteps:=9^7) only [ss, X1, tab, reduceCtorEq, reduceIte, Nat.reduceEqDiff, Nat.reduceBEq, Int.reduceLE, Int.reduceToNat, Nat.reduceAdd, Nat.reduceLT, Nat.reduceLeDiff, Xac]
 refine X3 (Xe0 _ _ _) ?_
 simp (maxSteps:=9^7) only [ss, tab, reduceCtorEq, reduceIte, Nat.reduceEqDiff, Nat.reduceBEq, Int.reduceLE, Int.reduceToNat, Nat.reduceAdd, Nat.reduceLT, Nat.reduceLeDiff]
 refine Xal 1 (Xa2 [tn (V i).a 2 13 22, ((V i).a &&& (V i).b) ||| ((V i).c &&& ((V i).a ||| (V i).b))]) rfl ?_
 simp (maxSteps:=9^7) only [ss, X1, tab, reduceCtorEq, reduceIte, Nat.reduceEqDiff, Nat.reduceBEq, Int.reduceLE, Int.reduceToNat, Nat.reduceAdd, Nat.reduceLT, Nat.reduceLeDiff]
 refine X3 (Xbh _ .full (by simp)) ?_
 simp (maxSteps:=9^7) only [ss, X1, tab, reduceCtorEq, reduceIte, Nat.reduceEqDiff, Nat.reduceBEq, Int.reduceLE, Int.reduceToNat, Nat.reduceAdd, Nat.reduceLT, Nat.reduceLeDiff]
 repeat' (first | (with_reducible refine hK _ ?_; clear hK K) | with_reducible apply And.intro)
 refine X9 fun K hK => Xn Xj [] ?_
 simp (maxSteps:=9^7) only [ss, X1, tab, reduceCtorEq, reduceIte, Nat.reduceEqDiff, Nat.reduceBEq, Int.reduceLE, Int.reduceToNat, Nat.reduceAdd, Nat.reduceLT, Nat.reduceLeDiff]
 repeat' (first | (with_reducible refine hK _ ?_; clear hK K) | with_reducible apply And.intro)
 refine X9 fun K hK => Xn Xj [] ?_
 simp (maxSteps:=9^7) only [ss, X1, tab, reduceCtorEq, reduceIte, Nat.reduceEqDiff, Nat.reduceBEq, Int.reduceLE, Int.reduceToNat, Nat.reduceAdd, Nat.reduceLT, Nat.reduceLeDiff]
 repeat' (first | (with_reducible refine hK _ ?_; clear hK K) | with_reducible apply And.intro)
 refine X9 fun K hK => Xn Xj [] ?_
 simp (maxSteps:=9^7) only [ss, X1, tab, reduceCtorEq, reduceIte, Nat.reduceEqDiff, Nat.reduceBEq, Int.reduceLE, Int.reduceToNat, Nat.reduceAdd, Nat.reduceLT, Nat.reduceLeDiff]
 repeat' (first | (with_reducible refine hK _ ?_; clear hK K) | with_reducible apply And.intro)
 refine X9 fun K hK => Xn Xj [] ?_
 simp (maxSteps:=9^7) only [ss, tab, reduceCtorEq, reduceIte, Nat.reduceEqDiff, Nat.reduceBEq, Int.reduceLE, Int.reduceToNat, Nat.reduceAdd, Nat.reduceLT, Nat.reduceLeDiff]
 repeat' (first | (with_reducible refine hK _ ?_; clear hK K) | with_reducible apply And.intro)
 refine Xal 1 (Xa2 [(V i).d, Xbf [(V i).h, tn (V i).e 6 11 25, (V i).g ^^^ ((V i).e &&& ((V i).f ^^^ (V i).g)), X5d.getD i 0, (ws (b.drop a) 64).getD i 0]]) rfl ?_
 simp (maxSteps:=9^7) only [ss, X1, tab, reduceCtorEq, reduceIte, Nat.reduceEqDiff, Nat.reduceBEq, Int.reduceLE, Int.reduceToNat, Nat.reduceAdd, Nat.reduceLT, Nat.reduceLeDiff]
 refine X3 (Xbh _ .full (by simp)) ?_
 simp (maxSteps:=9^7) only [ss, X1, tab, reduceCtorEq, reduceIte, Nat.reduceEqDiff, Nat.reduceBEq, Int.reduceLE, Int.reduceToNat, Nat.reduceAdd, Nat.reduceLT, Nat.reduceLeDiff]
 repeat' (first | (with_reducible refine hK _ ?_; clear hK K) | with_reducible apply And.intro)
 refine X9 fun K hK => Xn Xj [] ?_
 simp (maxSteps:=9^7) only [ss, X1, tab, reduceCtorEq, reduceIte, Nat.reduceEqDiff, Nat.reduceBEq, Int.reduceLE, Int.reduceToNat, Nat.reduceAdd, Nat.reduceLT, Nat.reduceLeDiff]
 repeat' (first | (with_reducible refine hK _ ?_; clear hK K) | with_reducible apply And.intro)
 refine X9 fun K hK => Xn Xj [] ?_
 simp (maxSteps:=9^7) only [ss, X1, tab, reduceCtorEq, reduceIte, Nat.reduceEqDiff, Nat.reduceBEq, Int.reduceLE, Int.reduceToNat, Nat.reduceAdd, Nat.reduceLT, Nat.reduceLeDiff]
 repeat' (first | (with_reducible refine hK _ ?_; clear hK K) | with_reducible apply And.intro)
 refine X9 fun K hK => Xn Xj [] ?_
 simp (maxSteps:=9^7) only [ss, X1, tab, reduceCtorEq, reduceIte, Nat.reduceEqDiff, Nat.reduceBEq, Int.reduceLE, Int.reduceToNat, Nat.reduceAdd, Nat.reduceLT, Nat.reduceLeDiff]
 repeat' (first | (with_reducible refine hK _ ?_; clear hK K) | with_reducible apply And.intro)
 refine Xn Xj [] ?_
 simp (maxSteps:=9^7) only [ss, tab, reduceCtorEq, reduceIte, Nat.reduceEqDiff, Nat.reduceBEq, Int.reduceLE, Int.reduceToNat, Nat.reduceAdd, Nat.reduceLT, Nat.reduceLeDiff]
 refine Xal 1 (Xa2 [Xbf [(V i).h, tn (V i).e 6 11 25, (V i).g ^^^ ((V i).e &&& ((V i).f ^^^ (V i).g)), X5d.getD i 0, (ws (b.drop a) 64).getD i 0], Xbf [tn (V i).a 2 13 22, ((V i).a &&& (V i).b) ||| ((V i).c &&& ((V i).a ||| (V i).b))]]) rfl ?_
 simp (maxSteps:=9^7) only [ss, X1, tab, reduceCtorEq, reduceIte, Nat.reduceEqDiff, Nat.reduceBEq, Int.reduceLE, Int.reduceToNat, Nat.reduceAdd, Nat.reduceLT, Nat.reduceLeDiff]
 refine X3 (Xbh _ .full (by simp)) ?_
 simp (maxSteps:=9^7) only [ss, X1, tab, reduceCtorEq, reduceIte, Nat.reduceEqDiff, Nat.reduceBEq, Int.reduceLE, Int.reduceToNat, Nat.reduceAdd, Nat.reduceLT, Nat.reduceLeDiff]
 refine hKC _ ?_
 clear hKC KC
 have eV : V (i + 1) = rnd (X5d.getD i 0) ((ws (b.drop a) 64).getD i 0) (V i) := by rw [← hV]; rfl
 have es : Xbf [(V i).h, tn (V i).e 6 11 25, (V i).g ^^^ ((V i).e &&& ((V i).f ^^^ (V i).g)), X5d.getD i 0, (ws (b.drop a) 64).getD i 0] = (V i).h + tn (V i).e 6 11 25 + (((V i).e &&& (V i).f) ^^^ (~~~(V i).e &&& (V i).g)) + X5d.getD i 0 + (ws (b.drop a) 64).getD i 0 := by
  rw [Xce]; simp [Xbf]
 have eu : Xbf [tn (V i).a 2 13 22, ((V i).a &&& (V i).b) ||| ((V i).c &&& ((V i).a ||| (V i).b))] = tn (V i).a 2 13 22 + (((V i).a &&& (V i).b) ^^^ ((V i).a &&& (V i).c) ^^^ ((V i).b &&& (V i).c)) := by
  rw [Xdn]; simp [Xbf]
 have ed : ∀ x y : BitVec 32, Xbf [x, y] = x + y := fun x y => by simp [Xbf]
 rw [eu, es, ed, ed]
 refine Xn Xj [] ?_
 simp (maxSteps:=9^7) only [ss, X1, tab, reduceCtorEq, reduceIte, Nat.reduceEqDiff, Nat.reduceBEq, Int.reduceLE, Int.reduceToNat, Nat.reduceAdd, Nat.reduceLT, Nat.reduceLeDiff, Yl (n := i) 1 1 rfl (by omega)]
 refine ⟨i + 1, by omega, by omega, ?_⟩
 rw [eV]
 refine X2 ?_ ?_ rfl rfl rfl rfl <;> simp only [X4, sl]
 exact ⟨.rfl _, .rfl _, .rfl _, .rfl _, .rfl _, .rfl _, .rfl _, .rfl _⟩
end Go.Proofs.YtgdhnngpfieloaaGreat.Hm
end
