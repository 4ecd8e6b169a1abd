/- The layer of abstract values, joined: HA. -/
import Derived.Test.YtgdhnngpfieloaaGreatZGA
import Derived.Test.YtgdhnngpfieloaaGreatZTab
section
namespace Go.Proofs.YtgdhnngpfieloaaGreat.Hm.Sha
set_option linter.unusedVariables false
set_option linter.unusedSimpArgs false
def X7r (a b c d : UInt8) : BitVec 32 := BitVec.ofNat 32 a.toNat <<< 24 ||| BitVec.ofNat 32 b.toNat <<< 16 ||| BitVec.ofNat 32 c.toNat <<< 8 ||| BitVec.ofNat 32 d.toNat
def Fy (b : List UInt8) (i : Nat) : BitVec 32 := X7r (b.getD (4 * i) 0) (b.getD (4 * i + 1) 0) (b.getD (4 * i + 2) 0) (b.getD (4 * i + 3) 0)
def smx (x : BitVec 32) (a b c : Nat) : BitVec 32 := x.rotateRight a ^^^ x.rotateRight b ^^^ x >>> c
def tn (x : BitVec 32) (a b c : Nat) : BitVec 32 := x.rotateRight a ^^^ x.rotateRight b ^^^ x.rotateRight c
def X7s (l : List (BitVec 32)) (t : Nat) : BitVec 32 := l.getD (t - 16) 0 + smx (l.getD (t - 15) 0) 7 18 3 + l.getD (t - 7) 0 + smx (l.getD (t - 2) 0) 17 19 10
def ws (b : List UInt8) : Nat → List (BitVec 32)
 | 0 => []
 | t + 1 => ws b t ++ [if t < 16 then Fy b t else X7s (ws b t) t]
theorem Xa8 (b : List UInt8) : ∀ t, (ws b t).length = t
 | 0 => rfl
 | t + 1 => by simp [ws, Xa8 b t]
def X5d : List (BitVec 32) := [
 0x428a2f98#32, 0x71374491#32, 0xb5c0fbcf#32, 0xe9b5dba5#32, 0x3956c25b#32, 0x59f111f1#32, 0x923f82a4#32, 0xab1c5ed5#32,
 0xd807aa98#32, 0x12835b01#32, 0x243185be#32, 0x550c7dc3#32, 0x72be5d74#32, 0x80deb1fe#32, 0x9bdc06a7#32, 0xc19bf174#32,
 0xe49b69c1#32, 0xefbe4786#32, 0x0fc19dc6#32, 0x240ca1cc#32, 0x2de92c6f#32, 0x4a7484aa#32, 0x5cb0a9dc#32, 0x76f988da#32,
 0x983e5152#32, 0xa831c66d#32, 0xb00327c8#32, 0xbf597fc7#32, 0xc6e00bf3#32, 0xd5a79147#32, 0x06ca6351#32, 0x14292967#32,
 0x27b70a85#32, 0x2e1b2138#32, 0x4d2c6dfc#32, 0x53380d13#32, 0x650a7354#32, 0x766a0abb#32, 0x81c2c92e#32, 0x92722c85#32,
 0xa2bfe8a1#32, 0xa81a664b#32, 0xc24b8b70#32, 0xc76c51a3#32, 0xd192e819#32, 0xd6990624#32, 0xf40e3585#32, 0x106aa070#32,
 0x19a4c116#32, 0x1e376c08#32, 0x2748774c#32, 0x34b0bcb5#32, 0x391c0cb3#32, 0x4ed8aa4a#32, 0x5b9cca4f#32, 0x682e6ff3#32,
 0x748f82ee#32, 0x78a5636f#32, 0x84c87814#32, 0x8cc70208#32, 0x90befffa#32, 0xa4506ceb#32, 0xbef9a3f7#32, 0xc67178f2#32]
def Xbp : List (BitVec 32) := [0x6a09e667#32, 0xbb67ae85#32, 0x3c6ef372#32, 0xa54ff53a#32, 0x510e527f#32, 0x9b05688c#32, 0x1f83d9ab#32, 0x5be0cd19#32]
theorem Xa6 : X5d.length = 64 := rfl
theorem Xaf : Xbp.length = 8 := rfl
structure V8 where
 (a b c d e f g h : BitVec 32)
def V8.list (v : V8) : List (BitVec 32) := [v.a, v.b, v.c, v.d, v.e, v.f, v.g, v.h]
def rnd (k w : BitVec 32) (v : V8) : V8 :=
 let s := v.h + tn v.e 6 11 25 + ((v.e &&& v.f) ^^^ (~~~v.e &&& v.g)) + k + w
 let u := tn v.a 2 13 22 + ((v.a &&& v.b) ^^^ (v.a &&& v.c) ^^^ (v.b &&& v.c))
 ⟨s + u, v.a, v.b, v.c, v.d + s, v.e, v.f, v.g⟩
def X1p (w : List (BitVec 32)) (v : V8) : Nat → V8
 | 0 => v
 | t + 1 => rnd (X5d.getD t 0) (w.getD t 0) (X1p w v t)
def block (h : V8) (b : List UInt8) : V8 :=
 let v := X1p (ws b 64) h 64
 ⟨h.a + v.a, h.b + v.b, h.c + v.c, h.d + v.d, h.e + v.e, h.f + v.f, h.g + v.g, h.h + v.h⟩
def X5e : V8 := ⟨0x6a09e667#32, 0xbb67ae85#32, 0x3c6ef372#32, 0xa54ff53a#32, 0x510e527f#32, 0x9b05688c#32, 0x1f83d9ab#32, 0x5be0cd19#32⟩
end Go.Proofs.YtgdhnngpfieloaaGreat.Hm.Sha
end
section
namespace Go.Proofs.YtgdhnngpfieloaaGreat.Hm
set_option linter.unusedVariables false
set_option linter.unusedSimpArgs false
open Go Go.VS Tab
theorem Xd2 (a : Nat) (h : 1 ≤ a) (h' : a ≤ 31) : Zr .and .u64 (IntKind.u64.wrap (-(a : Int))) 31 = some (.int .u64 ((32 - a : Nat) : Int)) := by
 have e1 : IntKind.u64.wrap (-(a : Int)) = ((18446744073709551616 - a : Nat) : Int) := by rw [Xbd]; omega
 rw [e1]
 show some (Value.int .u64 (IntKind.u64.wrap (((BitVec.ofInt 64 ((18446744073709551616 - a : Nat) : Int) &&& BitVec.ofInt 64 31).toNat : Nat) : Int))) = _
 rw [V3]
 have e2 : (BitVec.ofNat 64 (18446744073709551616 - a) &&& BitVec.ofInt 64 31).toNat = 32 - a := by
  have : BitVec.ofInt 64 31 = BitVec.ofNat 64 (2 ^ 5 - 1) := by decide
  rw [this, BitVec.toNat_and, BitVec.toNat_ofNat, BitVec.toNat_ofNat, Nat.mod_eq_of_lt (a := 2 ^ 5 - 1) (by decide), Nat.and_two_pow_sub_one_eq_mod]
  omega
 rw [e2, X1m (by omega) (by omega)]
theorem Xdo (a : Nat) (h : 1 ≤ a) (h' : a ≤ 31) : IntKind.u64.wrap (32 - ((32 - a : Nat) : Int)) = (a : Int) := by rw [Xbd] <;> omega
theorem Xe2 (x : BitVec 32) (a : Nat) (h : 1 ≤ a) (h' : a ≤ 31) : x <<< (32 - a) ||| x >>> a = x.rotateRight a := by
 rw [BitVec.rotateRight_def, Nat.mod_eq_of_lt (by omega), BitVec.or_comm]
theorem Xb1 (a : Nat) (h : a ≤ 1000) : IntKind.i64.wrap (0 - (a : Int)) = -(a : Int) := by rw [wrap_i64] <;> omega
theorem Xcg (x : BitVec 32) (a : Nat) (h : 1 ≤ a) (h' : a ≤ 31) : Xr Tryz.prog 127 [w32 x, i64 (-(a : Int))] [] (w32 (x.rotateRight a)) [] := by
 refine Xc 0 Tryz.func127 rfl fun n out _ _ => ?_
 simp only [Tryz.ntmps127, List.length_cons, List.length_nil, List.length_map, List.length_replicate, Xf, Nat.reduceAdd, Nat.reduceSub, List.replicate, List.cons_append, List.nil_append]
 refine X9 fun K hK => Xn Xj [] ?_
 simp (maxSteps:=9^7) only [ss, X1, tab, reduceCtorEq, reduceIte, Nat.reduceEqDiff, Nat.reduceBEq, Int.reduceLE, Int.reduceToNat, Nat.reduceAdd, Nat.reduceLT, Nat.reduceLeDiff]
 (refine hK _ ?_; clear hK K)
 refine X9 fun K hK => Xn Xj [] ?_
 simp (maxSteps:=9^7) only [ss, X1, tab, reduceCtorEq, reduceIte, Nat.reduceEqDiff, Nat.reduceBEq, Int.reduceLE, Int.reduceToNat, Nat.reduceAdd, Nat.reduceLT, Nat.reduceLeDiff, Xd2 a h h']
 (refine hK _ ?_; clear hK K)
 refine X9 fun K hK => Xn Xj [] ?_
 simp (maxSteps:=9^7) only [ss, X1, tab, reduceCtorEq, reduceIte, Nat.reduceEqDiff, Nat.reduceBEq, Int.reduceLE, Int.reduceToNat, Nat.reduceAdd, Nat.reduceLT, Nat.reduceLeDiff, Xbl x (b := ((32 - a : Nat) : Int)) (by omega), Xdo a h h', Xcr x (b := (a : Int)) (by omega), Xcq, Int.toNat_natCast, Xe2 x a h h']
 (refine hK _ ?_; clear hK K)
 refine Yd ?_
 exact Qv (.inr rfl) rfl rfl rfl (fun _ _ => rfl) rfl
theorem Xc2 (x : BitVec 32) (a b c : Nat) (ha : 1 ≤ a) (ha' : a ≤ 31) (hb : 1 ≤ b) (hb' : b ≤ 31) (hc : 1 ≤ c) (hc' : c ≤ 31) :
  Xr Tryz.prog 108 [w32 x, i64 (a : Int), i64 (b : Int), i64 (c : Int)] [] (w32 (x.rotateRight a ^^^ x.rotateRight b ^^^ x.rotateRight c)) [] := by
 refine Xc 0 Tryz.func108 rfl fun n out _ _ => ?_
 simp only [Tryz.ntmps108, List.length_cons, List.length_nil, List.length_map, List.length_replicate, Xf, Nat.reduceAdd, Nat.reduceSub, List.replicate, List.cons_append, List.nil_append]
 refine X9 fun K hK => Xn Xj [] ?_
 simp (maxSteps:=9^7) only [ss, X1, tab, reduceCtorEq, reduceIte, Nat.reduceEqDiff, Nat.reduceBEq, Int.reduceLE, Int.reduceToNat, Nat.reduceAdd, Nat.reduceLT, Nat.reduceLeDiff]
 (refine hK _ ?_; clear hK K)
 refine X9 fun K hK => Xn Xj [] ?_
 simp (maxSteps:=9^7) only [ss, X1, tab, reduceCtorEq, reduceIte, Nat.reduceEqDiff, Nat.reduceBEq, Int.reduceLE, Int.reduceToNat, Nat.reduceAdd, Nat.reduceLT, Nat.reduceLeDiff, Xb1 a (by omega)]
 skip
 refine X3 (Xcg x a ha ha') ?_
 simp (maxSteps:=9^7) only [ss, X1, tab, reduceCtorEq, reduceIte, Nat.reduceEqDiff, Nat.reduceBEq, Int.reduceLE, Int.reduceToNat, Nat.reduceAdd, Nat.reduceLT, Nat.reduceLeDiff, Xb1 b (by omega)]
 skip
 refine X3 (Xcg x b hb hb') ?_
 simp (maxSteps:=9^7) only [ss, X1, tab, reduceCtorEq, reduceIte, Nat.reduceEqDiff, Nat.reduceBEq, Int.reduceLE, Int.reduceToNat, Nat.reduceAdd, Nat.reduceLT, Nat.reduceLeDiff, Xac, Xb1 c (by omega)]
 skip
 refine X3 (Xcg x c hc hc') ?_
 simp (maxSteps:=9^7) only [ss, X1, tab, reduceCtorEq, reduceIte, Nat.reduceEqDiff, Nat.reduceBEq, Int.reduceLE, Int.reduceToNat, Nat.reduceAdd, Nat.reduceLT, Nat.reduceLeDiff, Xac]
 (refine hK _ ?_; clear hK K)
 refine Yd ?_
 exact Qv (.inr rfl) rfl rfl rfl (fun _ _ => rfl) rfl
theorem Xch (x : BitVec 32) (a b c : Nat) (ha : 1 ≤ a) (ha' : a ≤ 31) (hb : 1 ≤ b) (hb' : b ≤ 31) :
  Xr Tryz.prog 126 [w32 x, i64 (a : Int), i64 (b : Int), i64 (c : Int)] [] (w32 (x.rotateRight a ^^^ x.rotateRight b ^^^ x >>> c)) [] := by
 refine Xc 0 Tryz.func126 rfl fun n out _ _ => ?_
 simp only [Tryz.ntmps126, List.length_cons, List.length_nil, List.length_map, List.length_replicate, Xf, Nat.reduceAdd, Nat.reduceSub, List.replicate, List.cons_append, List.nil_append]
 refine X9 fun K hK => Xn Xj [] ?_
 simp (maxSteps:=9^7) only [ss, X1, tab, reduceCtorEq, reduceIte, Nat.reduceEqDiff, Nat.reduceBEq, Int.reduceLE, Int.reduceToNat, Nat.reduceAdd, Nat.reduceLT, Nat.reduceLeDiff]
 (refine hK _ ?_; clear hK K)
 refine X9 fun K hK => Tn Xj follows (by kernel_rfl) ?_
 simp (maxSteps:=9^7) only [ss, X1, tab, reduceCtorEq, reduceIte, Nat.reduceEqDiff, Nat.reduceBEq, Int.reduceLE, Int.reduceToNat, Nat.reduceAdd, Nat.reduceLT, Nat.reduceLeDiff, Xb1 a (by omega)]
 skip
 refine X3 (Xcg x a ha ha') ?_
 simp (maxSteps:=9^7) only [ss, X1, tab, reduceCtorEq, reduceIte, Nat.reduceEqDiff, Nat.reduceBEq, Int.reduceLE, Int.reduceToNat, Nat.reduceAdd, Nat.reduceLT, Nat.reduceLeDiff, Xb1 b (by omega)]
 skip
 refine X3 (Xcg x b hb hb') ?_
 simp (maxSteps:=9^7) only [ss, X1, tab, reduceCtorEq, reduceIte, Nat.reduceEqDiff, Nat.reduceBEq, Int.reduceLE, Int.reduceToNat, Nat.reduceAdd, Nat.reduceLT, Nat.reduceLeDiff, Xac, Xcr x (b := (c : Int)) (by omega), Int.toNat_natCast]
 (refine hK _ ?_; clear hK K)
 refine Yd ?_
 exact Qv (.inr rfl) rfl rfl rfl (fun _ _ => rfl) rfl
end Go.Proofs.YtgdhnngpfieloaaGreat.Hm
end
section
namespace Go.Proofs.YtgdhnngpfieloaaGreat.Hm
set_option linter.unusedVariables false
set_option linter.unusedSimpArgs false
open Go Go.VS Tab Sha
set_option maxHeartbeats 400000
theorem Xdp : Xr Tryz.prog 72 [] [] (.agg (Xbp.map w32)) [] := by
 refine Xc 1 Tryz.func72 rfl fun n out _ _ => ?_
 simp only [Tryz.ntmps72, List.length_cons, List.length_nil, List.length_map, List.length_replicate, Xf, Nat.reduceAdd, Nat.reduceSub, List.replicate, List.cons_append, List.nil_append]
 refine X9 fun K hK => Xn Xj [] ?_
 simp (maxSteps:=9^7) only [ss, X1, tab, reduceCtorEq, reduceIte, Nat.reduceEqDiff, Nat.reduceBEq, Int.reduceLE, Int.reduceToNat, Nat.reduceAdd, Nat.reduceLT, Nat.reduceLeDiff]
 (refine hK _ ?_; clear hK K)
 refine X9 fun K hK => Xn Xj [] ?_
 simp (maxSteps := 4000000) only [sx, sy, ne_eq, eq_self, if_true, if_false, Nat.reduceEqDiff, hbT, X1, Tk, tab, Cl, Qd, Z4, reduceCtorEq, reduceIte, Nat.reduceBEq, Int.reduceLE, Int.reduceToNat, Nat.reduceAdd, Nat.reduceLT, Nat.reduceLeDiff]
 skip
 refine Xap (Xbp.map w32) (by kernel_rfl) ?_
 simp (maxSteps:=9^7) only [ss, X1, tab, reduceCtorEq, reduceIte, Nat.reduceEqDiff, Nat.reduceBEq, Int.reduceLE, Int.reduceToNat, Nat.reduceAdd, Nat.reduceLT, Nat.reduceLeDiff, X0, List.length_map, Xaf]
 (refine hK _ ?_; clear hK K)
 refine Yd ?_
 exact X1b (.inr rfl) rfl rfl rfl (fun _ _ => rfl) ok123 (k := n + 0) (off := 0) rfl (Xb _ (by simp)) (X6 _ (Nat.le_refl _) 0) rfl
theorem Xby : Xr Tryz.prog 106 [] [] (.agg (X5d.map w32)) [] := by
 refine Xc 1 Tryz.func106 rfl fun n out _ _ => ?_
 simp only [Tryz.ntmps106, List.length_cons, List.length_nil, List.length_map, List.length_replicate, Xf, Nat.reduceAdd, Nat.reduceSub, List.replicate, List.cons_append, List.nil_append]
 refine X9 fun K hK => Xn Xj [] ?_
 simp (maxSteps:=9^7) only [ss, X1, tab, reduceCtorEq, reduceIte, Nat.reduceEqDiff, Nat.reduceBEq, Int.reduceLE, Int.reduceToNat, Nat.reduceAdd, Nat.reduceLT, Nat.reduceLeDiff]
 (refine hK _ ?_; clear hK K)
 refine X9 fun K hK => Xn Xj [] ?_
 simp (maxSteps := 4000000) only [sx, sy, ne_eq, eq_self, if_true, if_false, Nat.reduceEqDiff, hbT, X1, Tk, tab, Cl, Qd, Z4, reduceCtorEq, reduceIte, Nat.reduceBEq, Int.reduceLE, Int.reduceToNat, Nat.reduceAdd, Nat.reduceLT, Nat.reduceLeDiff]
 skip
 refine Xap (X5d.map w32) (by kernel_rfl) ?_
 simp (maxSteps:=9^7) only [ss, X1, tab, reduceCtorEq, reduceIte, Nat.reduceEqDiff, Nat.reduceBEq, Int.reduceLE, Int.reduceToNat, Nat.reduceAdd, Nat.reduceLT, Nat.reduceLeDiff, X0, List.length_map, Xa6]
 (refine hK _ ?_; clear hK K)
 refine Yd ?_
 exact X1b (.inr rfl) rfl rfl rfl (fun _ _ => rfl) ok166 (k := n + 0) (off := 0) rfl (Xb _ (by simp)) (X6 _ (Nat.le_refl _) 0) rfl
theorem Xed (i : Nat) (hi : i < 16) : IntKind.i64.wrap (4 * (i : Int)) = ((4 * i : Nat) : Int) := by
 rw [wrap_i64] <;> omega
def wsz (b : List UInt8) (t : Nat) : List (BitVec 32) := ws b t ++ List.replicate (64 - t) 0
theorem Xb4 (b : List UInt8) (t : Nat) (h : t ≤ 64) : (wsz b t).length = 64 := by simp [wsz, Xa8]; omega
theorem Xci (b : List UInt8) (t : Nat) (h : t < 64) (x : BitVec 32) (hx : x = if t < 16 then Fy b t else X7s (ws b t) t) : (wsz b t).set t x = wsz b (t + 1) := by
 have e : 64 - t = (64 - (t + 1)) + 1 := by omega
 rw [wsz, wsz, e, List.replicate_succ, List.set_append, Xa8, if_neg (by omega), Nat.sub_self, List.set_cons_zero, ws, ← hx, List.append_assoc]
 rfl
theorem Xbj (b : List UInt8) (t j : Nat) (h : j < t) : (wsz b t).getD j 0 = (ws b t).getD j 0 := by
 rw [wsz, List.getD_eq_getElem?_getD, List.getD_eq_getElem?_getD, List.getElem?_append_left (by rw [Xa8]; exact h)]
theorem Xdq (b : List UInt8) (hb : b.length = 64) : Xr Tryz.prog 107 [.agg (b.map b8)] [] (.agg ((ws b 64).map w32)) [] := by
 refine Xc 3 Tryz.func107 rfl fun n out _ _ => ?_
 simp only [Tryz.ntmps107, List.length_cons, List.length_nil, List.length_map, List.length_replicate, Xf, Nat.reduceAdd, Nat.reduceSub, List.replicate, List.cons_append, List.nil_append]
 refine X9 fun K hK => Xn Xj [] ?_
 simp (maxSteps:=9^7) only [ss, X1, tab, reduceCtorEq, reduceIte, Nat.reduceEqDiff, Nat.reduceBEq, Int.reduceLE, Int.reduceToNat, Nat.reduceAdd, Nat.reduceLT, Nat.reduceLeDiff]
 (refine hK _ ?_; clear hK K)
 refine X9 fun K hK => Xn Xj [] ?_
 simp (maxSteps:=9^7) only [ss, X1, tab, reduceCtorEq, reduceIte, Nat.reduceEqDiff, Nat.reduceBEq, Int.reduceLE, Int.reduceToNat, Nat.reduceAdd, Nat.reduceLT, Nat.reduceLeDiff]
 (refine hK _ ?_; clear hK K)
 refine X9 fun KB hKB => ?_
 refine X9 fun K hK => Xn Xj [] ?_
 simp (maxSteps:=9^7) only [ss, X1, tab, reduceCtorEq, reduceIte, Nat.reduceEqDiff, Nat.reduceBEq, Int.reduceLE, Int.reduceToNat, Nat.reduceAdd, Nat.reduceLT, Nat.reduceLeDiff]
 (refine hK _ ?_; clear hK K)
 refine Xe ?_
 refine X9z (fun i : Nat => [(6, i64 (i : Int)), (4, .top), (7, .top), (8, .top), (9, .top), (10, .top), (11, .top), (12, .top), (13, .top), (14, .top), (15, .top), (16, .top), (17, .top), (18, .top), (19, .top), (20, .top), (21, .top), (22, .top), (23, .top), (24, .top), (25, .top), (26, .top), (27, .top), (28, .top), (29, .top), (30, .top), (31, .top), (32, .top), (33, .top), (34, .top), (35, .top), (36, .top), (37, .top), (38, .top), (39, .top), (40, .top)]) (fun i => [some (.box 67 (b.map b8)), some (.box 166 (List.replicate 64 (.val (.int .u32 0)))), some (.box 166 ((wsz b i).map w32))]) (fun i => i ≤ 16) (fun i => 16 - i) 0 (by omega) ?_ fun i hi => ?_
 ·refine X2 ?_ ?_ rfl rfl rfl rfl <;> simp only [X4, sl]
  exact (Tq _).2 trivial
 simp only [X4, s_0, s_s]
 refine X9 fun K hK => Xn Xj [] ?_
 simp (maxSteps:=9^7) only [ss, X1, tab, reduceCtorEq, reduceIte, Nat.reduceEqDiff, Nat.reduceBEq, Int.reduceLE, Int.reduceToNat, Nat.reduceAdd, Nat.reduceLT, Nat.reduceLeDiff]
 (refine hK _ ?_; clear hK K)
 refine I0 (Uz rfl (fun ht => Z1 (id ?_)) (fun hf => Qi (id ?_)))
 rotate_left
 ·simp only [Qd, Z4, if_true]
  refine hKB _ ?_
  clear hKB KB
  have hi16 : i = 16 := by have := of_decide_eq_false hf; omega
  subst hi16
  refine X9 fun KB hKB => ?_
  refine X9 fun K hK => Xn Xj [] ?_
  simp (maxSteps:=9^7) only [ss, X1, tab, reduceCtorEq, reduceIte, Nat.reduceEqDiff, Nat.reduceBEq, Int.reduceLE, Int.reduceToNat, Nat.reduceAdd, Nat.reduceLT, Nat.reduceLeDiff]
  (refine hK _ ?_; clear hK K)
  refine Xe ?_
  refine X9z (fun i : Nat => [(5, i64 (i : Int)), (41, .top), (42, .top), (43, .top), (44, .top), (45, .top), (46, .top), (47, .top), (48, .top), (49, .top), (50, .top), (51, .top), (52, .top), (53, .top), (54, .top), (55, .top), (56, .top), (57, .top), (58, .top), (59, .top), (60, .top), (61, .top), (62, .top), (63, .top), (64, .top), (65, .top), (66, .top), (67, .top)]) (fun i => [some (.box 67 (b.map b8)), some (.box 166 (List.replicate 64 (.val (.int .u32 0)))), some (.box 166 ((wsz b i).map w32))]) (fun i => 16 ≤ i ∧ i ≤ 64) (fun i => 64 - i) 16 (by omega) ?_ fun i hi => ?_
  ·refine X2 ?_ ?_ rfl rfl rfl rfl <;> simp only [X4, sl]
  simp only [X4, s_0, s_s]
  refine X9 fun KC hKC => ?_
  refine X9 fun K hK => Xn Xj [] ?_
  simp (maxSteps:=9^7) only [ss, X1, tab, reduceCtorEq, reduceIte, Nat.reduceEqDiff, Nat.reduceBEq, Int.reduceLE, Int.reduceToNat, Nat.reduceAdd, Nat.reduceLT, Nat.reduceLeDiff]
  (refine hK _ ?_; clear hK K)
  refine Uz rfl (fun ht => Z1 (hKC _ ?_)) (fun hf => Qi (id ?_))
  rotate_left
  ·simp only [Qd, Z4, if_true]
   refine hKB _ ?_
   clear hKB KB hKC KC
   have hi64 : i = 64 := by have := of_decide_eq_false hf; omega
   subst hi64
   refine X9 fun K hK => Xn Xj [] ?_
   simp (maxSteps:=9^7) only [ss, X1, tab, reduceCtorEq, reduceIte, Nat.reduceEqDiff, Nat.reduceBEq, Int.reduceLE, Int.reduceToNat, Nat.reduceAdd, Nat.reduceLT, Nat.reduceLeDiff, X0, Xb4 b 64 (by decide), E6]
   (refine hK _ ?_; clear hK K)
   refine Yd ?_
   have e : wsz b 64 = ws b 64 := by simp [wsz]
   rw [e]
   exact X1b (.inr rfl) rfl rfl rfl (fun _ _ => rfl) ok166 (k := n + 1) (off := 0) rfl (Xb _ (by simp)) (X6 _ (Nat.le_refl _) 1) (E6 (by simp [Xa8]))
  clear hKC KC
  refine X9 fun KC hKC => Xe ?_
  have hi2 : i < 64 := by have := of_decide_eq_true ht; omega
  have fz := Xb4 b i (by omega)
  have g1 : i - 16 < 64 := by omega
  have g2 : i - 15 < 64 := by omega
  have g3 : i - 7 < 64 := by omega
  have g4 : i - 2 < 64 := by omega
  have g5 : i ≤ 63 := by omega
  refine Ny Xj [] [[], [], [], [], [2], [], [], [], [2], [], [], [], [], [], [2], [], [], [], [], [2], [], [], [], [2]] [[], [], [], [], [], [], [], [], [], [], [], [], [], [], [], [], [], [], [], [], [], [], [], [2]] follows (by kernel_rfl) (by decide) (by decide) (by kernel_rfl) ?_
  simp (maxSteps:=9^7) only [ss, X1, tab, reduceCtorEq, reduceIte, Nat.reduceEqDiff, Nat.reduceBEq, Int.reduceLE, Int.reduceToNat, Nat.reduceAdd, Nat.reduceLT, Nat.reduceLeDiff, X25 (n := i) 16 16 rfl (by omega) (by omega), X25 (n := i) 15 15 rfl (by omega) (by omega), X25 (n := i) 7 7 rfl (by omega) (by omega), X25 (n := i) 2 2 rfl (by omega) (by omega), g1, g2, g3, g4, g5, X0z 1 w32 (wsz b i) (i - 16) 0 (by omega), X0z 1 w32 (wsz b i) (i - 15) 0 (by omega)]
  refine X3 (Xch _ 7 18 3 (by decide) (by decide) (by decide) (by decide)) ?_
  simp (maxSteps:=9^7) only [ss, X1, tab, reduceCtorEq, reduceIte, Nat.reduceEqDiff, Nat.reduceBEq, Int.reduceLE, Int.reduceToNat, Nat.reduceAdd, Nat.reduceLT, Nat.reduceLeDiff, g1, g2, g3, g4, g5, X25 (n := i) 7 7 rfl (by omega) (by omega), X25 (n := i) 2 2 rfl (by omega) (by omega), X0z 1 w32 (wsz b i) (i - 7) 0 (by omega), X0z 1 w32 (wsz b i) (i - 2) 0 (by omega), Xb5]
  refine X3 (Xch _ 17 19 10 (by decide) (by decide) (by decide) (by decide)) ?_
  simp (maxSteps:=9^7) only [ss, X1, tab, reduceCtorEq, reduceIte, Nat.reduceEqDiff, Nat.reduceBEq, Int.reduceLE, Int.reduceToNat, Nat.reduceAdd, Nat.reduceLT, Nat.reduceLeDiff, g1, g2, g3, g4, g5, Xb5, F7, fz, hi2]
  refine hKC _ ?_
  clear hKC KC
  rw [Xci b i hi2 _ (by rw [if_neg (by omega)]; simp only [X7s, smx, Xbj b i (i - 16) (by omega), Xbj b i (i - 15) (by omega), Xbj b i (i - 7) (by omega), Xbj b i (i - 2) (by omega)])]
  refine Xn Xj [] ?_
  simp (maxSteps:=9^7) only [ss, X1, tab, reduceCtorEq, reduceIte, Nat.reduceEqDiff, Nat.reduceBEq, Int.reduceLE, Int.reduceToNat, Nat.reduceAdd, Nat.reduceLT, Nat.reduceLeDiff, Yl (n := i) 1 1 rfl (by omega)]
  refine ⟨i + 1, by omega, by omega, ?_⟩
  refine X2 ?_ ?_ rfl rfl rfl rfl <;> simp only [X4, sl]
 have hi2 : i < 16 := by have := of_decide_eq_true ht; omega
 refine X9 fun KC hKC => Xe ?_
 refine X9 fun K hK => Xn Xj [] ?_
 simp (maxSteps:=9^7) only [ss, X1, tab, reduceCtorEq, reduceIte, Nat.reduceEqDiff, Nat.reduceBEq, Int.reduceLE, Int.reduceToNat, Nat.reduceAdd, Nat.reduceLT, Nat.reduceLeDiff]
 (refine hK _ ?_; clear hK K)
 have f0 : 4 * i < 64 := by omega
 have f1 : 4 * i + 1 < 64 := by omega
 have f2 : 4 * i + 2 < 64 := by omega
 have f3 : 4 * i + 3 < 64 := by omega
 have f4 : i < 64 := by omega
 have f5 : i ≤ 63 := by omega
 have fz := Xb4 b i (by omega)
 refine Ny Xj [] [[], [], [], [], [0], [], [], [], [], [], [], [0], [], [], [], [], [], [], [], [0], [], [], [], [], [], [], [], [0], [], [], [], [2]] [[], [], [], [], [], [], [], [], [], [], [], [], [], [], [], [], [], [], [], [], [], [], [], [], [], [], [], [], [], [], [], [2]] follows (by kernel_rfl) (by decide) (by decide) (by kernel_rfl) ?_
 simp (maxSteps:=9^7) only [ss, X1, tab, reduceCtorEq, reduceIte, Nat.reduceEqDiff, Nat.reduceBEq, Int.reduceLE, Int.reduceToNat, Nat.reduceAdd, Nat.reduceLT, Nat.reduceLeDiff, Xed i hi2, Yl (n := 4 * i) 1 1 rfl (by omega), Yl (n := 4 * i) 2 2 rfl (by omega), Yl (n := 4 * i) 3 3 rfl (by omega), f0, f1, f2, f3, f4, X0z _ b8 b (4 * i) 0 (by omega), X0z _ b8 b (4 * i + 1) 0 (by omega), X0z _ b8 b (4 * i + 2) 0 (by omega), X0z _ b8 b (4 * i + 3) 0 (by omega), Xd9, Xef, Xeg, Xel, Xcq, F7, fz, f5]
 refine hKC _ ?_
 clear hKC KC
 rw [Xci b i f4 _ (by rw [if_pos hi2]; rfl)]
 refine Xn Xj [] ?_
 simp (maxSteps:=9^7) only [ss, X1, tab, reduceCtorEq, reduceIte, Nat.reduceEqDiff, Nat.reduceBEq, Int.reduceLE, Int.reduceToNat, Nat.reduceAdd, Nat.reduceLT, Nat.reduceLeDiff, Yl (n := i) 1 1 rfl (by omega)]
 refine ⟨i + 1, by omega, by omega, ?_⟩
 refine X2 ?_ ?_ rfl rfl rfl rfl <;> simp only [X4, sl]
end Go.Proofs.YtgdhnngpfieloaaGreat.Hm
end
section
namespace Go.Proofs.YtgdhnngpfieloaaGreat.Hm
set_option linter.unusedVariables false
set_option linter.unusedSimpArgs false
open Go Go.VS Tab Sha
set_option maxHeartbeats 1000000
def Xaz (h v : List (BitVec 32)) (i : Nat) : List (BitVec 32) := (List.zipWith (· + ·) h v).take i ++ h.drop i
theorem Xaj (h v : List (BitVec 32)) (hh : h.length = 8) (hv : v.length = 8) (i : Nat) (hi : i ≤ 8) : (Xaz h v i).length = 8 := by
 simp [Xaz, hh, hv]; omega
theorem Xbq (h v : List (BitVec 32)) (hh : h.length = 8) (hv : v.length = 8) (i : Nat) (hi : i < 8) : (Xaz h v i).getD i 0 = h.getD i 0 := by
 have e : ((List.zipWith (· + ·) h v).take i).length = i := by simp [hh, hv]; omega
 rw [Xaz, List.getD_eq_getElem?_getD, List.getElem?_append_right (by omega), e, Nat.sub_self, List.getElem?_drop, Nat.add_zero, List.getD_eq_getElem?_getD]
theorem Xbr (h v : List (BitVec 32)) (hh : h.length = 8) (hv : v.length = 8) (i : Nat) (hi : i < 8) : (Xaz h v i).set i (h.getD i 0 + v.getD i 0) = Xaz h v (i + 1) := by
 have e : ((List.zipWith (· + ·) h v).take i).length = i := by simp [hh, hv]; omega
 have hl : i < (List.zipWith (· + ·) h v).length := by simp [hh, hv]; omega
 have e1 : h.drop i = h[i] :: h.drop (i + 1) := by rw [List.drop_eq_getElem_cons]
 have e2 : (List.zipWith (· + ·) h v)[i] = h[i] + v[i] := by simp
 rw [Xaz, Xaz, List.set_append, e, if_neg (by omega), Nat.sub_self, e1, List.set_cons_zero, List.take_succ_eq_append_getElem hl, e2, List.append_assoc]
 simp [List.getD_eq_getElem?_getD, hh, hv, hi]
theorem Xdr (h : V8) (b : List UInt8) (hb : b.length = 64) : Xr Tryz.prog 75 [.agg (h.list.map w32), .agg (b.map b8)] [] (.agg ((block h b).list.map w32)) [] := by
 refine Xc 6 Tryz.func75 rfl fun n out _ _ => ?_
 simp only [Tryz.ntmps75, List.length_cons, List.length_nil, List.length_map, List.length_replicate, Xf, Nat.reduceAdd, Nat.reduceSub, List.replicate, List.cons_append, List.nil_append]
 have hl : h.list.length = 8 := rfl
 have hwl := Xa8 b 64
 refine X9 fun K hK => Xn Xj [] ?_
 simp (maxSteps:=9^7) only [ss, X1, tab, reduceCtorEq, reduceIte, Nat.reduceEqDiff, Nat.reduceBEq, Int.reduceLE, Int.reduceToNat, Nat.reduceAdd, Nat.reduceLT, Nat.reduceLeDiff]
 (refine hK _ ?_; clear hK K)
 refine X9 fun K hK => Ny Xj [] [[], [1], [], [0], [3], [4], [5], [3], [4], [5]] [[], [], [], [], [3], [4], [5], [3], [4], [5]] follows (by kernel_rfl) (by decide) (by decide) (by kernel_rfl) ?_
 simp (maxSteps:=9^7) only [ss, X1, tab, reduceCtorEq, reduceIte, Nat.reduceEqDiff, Nat.reduceBEq, Int.reduceLE, Int.reduceToNat, Nat.reduceAdd, Nat.reduceLT, Nat.reduceLeDiff, E6, hb]
 skip
 refine X3 Xby ?_
 simp (maxSteps:=9^7) only [ss, X1, tab, reduceCtorEq, reduceIte, Nat.reduceEqDiff, Nat.reduceBEq, Int.reduceLE, Int.reduceToNat, Nat.reduceAdd, Nat.reduceLT, Nat.reduceLeDiff, E6, hb]
 refine X3 (Xdq b hb) ?_
 simp (maxSteps:=9^7) only [ss, X1, tab, reduceCtorEq, reduceIte, Nat.reduceEqDiff, Nat.reduceBEq, Int.reduceLE, Int.reduceToNat, Nat.reduceAdd, Nat.reduceLT, Nat.reduceLeDiff, E6, hl, Xa6, hwl, X0]
 (refine hK _ ?_; clear hK K)
 refine X9 fun KB hKB => ?_
 refine X9 fun K hK => Xn Xj [] ?_
 simp (maxSteps:=9^7) only [ss, X1, tab, reduceCtorEq, reduceIte, Nat.reduceEqDiff, Nat.reduceBEq, Int.reduceLE, Int.reduceToNat, Nat.reduceAdd, Nat.reduceLT, Nat.reduceLeDiff]
 (refine hK _ ?_; clear hK K)
 refine Xe ?_
 generalize hV : X1p (ws b 64) h = V
 refine X9z (fun i : Nat => [(19, i64 (i : Int)), (8, .top), (9, .top), (10, .top), (11, .top), (12, .top), (13, .top), (20, .top), (21, .top), (22, .top), (23, .top), (24, .top), (25, .top), (26, .top), (27, .top), (28, .top), (29, .top), (30, .top), (31, .top), (32, .top), (33, .top), (34, .top), (35, .top), (36, .top), (37, .top), (38, .top), (39, .top), (40, .top), (41, .top), (42, .top), (43, .top), (44, .top), (45, .top), (46, .top), (47, .top), (48, .top), (49, .top), (50, .top), (51, .top), (52, .top), (53, .top), (54, .top), (55, .top), (56, .top), (57, .top), (58, .top), (59, .top), (60, .top), (61, .top), (62, .top), (63, .top), (64, .top), (65, .top), (66, .top), (67, .top), (68, .top), (69, .top), (70, .top), (71, .top), (72, .top), (73, .top), (74, .top), (75, .top), (76, .top), (77, .top), (78, .top), (79, .top), (80, .top), (81, .top), (82, .top), (83, .top), (84, .top), (85, .top), (86, .top), (87, .top), (88, .top)]) (fun i => [some (.box 123 (h.list.map w32)), some (.box 67 (b.map b8)), some (.box 123 (List.replicate 8 (.val (.int .u32 0)))), some (.box 166 (X5d.map w32)), some (.box 166 ((ws b 64).map w32)), some (.box 123 [w32 (V i).a, w32 (V i).b, w32 (V i).c, w32 (V i).d, w32 (V i).e, w32 (V i).f, w32 (V i).g, w32 (V i).h])]) (fun i => i ≤ 64) (fun i => 64 - i) 0 (by omega) ?_ fun i hi => ?_
 ·rw [show V 0 = h by rw [← hV]; rfl]
  refine X2 ?_ ?_ rfl rfl rfl rfl <;> simp only [X4, sl]
  exact ⟨(Tq _).2 trivial, (Tq _).2 trivial⟩
 simp only [X4, s_0, s_s]
 refine X9 fun K hK => Xn Xj [] ?_
 simp (maxSteps:=9^7) only [ss, X1, tab, reduceCtorEq, reduceIte, Nat.reduceEqDiff, Nat.reduceBEq, Int.reduceLE, Int.reduceToNat, Nat.reduceAdd, Nat.reduceLT, Nat.reduceLeDiff]
 (refine hK _ ?_; clear hK K)
 refine I0 (Uz rfl (fun ht => Z1 (id ?_)) (fun hf => Qi (id ?_)))
 rotate_left
 ·simp only [Qd, Z4, if_true]
  refine hKB _ ?_
  clear hKB KB
  have hi64 : i = 64 := by have := of_decide_eq_false hf; omega
  subst hi64
  have hvl : (V 64).list.length = 8 := rfl
  refine X9 fun KB hKB => ?_
  refine X9 fun K hK => Xn Xj [] ?_
  simp (maxSteps:=9^7) only [ss, X1, tab, reduceCtorEq, reduceIte, Nat.reduceEqDiff, Nat.reduceBEq, Int.reduceLE, Int.reduceToNat, Nat.reduceAdd, Nat.reduceLT, Nat.reduceLeDiff]
  (refine hK _ ?_; clear hK K)
  refine Xe ?_
  refine X9z (fun i : Nat => [(89, i64 (i : Int)), (14, .top), (90, .top), (91, .top), (92, .top), (93, .top), (94, .top), (95, .top), (96, .top), (97, .top), (98, .top), (99, .top), (100, .top)]) (fun i => [some (.box 123 ((Xaz h.list (V 64).list i).map w32)), some (.box 67 (b.map b8)), some (.box 123 (List.replicate 8 (.val (.int .u32 0)))), some (.box 166 (X5d.map w32)), some (.box 166 ((ws b 64).map w32)), some (.box 123 ((V 64).list.map w32))]) (fun i => i ≤ 8) (fun i => 8 - i) 0 (by omega) ?_ fun i hi => ?_
  ·refine X2 ?_ ?_ rfl rfl rfl rfl <;> simp only [X4, sl]
   exact ⟨(Tq _).2 trivial, (Tq _).2 trivial⟩
  simp only [X4, s_0, s_s]
  refine X9 fun K hK => Xn Xj [] ?_
  simp (maxSteps:=9^7) only [ss, X1, tab, reduceCtorEq, reduceIte, Nat.reduceEqDiff, Nat.reduceBEq, Int.reduceLE, Int.reduceToNat, Nat.reduceAdd, Nat.reduceLT, Nat.reduceLeDiff]
  (refine hK _ ?_; clear hK K)
  refine I0 (Uz rfl (fun ht => Z1 (id ?_)) (fun hf => Qi (id ?_)))
  rotate_left
  ·simp only [Qd, Z4, if_true]
   refine hKB _ ?_
   clear hKB KB
   have hi8 : i = 8 := by have := of_decide_eq_false hf; omega
   subst hi8
   have hal := Xaj h.list (V 64).list hl hvl 8 (by decide)
   refine X9 fun K hK => Xn Xj [] ?_
   simp (maxSteps:=9^7) only [ss, X1, tab, reduceCtorEq, reduceIte, Nat.reduceEqDiff, Nat.reduceBEq, Int.reduceLE, Int.reduceToNat, Nat.reduceAdd, Nat.reduceLT, Nat.reduceLeDiff, E6, hal, X0]
   (refine hK _ ?_; clear hK K)
   refine Yd ?_
   have e : Xaz h.list (V 64).list 8 = (block h b).list := by rw [← hV]; rfl
   rw [← e]
   exact X1b (.inr rfl) rfl rfl rfl (fun _ _ => rfl) ok123 (k := n + 2) (off := 0) rfl (Xb _ (by simp)) (X6 _ (Nat.le_refl _) 2) (E6 (by simp [hal]))
  have hi2 : i < 8 := by have := of_decide_eq_true ht; omega
  have hi3 : i ≤ 7 := by omega
  have hal := Xaj h.list (V 64).list hl hvl i hi
  refine X9 fun KC hKC => Xe ?_
  refine X9 fun K hK => Xn Xj [] ?_
  simp (maxSteps:=9^7) only [ss, X1, tab, reduceCtorEq, reduceIte, Nat.reduceEqDiff, Nat.reduceBEq, Int.reduceLE, Int.reduceToNat, Nat.reduceAdd, Nat.reduceLT, Nat.reduceLeDiff]
  (refine hK _ ?_; clear hK K)
  refine Ny Xj [] [[], [], [0], [], [], [5], [], [], [0]] [[], [], [], [], [], [], [], [], [0]] follows (by kernel_rfl) (by decide) (by decide) (by kernel_rfl) ?_
  simp (maxSteps:=9^7) only [ss, X1, tab, reduceCtorEq, reduceIte, Nat.reduceEqDiff, Nat.reduceBEq, Int.reduceLE, Int.reduceToNat, Nat.reduceAdd, Nat.reduceLT, Nat.reduceLeDiff, hi2, hi3, X0z 1 w32 (Xaz h.list (V 64).list i) i 0 (by omega), X0z 1 w32 (V 64).list i 0 (by omega), Xb5, F7, hal, Xbq h.list (V 64).list hl hvl i hi2, Xbr h.list (V 64).list hl hvl i hi2]
  refine hKC _ ?_
  clear hKC KC
  refine Xn Xj [] ?_
  simp (maxSteps:=9^7) only [ss, X1, tab, reduceCtorEq, reduceIte, Nat.reduceEqDiff, Nat.reduceBEq, Int.reduceLE, Int.reduceToNat, Nat.reduceAdd, Nat.reduceLT, Nat.reduceLeDiff, Yl (n := i) 1 1 rfl (by omega)]
  refine ⟨i + 1, by omega, by omega, ?_⟩
  refine X2 ?_ ?_ rfl rfl rfl rfl <;> simp only [X4, sl]
 have hi2 : i < 64 := by have := of_decide_eq_true ht; omega
 have hi3 : (i : Int) < 64 := by omega
 refine X9 fun KC hKC => Xe ?_
 refine X9 fun K hK => Xn Xj [] ?_
 simp (maxSteps:=9^7) only [ss, X1, tab, reduceCtorEq, reduceIte, Nat.reduceEqDiff, Nat.reduceBEq, Int.reduceLE, Int.reduceToNat, Nat.reduceAdd, Nat.reduceLT, Nat.reduceLeDiff]
 (refine hK _ ?_; clear hK K)
 refine X9 fun K hK => Tn Xj follows (by kernel_rfl) ?_
 simp (maxSteps:=9^7) only [ss, X1, tab, reduceCtorEq, reduceIte, Nat.reduceEqDiff, Nat.reduceBEq, Int.reduceLE, Int.reduceToNat, Nat.reduceAdd, Nat.reduceLT, Nat.reduceLeDiff, nc, Int.reduceLT]
 (refine hK _ ?_; clear hK K)
 refine X9 fun K hK => Tn Xj follows (by kernel_rfl) ?_
 simp (maxSteps:=9^7) only [ss, X1, tab, reduceCtorEq, reduceIte, Nat.reduceEqDiff, Nat.reduceBEq, Int.reduceLE, Int.reduceToNat, Nat.reduceAdd, Nat.reduceLT, Nat.reduceLeDiff, nc, Int.reduceLT]
 skip
 refine X3 (Xc2 _ 6 11 25 (by decide) (by decide) (by decide) (by decide) (by decide) (by decide)) ?_
 simp (maxSteps:=9^7) only [ss, X1, tab, reduceCtorEq, reduceIte, Nat.reduceEqDiff, Nat.reduceBEq, Int.reduceLE, Int.reduceToNat, Nat.reduceAdd, Nat.reduceLT, Nat.reduceLeDiff, nc, Int.reduceLT, hi3, Xb5, Xbk, Xdw, Xac, Xa6, hwl, X0z 1 w32 X5d i 0 (by rw [Xa6]; exact hi2), X0z 1 w32 (ws b 64) i 0 (by rw [hwl]; exact hi2)]
 (refine hK _ ?_; clear hK K)
 refine X9 fun K hK => Tn Xj follows (by kernel_rfl) ?_
 simp (maxSteps:=9^7) only [ss, X1, tab, reduceCtorEq, reduceIte, Nat.reduceEqDiff, Nat.reduceBEq, Int.reduceLE, Int.reduceToNat, Nat.reduceAdd, Nat.reduceLT, Nat.reduceLeDiff, nc, Int.reduceLT]
 skip
 refine X3 (Xc2 _ 2 13 22 (by decide) (by decide) (by decide) (by decide) (by decide) (by decide)) ?_
 simp (maxSteps:=9^7) only [ss, X1, tab, reduceCtorEq, reduceIte, Nat.reduceEqDiff, Nat.reduceBEq, Int.reduceLE, Int.reduceToNat, Nat.reduceAdd, Nat.reduceLT, Nat.reduceLeDiff, nc, Int.reduceLT, Xb5, Xbk, Xac]
 (refine hK _ ?_; clear hK K)
 refine Xn Xj [] ?_
 simp (maxSteps := 4000000) only [sx, sy, ne_eq, eq_self, if_true, if_false, Nat.reduceEqDiff, hbT, X1, Tk, tab, Cl, Qd, Z4, reduceCtorEq, reduceIte, Nat.reduceBEq, Int.reduceLE, Int.reduceToNat, Nat.reduceAdd, Nat.reduceLT, Nat.reduceLeDiff, nc, Int.reduceLT, Xb5]
 refine Xap [w32 (V (i + 1)).a, w32 (V (i + 1)).b, w32 (V (i + 1)).c, w32 (V (i + 1)).d, w32 (V (i + 1)).e, w32 (V (i + 1)).f, w32 (V (i + 1)).g, w32 (V (i + 1)).h] (by rw [← hV]; rfl) ?_
 simp (maxSteps:=9^7) only [ss, X1, tab, reduceCtorEq, reduceIte, Nat.reduceEqDiff, Nat.reduceBEq, Int.reduceLE, Int.reduceToNat, Nat.reduceAdd, Nat.reduceLT, Nat.reduceLeDiff, X0]
 refine hKC _ ?_
 clear hKC KC
 refine Xn Xj [] ?_
 simp (maxSteps:=9^7) only [ss, X1, tab, reduceCtorEq, reduceIte, Nat.reduceEqDiff, Nat.reduceBEq, Int.reduceLE, Int.reduceToNat, Nat.reduceAdd, Nat.reduceLT, Nat.reduceLeDiff, Yl (n := i) 1 1 rfl (by omega)]
 refine ⟨i + 1, by omega, by omega, ?_⟩
 refine X2 ?_ ?_ rfl rfl rfl rfl <;> simp only [X4, sl]
end Go.Proofs.YtgdhnngpfieloaaGreat.Hm
end
