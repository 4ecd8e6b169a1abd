/- The layer of abstract values, joined: HA. -/
import Derived.Test.YtgdhnngpfieloaaZGA
import Derived.Test.YtgdhnngpfieloaaZTab
section
namespace Go.Proofs.Ytgdhnngpfieloaa.Hm.Sha
set_option linter.unusedVariables false
set_option linter.unusedSimpArgs false
def word4 (a b c d : UInt8) : BitVec 32 := BitVec.ofNat 32 a.toNat <<< 24 ||| BitVec.ofNat 32 b.toNat <<< 16 ||| BitVec.ofNat 32 c.toNat <<< 8 ||| BitVec.ofNat 32 d.toNat
def blockWord (b : List UInt8) (i : Nat) : BitVec 32 := word4 (b.getD (4 * i) 0) (b.getD (4 * i + 1) 0) (b.getD (4 * i + 2) 0) (b.getD (4 * i + 3) 0)
def smx (x : BitVec 32) (a b c : Nat) : BitVec 32 := x.rotateRight a ^^^ x.rotateRight b ^^^ x >>> c
def tn (x : BitVec 32) (a b c : Nat) : BitVec 32 := x.rotateRight a ^^^ x.rotateRight b ^^^ x.rotateRight c
def nextW (l : List (BitVec 32)) (t : Nat) : BitVec 32 := l.getD (t - 16) 0 + smx (l.getD (t - 15) 0) 7 18 3 + l.getD (t - 7) 0 + smx (l.getD (t - 2) 0) 17 19 10
def ws (b : List UInt8) : Nat → List (BitVec 32)
  | 0 => []
  | t + 1 => ws b t ++ [if t < 16 then blockWord b t else nextW (ws b t) t]
theorem ws_length (b : List UInt8) : ∀ t, (ws b t).length = t
  | 0 => rfl
  | t + 1 => by simp [ws, ws_length b t]
def consts : List (BitVec 32) := [
  0x428a2f98#32, 0x71374491#32, 0xb5c0fbcf#32, 0xe9b5dba5#32, 0x3956c25b#32, 0x59f111f1#32, 0x923f82a4#32, 0xab1c5ed5#32,
  0xd807aa98#32, 0x12835b01#32, 0x243185be#32, 0x550c7dc3#32, 0x72be5d74#32, 0x80deb1fe#32, 0x9bdc06a7#32, 0xc19bf174#32,
  0xe49b69c1#32, 0xefbe4786#32, 0x0fc19dc6#32, 0x240ca1cc#32, 0x2de92c6f#32, 0x4a7484aa#32, 0x5cb0a9dc#32, 0x76f988da#32,
  0x983e5152#32, 0xa831c66d#32, 0xb00327c8#32, 0xbf597fc7#32, 0xc6e00bf3#32, 0xd5a79147#32, 0x06ca6351#32, 0x14292967#32,
  0x27b70a85#32, 0x2e1b2138#32, 0x4d2c6dfc#32, 0x53380d13#32, 0x650a7354#32, 0x766a0abb#32, 0x81c2c92e#32, 0x92722c85#32,
  0xa2bfe8a1#32, 0xa81a664b#32, 0xc24b8b70#32, 0xc76c51a3#32, 0xd192e819#32, 0xd6990624#32, 0xf40e3585#32, 0x106aa070#32,
  0x19a4c116#32, 0x1e376c08#32, 0x2748774c#32, 0x34b0bcb5#32, 0x391c0cb3#32, 0x4ed8aa4a#32, 0x5b9cca4f#32, 0x682e6ff3#32,
  0x748f82ee#32, 0x78a5636f#32, 0x84c87814#32, 0x8cc70208#32, 0x90befffa#32, 0xa4506ceb#32, 0xbef9a3f7#32, 0xc67178f2#32]
def firsts : List (BitVec 32) := [0x6a09e667#32, 0xbb67ae85#32, 0x3c6ef372#32, 0xa54ff53a#32, 0x510e527f#32, 0x9b05688c#32, 0x1f83d9ab#32, 0x5be0cd19#32]
theorem consts_length : consts.length = 64 := rfl
theorem firsts_length : firsts.length = 8 := rfl
structure V8 where
  (a b c d e f g h : BitVec 32)
def V8.list (v : V8) : List (BitVec 32) := [v.a, v.b, v.c, v.d, v.e, v.f, v.g, v.h]
def rnd (k w : BitVec 32) (v : V8) : V8 :=
  let s := v.h + tn v.e 6 11 25 + ((v.e &&& v.f) ^^^ (~~~v.e &&& v.g)) + k + w
  let u := tn v.a 2 13 22 + ((v.a &&& v.b) ^^^ (v.a &&& v.c) ^^^ (v.b &&& v.c))
  ⟨s + u, v.a, v.b, v.c, v.d + s, v.e, v.f, v.g⟩
def rounds (w : List (BitVec 32)) (v : V8) : Nat → V8
  | 0 => v
  | t + 1 => rnd (consts.getD t 0) (w.getD t 0) (rounds w v t)
def block (h : V8) (b : List UInt8) : V8 :=
  let v := rounds (ws b 64) h 64
  ⟨h.a + v.a, h.b + v.b, h.c + v.c, h.d + v.d, h.e + v.e, h.f + v.f, h.g + v.g, h.h + v.h⟩
def firstV : V8 := ⟨0x6a09e667#32, 0xbb67ae85#32, 0x3c6ef372#32, 0xa54ff53a#32, 0x510e527f#32, 0x9b05688c#32, 0x1f83d9ab#32, 0x5be0cd19#32⟩
end Go.Proofs.Ytgdhnngpfieloaa.Hm.Sha
end
section
namespace Go.Proofs.Ytgdhnngpfieloaa.Hm
set_option linter.unusedVariables false
set_option linter.unusedSimpArgs false
open Go Go.VS Tab
theorem rot_bits (a : Nat) (h : 1 ≤ a) (h' : a ≤ 31) : evInt .and .u64 (IntKind.u64.wrap (-(a : Int))) 31 = some (.int .u64 ((32 - a : Nat) : Int)) := by
  have e1 : IntKind.u64.wrap (-(a : Int)) = ((18446744073709551616 - a : Nat) : Int) := by rw [wrap_u64']; omega
  rw [e1]
  show some (Value.int .u64 (IntKind.u64.wrap (((BitVec.ofInt 64 ((18446744073709551616 - a : Nat) : Int) &&& BitVec.ofInt 64 31).toNat : Nat) : Int))) = _
  rw [ofInt_nat]
  have e2 : (BitVec.ofNat 64 (18446744073709551616 - a) &&& BitVec.ofInt 64 31).toNat = 32 - a := by
    have : BitVec.ofInt 64 31 = BitVec.ofNat 64 (2 ^ 5 - 1) := by decide
    rw [this, BitVec.toNat_and, BitVec.toNat_ofNat, BitVec.toNat_ofNat, Nat.mod_eq_of_lt (a := 2 ^ 5 - 1) (by decide), Nat.and_two_pow_sub_one_eq_mod]
    omega
  rw [e2, wrap_u64 (by omega) (by omega)]
theorem rot_sub (a : Nat) (h : 1 ≤ a) (h' : a ≤ 31) : IntKind.u64.wrap (32 - ((32 - a : Nat) : Int)) = (a : Int) := by rw [wrap_u64'] <;> omega
theorem rot_eq (x : BitVec 32) (a : Nat) (h : 1 ≤ a) (h' : a ≤ 31) : x <<< (32 - a) ||| x >>> a = x.rotateRight a := by
  rw [BitVec.rotateRight_def, Nat.mod_eq_of_lt (by omega), BitVec.or_comm]
theorem neg_wrap (a : Nat) (h : a ≤ 1000) : IntKind.i64.wrap (0 - (a : Int)) = -(a : Int) := by rw [wrap_i64] <;> omega
theorem c_rot (x : BitVec 32) (a : Nat) (h : 1 ≤ a) (h' : a ≤ 31) : ACall Try.prog 121 [w32 x, i64 (-(a : Int))] [] (w32 (x.rotateRight a)) [] := by
  refine acall_of 0 Try.func121 rfl fun n out _ _ => ?_
  simp only [Try.ntmps121, List.length_cons, List.length_nil, List.length_map, List.length_replicate, rep_map, Nat.reduceAdd, Nat.reduceSub, List.replicate, List.cons_append, List.nil_append]
  refine awp_seq_k fun K hK => awp_ev tab_ok [] ?_
  simp (maxSteps:=9^7) only [ss, evLit, tab, reduceCtorEq, reduceIte, Nat.reduceEqDiff, Nat.reduceBEq, Int.reduceLE, Int.reduceToNat, Nat.reduceAdd, Nat.reduceLT, Nat.reduceLeDiff]
  repeat' (first | (with_reducible refine hK _ ?_; clear hK K) | with_reducible apply And.intro)
  refine awp_seq_k fun K hK => awp_ev tab_ok [] ?_
  simp (maxSteps:=9^7) only [ss, evLit, tab, reduceCtorEq, reduceIte, Nat.reduceEqDiff, Nat.reduceBEq, Int.reduceLE, Int.reduceToNat, Nat.reduceAdd, Nat.reduceLT, Nat.reduceLeDiff, rot_bits a h h']
  repeat' (first | (with_reducible refine hK _ ?_; clear hK K) | with_reducible apply And.intro)
  refine awp_seq_k fun K hK => awp_ev tab_ok [] ?_
  simp (maxSteps:=9^7) only [ss, evLit, tab, reduceCtorEq, reduceIte, Nat.reduceEqDiff, Nat.reduceBEq, Int.reduceLE, Int.reduceToNat, Nat.reduceAdd, Nat.reduceLT, Nat.reduceLeDiff, w32_shl x (b := ((32 - a : Nat) : Int)) (by omega), rot_sub a h h', w32_shr x (b := (a : Int)) (by omega), w32_or, Int.toNat_natCast, rot_eq x a h h']
  repeat' (first | (with_reducible refine hK _ ?_; clear hK K) | with_reducible apply And.intro)
  refine awp_ret ?_
  exact ret_tmp (.inr rfl) rfl rfl rfl (fun _ _ => rfl) rfl
theorem c_turned (x : BitVec 32) (a b c : Nat) (ha : 1 ≤ a) (ha' : a ≤ 31) (hb : 1 ≤ b) (hb' : b ≤ 31) (hc : 1 ≤ c) (hc' : c ≤ 31) :
    ACall Try.prog 117 [w32 x, i64 (a : Int), i64 (b : Int), i64 (c : Int)] [] (w32 (x.rotateRight a ^^^ x.rotateRight b ^^^ x.rotateRight c)) [] := by
  refine acall_of 0 Try.func117 rfl fun n out _ _ => ?_
  simp only [Try.ntmps117, List.length_cons, List.length_nil, List.length_map, List.length_replicate, rep_map, Nat.reduceAdd, Nat.reduceSub, List.replicate, List.cons_append, List.nil_append]
  refine awp_seq_k fun K hK => awp_ev tab_ok [] ?_
  simp (maxSteps:=9^7) only [ss, evLit, tab, reduceCtorEq, reduceIte, Nat.reduceEqDiff, Nat.reduceBEq, Int.reduceLE, Int.reduceToNat, Nat.reduceAdd, Nat.reduceLT, Nat.reduceLeDiff]
  repeat' (first | (with_reducible refine hK _ ?_; clear hK K) | with_reducible apply And.intro)
  refine awp_seq_k fun K hK => awp_ev tab_ok [] ?_
  simp (maxSteps:=9^7) only [ss, evLit, tab, reduceCtorEq, reduceIte, Nat.reduceEqDiff, Nat.reduceBEq, Int.reduceLE, Int.reduceToNat, Nat.reduceAdd, Nat.reduceLT, Nat.reduceLeDiff, neg_wrap a (by omega)]
  repeat' (first | (with_reducible refine hK _ ?_; clear hK K) | with_reducible apply And.intro)
  refine call_pure (c_rot x a ha ha') ?_
  simp (maxSteps:=9^7) only [ss, evLit, tab, reduceCtorEq, reduceIte, Nat.reduceEqDiff, Nat.reduceBEq, Int.reduceLE, Int.reduceToNat, Nat.reduceAdd, Nat.reduceLT, Nat.reduceLeDiff, neg_wrap b (by omega)]
  repeat' (first | (with_reducible refine hK _ ?_; clear hK K) | with_reducible apply And.intro)
  refine call_pure (c_rot x b hb hb') ?_
  simp (maxSteps:=9^7) only [ss, evLit, tab, reduceCtorEq, reduceIte, Nat.reduceEqDiff, Nat.reduceBEq, Int.reduceLE, Int.reduceToNat, Nat.reduceAdd, Nat.reduceLT, Nat.reduceLeDiff, w32_xor, neg_wrap c (by omega)]
  repeat' (first | (with_reducible refine hK _ ?_; clear hK K) | with_reducible apply And.intro)
  refine call_pure (c_rot x c hc hc') ?_
  simp (maxSteps:=9^7) only [ss, evLit, tab, reduceCtorEq, reduceIte, Nat.reduceEqDiff, Nat.reduceBEq, Int.reduceLE, Int.reduceToNat, Nat.reduceAdd, Nat.reduceLT, Nat.reduceLeDiff, w32_xor]
  repeat' (first | (with_reducible refine hK _ ?_; clear hK K) | with_reducible apply And.intro)
  refine awp_ret ?_
  exact ret_tmp (.inr rfl) rfl rfl rfl (fun _ _ => rfl) rfl
theorem c_small (x : BitVec 32) (a b c : Nat) (ha : 1 ≤ a) (ha' : a ≤ 31) (hb : 1 ≤ b) (hb' : b ≤ 31) :
    ACall Try.prog 120 [w32 x, i64 (a : Int), i64 (b : Int), i64 (c : Int)] [] (w32 (x.rotateRight a ^^^ x.rotateRight b ^^^ x >>> c)) [] := by
  refine acall_of 0 Try.func120 rfl fun n out _ _ => ?_
  simp only [Try.ntmps120, List.length_cons, List.length_nil, List.length_map, List.length_replicate, rep_map, Nat.reduceAdd, Nat.reduceSub, List.replicate, List.cons_append, List.nil_append]
  refine awp_seq_k fun K hK => awp_ev tab_ok [] ?_
  simp (maxSteps:=9^7) only [ss, evLit, tab, reduceCtorEq, reduceIte, Nat.reduceEqDiff, Nat.reduceBEq, Int.reduceLE, Int.reduceToNat, Nat.reduceAdd, Nat.reduceLT, Nat.reduceLeDiff]
  repeat' (first | (with_reducible refine hK _ ?_; clear hK K) | with_reducible apply And.intro)
  refine awp_seq_k fun K hK => awp_ev_quiet tab_ok follows (by kernel_rfl) ?_
  simp (maxSteps:=9^7) only [ss, evLit, tab, reduceCtorEq, reduceIte, Nat.reduceEqDiff, Nat.reduceBEq, Int.reduceLE, Int.reduceToNat, Nat.reduceAdd, Nat.reduceLT, Nat.reduceLeDiff, neg_wrap a (by omega)]
  repeat' (first | (with_reducible refine hK _ ?_; clear hK K) | with_reducible apply And.intro)
  refine call_pure (c_rot x a ha ha') ?_
  simp (maxSteps:=9^7) only [ss, evLit, tab, reduceCtorEq, reduceIte, Nat.reduceEqDiff, Nat.reduceBEq, Int.reduceLE, Int.reduceToNat, Nat.reduceAdd, Nat.reduceLT, Nat.reduceLeDiff, neg_wrap b (by omega)]
  repeat' (first | (with_reducible refine hK _ ?_; clear hK K) | with_reducible apply And.intro)
  refine call_pure (c_rot x b hb hb') ?_
  simp (maxSteps:=9^7) only [ss, evLit, tab, reduceCtorEq, reduceIte, Nat.reduceEqDiff, Nat.reduceBEq, Int.reduceLE, Int.reduceToNat, Nat.reduceAdd, Nat.reduceLT, Nat.reduceLeDiff, w32_xor, w32_shr x (b := (c : Int)) (by omega), Int.toNat_natCast]
  repeat' (first | (with_reducible refine hK _ ?_; clear hK K) | with_reducible apply And.intro)
  refine awp_ret ?_
  exact ret_tmp (.inr rfl) rfl rfl rfl (fun _ _ => rfl) rfl
end Go.Proofs.Ytgdhnngpfieloaa.Hm
end
section
namespace Go.Proofs.Ytgdhnngpfieloaa.Hm
set_option linter.unusedVariables false
set_option linter.unusedSimpArgs false
open Go Go.VS Tab Sha
set_option maxHeartbeats 400000
theorem c_first : ACall Try.prog 90 [] [] (.agg (firsts.map w32)) [] := by
  refine acall_of 1 Try.func90 rfl fun n out _ _ => ?_
  simp only [Try.ntmps90, List.length_cons, List.length_nil, List.length_map, List.length_replicate, rep_map, Nat.reduceAdd, Nat.reduceSub, List.replicate, List.cons_append, List.nil_append]
  refine awp_seq_k fun K hK => awp_ev tab_ok [] ?_
  simp (maxSteps:=9^7) only [ss, evLit, tab, reduceCtorEq, reduceIte, Nat.reduceEqDiff, Nat.reduceBEq, Int.reduceLE, Int.reduceToNat, Nat.reduceAdd, Nat.reduceLT, Nat.reduceLeDiff]
  repeat' (first | (with_reducible refine hK _ ?_; clear hK K) | with_reducible apply And.intro)
  refine awp_seq_k fun K hK => awp_ev tab_ok [] ?_
  simp (maxSteps := 4000000) only [sx, sy, ne_eq, eq_self, if_true, if_false, Nat.reduceEqDiff, hbT, evLit, evMake, tab, isShift, thenA, blockA, reduceCtorEq, reduceIte, Nat.reduceBEq, Int.reduceLE, Int.reduceToNat, Nat.reduceAdd, Nat.reduceLT, Nat.reduceLeDiff]
  repeat' (first | (with_reducible refine hK _ ?_; clear hK K) | with_reducible apply And.intro)
  refine evBuild_of (firsts.map w32) (by kernel_rfl) ?_
  simp (maxSteps:=9^7) only [ss, evLit, tab, reduceCtorEq, reduceIte, Nat.reduceEqDiff, Nat.reduceBEq, Int.reduceLE, Int.reduceToNat, Nat.reduceAdd, Nat.reduceLT, Nat.reduceLeDiff, splice_all, List.length_map, firsts_length]
  repeat' (first | (with_reducible refine hK _ ?_; clear hK K) | with_reducible apply And.intro)
  refine awp_ret ?_
  exact ret_cell (.inr rfl) rfl rfl rfl (fun _ _ => rfl) ok149 (k := n + 0) (off := 0) rfl (dom_loc _ (by simp)) (look_loc _ (Nat.le_refl _) 0) rfl
theorem c_constants : ACall Try.prog 115 [] [] (.agg (consts.map w32)) [] := by
  refine acall_of 1 Try.func115 rfl fun n out _ _ => ?_
  simp only [Try.ntmps115, List.length_cons, List.length_nil, List.length_map, List.length_replicate, rep_map, Nat.reduceAdd, Nat.reduceSub, List.replicate, List.cons_append, List.nil_append]
  refine awp_seq_k fun K hK => awp_ev tab_ok [] ?_
  simp (maxSteps:=9^7) only [ss, evLit, tab, reduceCtorEq, reduceIte, Nat.reduceEqDiff, Nat.reduceBEq, Int.reduceLE, Int.reduceToNat, Nat.reduceAdd, Nat.reduceLT, Nat.reduceLeDiff]
  repeat' (first | (with_reducible refine hK _ ?_; clear hK K) | with_reducible apply And.intro)
  refine awp_seq_k fun K hK => awp_ev tab_ok [] ?_
  simp (maxSteps := 4000000) only [sx, sy, ne_eq, eq_self, if_true, if_false, Nat.reduceEqDiff, hbT, evLit, evMake, tab, isShift, thenA, blockA, reduceCtorEq, reduceIte, Nat.reduceBEq, Int.reduceLE, Int.reduceToNat, Nat.reduceAdd, Nat.reduceLT, Nat.reduceLeDiff]
  repeat' (first | (with_reducible refine hK _ ?_; clear hK K) | with_reducible apply And.intro)
  refine evBuild_of (consts.map w32) (by kernel_rfl) ?_
  simp (maxSteps:=9^7) only [ss, evLit, tab, reduceCtorEq, reduceIte, Nat.reduceEqDiff, Nat.reduceBEq, Int.reduceLE, Int.reduceToNat, Nat.reduceAdd, Nat.reduceLT, Nat.reduceLeDiff, splice_all, List.length_map, consts_length]
  repeat' (first | (with_reducible refine hK _ ?_; clear hK K) | with_reducible apply And.intro)
  refine awp_ret ?_
  exact ret_cell (.inr rfl) rfl rfl rfl (fun _ _ => rfl) ok176 (k := n + 0) (off := 0) rfl (dom_loc _ (by simp)) (look_loc _ (Nat.le_refl _) 0) rfl
theorem idx4' (i : Nat) (hi : i < 16) : IntKind.i64.wrap (4 * (i : Int)) = ((4 * i : Nat) : Int) := by
  rw [wrap_i64] <;> omega
def wsz (b : List UInt8) (t : Nat) : List (BitVec 32) := ws b t ++ List.replicate (64 - t) 0
theorem wsz_length (b : List UInt8) (t : Nat) (h : t ≤ 64) : (wsz b t).length = 64 := by simp [wsz, ws_length]; omega
theorem wsz_set (b : List UInt8) (t : Nat) (h : t < 64) (x : BitVec 32) (hx : x = if t < 16 then blockWord b t else nextW (ws b t) t) : (wsz b t).set t x = wsz b (t + 1) := by
  have e : 64 - t = (64 - (t + 1)) + 1 := by omega
  rw [wsz, wsz, e, List.replicate_succ, List.set_append, ws_length, if_neg (by omega), Nat.sub_self, List.set_cons_zero, ws, ← hx, List.append_assoc]
  rfl
theorem wsz_get (b : List UInt8) (t j : Nat) (h : j < t) : (wsz b t).getD j 0 = (ws b t).getD j 0 := by
  rw [wsz, List.getD_eq_getElem?_getD, List.getD_eq_getElem?_getD, List.getElem?_append_left (by rw [ws_length]; exact h)]
theorem c_words (b : List UInt8) (hb : b.length = 64) : ACall Try.prog 116 [.agg (b.map b8)] [] (.agg ((ws b 64).map w32)) [] := by
  refine acall_of 3 Try.func116 rfl fun n out _ _ => ?_
  simp only [Try.ntmps116, List.length_cons, List.length_nil, List.length_map, List.length_replicate, rep_map, Nat.reduceAdd, Nat.reduceSub, List.replicate, List.cons_append, List.nil_append]
  refine awp_seq_k fun K hK => awp_ev tab_ok [] ?_
  simp (maxSteps:=9^7) only [ss, evLit, tab, reduceCtorEq, reduceIte, Nat.reduceEqDiff, Nat.reduceBEq, Int.reduceLE, Int.reduceToNat, Nat.reduceAdd, Nat.reduceLT, Nat.reduceLeDiff]
  repeat' (first | (with_reducible refine hK _ ?_; clear hK K) | with_reducible apply And.intro)
  refine awp_seq_k fun K hK => awp_ev tab_ok [] ?_
  simp (maxSteps:=9^7) only [ss, evLit, tab, reduceCtorEq, reduceIte, Nat.reduceEqDiff, Nat.reduceBEq, Int.reduceLE, Int.reduceToNat, Nat.reduceAdd, Nat.reduceLT, Nat.reduceLeDiff]
  repeat' (first | (with_reducible refine hK _ ?_; clear hK K) | with_reducible apply And.intro)
  refine awp_seq_k fun KB hKB => ?_
  refine awp_seq_k fun K hK => awp_ev tab_ok [] ?_
  simp (maxSteps:=9^7) only [ss, evLit, tab, reduceCtorEq, reduceIte, Nat.reduceEqDiff, Nat.reduceBEq, Int.reduceLE, Int.reduceToNat, Nat.reduceAdd, Nat.reduceLT, Nat.reduceLeDiff]
  repeat' (first | (with_reducible refine hK _ ?_; clear hK K) | with_reducible apply And.intro)
  refine awp_block ?_
  refine awp_for_lo (fun i : Nat => [(6, i64 (i : Int)), (4, .top), (7, .top), (8, .top), (9, .top), (10, .top), (11, .top), (12, .top), (13, .top), (14, .top), (15, .top), (16, .top), (17, .top), (18, .top), (19, .top), (20, .top), (21, .top), (22, .top), (23, .top), (24, .top), (25, .top), (26, .top), (27, .top), (28, .top), (29, .top), (30, .top), (31, .top), (32, .top), (33, .top), (34, .top), (35, .top), (36, .top), (37, .top), (38, .top), (39, .top), (40, .top)]) (fun i => [some (.box 104 (b.map b8)), some (.box 176 (List.replicate 64 (.val (.int .u32 0)))), some (.box 176 ((wsz b i).map w32))]) (fun i => i ≤ 16) (fun i => 16 - i) 0 (by omega) ?_ fun i hi => ?_
  · refine le_of_all ?_ ?_ rfl rfl rfl rfl <;> simp only [patch, sl]
    exact (leL_refl_iff _).2 trivial
  simp only [patch, s_0, s_s]
  refine awp_seq_k fun K hK => awp_ev tab_ok [] ?_
  simp (maxSteps:=9^7) only [ss, evLit, tab, reduceCtorEq, reduceIte, Nat.reduceEqDiff, Nat.reduceBEq, Int.reduceLE, Int.reduceToNat, Nat.reduceAdd, Nat.reduceLT, Nat.reduceLeDiff]
  repeat' (first | (with_reducible refine hK _ ?_; clear hK K) | with_reducible apply And.intro)
  refine awp_seq (awp_if rfl (fun ht => awp_skip (id ?_)) (fun hf => awp_exit (id ?_)))
  rotate_left
  · simp only [thenA, blockA, if_true]
    refine hKB _ ?_
    clear hKB KB
    have hi16 : i = 16 := by have := of_decide_eq_false hf; omega
    subst hi16
    refine awp_seq_k fun KB hKB => ?_
    refine awp_seq_k fun K hK => awp_ev tab_ok [] ?_
    simp (maxSteps:=9^7) only [ss, evLit, tab, reduceCtorEq, reduceIte, Nat.reduceEqDiff, Nat.reduceBEq, Int.reduceLE, Int.reduceToNat, Nat.reduceAdd, Nat.reduceLT, Nat.reduceLeDiff]
    repeat' (first | (with_reducible refine hK _ ?_; clear hK K) | with_reducible apply And.intro)
    refine awp_block ?_
    refine awp_for_lo (fun i : Nat => [(5, i64 (i : Int)), (41, .top), (42, .top), (43, .top), (44, .top), (45, .top), (46, .top), (47, .top), (48, .top), (49, .top), (50, .top), (51, .top), (52, .top), (53, .top), (54, .top), (55, .top), (56, .top), (57, .top), (58, .top), (59, .top), (60, .top), (61, .top), (62, .top), (63, .top), (64, .top), (65, .top), (66, .top), (67, .top)]) (fun i => [some (.box 104 (b.map b8)), some (.box 176 (List.replicate 64 (.val (.int .u32 0)))), some (.box 176 ((wsz b i).map w32))]) (fun i => 16 ≤ i ∧ i ≤ 64) (fun i => 64 - i) 16 (by omega) ?_ fun i hi => ?_
    · refine le_of_all ?_ ?_ rfl rfl rfl rfl <;> simp only [patch, sl]
    simp only [patch, s_0, s_s]
    refine awp_seq_k fun KC hKC => ?_
    refine awp_seq_k fun K hK => awp_ev tab_ok [] ?_
    simp (maxSteps:=9^7) only [ss, evLit, tab, reduceCtorEq, reduceIte, Nat.reduceEqDiff, Nat.reduceBEq, Int.reduceLE, Int.reduceToNat, Nat.reduceAdd, Nat.reduceLT, Nat.reduceLeDiff]
    repeat' (first | (with_reducible refine hK _ ?_; clear hK K) | with_reducible apply And.intro)
    refine awp_if rfl (fun ht => awp_skip (hKC _ ?_)) (fun hf => awp_exit (id ?_))
    rotate_left
    · simp only [thenA, blockA, if_true]
      refine hKB _ ?_
      clear hKB KB hKC KC
      have hi64 : i = 64 := by have := of_decide_eq_false hf; omega
      subst hi64
      refine awp_seq_k fun K hK => awp_ev tab_ok [] ?_
      simp (maxSteps:=9^7) only [ss, evLit, tab, reduceCtorEq, reduceIte, Nat.reduceEqDiff, Nat.reduceBEq, Int.reduceLE, Int.reduceToNat, Nat.reduceAdd, Nat.reduceLT, Nat.reduceLeDiff, splice_all, wsz_length b 64 (by decide), pick_all]
      repeat' (first | (with_reducible refine hK _ ?_; clear hK K) | with_reducible apply And.intro)
      refine awp_ret ?_
      have e : wsz b 64 = ws b 64 := by simp [wsz]
      rw [e]
      exact ret_cell (.inr rfl) rfl rfl rfl (fun _ _ => rfl) ok176 (k := n + 1) (off := 0) rfl (dom_loc _ (by simp)) (look_loc _ (Nat.le_refl _) 1) (pick_all (by simp [ws_length]))
    clear hKC KC
    refine awp_seq_k fun KC hKC => awp_block ?_
    have hi2 : i < 64 := by have := of_decide_eq_true ht; omega
    have fz := wsz_length b i (by omega)
    have g1 : i - 16 < 64 := by omega
    have g2 : i - 15 < 64 := by omega
    have g3 : i - 7 < 64 := by omega
    have g4 : i - 2 < 64 := by omega
    have g5 : i ≤ 63 := by omega
    refine awp_ev_draw tab_ok [] [[], [], [], [], [2], [], [], [], [2], [], [], [], [], [], [2], [], [], [], [], [2], [], [], [], [2]] [[], [], [], [], [], [], [], [], [], [], [], [], [], [], [], [], [], [], [], [], [], [], [], [2]] follows (by kernel_rfl) (by decide) (by decide) (by kernel_rfl) ?_
    simp (maxSteps:=9^7) only [ss, evLit, tab, reduceCtorEq, reduceIte, Nat.reduceEqDiff, Nat.reduceBEq, Int.reduceLE, Int.reduceToNat, Nat.reduceAdd, Nat.reduceLT, Nat.reduceLeDiff, subw (n := i) 16 16 rfl (by omega) (by omega), subw (n := i) 15 15 rfl (by omega) (by omega), subw (n := i) 7 7 rfl (by omega) (by omega), subw (n := i) 2 2 rfl (by omega) (by omega), g1, g2, g3, g4, g5, pick_map 1 w32 (wsz b i) (i - 16) 0 (by omega), pick_map 1 w32 (wsz b i) (i - 15) 0 (by omega)]
    refine call_pure (c_small _ 7 18 3 (by decide) (by decide) (by decide) (by decide)) ?_
    simp (maxSteps:=9^7) only [ss, evLit, tab, reduceCtorEq, reduceIte, Nat.reduceEqDiff, Nat.reduceBEq, Int.reduceLE, Int.reduceToNat, Nat.reduceAdd, Nat.reduceLT, Nat.reduceLeDiff, g1, g2, g3, g4, g5, subw (n := i) 7 7 rfl (by omega) (by omega), subw (n := i) 2 2 rfl (by omega) (by omega), pick_map 1 w32 (wsz b i) (i - 7) 0 (by omega), pick_map 1 w32 (wsz b i) (i - 2) 0 (by omega), w32_add]
    refine call_pure (c_small _ 17 19 10 (by decide) (by decide) (by decide) (by decide)) ?_
    simp (maxSteps:=9^7) only [ss, evLit, tab, reduceCtorEq, reduceIte, Nat.reduceEqDiff, Nat.reduceBEq, Int.reduceLE, Int.reduceToNat, Nat.reduceAdd, Nat.reduceLT, Nat.reduceLeDiff, g1, g2, g3, g4, g5, w32_add, splice_map, fz, hi2]
    refine hKC _ ?_
    clear hKC KC
    rw [wsz_set b i hi2 _ (by rw [if_neg (by omega)]; simp only [nextW, smx, wsz_get b i (i - 16) (by omega), wsz_get b i (i - 15) (by omega), wsz_get b i (i - 7) (by omega), wsz_get b i (i - 2) (by omega)])]
    refine awp_ev tab_ok [] ?_
    simp (maxSteps:=9^7) only [ss, evLit, tab, reduceCtorEq, reduceIte, Nat.reduceEqDiff, Nat.reduceBEq, Int.reduceLE, Int.reduceToNat, Nat.reduceAdd, Nat.reduceLT, Nat.reduceLeDiff, addw (n := i) 1 1 rfl (by omega)]
    refine ⟨i + 1, by omega, by omega, ?_⟩
    refine le_of_all ?_ ?_ rfl rfl rfl rfl <;> simp only [patch, sl]
  have hi2 : i < 16 := by have := of_decide_eq_true ht; omega
  refine awp_seq_k fun KC hKC => awp_block ?_
  refine awp_seq_k fun K hK => awp_ev tab_ok [] ?_
  simp (maxSteps:=9^7) only [ss, evLit, tab, reduceCtorEq, reduceIte, Nat.reduceEqDiff, Nat.reduceBEq, Int.reduceLE, Int.reduceToNat, Nat.reduceAdd, Nat.reduceLT, Nat.reduceLeDiff]
  repeat' (first | (with_reducible refine hK _ ?_; clear hK K) | with_reducible apply And.intro)
  have f0 : 4 * i < 64 := by omega
  have f1 : 4 * i + 1 < 64 := by omega
  have f2 : 4 * i + 2 < 64 := by omega
  have f3 : 4 * i + 3 < 64 := by omega
  have f4 : i < 64 := by omega
  have f5 : i ≤ 63 := by omega
  have fz := wsz_length b i (by omega)
  refine awp_ev_draw tab_ok [] [[], [], [], [], [0], [], [], [], [], [], [], [0], [], [], [], [], [], [], [], [0], [], [], [], [], [], [], [], [0], [], [], [], [2]] [[], [], [], [], [], [], [], [], [], [], [], [], [], [], [], [], [], [], [], [], [], [], [], [], [], [], [], [], [], [], [], [2]] follows (by kernel_rfl) (by decide) (by decide) (by kernel_rfl) ?_
  simp (maxSteps:=9^7) only [ss, evLit, tab, reduceCtorEq, reduceIte, Nat.reduceEqDiff, Nat.reduceBEq, Int.reduceLE, Int.reduceToNat, Nat.reduceAdd, Nat.reduceLT, Nat.reduceLeDiff, idx4' i hi2, addw (n := 4 * i) 1 1 rfl (by omega), addw (n := 4 * i) 2 2 rfl (by omega), addw (n := 4 * i) 3 3 rfl (by omega), f0, f1, f2, f3, f4, pick_map _ b8 b (4 * i) 0 (by omega), pick_map _ b8 b (4 * i + 1) 0 (by omega), pick_map _ b8 b (4 * i + 2) 0 (by omega), pick_map _ b8 b (4 * i + 3) 0 (by omega), conv8_32, shl24, shl16, shl8, w32_or, splice_map, fz, f5]
  refine hKC _ ?_
  clear hKC KC
  rw [wsz_set b i f4 _ (by rw [if_pos hi2]; rfl)]
  refine awp_ev tab_ok [] ?_
  simp (maxSteps:=9^7) only [ss, evLit, tab, reduceCtorEq, reduceIte, Nat.reduceEqDiff, Nat.reduceBEq, Int.reduceLE, Int.reduceToNat, Nat.reduceAdd, Nat.reduceLT, Nat.reduceLeDiff, addw (n := i) 1 1 rfl (by omega)]
  refine ⟨i + 1, by omega, by omega, ?_⟩
  refine le_of_all ?_ ?_ rfl rfl rfl rfl <;> simp only [patch, sl]
end Go.Proofs.Ytgdhnngpfieloaa.Hm
end
section
namespace Go.Proofs.Ytgdhnngpfieloaa.Hm
set_option linter.unusedVariables false
set_option linter.unusedSimpArgs false
open Go Go.VS Tab Sha
set_option maxHeartbeats 1000000
def addTo (h v : List (BitVec 32)) (i : Nat) : List (BitVec 32) := (List.zipWith (· + ·) h v).take i ++ h.drop i
theorem addTo_length (h v : List (BitVec 32)) (hh : h.length = 8) (hv : v.length = 8) (i : Nat) (hi : i ≤ 8) : (addTo h v i).length = 8 := by
  simp [addTo, hh, hv]; omega
theorem addTo_get (h v : List (BitVec 32)) (hh : h.length = 8) (hv : v.length = 8) (i : Nat) (hi : i < 8) : (addTo h v i).getD i 0 = h.getD i 0 := by
  have e : ((List.zipWith (· + ·) h v).take i).length = i := by simp [hh, hv]; omega
  rw [addTo, List.getD_eq_getElem?_getD, List.getElem?_append_right (by omega), e, Nat.sub_self, List.getElem?_drop, Nat.add_zero, List.getD_eq_getElem?_getD]
theorem addTo_set (h v : List (BitVec 32)) (hh : h.length = 8) (hv : v.length = 8) (i : Nat) (hi : i < 8) : (addTo h v i).set i (h.getD i 0 + v.getD i 0) = addTo h v (i + 1) := by
  have e : ((List.zipWith (· + ·) h v).take i).length = i := by simp [hh, hv]; omega
  have hl : i < (List.zipWith (· + ·) h v).length := by simp [hh, hv]; omega
  have e1 : h.drop i = h[i] :: h.drop (i + 1) := by rw [List.drop_eq_getElem_cons]
  have e2 : (List.zipWith (· + ·) h v)[i] = h[i] + v[i] := by simp
  rw [addTo, addTo, List.set_append, e, if_neg (by omega), Nat.sub_self, e1, List.set_cons_zero, List.take_succ_eq_append_getElem hl, e2, List.append_assoc]
  simp [List.getD_eq_getElem?_getD, hh, hv, hi]
theorem c_block (h : V8) (b : List UInt8) (hb : b.length = 64) : ACall Try.prog 93 [.agg (h.list.map w32), .agg (b.map b8)] [] (.agg ((block h b).list.map w32)) [] := by
  refine acall_of 6 Try.func93 rfl fun n out _ _ => ?_
  simp only [Try.ntmps93, List.length_cons, List.length_nil, List.length_map, List.length_replicate, rep_map, Nat.reduceAdd, Nat.reduceSub, List.replicate, List.cons_append, List.nil_append]
  have hl : h.list.length = 8 := rfl
  have hwl := ws_length b 64
  refine awp_seq_k fun K hK => awp_ev tab_ok [] ?_
  simp (maxSteps:=9^7) only [ss, evLit, tab, reduceCtorEq, reduceIte, Nat.reduceEqDiff, Nat.reduceBEq, Int.reduceLE, Int.reduceToNat, Nat.reduceAdd, Nat.reduceLT, Nat.reduceLeDiff]
  repeat' (first | (with_reducible refine hK _ ?_; clear hK K) | with_reducible apply And.intro)
  refine awp_seq_k fun K hK => awp_ev_draw tab_ok [] [[], [1], [], [0], [3], [4], [5], [3], [4], [5]] [[], [], [], [], [3], [4], [5], [3], [4], [5]] follows (by kernel_rfl) (by decide) (by decide) (by kernel_rfl) ?_
  simp (maxSteps:=9^7) only [ss, evLit, tab, reduceCtorEq, reduceIte, Nat.reduceEqDiff, Nat.reduceBEq, Int.reduceLE, Int.reduceToNat, Nat.reduceAdd, Nat.reduceLT, Nat.reduceLeDiff, pick_all, hb]
  repeat' (first | (with_reducible refine hK _ ?_; clear hK K) | with_reducible apply And.intro)
  refine call_pure c_constants ?_
  simp (maxSteps:=9^7) only [ss, evLit, tab, reduceCtorEq, reduceIte, Nat.reduceEqDiff, Nat.reduceBEq, Int.reduceLE, Int.reduceToNat, Nat.reduceAdd, Nat.reduceLT, Nat.reduceLeDiff, pick_all, hb]
  refine call_pure (c_words b hb) ?_
  simp (maxSteps:=9^7) only [ss, evLit, tab, reduceCtorEq, reduceIte, Nat.reduceEqDiff, Nat.reduceBEq, Int.reduceLE, Int.reduceToNat, Nat.reduceAdd, Nat.reduceLT, Nat.reduceLeDiff, pick_all, hl, consts_length, hwl, splice_all]
  repeat' (first | (with_reducible refine hK _ ?_; clear hK K) | with_reducible apply And.intro)
  refine awp_seq_k fun KB hKB => ?_
  refine awp_seq_k fun K hK => awp_ev tab_ok [] ?_
  simp (maxSteps:=9^7) only [ss, evLit, tab, reduceCtorEq, reduceIte, Nat.reduceEqDiff, Nat.reduceBEq, Int.reduceLE, Int.reduceToNat, Nat.reduceAdd, Nat.reduceLT, Nat.reduceLeDiff]
  repeat' (first | (with_reducible refine hK _ ?_; clear hK K) | with_reducible apply And.intro)
  refine awp_block ?_
  generalize hV : rounds (ws b 64) h = V
  refine awp_for_lo (fun i : Nat => [(19, i64 (i : Int)), (8, .top), (9, .top), (10, .top), (11, .top), (12, .top), (13, .top), (20, .top), (21, .top), (22, .top), (23, .top), (24, .top), (25, .top), (26, .top), (27, .top), (28, .top), (29, .top), (30, .top), (31, .top), (32, .top), (33, .top), (34, .top), (35, .top), (36, .top), (37, .top), (38, .top), (39, .top), (40, .top), (41, .top), (42, .top), (43, .top), (44, .top), (45, .top), (46, .top), (47, .top), (48, .top), (49, .top), (50, .top), (51, .top), (52, .top), (53, .top), (54, .top), (55, .top), (56, .top), (57, .top), (58, .top), (59, .top), (60, .top), (61, .top), (62, .top), (63, .top), (64, .top), (65, .top), (66, .top), (67, .top), (68, .top), (69, .top), (70, .top), (71, .top), (72, .top), (73, .top), (74, .top), (75, .top), (76, .top), (77, .top), (78, .top), (79, .top), (80, .top), (81, .top), (82, .top), (83, .top), (84, .top), (85, .top), (86, .top), (87, .top), (88, .top)]) (fun i => [some (.box 149 (h.list.map w32)), some (.box 104 (b.map b8)), some (.box 149 (List.replicate 8 (.val (.int .u32 0)))), some (.box 176 (consts.map w32)), some (.box 176 ((ws b 64).map w32)), some (.box 149 [w32 (V i).a, w32 (V i).b, w32 (V i).c, w32 (V i).d, w32 (V i).e, w32 (V i).f, w32 (V i).g, w32 (V i).h])]) (fun i => i ≤ 64) (fun i => 64 - i) 0 (by omega) ?_ fun i hi => ?_
  · rw [show V 0 = h by rw [← hV]; rfl]
    refine le_of_all ?_ ?_ rfl rfl rfl rfl <;> simp only [patch, sl]
    exact ⟨(leL_refl_iff _).2 trivial, (leL_refl_iff _).2 trivial⟩
  simp only [patch, s_0, s_s]
  refine awp_seq_k fun K hK => awp_ev tab_ok [] ?_
  simp (maxSteps:=9^7) only [ss, evLit, tab, reduceCtorEq, reduceIte, Nat.reduceEqDiff, Nat.reduceBEq, Int.reduceLE, Int.reduceToNat, Nat.reduceAdd, Nat.reduceLT, Nat.reduceLeDiff]
  repeat' (first | (with_reducible refine hK _ ?_; clear hK K) | with_reducible apply And.intro)
  refine awp_seq (awp_if rfl (fun ht => awp_skip (id ?_)) (fun hf => awp_exit (id ?_)))
  rotate_left
  · simp only [thenA, blockA, if_true]
    refine hKB _ ?_
    clear hKB KB
    have hi64 : i = 64 := by have := of_decide_eq_false hf; omega
    subst hi64
    have hvl : (V 64).list.length = 8 := rfl
    refine awp_seq_k fun KB hKB => ?_
    refine awp_seq_k fun K hK => awp_ev tab_ok [] ?_
    simp (maxSteps:=9^7) only [ss, evLit, tab, reduceCtorEq, reduceIte, Nat.reduceEqDiff, Nat.reduceBEq, Int.reduceLE, Int.reduceToNat, Nat.reduceAdd, Nat.reduceLT, Nat.reduceLeDiff]
    repeat' (first | (with_reducible refine hK _ ?_; clear hK K) | with_reducible apply And.intro)
    refine awp_block ?_
    refine awp_for_lo (fun i : Nat => [(89, i64 (i : Int)), (14, .top), (90, .top), (91, .top), (92, .top), (93, .top), (94, .top), (95, .top), (96, .top), (97, .top), (98, .top), (99, .top), (100, .top)]) (fun i => [some (.box 149 ((addTo h.list (V 64).list i).map w32)), some (.box 104 (b.map b8)), some (.box 149 (List.replicate 8 (.val (.int .u32 0)))), some (.box 176 (consts.map w32)), some (.box 176 ((ws b 64).map w32)), some (.box 149 ((V 64).list.map w32))]) (fun i => i ≤ 8) (fun i => 8 - i) 0 (by omega) ?_ fun i hi => ?_
    · refine le_of_all ?_ ?_ rfl rfl rfl rfl <;> simp only [patch, sl]
      exact ⟨(leL_refl_iff _).2 trivial, (leL_refl_iff _).2 trivial⟩
    simp only [patch, s_0, s_s]
    refine awp_seq_k fun K hK => awp_ev tab_ok [] ?_
    simp (maxSteps:=9^7) only [ss, evLit, tab, reduceCtorEq, reduceIte, Nat.reduceEqDiff, Nat.reduceBEq, Int.reduceLE, Int.reduceToNat, Nat.reduceAdd, Nat.reduceLT, Nat.reduceLeDiff]
    repeat' (first | (with_reducible refine hK _ ?_; clear hK K) | with_reducible apply And.intro)
    refine awp_seq (awp_if rfl (fun ht => awp_skip (id ?_)) (fun hf => awp_exit (id ?_)))
    rotate_left
    · simp only [thenA, blockA, if_true]
      refine hKB _ ?_
      clear hKB KB
      have hi8 : i = 8 := by have := of_decide_eq_false hf; omega
      subst hi8
      have hal := addTo_length h.list (V 64).list hl hvl 8 (by decide)
      refine awp_seq_k fun K hK => awp_ev tab_ok [] ?_
      simp (maxSteps:=9^7) only [ss, evLit, tab, reduceCtorEq, reduceIte, Nat.reduceEqDiff, Nat.reduceBEq, Int.reduceLE, Int.reduceToNat, Nat.reduceAdd, Nat.reduceLT, Nat.reduceLeDiff, pick_all, hal, splice_all]
      repeat' (first | (with_reducible refine hK _ ?_; clear hK K) | with_reducible apply And.intro)
      refine awp_ret ?_
      have e : addTo h.list (V 64).list 8 = (block h b).list := by rw [← hV]; rfl
      rw [← e]
      exact ret_cell (.inr rfl) rfl rfl rfl (fun _ _ => rfl) ok149 (k := n + 2) (off := 0) rfl (dom_loc _ (by simp)) (look_loc _ (Nat.le_refl _) 2) (pick_all (by simp [hal]))
    have hi2 : i < 8 := by have := of_decide_eq_true ht; omega
    have hi3 : i ≤ 7 := by omega
    have hal := addTo_length h.list (V 64).list hl hvl i hi
    refine awp_seq_k fun KC hKC => awp_block ?_
    refine awp_seq_k fun K hK => awp_ev tab_ok [] ?_
    simp (maxSteps:=9^7) only [ss, evLit, tab, reduceCtorEq, reduceIte, Nat.reduceEqDiff, Nat.reduceBEq, Int.reduceLE, Int.reduceToNat, Nat.reduceAdd, Nat.reduceLT, Nat.reduceLeDiff]
    repeat' (first | (with_reducible refine hK _ ?_; clear hK K) | with_reducible apply And.intro)
    refine awp_ev_draw tab_ok [] [[], [], [0], [], [], [5], [], [], [0]] [[], [], [], [], [], [], [], [], [0]] follows (by kernel_rfl) (by decide) (by decide) (by kernel_rfl) ?_
    simp (maxSteps:=9^7) only [ss, evLit, tab, reduceCtorEq, reduceIte, Nat.reduceEqDiff, Nat.reduceBEq, Int.reduceLE, Int.reduceToNat, Nat.reduceAdd, Nat.reduceLT, Nat.reduceLeDiff, hi2, hi3, pick_map 1 w32 (addTo h.list (V 64).list i) i 0 (by omega), pick_map 1 w32 (V 64).list i 0 (by omega), w32_add, splice_map, hal, addTo_get h.list (V 64).list hl hvl i hi2, addTo_set h.list (V 64).list hl hvl i hi2]
    refine hKC _ ?_
    clear hKC KC
    refine awp_ev tab_ok [] ?_
    simp (maxSteps:=9^7) only [ss, evLit, tab, reduceCtorEq, reduceIte, Nat.reduceEqDiff, Nat.reduceBEq, Int.reduceLE, Int.reduceToNat, Nat.reduceAdd, Nat.reduceLT, Nat.reduceLeDiff, addw (n := i) 1 1 rfl (by omega)]
    refine ⟨i + 1, by omega, by omega, ?_⟩
    refine le_of_all ?_ ?_ rfl rfl rfl rfl <;> simp only [patch, sl]
  have hi2 : i < 64 := by have := of_decide_eq_true ht; omega
  have hi3 : (i : Int) < 64 := by omega
  refine awp_seq_k fun KC hKC => awp_block ?_
  refine awp_seq_k fun K hK => awp_ev tab_ok [] ?_
  simp (maxSteps:=9^7) only [ss, evLit, tab, reduceCtorEq, reduceIte, Nat.reduceEqDiff, Nat.reduceBEq, Int.reduceLE, Int.reduceToNat, Nat.reduceAdd, Nat.reduceLT, Nat.reduceLeDiff]
  repeat' (first | (with_reducible refine hK _ ?_; clear hK K) | with_reducible apply And.intro)
  refine awp_seq_k fun K hK => awp_ev_quiet tab_ok follows (by kernel_rfl) ?_
  simp (maxSteps:=9^7) only [ss, evLit, tab, reduceCtorEq, reduceIte, Nat.reduceEqDiff, Nat.reduceBEq, Int.reduceLE, Int.reduceToNat, Nat.reduceAdd, Nat.reduceLT, Nat.reduceLeDiff, nc, Int.reduceLT]
  repeat' (first | (with_reducible refine hK _ ?_; clear hK K) | with_reducible apply And.intro)
  refine awp_seq_k fun K hK => awp_ev_quiet tab_ok follows (by kernel_rfl) ?_
  simp (maxSteps:=9^7) only [ss, evLit, tab, reduceCtorEq, reduceIte, Nat.reduceEqDiff, Nat.reduceBEq, Int.reduceLE, Int.reduceToNat, Nat.reduceAdd, Nat.reduceLT, Nat.reduceLeDiff, nc, Int.reduceLT]
  repeat' (first | (with_reducible refine hK _ ?_; clear hK K) | with_reducible apply And.intro)
  refine call_pure (c_turned _ 6 11 25 (by decide) (by decide) (by decide) (by decide) (by decide) (by decide)) ?_
  simp (maxSteps:=9^7) only [ss, evLit, tab, reduceCtorEq, reduceIte, Nat.reduceEqDiff, Nat.reduceBEq, Int.reduceLE, Int.reduceToNat, Nat.reduceAdd, Nat.reduceLT, Nat.reduceLeDiff, nc, Int.reduceLT, hi3, w32_add, w32_and, w32_not, w32_xor, consts_length, hwl, pick_map 1 w32 consts i 0 (by rw [consts_length]; exact hi2), pick_map 1 w32 (ws b 64) i 0 (by rw [hwl]; exact hi2)]
  repeat' (first | (with_reducible refine hK _ ?_; clear hK K) | with_reducible apply And.intro)
  refine awp_seq_k fun K hK => awp_ev_quiet tab_ok follows (by kernel_rfl) ?_
  simp (maxSteps:=9^7) only [ss, evLit, tab, reduceCtorEq, reduceIte, Nat.reduceEqDiff, Nat.reduceBEq, Int.reduceLE, Int.reduceToNat, Nat.reduceAdd, Nat.reduceLT, Nat.reduceLeDiff, nc, Int.reduceLT]
  repeat' (first | (with_reducible refine hK _ ?_; clear hK K) | with_reducible apply And.intro)
  refine call_pure (c_turned _ 2 13 22 (by decide) (by decide) (by decide) (by decide) (by decide) (by decide)) ?_
  simp (maxSteps:=9^7) only [ss, evLit, tab, reduceCtorEq, reduceIte, Nat.reduceEqDiff, Nat.reduceBEq, Int.reduceLE, Int.reduceToNat, Nat.reduceAdd, Nat.reduceLT, Nat.reduceLeDiff, nc, Int.reduceLT, w32_add, w32_and, w32_xor]
  repeat' (first | (with_reducible refine hK _ ?_; clear hK K) | with_reducible apply And.intro)
  refine awp_ev tab_ok [] ?_
  simp (maxSteps := 4000000) only [sx, sy, ne_eq, eq_self, if_true, if_false, Nat.reduceEqDiff, hbT, evLit, evMake, tab, isShift, thenA, blockA, reduceCtorEq, reduceIte, Nat.reduceBEq, Int.reduceLE, Int.reduceToNat, Nat.reduceAdd, Nat.reduceLT, Nat.reduceLeDiff, nc, Int.reduceLT, w32_add]
  refine evBuild_of [w32 (V (i + 1)).a, w32 (V (i + 1)).b, w32 (V (i + 1)).c, w32 (V (i + 1)).d, w32 (V (i + 1)).e, w32 (V (i + 1)).f, w32 (V (i + 1)).g, w32 (V (i + 1)).h] (by rw [← hV]; rfl) ?_
  simp (maxSteps:=9^7) only [ss, evLit, tab, reduceCtorEq, reduceIte, Nat.reduceEqDiff, Nat.reduceBEq, Int.reduceLE, Int.reduceToNat, Nat.reduceAdd, Nat.reduceLT, Nat.reduceLeDiff, splice_all]
  refine hKC _ ?_
  clear hKC KC
  refine awp_ev tab_ok [] ?_
  simp (maxSteps:=9^7) only [ss, evLit, tab, reduceCtorEq, reduceIte, Nat.reduceEqDiff, Nat.reduceBEq, Int.reduceLE, Int.reduceToNat, Nat.reduceAdd, Nat.reduceLT, Nat.reduceLeDiff, addw (n := i) 1 1 rfl (by omega)]
  refine ⟨i + 1, by omega, by omega, ?_⟩
  refine le_of_all ?_ ?_ rfl rfl rfl rfl <;> simp only [patch, sl]
end Go.Proofs.Ytgdhnngpfieloaa.Hm
end
