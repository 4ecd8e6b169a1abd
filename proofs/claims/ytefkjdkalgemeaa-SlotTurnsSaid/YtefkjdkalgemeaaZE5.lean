/-
  Bytes in pieces; bytes put together.
-/
import Derived.Test.YtefkjdkalgemeaaZGA
import Derived.Test.YtefkjdkalgemeaaZE4
namespace Go.Proofs.Ytefkjdkalgemeaa
set_option linter.unusedVariables false
set_option linter.unusedSimpArgs false
open Go Go.VS Tab
set_option maxHeartbeats 4000000
set_option maxRecDepth 4000
theorem c_chunk (els : List (List AV)) (md : Md) (w : Int) (hw : 1 ≤ w) :
    ACall Try.prog 101 [.sl 1 els md, i64 w] [] (.fn (.func 111) [.ref [.sl 1 els md], .ref [i64 w]]) [] := by
  refine acall_of 2 Try.func101 rfl fun n out _ _ => ?_
  simp only [Try.ntmps101, List.length_cons, List.length_nil, List.length_map, List.length_replicate, rep_map, Nat.reduceAdd, Nat.reduceSub, List.replicate, List.cons_append, List.nil_append]
  refine awp_seq_k fun K hK => awp_ev tab_ok [] ?_
  simp (maxSteps := 4000000) only [su, evLit, hbT, tab, thenA, blockA, reduceCtorEq, reduceIte, Nat.reduceEqDiff, Nat.reduceBEq, Int.reduceLE, Int.reduceToNat, Nat.reduceAdd, Nat.reduceLT, Nat.reduceLeDiff]
  repeat' (first | (with_reducible refine hK _ ?_; clear hK K) | with_reducible apply And.intro)
  refine awp_le (le_freeze (i := 0) 1 (e := 37) (cs := [.sl 1 els md]) rfl (by simp)) ?_
  simp only [List.map_cons, List.map_nil, AV.frz, mo_t, mo_f, Nat.add_left_cancel_iff, reduceIte, Nat.reduceEqDiff, s_0, s_s, List.drop_zero]
  refine awp_le (le_freeze (i := 1) 1 (e := 3) (cs := [i64 w]) rfl (by simp)) ?_
  simp only [List.map_cons, List.map_nil, AV.frz, mo_t, mo_f, Nat.add_left_cancel_iff, reduceIte, Nat.reduceEqDiff, s_0, s_s, List.drop_zero]
  have hw1 : decide (w < 1) = false := decide_eq_false (by omega)
  repeat' (first | (with_reducible first | refine awp_seq_k fun K hK => ?_ | refine awp_ev tab_ok [] ?_ | refine awp_skip ?_ | apply And.intro) | ((with_reducible first | refine gE ?_ | refine gR ?_); simp (maxSteps := 4000000) only [su, evLit, hbT, tab, thenA, blockA, reduceCtorEq, reduceIte, Nat.reduceEqDiff, Nat.reduceBEq, Int.reduceLE, Int.reduceToNat, Nat.reduceAdd, Nat.reduceLT, Nat.reduceLeDiff, hw1]) | (show (_ : Nat) = (_ : Nat); rfl) | ((with_reducible refine awp_ret ?_); refine ret_tmp (.inr rfl) rfl rfl rfl (fun _ _ => rfl) ?_ <;> first | rfl | skip) | (refine hK _ ?_; clear hK K) | refine awp_cond_t rfl ?_ | refine awp_cond_f rfl ?_ | refine awp_if rfl (fun hg => ?_) (fun hg => ?_) | ((first | show Program.eqGuardType _ _ _ = false | show numFieldsB _ _ _ = true | show Program.stoodInHeld _ _ = false); kernel_rfl) | clear hK K)
def piece (b : List UInt8) (w i : Nat) : List UInt8 := (b.drop (w * i)).take w
theorem upd_pair (s : Nat → Option Res) {a b : Nat} (h : a ≠ b) (r q r' q' : Res) : upd1 (upd1 (upd1 (upd1 s a r) b q) a r') b q' = upd1 (upd1 s a r') b q' := by
  funext j; unfold upd1
  by_cases h1 : j = b
  · simp [h1]
  · by_cases h2 : j = a
    · simp [h2]
    · simp [h1, h2]
theorem c_chunk1 (l kl ka kb : Nat) (na : kl ≠ ka) (nb : kl ≠ kb) (nab : ka ≠ kb) (P0 : Res) (hP : P0 ≠ .dead) (A B : Nat → Res) (hA : ∀ i, A i ≠ .dead) (hB : ∀ i, B i ≠ .dead) (b : List UInt8) (md : Md) (hb : b.length ≤ 1000000) (w cnt : Nat) (hw1 : 1 ≤ w) (hw2 : w ≤ 1000000)
    (hcnt : b.length ≤ w * cnt) (hcnt2 : ∀ i, i < cnt → w * i < b.length)
    (hy : ∀ i, i < cnt → AYld Try.prog l [.sl 1 (bytesAV (piece b w i)) .full] [(kl, some P0), (ka, some (A i)), (kb, some (B i))] (.val (.bool true)) [(ka, A (i + 1)), (kb, B (i + 1))]) :
    ACall Try.prog 111 [.fn (.yield l) [], .ref [.sl 1 (bytesAV b) md], .ref [i64 (w : Int)]] [(kl, some P0), (ka, some (A 0)), (kb, some (B 0))] (.tup []) [(ka, A cnt), (kb, B cnt)] := by
  refine acall_of' 0 Try.func111 rfl fun n out _ _ _ => ?_
  simp only [Try.ntmps111, List.length_cons, List.length_nil, List.length_map, List.length_replicate, rep_map, Nat.reduceAdd, Nat.reduceSub, List.replicate, List.cons_append, List.nil_append]
  rename_i hneeds hg hz
  obtain ⟨hkl, hka, hkb, _⟩ := hneeds
  obtain ⟨hkan, hkbn, _⟩ := hg
  have hkln : kl < n := by
    rcases Nat.lt_or_ge kl n with h | h
    · exact h
    · rw [hz kl h] at hkl; cases hkl
  have h00 : upd1 (upd1 out ka (A 0)) kb (B 0) = out := by rw [upd1_self hka, upd1_self hkb]
  refine awp_seq_k fun K hK => awp_ev tab_ok [] ?_
  simp (maxSteps := 4000000) only [su, evLit, hbT, tab, thenA, blockA, reduceCtorEq, reduceIte, Nat.reduceEqDiff, Nat.reduceBEq, Int.reduceLE, Int.reduceToNat, Nat.reduceAdd, Nat.reduceLT, Nat.reduceLeDiff]
  repeat' (first | (with_reducible refine hK _ ?_; clear hK K) | with_reducible apply And.intro)
  refine awp_block ?_
  refine awp_for_mv (fun m (c : Nat) => [(4, i64 ((w * c : Nat) : Int)), (5, .top), (6, .top), (7, .top), (8, .top), (9, .top), (10, .top), (11, .top), (12, .top), (13, .top), (14, .top), (15, .top), (16, .top), (17, .top), (18, .top), (19, .top), (20, .top), (21, .top), (22, .top), (23, .top), (24, .top), (25, .top), (26, .top), (27, .top), (28, .top), (29, .top), (30, .top)]) (fun m c => []) (fun c => upd1 (upd1 out ka (A c)) kb (B c)) (fun c => c ≤ cnt) (fun c => cnt - c) 0 (Nat.zero_le _) ?_ fun m c hm hc => ?_
  · refine le_of_all ?_ ?_ (by first | rfl | (simp only [h00, Nat.mul_zero, Int.natCast_zero]; rfl) | simp only [h00, Nat.mul_zero, Int.natCast_zero]) rfl rfl rfl <;> simp only [patch, sl, h00, Nat.mul_zero, Int.natCast_zero]
  simp only [patch, s_0, s_s]
  by_cases hcc : c < cnt
  · have h1 := hcnt2 c hcc
    have h1' : ((w * c : Nat) : Int) < (b.length : Int) := by omega
    obtain ⟨q, hq⟩ : ∃ q, q = min w (b.length - w * c) := ⟨_, rfl⟩
    have e1 : (List.take (b.length - w * c) (List.drop (w * c) b)).length = b.length - w * c := by simp
    have e2 : (if b.length - w * c < w then ((b.length - w * c : Nat) : Int) else (w : Int)) = (q : Int) := by rw [hq]; split <;> omega
    have e3 : (b.drop (w * c)).take q = piece b w c := by
      rw [hq, piece]
      apply List.ext_getElem?
      intro i
      simp only [List.getElem?_take, List.getElem?_drop]
      by_cases h : i < min w (b.length - w * c)
      · rw [if_pos h, if_pos (by omega)]
      · rw [if_neg h]
        split
        · rw [List.getElem?_eq_none (by omega)]
        · rfl
    have e4 : w * c ≤ w * c + q := by omega
    have e5 : w * c + q ≤ b.length := by omega
    repeat' (first | (with_reducible first | refine awp_seq_k fun K hK => ?_ | refine awp_ev tab_ok [] ?_ | refine awp_block_s ?_ | refine awp_block_c ?_ | refine awp_block_r ?_ | refine awp_skip ?_ | apply And.intro | refine awp_ev_quiet tab_ok follows (by kernel_rfl) ?_) | ((with_reducible first | refine gE ?_ | refine gR ?_); simp (maxSteps := 4000000) only [su, evLit, hbT, tab, thenA, blockA, reduceCtorEq, reduceIte, Nat.reduceEqDiff, Nat.reduceBEq, Int.reduceLE, Int.reduceToNat, Nat.reduceAdd, Nat.reduceLT, Nat.reduceLeDiff, bytes_length, h1', loOf, hiOf, Nat.le_of_lt h1, e1, e2, addw (n := w * c) (q : Int) q rfl (by omega), e4, e5, Nat.add_sub_cancel_left, bytes_drop, bytes_take, e3]) | (show (_ : Nat) = (_ : Nat); rfl) | ((with_reducible refine awp_ret ?_); refine ret_unit (.inr rfl) rfl rfl rfl (fun _ _ => rfl) <;> first | rfl | skip) | ((with_reducible refine awp_exit ?_); simp only [thenA, blockA, if_true, if_false, reduceIte, Nat.reduceEqDiff]) | (refine hK _ ?_; clear hK K) | refine awp_cond_t rfl ?_ | refine awp_cond_f rfl ?_ | refine awp_if rfl (fun hg => ?_) (fun hg => ?_) | clear hK K)
    refine yld_of (hy c hcc) ⟨?_, ?_, ?_, trivial⟩ ⟨?_, ?_, trivial⟩ ?_ ?_
    · rw [lk_out hkln, upd1_ne _ _ nb, upd1_ne _ _ na]; exact hkl
    · rw [lk_out hkan, upd1_ne _ _ nab]; exact upd1_same _ _ _
    · rw [lk_out hkbn]; exact upd1_same _ _ _
    · rw [dm_out hkan]; trivial
    · rw [dm_out hkbn]; trivial
    · intro x hx
      simp only [List.mem_cons, List.not_mem_nil, or_false] at hx
      rcases hx with rfl | rfl | rfl
      · exact ⟨by rw [dm_out hkln]; trivial, by simpa using hP⟩
      · exact ⟨by rw [dm_out hkan]; trivial, by simpa using hA c⟩
      · exact ⟨by rw [dm_out hkbn]; trivial, by simpa using hB c⟩
    have e6 : IntKind.i64.wrap (((w * c : Nat) : Int) + (w : Int)) = ((w * (c + 1) : Nat) : Int) := by rw [Nat.mul_succ, wrap_i64] <;> omega
    simp (maxSteps := 4000000) only [su, evLit, hbT, tab, thenA, blockA, reduceCtorEq, reduceIte, Nat.reduceEqDiff, Nat.reduceBEq, Int.reduceLE, Int.reduceToNat, Nat.reduceAdd, Nat.reduceLT, Nat.reduceLeDiff, nx_outs hkan, nx_outs hkbn, upd_pair out nab]
    repeat' (first | (with_reducible refine hK _ ?_; clear hK K) | with_reducible apply And.intro)
    repeat' (first | (with_reducible first | refine awp_seq_k fun K hK => ?_ | refine awp_ev tab_ok [] ?_ | refine awp_block_s ?_ | refine awp_block_c ?_ | refine awp_block_r ?_ | refine awp_skip ?_ | apply And.intro | refine awp_ev_quiet tab_ok follows (by kernel_rfl) ?_) | ((with_reducible first | refine gE ?_ | refine gR ?_); simp (maxSteps := 4000000) only [su, evLit, hbT, tab, thenA, blockA, reduceCtorEq, reduceIte, Nat.reduceEqDiff, Nat.reduceBEq, Int.reduceLE, Int.reduceToNat, Nat.reduceAdd, Nat.reduceLT, Nat.reduceLeDiff, Bool.not_true, e6]) | (show (_ : Nat) = (_ : Nat); rfl) | ((with_reducible refine awp_ret ?_); refine ret_unit (.inr rfl) rfl rfl rfl (fun _ _ => rfl) <;> first | rfl | skip) | ((with_reducible refine awp_exit ?_); simp only [thenA, blockA, if_true, if_false, reduceIte, Nat.reduceEqDiff]) | (refine hK _ ?_; clear hK K) | refine awp_cond_t rfl ?_ | refine awp_cond_f rfl ?_ | refine awp_if rfl (fun hg => ?_) (fun hg => ?_) | clear hK K)
    refine ⟨c + 1, by omega, by omega, ?_⟩
    refine le_move [] (fun n_ => ?_) (fun n_ => ?_) <;> simp only [patch, sm]
  · obtain rfl : c = cnt := by omega
    have h1' : ¬ ((w * c : Nat) : Int) < (b.length : Int) := by omega
    repeat' (first | (with_reducible first | refine awp_seq_k fun K hK => ?_ | refine awp_ev tab_ok [] ?_ | refine awp_block_s ?_ | refine awp_block_c ?_ | refine awp_block_r ?_ | refine awp_skip ?_ | apply And.intro | refine awp_ev_quiet tab_ok follows (by kernel_rfl) ?_) | ((with_reducible first | refine gE ?_ | refine gR ?_); simp (maxSteps := 4000000) only [su, evLit, hbT, tab, thenA, blockA, reduceCtorEq, reduceIte, Nat.reduceEqDiff, Nat.reduceBEq, Int.reduceLE, Int.reduceToNat, Nat.reduceAdd, Nat.reduceLT, Nat.reduceLeDiff, bytes_length, h1']) | (show (_ : Nat) = (_ : Nat); rfl) | ((with_reducible refine awp_ret ?_); refine ret_unit (.inr rfl) rfl rfl rfl (fun _ _ => rfl) <;> first | rfl | skip) | ((with_reducible refine awp_exit ?_); simp only [thenA, blockA, if_true, if_false, reduceIte, Nat.reduceEqDiff]) | (refine hK _ ?_; clear hK K) | refine awp_cond_t rfl ?_ | refine awp_cond_f rfl ?_ | refine awp_if rfl (fun hg => ?_) (fun hg => ?_) | clear hK K)
    exact ret_unit (.inl rfl) rfl rfl rfl (fun _ _ => rfl)
end Go.Proofs.Ytefkjdkalgemeaa
