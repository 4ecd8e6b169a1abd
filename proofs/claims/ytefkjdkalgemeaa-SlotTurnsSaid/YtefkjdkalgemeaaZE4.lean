/-
  Numbers as bytes, and back; sums.
-/
import Derived.Test.YtefkjdkalgemeaaZE3
import Derived.Test.YtefkjdkalgemeaaZGA
namespace Go.Proofs.Ytefkjdkalgemeaa
set_option linter.unusedVariables false
set_option linter.unusedSimpArgs false
open Go Go.VS Tab
set_option maxHeartbeats 4000000
set_option maxRecDepth 4000
theorem c_slot (g : BitVec 32) : ACall Try.prog 45 [w32 g] [] (i64 (slotN g : Nat)) [] := by
  have h1 : evInt .rem .u32 (g.toNat : Int) 2 = some (.int .u32 ((g.toNat % 2 : Nat) : Int)) := by rw [i_rem _ _ (by decide)]; rfl
  have h2 : IntKind.i64.wrap ((g.toNat % 2 : Nat) : Int) = ((g.toNat % 2 : Nat) : Int) := by rw [wrap_i64] <;> omega
  have h3 : IntKind.i64.wrap (((g.toNat % 2 : Nat) : Int) * 16) = (slotN g : Int) := by
    unfold slotN
    rw [wrap_i64] <;> omega
  refine acall_of 0 Try.func45 rfl fun n out _ _ => ?_
  simp only [Try.ntmps45, List.length_cons, List.length_nil, List.length_map, List.length_replicate, rep_map, Nat.reduceAdd, Nat.reduceSub, List.replicate, List.cons_append, List.nil_append]
  repeat' (first | (with_reducible first | refine awp_seq_k fun K hK => ?_ | refine awp_ev tab_ok [] ?_ | refine awp_skip ?_ | apply And.intro) | ((with_reducible first | refine gE ?_ | refine gR ?_); simp (maxSteps := 4000000) only [su, evLit, hbT, tab, thenA, blockA, reduceCtorEq, reduceIte, Nat.reduceEqDiff, Nat.reduceBEq, Int.reduceLE, Int.reduceToNat, Nat.reduceAdd, Nat.reduceLT, Nat.reduceLeDiff, h1, h2, h3]) | (show (_ : Nat) = (_ : Nat); rfl) | ((with_reducible refine awp_ret ?_); refine ret_tmp (.inr rfl) rfl rfl rfl (fun _ _ => rfl) ?_ <;> first | rfl | skip) | (refine hK _ ?_; clear hK K) | clear hK K)
theorem w0 : w32 0 = .val (.int .u32 0) := rfl
theorem c_get (l : List UInt8) (md : Md) (hl : l.length ≤ 4) : ACall Try.prog 89 [.sl 1 (bytesAV l) md] [] (w32 (getB l)) [] := by
  refine acall_of 0 Try.func89 rfl fun n out _ _ => ?_
  simp only [Try.ntmps89, List.length_cons, List.length_nil, List.length_map, List.length_replicate, rep_map, Nat.reduceAdd, Nat.reduceSub, List.replicate, List.cons_append, List.nil_append]
  repeat' (first | (with_reducible first | refine awp_seq_k fun K hK => ?_ | refine awp_ev tab_ok [] ?_ | refine awp_block_s ?_ | refine awp_block_c ?_ | refine awp_block_r ?_ | refine awp_skip ?_ | apply And.intro) | ((with_reducible first | refine gE ?_ | refine gR ?_); simp (maxSteps := 4000000) only [su, evLit, hbT, tab, thenA, blockA, reduceCtorEq, reduceIte, Nat.reduceEqDiff, Nat.reduceBEq, Int.reduceLE, Int.reduceToNat, Nat.reduceAdd, Nat.reduceLT, Nat.reduceLeDiff, bytes_length]) | (show (_ : Nat) = (_ : Nat); rfl) | ((with_reducible refine awp_ret ?_); refine ret_tmp (.inr rfl) rfl rfl rfl (fun _ _ => rfl) ?_ <;> first | rfl | skip) | ((with_reducible refine awp_exit ?_); simp only [thenA, blockA, if_true, if_false, reduceIte, Nat.reduceEqDiff]) | (refine hK _ ?_; clear hK K) | refine awp_cond_t rfl ?_ | refine awp_cond_f rfl ?_ | refine awp_if rfl (fun hg => ?_) (fun hg => ?_) | clear hK K)
  refine awp_block ?_
  refine awp_for_mv (fun m (i : Nat) => [(2, w32 (getS l i)), (6, i64 (i : Int)), (3, .top), (7, .top), (8, .top), (9, .top), (10, .top), (11, .top), (12, .top), (13, .top), (14, .top), (15, .top), (16, .top), (17, .top), (18, .top), (19, .top)]) (fun m i => []) (fun i => out) (fun i => i ≤ l.length) (fun i => l.length - i) 0 (Nat.zero_le _) ?_ fun m i hm hi => ?_
  · refine le_of_all ?_ ?_ (by first | rfl | (simp only [getS, w0]; rfl) | simp only [getS, w0]) rfl rfl rfl <;> simp only [patch, sl, getS, w0]
  simp only [patch, s_0, s_s]
  have hw := addw (n := i) 1 1 rfl (by omega)
  by_cases hlt : i < l.length
  · have gi := bytes_get l i hlt
    have h8 := mulw (n := i) 8 8 rfl (by omega)
    have hs : evInt .shl .u32 ((BitVec.ofNat 32 (l.getD i 0).toNat).toNat : Int) ((8 * i : Nat) : Int) = some (.int .u32 ((BitVec.ofNat 32 (l.getD i 0).toNat <<< (8 * i)).toNat : Int)) := w32_shl _ (by omega)
    repeat' (first | (with_reducible first | refine awp_seq_k fun K hK => ?_ | refine awp_ev tab_ok [] ?_ | refine awp_block_s ?_ | refine awp_block_c ?_ | refine awp_block_r ?_ | refine awp_skip ?_ | apply And.intro) | ((with_reducible first | refine gE ?_ | refine gR ?_); simp (maxSteps := 4000000) only [su, evLit, hbT, tab, thenA, blockA, reduceCtorEq, reduceIte, Nat.reduceEqDiff, Nat.reduceBEq, Int.reduceLE, Int.reduceToNat, Nat.reduceAdd, Nat.reduceLT, Nat.reduceLeDiff, bytes_length, hlt, gi, conv8_32, h8, hs, w32_or, hw]) | (show (_ : Nat) = (_ : Nat); rfl) | ((with_reducible refine awp_ret ?_); refine ret_tmp (.inr rfl) rfl rfl rfl (fun _ _ => rfl) ?_ <;> first | rfl | skip) | ((with_reducible refine awp_exit ?_); simp only [thenA, blockA, if_true, if_false, reduceIte, Nat.reduceEqDiff]) | (refine hK _ ?_; clear hK K) | refine awp_cond_t rfl ?_ | refine awp_cond_f rfl ?_ | refine awp_if rfl (fun hg => ?_) (fun hg => ?_) | clear hK K)
    refine ⟨i + 1, by omega, by omega, ?_⟩
    refine le_move [] (fun n_ => ?_) (fun n_ => ?_) <;> simp only [patch, sm, bytes_length, hlt, decide_true, getS]
  · obtain rfl : i = l.length := by omega
    repeat' (first | (with_reducible first | refine awp_seq_k fun K hK => ?_ | refine awp_ev tab_ok [] ?_ | refine awp_block_s ?_ | refine awp_block_c ?_ | refine awp_block_r ?_ | refine awp_skip ?_ | apply And.intro) | ((with_reducible first | refine gE ?_ | refine gR ?_); simp (maxSteps := 4000000) only [su, evLit, hbT, tab, thenA, blockA, reduceCtorEq, reduceIte, Nat.reduceEqDiff, Nat.reduceBEq, Int.reduceLE, Int.reduceToNat, Nat.reduceAdd, Nat.reduceLT, Nat.reduceLeDiff, bytes_length, hlt]) | (show (_ : Nat) = (_ : Nat); rfl) | ((with_reducible refine awp_ret ?_); refine ret_tmp (.inr rfl) rfl rfl rfl (fun _ _ => rfl) ?_ <;> first | rfl | skip) | ((with_reducible refine awp_exit ?_); simp only [thenA, blockA, if_true, if_false, reduceIte, Nat.reduceEqDiff]) | (refine hK _ ?_; clear hK K) | refine awp_cond_t rfl ?_ | refine awp_cond_f rfl ?_ | refine awp_if rfl (fun hg => ?_) (fun hg => ?_) | clear hK K)
theorem c_put1 (k : Nat) (w : BitVec 32) : ACall Try.prog 108 [.ptr k 0] [(k, some (.box 63 [w32 w]))] (b8 (UInt8.ofNat w.toNat)) [(k, .box 63 [w32 (w >>> 8)])] := by
  have hs : evInt .shr .u32 (w.toNat : Int) 8 = some (.int .u32 ((w >>> 8).toNat : Int)) := w32_shr w (by decide)
  refine acall_of 0 Try.func108 rfl fun n out _ _ => ?_
  simp only [Try.ntmps108, List.length_cons, List.length_nil, List.length_map, List.length_replicate, rep_map, Nat.reduceAdd, Nat.reduceSub, List.replicate, List.cons_append, List.nil_append]
  rename_i hneeds hgv
  obtain ⟨hk, _⟩ := hneeds
  obtain ⟨hkn, _⟩ := hgv
  repeat' (first | (with_reducible first | refine awp_seq_k fun K hK => ?_ | refine awp_ev tab_ok [] ?_ | refine awp_skip ?_ | apply And.intro) | ((with_reducible first | refine gE ?_ | refine gR ?_); simp (maxSteps := 4000000) only [su, evLit, hbT, tab, thenA, blockA, reduceCtorEq, reduceIte, Nat.reduceEqDiff, Nat.reduceBEq, Int.reduceLE, Int.reduceToNat, Nat.reduceAdd, Nat.reduceLT, Nat.reduceLeDiff, hk, lk_out hkn, dm_out hkn, nx_outs hkn, upd1_eq, conv32_8, hs, splice_all]) | (show (_ : Nat) = (_ : Nat); rfl) | ((with_reducible refine awp_ret ?_); refine ret_tmp (.inr rfl) rfl rfl rfl (fun _ _ => rfl) ?_ <;> first | rfl | skip) | (refine hK _ ?_; clear hK K) | clear hK K)
def putS (w : BitVec 32) (c i : Nat) : List UInt8 := (putB w c).take i ++ List.replicate (c - i) 0
theorem putS_len (w : BitVec 32) {c i : Nat} (h : i ≤ c) : (putS w c i).length = c := by
  unfold putS
  rw [List.length_append, List.length_take, putB_len, List.length_replicate]; omega
theorem putS_0 (w : BitVec 32) (c : Nat) : putS w c 0 = List.replicate c 0 := by unfold putS; simp
theorem putS_all (w : BitVec 32) (c : Nat) : putS w c c = putB w c := by
  unfold putS
  rw [List.take_of_length_le (by rw [putB_len]; exact Nat.le_refl _), Nat.sub_self, List.replicate_zero, List.append_nil]
theorem putB_get : ∀ (c : Nat) (w : BitVec 32) (i : Nat) (h : i < (putB w c).length), (putB w c)[i] = UInt8.ofNat (w >>> (8 * i)).toNat
  | 0, _, i, h => by simp [putB] at h
  | c + 1, w, 0, h => by simp [putB]
  | c + 1, w, i + 1, h => by
    have := putB_get c (w >>> 8) i (by rw [putB_len]; rw [putB_len] at h; omega)
    simp only [putB, List.getElem_cons_succ, this]
    rw [← BitVec.shiftRight_add, Nat.mul_succ, Nat.add_comm]
theorem putS_succ (w : BitVec 32) {c i : Nat} (h : i < c) : (putS w c i).set i (UInt8.ofNat (w >>> (8 * i)).toNat) = putS w c (i + 1) := by
  unfold putS
  have hl : i < (putB w c).length := by rw [putB_len]; exact h
  have h1 : ((putB w c).take i).length = i := by rw [List.length_take, putB_len]; omega
  rw [List.set_append_right _ _ (by omega), h1, Nat.sub_self, show c - i = (c - (i + 1)) + 1 by omega, List.replicate_succ, List.set_cons_zero, List.take_succ_eq_append_getElem hl, putB_get, List.append_assoc]
  rfl
theorem c_put (w : BitVec 32) (c : Nat) (h0 : 0 < c) (h8 : c ≤ 8) : ACall Try.prog 98 [w32 w, i64 (c : Int)] [] (.sl 1 (bytesAV (putB w c)) .full) [] := by
  refine acall_of 2 Try.func98 rfl fun n out _ _ => ?_
  simp only [Try.ntmps98, List.length_cons, List.length_nil, List.length_map, List.length_replicate, rep_map, Nat.reduceAdd, Nat.reduceSub, List.replicate, List.cons_append, List.nil_append]
  have hz : repZero [Value.int .u8 0] c = (putS w c 0).map b8 := by
    rw [putS_0]
    simp only [repZero, List.length_cons, List.length_nil, Nat.zero_add, Nat.mod_one, List.map_replicate, List.getD_cons_zero, c_int]
    rw [List.map_const', List.length_range]; rfl
  repeat' (first | (with_reducible first | refine awp_seq_k fun K hK => ?_ | refine awp_ev tab_ok [(10, none)] ?_ | refine awp_block_s ?_ | refine awp_block_c ?_ | refine awp_block_r ?_ | refine awp_skip ?_ | apply And.intro) | ((with_reducible first | refine gE ?_ | refine gR ?_); simp (maxSteps := 4000000) only [su, evLit, hbT, tab, thenA, blockA, reduceCtorEq, reduceIte, Nat.reduceEqDiff, Nat.reduceBEq, Int.reduceLE, Int.reduceToNat, Nat.reduceAdd, Nat.reduceLT, Nat.reduceLeDiff, hz]) | (show (_ : Nat) = (_ : Nat); rfl) | ((with_reducible refine awp_ret ?_); refine ret_tmp (.inr rfl) rfl rfl rfl (fun _ _ => rfl) ?_ <;> first | rfl | skip) | ((with_reducible refine awp_exit ?_); simp only [thenA, blockA, if_true, if_false, reduceIte, Nat.reduceEqDiff]) | (refine hK _ ?_; clear hK K) | refine awp_cond_t rfl ?_ | refine awp_cond_f rfl ?_ | refine awp_if rfl (fun hg => ?_) (fun hg => ?_) | clear hK K)
  · omega
  · omega
  · omega
  refine awp_block ?_
  refine awp_for_g (fun i : Nat => [(5, .fn (.func 108) [.ptr (n + 0) 0]), (6, .bsl (n + 1) 0 c true), (12, i64 (c : Int)), (13, i64 (i : Int)), (7, .top), (14, .top), (15, .top), (16, .top), (17, .top), (18, .top), (19, .top), (20, .top), (21, .top)]) (fun i => [some (.box 63 [w32 (w >>> (8 * i))]), some (.box 5 ((putS w c i).map b8))]) (fun i => out) (fun i => i ≤ c) (fun i => c - i) 0 (Nat.zero_le _) ?_ fun i hi => ?_
  · refine le_of_all ?_ ?_ (by first | rfl | (simp only [Nat.mul_zero, BitVec.ushiftRight_zero, beq_self_eq_true]; rfl) | simp only [Nat.mul_zero, BitVec.ushiftRight_zero, beq_self_eq_true]) rfl rfl rfl <;> simp only [patch, sl, Nat.mul_zero, BitVec.ushiftRight_zero, beq_self_eq_true]
  simp only [patch, s_0, s_s]
  have hw := addw (n := i) 1 1 rfl (by omega)
  have hl := putS_len w hi
  by_cases hlt : i < c
  · have hs := splice_map b8 (putS w c i) i (UInt8.ofNat (w >>> (8 * i)).toNat) (by omega)
    rw [putS_succ w hlt] at hs
    have hsh : w >>> (8 * i) >>> 8 = w >>> (8 * (i + 1)) := by rw [← BitVec.shiftRight_add, Nat.mul_succ]
    have c1 := c_put1 (n + 0) (w >>> (8 * i))
    rw [hsh] at c1
    repeat' (first | (with_reducible first | refine awp_seq_k fun K hK => ?_ | refine awp_ev tab_ok [] ?_ | refine awp_block_s ?_ | refine awp_block_c ?_ | refine awp_block_r ?_ | refine awp_skip ?_ | apply And.intro) | ((with_reducible first | refine gE ?_ | refine gR ?_); simp (maxSteps := 4000000) only [su, evLit, hbT, tab, thenA, blockA, reduceCtorEq, reduceIte, Nat.reduceEqDiff, Nat.reduceBEq, Int.reduceLE, Int.reduceToNat, Nat.reduceAdd, Nat.reduceLT, Nat.reduceLeDiff, List.length_map, hlt, hl, hs, hw]) | (show (_ : Nat) = (_ : Nat); rfl) | ((with_reducible refine awp_ret ?_); refine ret_tmp (.inr rfl) rfl rfl rfl (fun _ _ => rfl) ?_ <;> first | rfl | skip) | (refine call_one c1 (look_loc _ (Nat.le_refl _) 0) (dom_loc _ (by simp)) (by simp) ?_) | ((with_reducible refine awp_exit ?_); simp only [thenA, blockA, if_true, if_false, reduceIte, Nat.reduceEqDiff]) | (refine hK _ ?_; clear hK K) | refine awp_cond_t rfl ?_ | refine awp_cond_f rfl ?_ | refine awp_if rfl (fun hg => ?_) (fun hg => ?_) | clear hK K)
    · omega
    refine ⟨i + 1, by omega, by omega, ?_⟩
    refine le_of_all ?_ ?_ rfl rfl rfl rfl <;> simp only [patch, sl, hlt, decide_true]
  · obtain rfl : i = c := by omega
    refine awp_le (le_freeze (i := 1) 1 (e := 5) (cs := (putS w i i).map b8) rfl (by simp [hl, h0])) ?_
    simp only [List.map_cons, List.map_nil, AV.frz, mo_t, mo_f, Nat.add_left_cancel_iff, reduceIte, Nat.reduceEqDiff, s_0, s_s, List.drop_zero, putS_all, chunk_b8' _ (putB_len _ w)]
    repeat' (first | (with_reducible first | refine awp_seq_k fun K hK => ?_ | refine awp_ev tab_ok [] ?_ | refine awp_block_s ?_ | refine awp_block_c ?_ | refine awp_block_r ?_ | refine awp_skip ?_ | apply And.intro) | ((with_reducible first | refine gE ?_ | refine gR ?_); simp (maxSteps := 4000000) only [su, evLit, hbT, tab, thenA, blockA, reduceCtorEq, reduceIte, Nat.reduceEqDiff, Nat.reduceBEq, Int.reduceLE, Int.reduceToNat, Nat.reduceAdd, Nat.reduceLT, Nat.reduceLeDiff, hlt]) | (show (_ : Nat) = (_ : Nat); rfl) | ((with_reducible refine awp_ret ?_); refine ret_tmp (.inr rfl) rfl rfl rfl (fun _ _ => rfl) ?_ <;> first | rfl | skip) | ((with_reducible refine awp_exit ?_); simp only [thenA, blockA, if_true, if_false, reduceIte, Nat.reduceEqDiff]) | (refine hK _ ?_; clear hK K) | refine awp_cond_t rfl ?_ | refine awp_cond_f rfl ?_ | refine awp_if rfl (fun hg => ?_) (fun hg => ?_) | clear hK K)
end Go.Proofs.Ytefkjdkalgemeaa
