/-
  The hash: bytes in pieces, and the hash itself.
-/
import Derived.Test.YtfjebmdmjlanjaaS3
import Derived.Test.YtfjebmdmjlanjaaS4
namespace Go.Proofs.Ytfjebmdmjlanjaa
set_option linter.unusedVariables false
set_option linter.unusedSimpArgs false
open Go Go.VS Tab Sha
set_option maxHeartbeats 1000000

theorem c_chunk (nl : Bool) (els : List (List AV)) (md : Md) (m : Int) (hm : 1 ≤ m) :
    ACall Try.prog 27 [.slice nl 1 els md, i64 m] [] (.fn (.func 41) [.ref [.slice nl 1 els md], .ref [i64 m]]) [] := by
  refine acall_of 2 Try.func27 rfl fun n out _ _ => ?_
  simp only [Try.ntmps27, List.length_cons, List.length_nil, List.length_map, List.length_replicate, rep_map, Nat.reduceAdd, Nat.reduceSub, List.replicate, List.cons_append, List.nil_append]
  refine awp_seq_k fun K hK => awp_ev tab_ok [] ?_
  simp (maxSteps := 4000000) only [r_nil, r_cons, r_guard, gsel_t, gsel_f, bne_self_eq_false, w_of, gs_0, gs_s, wgo_some, wgd_t, wgd_n, bb_tf, bb_ft, bb_tt, bb_ff, bn_t, bn_f, rd_nil, rd_cons, rt_nil, rt_cons, contT_t, contT_nil, seen_eq, sn_nil, sn_cons, contR_f, contR_t, contD_nil, cD_one, e_tmp, e_const, e_func, c_int, c_bool, c_string, c_nil, c_nilf, c_nili, g_0, g_s, s_0, s_s, n_none, n_some, n_loc0, n_loc1, lk_loc, dm_loc, ff_none, ff_some, fa, nm_none, nm_some, fn_none, fn_some, bx_nil, bx_cons, vx_nil, vx_cons, Nat.reduceEqDiff, o_move, o_assign, o_alloc, o_box, o_pick, o_load, o_store, o_bin, o_un, o_conv, o_build, o_lit, o_make, o_slice, o_faddr, o_field, o_iaddr, o_index, o_len, o_append, o_copy, o_extract, o_arr, o_iface, o_func, o_assert, o_min, o_fn, o_call, hbT, evLoad, evStore, evField, evIdx, evIndex, evBin, evUn, evConv, evSlice, evBuild, evLit, evMake, evAppend, evLen, evCopy, tab, af1, ch1, af0, ch0, rp0, Nat.zero_mul, List.nil_append, List.isEmpty_cons, List.isEmpty_nil, Bool.and_false, Bool.and_true, pick_cons, List.drop_zero, List.drop_succ_cons, parts_val, parts_agg, parts_slice, parts_fn, parts_iface, parts_ref, parts_ptr, isShift, onV_some, i_add, i_sub, i_mul, i_eql, i_neq, i_lss, i_leq, i_gtr, i_geq, thenA, blockA, reduceCtorEq, eq_self, Option.isSome_some, Nat.le_refl, Nat.zero_le, true_or, or_true, false_or, or_false, true_and, and_true, if_true, if_false, reduceIte, Bool.false_eq_true, List.contains_nil, List.contains_cons, Nat.reduceBEq, beq_self_eq_true, Bool.true_or, Bool.false_or, Bool.or_false, Int.natCast_nonneg, Int.ofNat_lt, Int.reduceLE, Int.reduceToNat, Int.toNat_natCast, Nat.mul_one, List.map_cons, List.map_nil, List.length_cons, List.length_nil, List.length_map, List.length_replicate, rep_map, Nat.reduceAdd, Nat.zero_add, Nat.reduceLT, Nat.reduceLeDiff, List.getElem?_cons_zero, List.getElem?_cons_succ, Option.join_some, Option.join_none]
  repeat' (first | (with_reducible refine hK _ ?_; clear hK K) | with_reducible apply And.intro)
  refine awp_le (le_freeze (i := 0) 1 (e := 25) (cs := [.slice nl 1 els md]) rfl (by simp)) ?_
  simp only [List.map_cons, List.map_nil, AV.frz, mo_t, mo_f, Nat.add_left_cancel_iff, reduceIte, Nat.reduceEqDiff, s_0, s_s, List.drop_zero]
  refine awp_le (le_freeze (i := 1) 1 (e := 3) (cs := [i64 m]) rfl (by simp)) ?_
  simp only [List.map_cons, List.map_nil, AV.frz, mo_t, mo_f, Nat.add_left_cancel_iff, reduceIte, Nat.reduceEqDiff, s_0, s_s, List.drop_zero]
  refine awp_seq_k fun KB hKB => ?_
  refine awp_seq_k fun K hK => awp_ev tab_ok [] ?_
  simp (maxSteps := 4000000) only [r_nil, r_cons, r_guard, gsel_t, gsel_f, bne_self_eq_false, w_of, gs_0, gs_s, wgo_some, wgd_t, wgd_n, bb_tf, bb_ft, bb_tt, bb_ff, bn_t, bn_f, rd_nil, rd_cons, rt_nil, rt_cons, contT_t, contT_nil, seen_eq, sn_nil, sn_cons, contR_f, contR_t, contD_nil, cD_one, e_tmp, e_const, e_func, c_int, c_bool, c_string, c_nil, c_nilf, c_nili, g_0, g_s, s_0, s_s, n_none, n_some, n_loc0, n_loc1, lk_loc, dm_loc, ff_none, ff_some, fa, nm_none, nm_some, fn_none, fn_some, bx_nil, bx_cons, vx_nil, vx_cons, Nat.reduceEqDiff, o_move, o_assign, o_alloc, o_box, o_pick, o_load, o_store, o_bin, o_un, o_conv, o_build, o_lit, o_make, o_slice, o_faddr, o_field, o_iaddr, o_index, o_len, o_append, o_copy, o_extract, o_arr, o_iface, o_func, o_assert, o_min, o_fn, o_call, hbT, evLoad, evStore, evField, evIdx, evIndex, evBin, evUn, evConv, evSlice, evBuild, evLit, evMake, evAppend, evLen, evCopy, tab, af1, ch1, af0, ch0, rp0, Nat.zero_mul, List.nil_append, List.isEmpty_cons, List.isEmpty_nil, Bool.and_false, Bool.and_true, pick_cons, List.drop_zero, List.drop_succ_cons, parts_val, parts_agg, parts_slice, parts_fn, parts_iface, parts_ref, parts_ptr, isShift, onV_some, i_add, i_sub, i_mul, i_eql, i_neq, i_lss, i_leq, i_gtr, i_geq, thenA, blockA, reduceCtorEq, eq_self, Option.isSome_some, Nat.le_refl, Nat.zero_le, true_or, or_true, false_or, or_false, true_and, and_true, if_true, if_false, reduceIte, Bool.false_eq_true, List.contains_nil, List.contains_cons, Nat.reduceBEq, beq_self_eq_true, Bool.true_or, Bool.false_or, Bool.or_false, Int.natCast_nonneg, Int.ofNat_lt, Int.reduceLE, Int.reduceToNat, Int.toNat_natCast, Nat.mul_one, List.map_cons, List.map_nil, List.length_cons, List.length_nil, List.length_map, List.length_replicate, rep_map, Nat.reduceAdd, Nat.zero_add, Nat.reduceLT, Nat.reduceLeDiff, List.getElem?_cons_zero, List.getElem?_cons_succ, Option.join_some, Option.join_none]
  repeat' (first | (with_reducible refine hK _ ?_; clear hK K) | with_reducible apply And.intro)
  have hm1 : decide (m < 1) = false := decide_eq_false (by omega)
  rw [hm1]
  refine awp_cond_f rfl (awp_skip ?_)
  refine hKB _ ?_
  clear hKB KB
  refine awp_seq_k fun K hK => awp_ev tab_ok [] ?_
  simp (maxSteps := 4000000) only [r_nil, r_cons, r_guard, gsel_t, gsel_f, bne_self_eq_false, w_of, gs_0, gs_s, wgo_some, wgd_t, wgd_n, bb_tf, bb_ft, bb_tt, bb_ff, bn_t, bn_f, rd_nil, rd_cons, rt_nil, rt_cons, contT_t, contT_nil, seen_eq, sn_nil, sn_cons, contR_f, contR_t, contD_nil, cD_one, e_tmp, e_const, e_func, c_int, c_bool, c_string, c_nil, c_nilf, c_nili, g_0, g_s, s_0, s_s, n_none, n_some, n_loc0, n_loc1, lk_loc, dm_loc, ff_none, ff_some, fa, nm_none, nm_some, fn_none, fn_some, bx_nil, bx_cons, vx_nil, vx_cons, Nat.reduceEqDiff, o_move, o_assign, o_alloc, o_box, o_pick, o_load, o_store, o_bin, o_un, o_conv, o_build, o_lit, o_make, o_slice, o_faddr, o_field, o_iaddr, o_index, o_len, o_append, o_copy, o_extract, o_arr, o_iface, o_func, o_assert, o_min, o_fn, o_call, hbT, evLoad, evStore, evField, evIdx, evIndex, evBin, evUn, evConv, evSlice, evBuild, evLit, evMake, evAppend, evLen, evCopy, tab, af1, ch1, af0, ch0, rp0, Nat.zero_mul, List.nil_append, List.isEmpty_cons, List.isEmpty_nil, Bool.and_false, Bool.and_true, pick_cons, List.drop_zero, List.drop_succ_cons, parts_val, parts_agg, parts_slice, parts_fn, parts_iface, parts_ref, parts_ptr, isShift, onV_some, i_add, i_sub, i_mul, i_eql, i_neq, i_lss, i_leq, i_gtr, i_geq, thenA, blockA, reduceCtorEq, eq_self, Option.isSome_some, Nat.le_refl, Nat.zero_le, true_or, or_true, false_or, or_false, true_and, and_true, if_true, if_false, reduceIte, Bool.false_eq_true, List.contains_nil, List.contains_cons, Nat.reduceBEq, beq_self_eq_true, Bool.true_or, Bool.false_or, Bool.or_false, Int.natCast_nonneg, Int.ofNat_lt, Int.reduceLE, Int.reduceToNat, Int.toNat_natCast, Nat.mul_one, List.map_cons, List.map_nil, List.length_cons, List.length_nil, List.length_map, List.length_replicate, rep_map, Nat.reduceAdd, Nat.zero_add, Nat.reduceLT, Nat.reduceLeDiff, List.getElem?_cons_zero, List.getElem?_cons_succ, Option.join_some, Option.join_none]
  repeat' (first | (with_reducible refine hK _ ?_; clear hK K) | with_reducible apply And.intro)
  refine awp_ret ?_
  exact ret_tmp (.inr rfl) rfl rfl rfl (fun _ _ => rfl) rfl

/-- The pieces of bytes. -/
def piece (b : List UInt8) (m i : Nat) : List UInt8 := (b.drop (m * i)).take m

theorem c_chunk1 (l kl kh : Nat) (hne : kl ≠ kh) (P0 : Res) (hP : P0 ≠ .dead) (B : Nat → Res) (hB : ∀ i, B i ≠ .dead) (nl : Bool) (b : List UInt8) (md : Md) (hb : b.length ≤ 1000000) (m cnt : Nat) (hm : 1 ≤ m) (hm2 : m ≤ 1000000)
    (hcnt : b.length ≤ m * cnt) (hcnt2 : ∀ i, i < cnt → m * i < b.length)
    (hy : ∀ i, i < cnt → AYld Try.prog l [.slice nl 1 (bytesAV (piece b m i)) .full] [(kl, some P0), (kh, some (B i))] (.val (.bool true)) [(kh, B (i + 1))]) :
    ACall Try.prog 41 [.fn (.yield l) [], .ref [.slice nl 1 (bytesAV b) md], .ref [i64 (m : Int)]] [(kl, some P0), (kh, some (B 0))] (.tup []) [(kh, B cnt)] := by
  refine acall_of' 0 Try.func41 rfl fun n out _ _ _ => ?_
  simp only [Try.ntmps41, List.length_cons, List.length_nil, List.length_map, List.length_replicate, rep_map, Nat.reduceAdd, Nat.reduceSub, List.replicate, List.cons_append, List.nil_append]
  rename_i hneeds hg hz
  obtain ⟨hkl, hk, _⟩ := hneeds
  obtain ⟨hkn, _⟩ := hg
  refine awp_seq_k fun K hK => awp_ev tab_ok [] ?_
  simp (maxSteps := 4000000) only [r_nil, r_cons, r_guard, gsel_t, gsel_f, bne_self_eq_false, w_of, gs_0, gs_s, wgo_some, wgd_t, wgd_n, bb_tf, bb_ft, bb_tt, bb_ff, bn_t, bn_f, rd_nil, rd_cons, rt_nil, rt_cons, contT_t, contT_nil, seen_eq, sn_nil, sn_cons, contR_f, contR_t, contD_nil, cD_one, e_tmp, e_const, e_func, c_int, c_bool, c_string, c_nil, c_nilf, c_nili, g_0, g_s, s_0, s_s, n_none, n_some, n_loc0, n_loc1, lk_loc, dm_loc, ff_none, ff_some, fa, nm_none, nm_some, fn_none, fn_some, bx_nil, bx_cons, vx_nil, vx_cons, Nat.reduceEqDiff, o_move, o_assign, o_alloc, o_box, o_pick, o_load, o_store, o_bin, o_un, o_conv, o_build, o_lit, o_make, o_slice, o_faddr, o_field, o_iaddr, o_index, o_len, o_append, o_copy, o_extract, o_arr, o_iface, o_func, o_assert, o_min, o_fn, o_call, hbT, evLoad, evStore, evField, evIdx, evIndex, evBin, evUn, evConv, evSlice, evBuild, evLit, evMake, evAppend, evLen, evCopy, tab, af1, ch1, af0, ch0, rp0, Nat.zero_mul, List.nil_append, List.isEmpty_cons, List.isEmpty_nil, Bool.and_false, Bool.and_true, pick_cons, List.drop_zero, List.drop_succ_cons, parts_val, parts_agg, parts_slice, parts_fn, parts_iface, parts_ref, parts_ptr, isShift, onV_some, i_add, i_sub, i_mul, i_eql, i_neq, i_lss, i_leq, i_gtr, i_geq, thenA, blockA, reduceCtorEq, eq_self, Option.isSome_some, Nat.le_refl, Nat.zero_le, true_or, or_true, false_or, or_false, true_and, and_true, if_true, if_false, reduceIte, Bool.false_eq_true, List.contains_nil, List.contains_cons, Nat.reduceBEq, beq_self_eq_true, Bool.true_or, Bool.false_or, Bool.or_false, Int.natCast_nonneg, Int.ofNat_lt, Int.reduceLE, Int.reduceToNat, Int.toNat_natCast, Nat.mul_one, List.map_cons, List.map_nil, List.length_cons, List.length_nil, List.length_map, List.length_replicate, rep_map, Nat.reduceAdd, Nat.zero_add, Nat.reduceLT, Nat.reduceLeDiff, List.getElem?_cons_zero, List.getElem?_cons_succ, Option.join_some, Option.join_none]
  repeat' (first | (with_reducible refine hK _ ?_; clear hK K) | with_reducible apply And.intro)
  refine awp_block ?_
  refine awp_for_all (fun c : Nat => [(4, i64 ((m * c : Nat) : Int)), (5, .top), (6, .top), (7, .top), (8, .top), (9, .top), (10, .top), (11, .top), (12, .top), (13, .top), (14, .top), (15, .top), (16, .top), (17, .top), (18, .top), (19, .top), (20, .top), (21, .top), (22, .top), (23, .top), (24, .top), (25, .top), (26, .top), (27, .top), (28, .top), (29, .top), (30, .top)]) (fun _ => []) (fun c => upd1 out kh (B c)) (fun c => c ≤ cnt) (fun c => cnt - c) 0 (Nat.zero_le _) ?_ rfl (upd1_self hk) fun c hc => ?_
  · simp only [patch, s_0, s_s, leL_cons, leL_nil, le_refl_iff, le_top_iff, le_nil_iff, le_sh_iff, true_and, and_true]
    exact .rfl _
  simp only [patch, s_0, s_s]
  refine awp_seq_k fun KC hKC => ?_
  refine awp_seq_k fun K hK => awp_ev tab_ok [] ?_
  simp (maxSteps := 4000000) only [r_nil, r_cons, r_guard, gsel_t, gsel_f, bne_self_eq_false, w_of, gs_0, gs_s, wgo_some, wgd_t, wgd_n, bb_tf, bb_ft, bb_tt, bb_ff, bn_t, bn_f, rd_nil, rd_cons, rt_nil, rt_cons, contT_t, contT_nil, seen_eq, sn_nil, sn_cons, contR_f, contR_t, contD_nil, cD_one, e_tmp, e_const, e_func, c_int, c_bool, c_string, c_nil, c_nilf, c_nili, g_0, g_s, s_0, s_s, n_none, n_some, n_loc0, n_loc1, lk_loc, dm_loc, ff_none, ff_some, fa, nm_none, nm_some, fn_none, fn_some, bx_nil, bx_cons, vx_nil, vx_cons, Nat.reduceEqDiff, o_move, o_assign, o_alloc, o_box, o_pick, o_load, o_store, o_bin, o_un, o_conv, o_build, o_lit, o_make, o_slice, o_faddr, o_field, o_iaddr, o_index, o_len, o_append, o_copy, o_extract, o_arr, o_iface, o_func, o_assert, o_min, o_fn, o_call, hbT, evLoad, evStore, evField, evIdx, evIndex, evBin, evUn, evConv, evSlice, evBuild, evLit, evMake, evAppend, evLen, evCopy, tab, af1, ch1, af0, ch0, rp0, Nat.zero_mul, List.nil_append, List.isEmpty_cons, List.isEmpty_nil, Bool.and_false, Bool.and_true, pick_cons, List.drop_zero, List.drop_succ_cons, parts_val, parts_agg, parts_slice, parts_fn, parts_iface, parts_ref, parts_ptr, isShift, onV_some, i_add, i_sub, i_mul, i_eql, i_neq, i_lss, i_leq, i_gtr, i_geq, thenA, blockA, reduceCtorEq, eq_self, Option.isSome_some, Nat.le_refl, Nat.zero_le, true_or, or_true, false_or, or_false, true_and, and_true, if_true, if_false, reduceIte, Bool.false_eq_true, List.contains_nil, List.contains_cons, Nat.reduceBEq, beq_self_eq_true, Bool.true_or, Bool.false_or, Bool.or_false, Int.natCast_nonneg, Int.ofNat_lt, Int.reduceLE, Int.reduceToNat, Int.toNat_natCast, Nat.mul_one, List.map_cons, List.map_nil, List.length_cons, List.length_nil, List.length_map, List.length_replicate, rep_map, Nat.reduceAdd, Nat.zero_add, Nat.reduceLT, Nat.reduceLeDiff, List.getElem?_cons_zero, List.getElem?_cons_succ, Option.join_some, Option.join_none, bytes_length]
  repeat' (first | (with_reducible refine hK _ ?_; clear hK K) | with_reducible apply And.intro)
  refine awp_if rfl (fun ht => awp_skip (hKC _ ?_)) (fun hf => awp_exit (id ?_))
  rotate_left
  · simp only [thenA, blockA, if_true]
    have hcc : c = cnt := by
      have h1 := of_decide_eq_false hf
      rcases Nat.lt_or_ge c cnt with h | h
      · have := hcnt2 c h; omega
      · omega
    subst hcc
    exact ret_unit (.inl rfl) rfl rfl rfl (fun _ _ => rfl)
  clear hKC KC
  have h1 : m * c < b.length := by have := of_decide_eq_true ht; omega
  have hcc : c < cnt := by
    rcases Nat.lt_or_ge c cnt with h | h
    · exact h
    · have : c = cnt := by omega
      subst this; omega
  refine awp_seq_k fun KC hKC => awp_block ?_
  have hkln : kl < n := by
    rcases Nat.lt_or_ge kl n with h | h
    · exact h
    · rw [hz kl h] at hkl; cases hkl
  obtain ⟨q, hq⟩ : ∃ q, q = min m (b.length - m * c) := ⟨_, rfl⟩
  have e1 : (List.take (b.length - m * c) (List.drop (m * c) (bytesAV b))).length = b.length - m * c := by simp [bytesAV]
  have e2 : (if b.length - m * c < m then ((b.length - m * c : Nat) : Int) else (m : Int)) = (q : Int) := by rw [hq]; split <;> omega
  have e3 : (b.drop (m * c)).take q = piece b m c := by
    rw [hq, piece]
    apply List.ext_getElem?
    intro i
    simp only [List.getElem?_take, List.getElem?_drop]
    by_cases h : i < min m (b.length - m * c)
    · rw [if_pos h, if_pos (by omega)]
    · rw [if_neg h]
      split
      · rw [List.getElem?_eq_none (by omega)]
      · rfl
  have e4 : m * c ≤ m * c + q := by omega
  have e5 : m * c + q ≤ b.length := by omega
  refine awp_seq_k fun K hK => awp_ev_quiet tab_ok follows (by kernel_rfl) ?_
  simp (maxSteps := 4000000) only [r_nil, r_cons, r_guard, gsel_t, gsel_f, bne_self_eq_false, w_of, gs_0, gs_s, wgo_some, wgd_t, wgd_n, bb_tf, bb_ft, bb_tt, bb_ff, bn_t, bn_f, rd_nil, rd_cons, rt_nil, rt_cons, contT_t, contT_nil, seen_eq, sn_nil, sn_cons, contR_f, contR_t, contD_nil, cD_one, e_tmp, e_const, e_func, c_int, c_bool, c_string, c_nil, c_nilf, c_nili, g_0, g_s, s_0, s_s, n_none, n_some, n_loc0, n_loc1, lk_loc, dm_loc, ff_none, ff_some, fa, nm_none, nm_some, fn_none, fn_some, bx_nil, bx_cons, vx_nil, vx_cons, Nat.reduceEqDiff, o_move, o_assign, o_alloc, o_box, o_pick, o_load, o_store, o_bin, o_un, o_conv, o_build, o_lit, o_make, o_slice, o_faddr, o_field, o_iaddr, o_index, o_len, o_append, o_copy, o_extract, o_arr, o_iface, o_func, o_assert, o_min, o_fn, o_call, hbT, evLoad, evStore, evField, evIdx, evIndex, evBin, evUn, evConv, evSlice, evBuild, evLit, evMake, evAppend, evLen, evCopy, tab, af1, ch1, af0, ch0, rp0, Nat.zero_mul, List.nil_append, List.isEmpty_cons, List.isEmpty_nil, Bool.and_false, Bool.and_true, pick_cons, List.drop_zero, List.drop_succ_cons, parts_val, parts_agg, parts_slice, parts_fn, parts_iface, parts_ref, parts_ptr, isShift, onV_some, i_add, i_sub, i_mul, i_eql, i_neq, i_lss, i_leq, i_gtr, i_geq, thenA, blockA, reduceCtorEq, eq_self, Option.isSome_some, Nat.le_refl, Nat.zero_le, true_or, or_true, false_or, or_false, true_and, and_true, if_true, if_false, reduceIte, Bool.false_eq_true, List.contains_nil, List.contains_cons, Nat.reduceBEq, beq_self_eq_true, Bool.true_or, Bool.false_or, Bool.or_false, Int.natCast_nonneg, Int.ofNat_lt, Int.reduceLE, Int.reduceToNat, Int.toNat_natCast, Nat.mul_one, List.map_cons, List.map_nil, List.length_cons, List.length_nil, List.length_map, List.length_replicate, rep_map, Nat.reduceAdd, Nat.zero_add, Nat.reduceLT, Nat.reduceLeDiff, List.getElem?_cons_zero, List.getElem?_cons_succ, Option.join_some, Option.join_none, bytes_length, loOf, hiOf, Nat.le_of_lt h1, e1, e2]
  repeat' (first | (with_reducible refine hK _ ?_; clear hK K) | with_reducible apply And.intro)
  refine awp_seq_k fun K hK => awp_ev tab_ok [] ?_
  simp (maxSteps := 4000000) only [r_nil, r_cons, r_guard, gsel_t, gsel_f, bne_self_eq_false, w_of, gs_0, gs_s, wgo_some, wgd_t, wgd_n, bb_tf, bb_ft, bb_tt, bb_ff, bn_t, bn_f, rd_nil, rd_cons, rt_nil, rt_cons, contT_t, contT_nil, seen_eq, sn_nil, sn_cons, contR_f, contR_t, contD_nil, cD_one, e_tmp, e_const, e_func, c_int, c_bool, c_string, c_nil, c_nilf, c_nili, g_0, g_s, s_0, s_s, n_none, n_some, n_loc0, n_loc1, lk_loc, dm_loc, ff_none, ff_some, fa, nm_none, nm_some, fn_none, fn_some, bx_nil, bx_cons, vx_nil, vx_cons, Nat.reduceEqDiff, o_move, o_assign, o_alloc, o_box, o_pick, o_load, o_store, o_bin, o_un, o_conv, o_build, o_lit, o_make, o_slice, o_faddr, o_field, o_iaddr, o_index, o_len, o_append, o_copy, o_extract, o_arr, o_iface, o_func, o_assert, o_min, o_fn, o_call, hbT, evLoad, evStore, evField, evIdx, evIndex, evBin, evUn, evConv, evSlice, evBuild, evLit, evMake, evAppend, evLen, evCopy, tab, af1, ch1, af0, ch0, rp0, Nat.zero_mul, List.nil_append, List.isEmpty_cons, List.isEmpty_nil, Bool.and_false, Bool.and_true, pick_cons, List.drop_zero, List.drop_succ_cons, parts_val, parts_agg, parts_slice, parts_fn, parts_iface, parts_ref, parts_ptr, isShift, onV_some, i_add, i_sub, i_mul, i_eql, i_neq, i_lss, i_leq, i_gtr, i_geq, thenA, blockA, reduceCtorEq, eq_self, Option.isSome_some, Nat.le_refl, Nat.zero_le, true_or, or_true, false_or, or_false, true_and, and_true, if_true, if_false, reduceIte, Bool.false_eq_true, List.contains_nil, List.contains_cons, Nat.reduceBEq, beq_self_eq_true, Bool.true_or, Bool.false_or, Bool.or_false, Int.natCast_nonneg, Int.ofNat_lt, Int.reduceLE, Int.reduceToNat, Int.toNat_natCast, Nat.mul_one, List.map_cons, List.map_nil, List.length_cons, List.length_nil, List.length_map, List.length_replicate, rep_map, Nat.reduceAdd, Nat.zero_add, Nat.reduceLT, Nat.reduceLeDiff, List.getElem?_cons_zero, List.getElem?_cons_succ, Option.join_some, Option.join_none, bytes_length, loOf, hiOf, addw (n := m * c) (q : Int) q rfl (by omega), e4, e5, Nat.add_sub_cancel_left, bytes_drop, bytes_take, e3]
  repeat' (first | (with_reducible refine hK _ ?_; clear hK K) | with_reducible apply And.intro)
  refine yld_of (hy c hcc) ⟨?_, ?_, trivial⟩ ⟨?_, trivial⟩ ?_ ?_
  · rw [lk_out hkln, upd1_ne _ _ hne]; exact hkl
  · rw [lk_out hkn]; exact upd1_same _ _ _
  · rw [dm_out hkn]; trivial
  · intro x hx
    simp only [List.mem_cons, List.not_mem_nil, or_false] at hx
    rcases hx with rfl | rfl
    · exact ⟨by rw [dm_out hkln]; trivial, by simpa using hP⟩
    · exact ⟨by rw [dm_out hkn]; trivial, by simpa using hB c⟩
  simp (maxSteps := 4000000) only [r_nil, r_cons, r_guard, gsel_t, gsel_f, bne_self_eq_false, w_of, gs_0, gs_s, wgo_some, wgd_t, wgd_n, bb_tf, bb_ft, bb_tt, bb_ff, bn_t, bn_f, rd_nil, rd_cons, rt_nil, rt_cons, contT_t, contT_nil, seen_eq, sn_nil, sn_cons, contR_f, contR_t, contD_nil, cD_one, e_tmp, e_const, e_func, c_int, c_bool, c_string, c_nil, c_nilf, c_nili, g_0, g_s, s_0, s_s, n_none, n_some, n_loc0, n_loc1, lk_loc, dm_loc, ff_none, ff_some, fa, nm_none, nm_some, fn_none, fn_some, bx_nil, bx_cons, vx_nil, vx_cons, Nat.reduceEqDiff, o_move, o_assign, o_alloc, o_box, o_pick, o_load, o_store, o_bin, o_un, o_conv, o_build, o_lit, o_make, o_slice, o_faddr, o_field, o_iaddr, o_index, o_len, o_append, o_copy, o_extract, o_arr, o_iface, o_func, o_assert, o_min, o_fn, o_call, hbT, evLoad, evStore, evField, evIdx, evIndex, evBin, evUn, evConv, evSlice, evBuild, evLit, evMake, evAppend, evLen, evCopy, tab, af1, ch1, af0, ch0, rp0, Nat.zero_mul, List.nil_append, List.isEmpty_cons, List.isEmpty_nil, Bool.and_false, Bool.and_true, pick_cons, List.drop_zero, List.drop_succ_cons, parts_val, parts_agg, parts_slice, parts_fn, parts_iface, parts_ref, parts_ptr, isShift, onV_some, i_add, i_sub, i_mul, i_eql, i_neq, i_lss, i_leq, i_gtr, i_geq, thenA, blockA, reduceCtorEq, eq_self, Option.isSome_some, Nat.le_refl, Nat.zero_le, true_or, or_true, false_or, or_false, true_and, and_true, if_true, if_false, reduceIte, Bool.false_eq_true, List.contains_nil, List.contains_cons, Nat.reduceBEq, beq_self_eq_true, Bool.true_or, Bool.false_or, Bool.or_false, Int.natCast_nonneg, Int.ofNat_lt, Int.reduceLE, Int.reduceToNat, Int.toNat_natCast, Nat.mul_one, List.map_cons, List.map_nil, List.length_cons, List.length_nil, List.length_map, List.length_replicate, rep_map, Nat.reduceAdd, Nat.zero_add, Nat.reduceLT, Nat.reduceLeDiff, List.getElem?_cons_zero, List.getElem?_cons_succ, Option.join_some, Option.join_none, nx_out0 hkn, upd1_upd1, Bool.not_true]
  repeat' (first | (with_reducible refine hK _ ?_; clear hK K) | with_reducible apply And.intro)
  refine awp_cond_f rfl (awp_skip ?_)
  simp only [thenA, blockA]
  refine hKC _ ?_
  clear hKC KC
  have e6 : IntKind.i64.wrap (((m * c : Nat) : Int) + (m : Int)) = ((m * (c + 1) : Nat) : Int) := by rw [Nat.mul_succ, wrap_i64] <;> omega
  refine awp_ev tab_ok [] ?_
  simp (maxSteps := 4000000) only [r_nil, r_cons, r_guard, gsel_t, gsel_f, bne_self_eq_false, w_of, gs_0, gs_s, wgo_some, wgd_t, wgd_n, bb_tf, bb_ft, bb_tt, bb_ff, bn_t, bn_f, rd_nil, rd_cons, rt_nil, rt_cons, contT_t, contT_nil, seen_eq, sn_nil, sn_cons, contR_f, contR_t, contD_nil, cD_one, e_tmp, e_const, e_func, c_int, c_bool, c_string, c_nil, c_nilf, c_nili, g_0, g_s, s_0, s_s, n_none, n_some, n_loc0, n_loc1, lk_loc, dm_loc, ff_none, ff_some, fa, nm_none, nm_some, fn_none, fn_some, bx_nil, bx_cons, vx_nil, vx_cons, Nat.reduceEqDiff, o_move, o_assign, o_alloc, o_box, o_pick, o_load, o_store, o_bin, o_un, o_conv, o_build, o_lit, o_make, o_slice, o_faddr, o_field, o_iaddr, o_index, o_len, o_append, o_copy, o_extract, o_arr, o_iface, o_func, o_assert, o_min, o_fn, o_call, hbT, evLoad, evStore, evField, evIdx, evIndex, evBin, evUn, evConv, evSlice, evBuild, evLit, evMake, evAppend, evLen, evCopy, tab, af1, ch1, af0, ch0, rp0, Nat.zero_mul, List.nil_append, List.isEmpty_cons, List.isEmpty_nil, Bool.and_false, Bool.and_true, pick_cons, List.drop_zero, List.drop_succ_cons, parts_val, parts_agg, parts_slice, parts_fn, parts_iface, parts_ref, parts_ptr, isShift, onV_some, i_add, i_sub, i_mul, i_eql, i_neq, i_lss, i_leq, i_gtr, i_geq, thenA, blockA, reduceCtorEq, eq_self, Option.isSome_some, Nat.le_refl, Nat.zero_le, true_or, or_true, false_or, or_false, true_and, and_true, if_true, if_false, reduceIte, Bool.false_eq_true, List.contains_nil, List.contains_cons, Nat.reduceBEq, beq_self_eq_true, Bool.true_or, Bool.false_or, Bool.or_false, Int.natCast_nonneg, Int.ofNat_lt, Int.reduceLE, Int.reduceToNat, Int.toNat_natCast, Nat.mul_one, List.map_cons, List.map_nil, List.length_cons, List.length_nil, List.length_map, List.length_replicate, rep_map, Nat.reduceAdd, Nat.zero_add, Nat.reduceLT, Nat.reduceLeDiff, List.getElem?_cons_zero, List.getElem?_cons_succ, Option.join_some, Option.join_none, e6]
  refine ⟨c + 1, by omega, by omega, ?_⟩
  refine le_of_fr ?_ rfl rfl rfl rfl rfl
  simp only [patch, s_0, s_s, leL_cons, leL_nil, le_refl_iff, le_top_iff, le_nil_iff, le_sh_iff, true_and, and_true]

end Go.Proofs.Ytfjebmdmjlanjaa
