/-
  What comes of a disk.
-/
import Derived.Test.YtefkjdkalgemeaaZGA
import Derived.Test.YtefkjdkalgemeaaZD8
namespace Go.Proofs.Ytefkjdkalgemeaa
set_option linter.unusedVariables false
set_option linter.unusedSimpArgs false
open Go Go.VS Tab
set_option maxHeartbeats 1000000
set_option maxRecDepth 4000
theorem c_whole (x : Int) : ACall Try.prog 63 [i64 x] [] (i64 128) [] := by
  refine acall_of 0 Try.func63 rfl fun n out _ _ => ?_
  simp only [Try.ntmps63, List.length_cons, List.length_nil, List.length_map, List.length_replicate, rep_map, Nat.reduceAdd, Nat.reduceSub, List.replicate, List.cons_append, List.nil_append]
  refine awp_seq_k fun K hK => awp_ev tab_ok [] ?_
  simp (maxSteps := 4000000) only [su, evLit, hbT, tab, thenA, blockA, reduceCtorEq, reduceIte, Nat.reduceEqDiff, Nat.reduceBEq, Int.reduceLE, Int.reduceToNat, Nat.reduceAdd, Nat.reduceLT, Nat.reduceLeDiff]
  repeat' (first | (with_reducible refine hK _ ?_; clear hK K) | with_reducible apply And.intro)
  refine awp_seq_k fun K hK => awp_ev tab_ok [] ?_
  simp (maxSteps := 4000000) only [su, evLit, hbT, tab, thenA, blockA, reduceCtorEq, reduceIte, Nat.reduceEqDiff, Nat.reduceBEq, Int.reduceLE, Int.reduceToNat, Nat.reduceAdd, Nat.reduceLT, Nat.reduceLeDiff]
  repeat' (first | (with_reducible refine hK _ ?_; clear hK K) | with_reducible apply And.intro)
  refine awp_ret ?_
  exact ret_tmp (.inr rfl) rfl rfl rfl (fun _ _ => rfl) rfl
def laid (b piece : List UInt8) : List UInt8 := piece ++ b.drop piece.length
theorem c_laid (b piece : List UInt8) (md : Md) (h : piece.length ≤ b.length) (hb : b.length ≤ 1000000) : ACall Try.prog 93 [bs b, .sl 1 (bytesAV piece) md] [] (bs (laid b piece)) [] := by
  refine acall_of 0 Try.func93 rfl fun n out _ _ => ?_
  simp only [Try.ntmps93, List.length_cons, List.length_nil, List.length_map, List.length_replicate, rep_map, Nat.reduceAdd, Nat.reduceSub, List.replicate, List.cons_append, List.nil_append]
  refine awp_seq_k fun K hK => awp_ev tab_ok [] ?_
  simp (maxSteps := 4000000) only [su, evLit, hbT, tab, thenA, blockA, reduceCtorEq, reduceIte, Nat.reduceEqDiff, Nat.reduceBEq, Int.reduceLE, Int.reduceToNat, Nat.reduceAdd, Nat.reduceLT, Nat.reduceLeDiff]
  repeat' (first | (with_reducible refine hK _ ?_; clear hK K) | with_reducible apply And.intro)
  refine awp_seq_k fun K hK => awp_ev tab_ok [] ?_
  simp (maxSteps := 4000000) only [su, evLit, hbT, tab, thenA, blockA, reduceCtorEq, reduceIte, Nat.reduceEqDiff, Nat.reduceBEq, Int.reduceLE, Int.reduceToNat, Nat.reduceAdd, Nat.reduceLT, Nat.reduceLeDiff, bytes_length]
  repeat' (first | (with_reducible refine hK _ ?_; clear hK K) | with_reducible apply And.intro)
  have e1 : piece.length + (b.length - piece.length) = b.length := by omega
  refine awp_seq_k fun K hK => awp_ev_quiet tab_ok follows (by kernel_rfl) ?_
  simp (maxSteps := 4000000) only [su, evLit, hbT, tab, thenA, blockA, reduceCtorEq, reduceIte, Nat.reduceEqDiff, Nat.reduceBEq, Int.reduceLE, Int.reduceToNat, Nat.reduceAdd, Nat.reduceLT, Nat.reduceLeDiff, loOf, hiOf, bytes_length, Nat.zero_le, Nat.le_refl, bytes_drop, bytes_take, h, List.length_drop, List.length_take, Nat.min_self, e1, show b.length ≤ 140737488355328 by omega, show b.length ≤ 9223372036854775807 by omega, Nat.sub_zero, Nat.min_eq_left, Int.toNat_natCast, Int.natCast_nonneg, List.take_length]
  repeat' (first | (with_reducible refine hK _ ?_; clear hK K) | with_reducible apply And.intro)
  have e2 : List.take (b.length - piece.length) (List.drop piece.length b) = b.drop piece.length := List.take_of_length_le (by simp)
  rw [e2, bytes_app]
  refine awp_ret ?_
  exact ret_tmp_le (.inr rfl) rfl rfl rfl (fun _ _ => rfl) (.sh _ _ _) rfl
theorem c_pieces (d : Dsk) (fid : FuncId) (caps : List AV) : ACall Try.prog 92 [dskA d, .fn (.func fid) caps] [] (.fn (.func 106) [.ref (dskC d), .ref [.fn (.func fid) caps]]) [] := by
  refine acall_of 2 Try.func92 rfl fun n out _ _ => ?_
  simp only [Try.ntmps92, List.length_cons, List.length_nil, List.length_map, List.length_replicate, rep_map, Nat.reduceAdd, Nat.reduceSub, List.replicate, List.cons_append, List.nil_append]
  refine awp_seq_k fun K hK => awp_ev tab_ok [] ?_
  simp (maxSteps := 4000000) only [su, evLit, hbT, tab, thenA, blockA, reduceCtorEq, reduceIte, Nat.reduceEqDiff, Nat.reduceBEq, Int.reduceLE, Int.reduceToNat, Nat.reduceAdd, Nat.reduceLT, Nat.reduceLeDiff, dskA, dskC]
  repeat' (first | (with_reducible refine hK _ ?_; clear hK K) | with_reducible apply And.intro)
  refine awp_le (le_freeze (i := 0) 1 (e := 25) (cs := dskC d) rfl (by simp)) ?_
  simp only [List.map_cons, List.map_nil, AV.frz, mo_t, mo_f, Nat.add_left_cancel_iff, reduceIte, Nat.reduceEqDiff, s_0, s_s, List.drop_zero]
  refine awp_le (le_freeze (i := 1) 1 (e := 91) (cs := [.fn (.func fid) caps]) rfl (by simp)) ?_
  simp only [List.map_cons, List.map_nil, AV.frz, mo_t, mo_f, Nat.add_left_cancel_iff, reduceIte, Nat.reduceEqDiff, s_0, s_s, List.drop_zero]
  refine awp_seq_k fun K hK => awp_ev tab_ok [] ?_
  simp (maxSteps := 4000000) only [su, evLit, hbT, tab, thenA, blockA, reduceCtorEq, reduceIte, Nat.reduceEqDiff, Nat.reduceBEq, Int.reduceLE, Int.reduceToNat, Nat.reduceAdd, Nat.reduceLT, Nat.reduceLeDiff]
  repeat' (first | (with_reducible refine hK _ ?_; clear hK K) | with_reducible apply And.intro)
  refine awp_ret ?_
  exact ret_tmp (.inr rfl) rfl rfl rfl (fun _ _ => rfl) rfl
theorem c_pieces1 (l kl kh : Nat) (hne : kl ≠ kh) (P0 : Res) (hP : P0 ≠ .dead) (B : Nat → Res) (hB : ∀ i, B i ≠ .dead) (d : Dsk) (hw : d.waits.length ≤ 1000) (fid : FuncId) (caps : List AV) (kp : Nat → Nat) (hb : hasBody Try.prog fid = True)
    (hk : ∀ i (hi : i < d.waits.length), kp i ≤ (d.waits[i]).data.length ∧ ACall Try.prog fid (i64 (i : Int) :: caps) [] (i64 ((kp i : Nat) : Int)) [])
    (hy : ∀ i (hi : i < d.waits.length), AYld Try.prog l [i64 (d.waits[i]).at', bs ((d.waits[i]).data.take (kp i))] [(kl, some P0), (kh, some (B i))] (.val (.bool true)) [(kh, B (i + 1))]) :
    ACall Try.prog 106 [.fn (.yield l) [], .ref (dskC d), .ref [.fn (.func fid) caps]] [(kl, some P0), (kh, some (B 0))] (.tup []) [(kh, B d.waits.length)] := by
  refine acall_of' 1 Try.func106 rfl fun n out _ _ _ => ?_
  simp only [Try.ntmps106, List.length_cons, List.length_nil, List.length_map, List.length_replicate, rep_map, Nat.reduceAdd, Nat.reduceSub, List.replicate, List.cons_append, List.nil_append]
  rename_i hneeds hg hz
  obtain ⟨hkl, hkh, _⟩ := hneeds
  obtain ⟨hkn, _⟩ := hg
  have hkln : kl < n := by
    rcases Nat.lt_or_ge kl n with h | h
    · exact h
    · rw [hz kl h] at hkl; cases hkl
  refine awp_seq_k fun K hK => awp_ev tab_ok [] ?_
  simp (maxSteps := 4000000) only [su, evLit, hbT, tab, thenA, blockA, reduceCtorEq, reduceIte, Nat.reduceEqDiff, Nat.reduceBEq, Int.reduceLE, Int.reduceToNat, Nat.reduceAdd, Nat.reduceLT, Nat.reduceLeDiff, dskC, List.length_map]
  repeat' (first | (with_reducible refine hK _ ?_; clear hK K) | with_reducible apply And.intro)
  refine awp_block ?_
  refine awp_for_mv (fun m (i : Nat) => [(9, i64 (i : Int)), (4, .top), (5, .top), (10, .top), (11, .top), (12, .top), (13, .top), (14, .top), (15, .top), (16, .top), (17, .top), (18, .top), (19, .top), (20, .top), (21, .top), (22, .top), (23, .top), (24, .top), (25, .top)]) (fun m i => [none]) (fun i => upd1 out kh (B i)) (fun i => i ≤ d.waits.length) (fun i => d.waits.length - i) 0 (Nat.zero_le _) ?_ fun m i hm hi => ?_
  · refine le_of_all ?_ ?_ (by first | rfl | (simp only [upd1_self hkh]; rfl) | simp only [upd1_self hkh]) rfl rfl rfl <;> simp only [patch, sl, upd1_self hkh]
  simp only [patch, s_0, s_s]
  refine awp_seq_k fun K hK => awp_ev tab_ok [] ?_
  simp (maxSteps := 4000000) only [su, evLit, hbT, tab, thenA, blockA, reduceCtorEq, reduceIte, Nat.reduceEqDiff, Nat.reduceBEq, Int.reduceLE, Int.reduceToNat, Nat.reduceAdd, Nat.reduceLT, Nat.reduceLeDiff, upd1_self hkh]
  repeat' (first | (with_reducible refine hK _ ?_; clear hK K) | with_reducible apply And.intro)
  refine awp_seq_k fun KC hKC => ?_
  refine awp_if rfl (fun ht => awp_skip (hKC _ ?_)) (fun hf => awp_exit (id ?_))
  rotate_left
  · simp only [thenA, blockA, if_true]
    have h_ib : i = d.waits.length := by have := of_decide_eq_false hf; omega
    subst h_ib
    exact ret_unit (.inl rfl) rfl rfl rfl (fun _ _ => rfl)
  clear hKC KC
  have hlt : i < d.waits.length := by have := of_decide_eq_true ht; omega
  refine awp_seq_k fun KC hKC => awp_block ?_
  refine awp_seq_k fun K hK => awp_ev tab_ok [] ?_
  simp (maxSteps := 4000000) only [su, evLit, hbT, tab, thenA, blockA, reduceCtorEq, reduceIte, Nat.reduceEqDiff, Nat.reduceBEq, Int.reduceLE, Int.reduceToNat, Nat.reduceAdd, Nat.reduceLT, Nat.reduceLeDiff, locM hm, hlt, List.length_map, getD_map wrC d.waits i [] hlt, wrC]
  repeat' (first | (with_reducible refine hK _ ?_; clear hK K) | with_reducible apply And.intro)
  obtain ⟨hk1, hk2⟩ := hk i hlt
  refine awp_seq_k fun K hK => awp_ev_tail tab_ok [] 9 [2, 4, 5] follows (by kernel_rfl) (by kernel_rfl) ?_
  simp (maxSteps := 4000000) only [su, evLit, hbT, tab, thenA, blockA, reduceCtorEq, reduceIte, Nat.reduceEqDiff, Nat.reduceBEq, Int.reduceLE, Int.reduceToNat, Nat.reduceAdd, Nat.reduceLT, Nat.reduceLeDiff, locM hm, hb, bytes_length]
  repeat' (first | (with_reducible refine hK _ ?_; clear hK K) | with_reducible apply And.intro)
  refine call_pure hk2 ?_
  simp (maxSteps := 4000000) only [su, evLit, hbT, tab, thenA, blockA, reduceCtorEq, reduceIte, Nat.reduceEqDiff, Nat.reduceBEq, Int.reduceLE, Int.reduceToNat, Nat.reduceAdd, Nat.reduceLT, Nat.reduceLeDiff, locM hm, loOf, hiOf, bytes_length, Nat.zero_le, hk1, bytes_take, Nat.sub_zero, Int.toNat_natCast, Int.natCast_nonneg, Nat.beq_refl, contT_t]
  refine yld_of (hy i hlt) ⟨?_, ?_, trivial⟩ ⟨?_, trivial⟩ ?_ ?_
  · rw [lk_out hkln, upd1_ne _ _ hne]; exact hkl
  · rw [lk_out hkn]; exact upd1_same _ _ _
  · rw [dm_out hkn]; trivial
  · intro x hx
    simp only [List.mem_cons, List.not_mem_nil, or_false] at hx
    rcases hx with rfl | rfl
    · exact ⟨by rw [dm_out hkln]; trivial, by simpa using hP⟩
    · exact ⟨by rw [dm_out hkn]; trivial, by simpa using hB i⟩
  simp (maxSteps := 4000000) only [su, evLit, hbT, tab, thenA, blockA, reduceCtorEq, reduceIte, Nat.reduceEqDiff, Nat.reduceBEq, Int.reduceLE, Int.reduceToNat, Nat.reduceAdd, Nat.reduceLT, Nat.reduceLeDiff, locM hm, nx_out0 hkn, upd1_upd1, Bool.not_true]
  repeat' (first | (with_reducible refine hK _ ?_; clear hK K) | with_reducible apply And.intro)
  refine awp_cond_f rfl (awp_skip ?_)
  simp only [thenA, blockA]
  repeat refine And.intro (by omega) ?_
  refine hKC _ ?_
  clear hKC KC
  refine awp_ev tab_ok [] ?_
  simp (maxSteps := 4000000) only [su, evLit, hbT, tab, thenA, blockA, reduceCtorEq, reduceIte, Nat.reduceEqDiff, Nat.reduceBEq, Int.reduceLE, Int.reduceToNat, Nat.reduceAdd, Nat.reduceLT, Nat.reduceLeDiff, locM hm, addw (n := i) 1 1 rfl (by omega)]
  refine ⟨i + 1, by omega, by omega, ?_⟩
  refine le_move [false] (fun n_ => ?_) (fun n_ => ?_) <;> simp only [patch, sm]
theorem flat_sec (l : List (List UInt8)) : l.flatMap secC = l.map bs := by
  induction l with
  | nil => rfl
  | cons x l ih => rw [List.flatMap_cons, ih]; rfl
theorem chunk_sec (l : List (List UInt8)) : chunk 1 l.length (l.map bs) = l.map secC := by
  induction l with
  | nil => rfl
  | cons x l ih => simp only [List.length_cons, List.map_cons, chunk, List.take_succ_cons, List.take_zero, List.drop_succ_cons, List.drop_zero, ih]; rfl
def lay (s : List (List UInt8)) (w : Wr) (m : Nat) : List (List UInt8) := s.set w.at'.toNat (laid (s.getD w.at'.toNat []) (w.data.take m))
def comesS (kp : Nat → Nat) (d : Dsk) : Nat → List (List UInt8)
  | 0 => d.sectors
  | i + 1 => if h : i < d.waits.length then lay (comesS kp d i) d.waits[i] (kp i) else comesS kp d i
theorem comesS_len (kp : Nat → Nat) (d : Dsk) : ∀ i, (comesS kp d i).length = d.sectors.length
  | 0 => rfl
  | i + 1 => by
    rw [comesS]
    split
    · rw [lay, List.length_set]; exact comesS_len kp d i
    · exact comesS_len kp d i
theorem comesS_rows {kp : Nat → Nat} {d : Dsk} (hd : may d = true) (hk : ∀ i, i < d.waits.length → kp i ≤ 128) : ∀ i, ∀ b, b ∈ comesS kp d i → b.length = 128
  | 0 => ((may_iff d).1 hd).2.2.1
  | i + 1 => by
    intro b hb
    rw [comesS] at hb
    split at hb
    · rename_i h
      have hw := ((may_iff d).1 hd).2.2.2 _ (List.getElem_mem h)
      rw [lay] at hb
      rcases List.mem_or_eq_of_mem_set hb with hb | hb
      · exact comesS_rows hd hk i b hb
      · have hl := comesS_len kp d i
        have h32 := ((may_iff d).1 hd).1
        have hlt : (d.waits[i]).at'.toNat < (comesS kp d i).length := by omega
        have hg : (comesS kp d i).getD (d.waits[i]).at'.toNat [] = (comesS kp d i)[(d.waits[i]).at'.toNat] := by simp [List.getD_eq_getElem?_getD, hlt]
        have h1 := comesS_rows hd hk i _ (List.getElem_mem hlt)
        have := hk i h
        rw [hb, hg, laid, List.length_append, List.length_drop, List.length_take, h1]; omega
    · exact comesS_rows hd hk i b hb
def comes (kp : Nat → Nat) (d : Dsk) : Dsk := ⟨comesS kp d d.waits.length, []⟩
theorem c_comes (d : Dsk) (fid : FuncId) (caps : List AV) (kp : Nat → Nat) (hd : may d = true) (hb : hasBody Try.prog fid = True)
    (hk : ∀ i, i < d.waits.length → kp i ≤ 128 ∧ ACall Try.prog fid (i64 (i : Int) :: caps) [] (i64 ((kp i : Nat) : Int)) []) :
    ACall Try.prog 57 [dskA d, .fn (.func fid) caps] [] (dskA (comes kp d)) [] := by
  obtain ⟨hd1, hd2, hd3, hd4⟩ := (may_iff d).1 hd
  refine acall_of_range 7 Try.func57 rfl fun n out _ _ => ?_
  simp only [Try.ntmps57, List.length_cons, List.length_nil, List.length_map, List.length_replicate, rep_map, Nat.reduceAdd, Nat.reduceSub, List.replicate, List.cons_append, List.nil_append]
  refine awp0_seq_k fun K hK => AWp.zero (awp_ev tab_ok [] ?_)
  simp (maxSteps := 4000000) only [su, evLit, hbT, tab, thenA, blockA, reduceCtorEq, reduceIte, Nat.reduceEqDiff, Nat.reduceBEq, Int.reduceLE, Int.reduceToNat, Nat.reduceAdd, Nat.reduceLT, Nat.reduceLeDiff, dskA, dskC]
  repeat' (first | (with_reducible refine hK _ ?_; clear hK K) | with_reducible apply And.intro)
  refine awp0_seq_k fun K hK => AWp.zero (awp_ev tab_ok [] ?_)
  simp (maxSteps := 4000000) only [su, evLit, hbT, tab, thenA, blockA, reduceCtorEq, reduceIte, Nat.reduceEqDiff, Nat.reduceBEq, Int.reduceLE, Int.reduceToNat, Nat.reduceAdd, Nat.reduceLT, Nat.reduceLeDiff]
  repeat' (first | (with_reducible refine hK _ ?_; clear hK K) | with_reducible apply And.intro)
  refine call_one (c_eachB_b (n + 2) d.sectors _ [] bs secC (hb0 _ (by decide) (by decide)) (by omega) (by omega) (fun _ => rfl) (fun _ => rfl) fun l hl => c_clone l (by have := hd3 l hl; omega)) (look_loc _ (Nat.le_refl _) 2) (dom_loc _ (by simp)) (by simp) ?_
  simp (maxSteps := 4000000) only [su, evLit, hbT, tab, thenA, blockA, reduceCtorEq, reduceIte, Nat.reduceEqDiff, Nat.reduceBEq, Int.reduceLE, Int.reduceToNat, Nat.reduceAdd, Nat.reduceLT, Nat.reduceLeDiff]
  repeat' (first | (with_reducible refine hK _ ?_; clear hK K) | with_reducible apply And.intro)
  refine awp0_le (le_freezeAt (i := 3) (t := 5) (e := 22) (cs := [.bsl (n + 2) 0 d.sectors.length false]) 1 (.ref [.bsl (n + 2) 0 d.sectors.length false]) rfl rfl (Fz.ptr 0)) ?_
  simp only [s_0, s_s]
  refine awp0_seq_k fun KB hKB => ?_
  refine awp0_seq_k fun K hK => AWp.zero (awp_ev tab_ok [] ?_)
  simp (maxSteps := 4000000) only [su, evLit, hbT, tab, thenA, blockA, reduceCtorEq, reduceIte, Nat.reduceEqDiff, Nat.reduceBEq, Int.reduceLE, Int.reduceToNat, Nat.reduceAdd, Nat.reduceLT, Nat.reduceLeDiff]
  repeat' (first | (with_reducible refine hK _ ?_; clear hK K) | with_reducible apply And.intro)
  refine call_pure (c_pieces d fid caps) ?_
  simp (maxSteps := 4000000) only [su, evLit, hbT, tab, thenA, blockA, reduceCtorEq, reduceIte, Nat.reduceEqDiff, Nat.reduceBEq, Int.reduceLE, Int.reduceToNat, Nat.reduceAdd, Nat.reduceLT, Nat.reduceLeDiff]
  repeat' (first | (with_reducible refine hK _ ?_; clear hK K) | with_reducible apply And.intro)
  rw [flat_sec]
  refine awp0_block (awp0_range (r := .tup []) (gf := 106) (caps := [.ref (dskC d), .ref [.fn (.func fid) caps]]) 4 5 Try.func106 (by kernel_rfl) (by kernel_rfl) rfl (by decide) rfl rfl ?_)
  intro D lp rec F hF h1 h2 h3 h4 h5
  refine ⟨_, _, c_pieces1 lp (n + 5) (n + 2) (by omega) (.pin lp (.loop rec) F) (by simp) (fun i => .box 37 ((comesS kp d i).map bs)) (by simp) d (by omega) fid caps kp hb (fun i hi => ?_) (fun i hi => ayld_of_body (fr := F) (fr1 := (((F.set 14 (i64 (d.waits[i]).at')).set 15 (bs ((d.waits[i]).data.take (kp i)))).set 6 (i64 (d.waits[i]).at')).set 7 (bs ((d.waits[i]).data.take (kp i)))) (ps := [14, 15]) 0 h1 h2 h3 h4 h5 rfl (by simp) (by simp) ?_ ?_), ?_, ?_, ?_, ?_, ?_⟩
  · have hw := hd4 _ (List.getElem_mem hi)
    exact ⟨by have := (hk i hi).1; omega, (hk i hi).2⟩
  · intro n' out'
    subst hF
    simp only [List.zip_cons_cons, List.zip_nil_left, List.zip_nil_right, setAll, s_0, s_s]
    refine awp_seq_k fun K hK => awp_ev tab_ok [] ?_
    simp (maxSteps := 4000000) only [su, evLit, hbT, tab, thenA, blockA, reduceCtorEq, reduceIte, Nat.reduceEqDiff, Nat.reduceBEq, Int.reduceLE, Int.reduceToNat, Nat.reduceAdd, Nat.reduceLT, Nat.reduceLeDiff]
    repeat' (first | (with_reducible refine hK _ ?_; clear hK K) | with_reducible apply And.intro)
    refine awp_ev tab_ok [] ?_
    simp (maxSteps := 4000000) only [su, evLit, hbT, tab, thenA, blockA, reduceCtorEq, reduceIte, Nat.reduceEqDiff, Nat.reduceBEq, Int.reduceLE, Int.reduceToNat, Nat.reduceAdd, Nat.reduceLT, Nat.reduceLeDiff]
  · intro n' out' hh hg
    obtain ⟨hkk, _⟩ := hh
    obtain ⟨hkn, _⟩ := hg
    obtain ⟨w1, w2, w3⟩ := hd4 _ (List.getElem_mem hi)
    have hsl := comesS_len kp d i
    have hrow := comesS_rows hd (fun i hi => (hk i hi).1) i
    obtain ⟨z, hz⟩ : ∃ z : Nat, (d.waits[i]).at' = (z : Int) := ⟨(d.waits[i]).at'.toNat, by omega⟩
    have hz32 : z < 32 := by omega
    have hz3 : (z : Int) < (d.sectors.length : Int) := by omega
    have hzl : z < (comesS kp d i).length := by omega
    have hg1 : (comesS kp d i).getD z [] = (comesS kp d i)[z] := by simp [List.getD_eq_getElem?_getD, hzl]
    have hrl : ((comesS kp d i).getD z []).length = 128 := by rw [hg1]; exact hrow _ (List.getElem_mem hzl)
    have hkp := (hk i hi).1
    refine awp_block ?_
    subst hF
    simp only [List.replicate, s_0, s_s]
    refine awp_ev_tail tab_ok [] 9 [0, 2, 5] follows (by kernel_rfl) (by kernel_rfl) ?_
    simp (maxSteps := 4000000) only [su, evLit, hbT, tab, thenA, blockA, reduceCtorEq, reduceIte, Nat.reduceEqDiff, Nat.reduceBEq, Int.reduceLE, Int.reduceToNat, Nat.reduceAdd, Nat.reduceLT, Nat.reduceLeDiff, lk_out hkn, dm_out hkn, hkk, hz, hz3, pick_map 1 bs (comesS kp d i) z [] hzl]
    refine call_pure (c_laid _ _ .sh (by rw [hrl, List.length_take]; omega) (by omega)) ?_
    have hst : splice ((comesS kp d i).map bs) z [bs (laid ((comesS kp d i).getD z []) ((d.waits[i]).data.take (kp i)))] = (comesS kp d (i + 1)).map bs := by
      rw [splice_map bs _ _ _ hzl, comesS, dif_pos hi, lay, hz]; rfl
    have hml : ((comesS kp d i).map bs).length = (comesS kp d i).length := by simp
    simp (maxSteps := 4000000) only [su, evLit, hbT, tab, thenA, blockA, reduceCtorEq, reduceIte, Nat.reduceEqDiff, Nat.reduceBEq, Int.reduceLE, Int.reduceToNat, Nat.reduceAdd, Nat.reduceLT, Nat.reduceLeDiff, lk_out hkn, dm_out hkn, nx_out1 hkn, hkk, hz3, List.length_map, show z + 1 ≤ (comesS kp d i).length by omega, hst]
    exact fun _ _ => rfl
  · subst hF
    simp only [holds, s_0, s_s, lk_loc, List.getElem?_cons_zero, List.getElem?_cons_succ, Option.join_some, and_true, true_and]
    rfl
  · exact ⟨dom_loc _ (by simp), trivial⟩
  · intro x hx
    simp only [List.mem_cons, List.not_mem_nil, or_false] at hx
    rcases hx with rfl | rfl
    · exact dom_loc _ (by simp)
    · exact dom_loc _ (by simp)
  · intro x hx
    simp only [List.mem_cons, List.not_mem_nil, or_false] at hx
    subst hx
    show n + 2 ≠ n + 5
    omega
  simp only [thenA, blockA, s_0, s_s, gv_loc]
  refine hKB _ ?_
  clear hKB KB
  refine AWp.zero ?_
  have hcl : ((comesS kp d d.waits.length).map bs).length = d.sectors.length := by rw [List.length_map, comesS_len]
  refine awp_le (le_freezeAt (i := 2) (t := 5) (e := 37) (cs := (comesS kp d d.waits.length).map bs) 1 (.ref [.sl 1 ((comesS kp d d.waits.length).map secC) .sh]) rfl rfl (Fz.ref _ _ rfl fun i c c' hc hc' => ?_)) ?_
  · match i with
    | 0 =>
      simp only [List.getElem?_cons_zero, Option.some.injEq] at hc hc'
      subst hc; subst hc'
      have := Fz.bsl (k := n + 2) (sz := 1) (cs := (comesS kp d d.waits.length).map bs) 0 d.sectors.length false ⟨by omega, by omega⟩
      rw [List.drop_zero, ← comesS_len kp d d.waits.length, chunk_sec] at this
      rw [← comesS_len kp d d.waits.length]; exact this
    | i + 1 => simp at hc
  simp only [s_0, s_s]
  refine awp_seq_k fun K hK => awp_ev tab_ok [] ?_
  simp (maxSteps := 4000000) only [su, evLit, hbT, tab, thenA, blockA, reduceCtorEq, reduceIte, Nat.reduceEqDiff, Nat.reduceBEq, Int.reduceLE, Int.reduceToNat, Nat.reduceAdd, Nat.reduceLT, Nat.reduceLeDiff]
  repeat' (first | (with_reducible refine hK _ ?_; clear hK K) | with_reducible apply And.intro)
  refine call_one (c_each_b (n + 6) (comesS kp d d.waits.length) _ [] bs secC (hb0 _ (by decide) (by decide)) (by rw [comesS_len]; omega) (fun _ => rfl) (fun _ => rfl) fun l hl => c_clone l (by rw [comesS_rows hd (fun i hi => (hk i hi).1) _ l hl]; omega)) (look_loc _ (Nat.le_refl _) 6) (dom_loc _ (by simp)) (by simp) ?_
  simp (maxSteps := 4000000) only [su, evLit, hbT, tab, thenA, blockA, reduceCtorEq, reduceIte, Nat.reduceEqDiff, Nat.reduceBEq, Int.reduceLE, Int.reduceToNat, Nat.reduceAdd, Nat.reduceLT, Nat.reduceLeDiff]
  repeat' (first | (with_reducible refine hK _ ?_; clear hK K) | with_reducible apply And.intro)
  refine awp_ret ?_
  exact ⟨4, D, rfl, rfl, ret_cell_le (.inr rfl) rfl rfl rfl (fun _ _ => rfl) ok25 (k := n + 1) (off := 0) rfl (dom_loc _ (by simp)) (look_loc _ (Nat.le_refl _) 1) rfl (by simp only [dskA, dskC, comes, List.map_nil, patch, sl])⟩
end Go.Proofs.Ytefkjdkalgemeaa
