/- The layer of abstract values, joined: HB. -/
import Derived.Test.YtgdhnngpfieloaaZGA
import Derived.Test.YtgdhnngpfieloaaZHA
section
namespace Go.Proofs.Ytgdhnngpfieloaa.Hm
set_option linter.unusedVariables false
set_option linter.unusedSimpArgs false
open Go Go.VS Tab
set_option maxHeartbeats 1000000
theorem c_put (k : Nat) (l : List UInt8) (x : BitVec 64) (m : Nat) (hl : l.length ≤ 100000000) (hm : 1 ≤ m) (hm8 : m ≤ 8) :
    ACall Try.prog 94 [.sl 1 (bytesAV l) (.own k), w64 x, i64 (m : Int)] [(k, some (.row 5 1 l.length))] (.sl 1 (bytesAV (l ++ be x m)) (.own k)) [(k, .row 5 1 (l.length + m))] := by
  refine acall_of 0 Try.func94 rfl fun n out _ _ => ?_
  simp only [Try.ntmps94, List.length_cons, List.length_nil, List.length_map, List.length_replicate, rep_map, Nat.reduceAdd, Nat.reduceSub, List.replicate, List.cons_append, List.nil_append]
  rename_i hneeds hg
  obtain ⟨hk, _⟩ := hneeds
  obtain ⟨hkn, _⟩ := hg
  refine awp_seq_k fun K hK => awp_ev tab_ok [] ?_
  simp (maxSteps:=9^7) only [ss, evLit, tab, reduceCtorEq, reduceIte, Nat.reduceEqDiff, Nat.reduceBEq, Int.reduceLE, Int.reduceToNat, Nat.reduceAdd, Nat.reduceLT, Nat.reduceLeDiff]
  repeat' (first | (with_reducible refine hK _ ?_; clear hK K) | with_reducible apply And.intro)
  refine awp_seq_k fun KB hKB => ?_
  refine awp_seq_k fun K hK => awp_ev tab_ok [] ?_
  simp (maxSteps:=9^7) only [ss, evLit, tab, reduceCtorEq, reduceIte, Nat.reduceEqDiff, Nat.reduceBEq, Int.reduceLE, Int.reduceToNat, Nat.reduceAdd, Nat.reduceLT, Nat.reduceLeDiff]
  repeat' (first | (with_reducible refine hK _ ?_; clear hK K) | with_reducible apply And.intro)
  refine awp_block ?_
  refine awp_for_all (fun c : Nat => [(0, .sl 1 (bytesAV (l ++ (be x m).take c)) (.own k)), (7, i64 ((m : Int) - 1 - c)), (10, .top), (11, .top), (12, .top), (13, .top), (14, .top), (15, .top), (16, .top), (17, .top), (18, .top), (19, .top), (20, .top), (21, .top)]) (fun _ => []) (fun c => upd1 out k (.row 5 1 (l.length + c))) (fun c => c ≤ m) (fun c => m - c) 0 (by omega) ?_ rfl (upd1_self hk) fun c hc => ?_
  · have e : IntKind.i64.wrap ((m : Int) - 1) = (m : Int) - 1 - (0 : Nat) := by rw [wrap_i64] <;> omega
    simp only [patch, s_0, s_s, leL_cons, leL_nil, le_refl_iff, le_top_iff, le_nil_iff, le_sh_iff, true_and, and_true, List.take_zero, List.append_nil, e]
  simp only [patch, s_0, s_s]
  refine awp_seq_k fun KC hKC => ?_
  refine awp_seq_k fun K hK => awp_ev tab_ok [] ?_
  simp (maxSteps:=9^7) only [ss, evLit, tab, reduceCtorEq, reduceIte, Nat.reduceEqDiff, Nat.reduceBEq, Int.reduceLE, Int.reduceToNat, Nat.reduceAdd, Nat.reduceLT, Nat.reduceLeDiff]
  repeat' (first | (with_reducible refine hK _ ?_; clear hK K) | with_reducible apply And.intro)
  refine awp_if rfl (fun ht => awp_skip (hKC _ ?_)) (fun hf => awp_exit (id ?_))
  rotate_left
  · simp only [thenA, blockA, if_true]
    refine hKB _ ?_
    clear hKB KB hKC KC
    have hcm : c = m := by have := of_decide_eq_false hf; omega
    subst hcm
    refine awp_seq_k fun K hK => awp_ev tab_ok [] ?_
    simp (maxSteps:=9^7) only [ss, evLit, tab, reduceCtorEq, reduceIte, Nat.reduceEqDiff, Nat.reduceBEq, Int.reduceLE, Int.reduceToNat, Nat.reduceAdd, Nat.reduceLT, Nat.reduceLeDiff]
    repeat' (first | (with_reducible refine hK _ ?_; clear hK K) | with_reducible apply And.intro)
    refine awp_ret ?_
    have e2 : (be x c).take c = be x c := List.take_of_length_le (by rw [be_length]; omega)
    rw [e2]
    exact ret_tmp (.inr rfl) rfl rfl rfl (fun _ _ => rfl) rfl
  clear hKC KC
  refine awp_seq_k fun KC hKC => awp_block ?_
  have hc2 : c < m := by have := of_decide_eq_true ht; omega
  have e1 : IntKind.i64.wrap (8 * ((m : Int) - 1 - c)) = ((8 * (m - 1 - c) : Nat) : Int) := by rw [wrap_i64] <;> omega
  have e2 : ((l ++ (be x m).take c).length) = l.length + c := by simp [be_length]; omega
  have e3 : l.length + c + 1 ≤ 140737488355328 := by omega
  have e4 : l.length + c + 1 ≤ 9223372036854775807 := by omega
  refine awp_ev tab_ok [] ?_
  simp (maxSteps:=9^7) only [ss, evLit, tab, reduceCtorEq, reduceIte, Nat.reduceEqDiff, Nat.reduceBEq, Int.reduceLE, Int.reduceToNat, Nat.reduceAdd, Nat.reduceLT, Nat.reduceLeDiff, e1, w64_shr x (b := ((8 * (m - 1 - c) : Nat) : Int)) (by omega), conv64_8, lk_out hkn, dm_out hkn, nx_out0 hkn, upd1_same, upd1_upd1, bytes_length, e2, e3, e4, bytes_snoc]
  refine hKC _ ?_
  clear hKC KC
  refine awp_ev tab_ok [] ?_
  simp (maxSteps:=9^7) only [ss, evLit, tab, reduceCtorEq, reduceIte, Nat.reduceEqDiff, Nat.reduceBEq, Int.reduceLE, Int.reduceToNat, Nat.reduceAdd, Nat.reduceLT, Nat.reduceLeDiff]
  refine ⟨c + 1, by omega, by omega, ?_⟩
  have e5 : IntKind.i64.wrap ((m : Int) - 1 - c - 1) = (m : Int) - 1 - ((c + 1 : Nat) : Int) := by rw [wrap_i64] <;> omega
  rw [e5, List.append_assoc, ← be_take x m c hc2]
  refine le_of_all ?_ ?_ rfl rfl rfl rfl <;> simp only [patch, sl]
theorem c_clone (k : Nat) (l : List UInt8) (hl : l.length ≤ 100000000) :
    ACall Try.prog 114 [.sl 1 (bytesAV l) .sh] [(k, none)] (.sl 1 (bytesAV l) (.own k)) [(k, .row 5 1 l.length)] := by
  refine acall_split (fun h => ?_) ?_
  · have h0 : l = [] := by simpa [bytesAV] using h
    subst h0
    rw [bytes_nil]
    refine acall_of 0 Try.func114 rfl fun n out _ _ => ?_
    simp only [Try.ntmps114, List.length_cons, List.length_nil, List.length_map, List.length_replicate, rep_map, Nat.reduceAdd, Nat.reduceSub, List.replicate, List.cons_append, List.nil_append]
    rename_i hneeds hg
    obtain ⟨hk, _⟩ := hneeds
    obtain ⟨hkn, _⟩ := hg
    refine awp_seq_k fun K hK => awp_ev tab_ok [] ?_
    simp (maxSteps:=9^7) only [ss, evLit, tab, reduceCtorEq, reduceIte, Nat.reduceEqDiff, Nat.reduceBEq, Int.reduceLE, Int.reduceToNat, Nat.reduceAdd, Nat.reduceLT, Nat.reduceLeDiff]
    repeat' (first | (with_reducible refine hK _ ?_; clear hK K) | with_reducible apply And.intro)
    refine awp_seq_k fun KB hKB => ?_
    refine awp_seq_k fun K hK => awp_ev tab_ok [] ?_
    simp (maxSteps:=9^7) only [ss, evLit, tab, reduceCtorEq, reduceIte, Nat.reduceEqDiff, Nat.reduceBEq, Int.reduceLE, Int.reduceToNat, Nat.reduceAdd, Nat.reduceLT, Nat.reduceLeDiff]
    repeat' (first | (with_reducible refine hK _ ?_; clear hK K) | with_reducible apply And.intro)
    refine awp_cond_t rfl ?_
    refine awp_le (le_rowN (k := k) 5 1 (by rw [dm_out hkn]; trivial) (by rw [lk_out hkn]; exact hk)) ?_
    rw [gv_out hkn]
    refine awp_seq_k fun K hK => awp_ev tab_ok [] ?_
    simp (maxSteps:=9^7) only [ss, evLit, tab, reduceCtorEq, reduceIte, Nat.reduceEqDiff, Nat.reduceBEq, Int.reduceLE, Int.reduceToNat, Nat.reduceAdd, Nat.reduceLT, Nat.reduceLeDiff]
    repeat' (first | (with_reducible refine hK _ ?_; clear hK K) | with_reducible apply And.intro)
    refine awp_ret ?_
    exact ret_tmp_le (.inr rfl) rfl rfl rfl (fun _ _ => rfl) ((le_nilo_iff _ _ _).2 trivial) rfl
  · refine acall_of 0 Try.func114 rfl fun n out _ _ => ?_
    simp only [Try.ntmps114, List.length_cons, List.length_nil, List.length_map, List.length_replicate, rep_map, Nat.reduceAdd, Nat.reduceSub, List.replicate, List.cons_append, List.nil_append]
    rename_i hneeds hg
    obtain ⟨hk, _⟩ := hneeds
    obtain ⟨hkn, _⟩ := hg
    refine awp_seq_k fun K hK => awp_ev tab_ok [] ?_
    simp (maxSteps:=9^7) only [ss, evLit, tab, reduceCtorEq, reduceIte, Nat.reduceEqDiff, Nat.reduceBEq, Int.reduceLE, Int.reduceToNat, Nat.reduceAdd, Nat.reduceLT, Nat.reduceLeDiff]
    repeat' (first | (with_reducible refine hK _ ?_; clear hK K) | with_reducible apply And.intro)
    refine awp_seq_k fun KB hKB => ?_
    refine awp_seq_k fun K hK => awp_ev tab_ok [] ?_
    simp (maxSteps:=9^7) only [ss, evLit, tab, reduceCtorEq, reduceIte, Nat.reduceEqDiff, Nat.reduceBEq, Int.reduceLE, Int.reduceToNat, Nat.reduceAdd, Nat.reduceLT, Nat.reduceLeDiff]
    repeat' (first | (with_reducible refine hK _ ?_; clear hK K) | with_reducible apply And.intro)
    refine awp_cond_f rfl (awp_skip (hKB _ ?_))
    clear hKB KB
    by_cases hl0 : l = []
    · subst hl0
      refine awp_seq_k fun K hK => awp_ev tab_ok [] ?_
      simp (maxSteps:=9^7) only [ss, evLit, tab, reduceCtorEq, reduceIte, Nat.reduceEqDiff, Nat.reduceBEq, Int.reduceLE, Int.reduceToNat, Nat.reduceAdd, Nat.reduceLT, Nat.reduceLeDiff, bytes_nil]
      repeat' (first | (with_reducible refine hK _ ?_; clear hK K) | with_reducible apply And.intro)
      refine awp_le (le_rowN (k := k) 5 1 (by rw [dm_out hkn]; trivial) (by rw [lk_out hkn]; exact hk)) ?_
      rw [gv_out hkn]
      refine awp_le (le_own0N (k := k) (t := 2) (sz := 1) (e := 5) (md := .full) (by rw [dm_out hkn]; trivial) (by rw [lk_out hkn]; exact upd1_same _ _ _) rfl (.inr rfl)) ?_
      refine awp_ret ?_
      exact ret_tmp (.inr rfl) rfl rfl rfl (fun _ _ => rfl) rfl
    · have hne : bytesAV l ≠ [] := by intro h; exact hl0 (by simpa [bytesAV] using h)
      have e3 : l.length ≤ 140737488355328 := by omega
      have e4 : l.length ≤ 9223372036854775807 := by omega
      refine awp_seq_k fun K hK => awp_ev tab_ok [(7, some k)] ?_
      simp (maxSteps:=9^7) only [ss, evLit, tab, reduceCtorEq, reduceIte, Nat.reduceEqDiff, Nat.reduceBEq, Int.reduceLE, Int.reduceToNat, Nat.reduceAdd, Nat.reduceLT, Nat.reduceLeDiff, bytes_length, e3, e4, hne, ne_eq, not_false_eq_true, lk_out hkn, dm_out hkn, nx_out0 hkn, hk]
      repeat' (first | (with_reducible refine hK _ ?_; clear hK K) | with_reducible apply And.intro)
      refine awp_ret ?_
      exact ret_tmp (.inr rfl) rfl rfl rfl (fun _ _ => rfl) rfl
def pad (n : Nat) : Nat := (119 - n % 64) % 64
def filled (l : List UInt8) : List UInt8 := l ++ [128] ++ List.replicate (pad l.length) 0 ++ be (BitVec.ofNat 64 (8 * l.length)) 8
theorem c_filled (l : List UInt8) (hl : l.length ≤ 1000000) :
    ACall Try.prog 92 [.sl 1 (bytesAV l) .sh] [] (.sl 1 (bytesAV (filled l)) .sh) [] := by
  refine acall_of 1 Try.func92 rfl fun n out _ _ => ?_
  simp only [Try.ntmps92, List.length_cons, List.length_nil, List.length_map, List.length_replicate, rep_map, Nat.reduceAdd, Nat.reduceSub, List.replicate, List.cons_append, List.nil_append]
  refine awp_seq_k fun K hK => awp_ev tab_ok [] ?_
  simp (maxSteps:=9^7) only [ss, evLit, tab, reduceCtorEq, reduceIte, Nat.reduceEqDiff, Nat.reduceBEq, Int.reduceLE, Int.reduceToNat, Nat.reduceAdd, Nat.reduceLT, Nat.reduceLeDiff]
  repeat' (first | (with_reducible refine hK _ ?_; clear hK K) | with_reducible apply And.intro)
  have e3 : l.length + 1 ≤ 140737488355328 := by omega
  have e4 : l.length + 1 ≤ 9223372036854775807 := by omega
  refine awp_seq_k fun K hK => awp_ev tab_ok [] ?_
  simp (maxSteps:=9^7) only [ss, evLit, tab, reduceCtorEq, reduceIte, Nat.reduceEqDiff, Nat.reduceBEq, Int.reduceLE, Int.reduceToNat, Nat.reduceAdd, Nat.reduceLT, Nat.reduceLeDiff]
  repeat' (first | (with_reducible refine hK _ ?_; clear hK K) | with_reducible apply And.intro)
  refine call_one (c_clone (n + 0) l (by omega)) (look_loc _ (Nat.le_refl _) 0) (dom_loc _ (by simp)) (by simp) ?_
  simp (maxSteps:=9^7) only [ss, evLit, tab, reduceCtorEq, reduceIte, Nat.reduceEqDiff, Nat.reduceBEq, Int.reduceLE, Int.reduceToNat, Nat.reduceAdd, Nat.reduceLT, Nat.reduceLeDiff, bytes_length, e3, e4]
  repeat' (first | (with_reducible refine hK _ ?_; clear hK K) | with_reducible apply And.intro)
  have e5 : bytesAV l ++ [[.val (.int .u8 128)]] = bytesAV (l ++ [128]) := bytes_snoc l 128
  rw [e5]
  refine awp_seq_k fun KB hKB => awp_block ?_
  refine awp_for_all (fun c : Nat => [(3, .sl 1 (bytesAV (l ++ [128] ++ List.replicate c 0)) (.own (n + 0))), (8, .top), (9, .top), (10, .top), (11, .top), (12, .top), (13, .top), (14, .top)]) (fun c => [some (.row 5 1 (l.length + 1 + c))]) (fun _ => out) (fun c => c ≤ pad l.length) (fun c => 64 - c) 0 (Nat.zero_le _) ?_ rfl rfl fun c hc => ?_
  · simp only [patch, s_0, s_s, leL_cons, leL_nil, le_refl_iff, le_top_iff, le_nil_iff, le_sh_iff, true_and, and_true, List.replicate_zero, List.append_nil]
  have hc64 : pad l.length < 64 := Nat.mod_lt _ (by decide)
  have el : (l ++ [128] ++ List.replicate c 0).length = l.length + 1 + c := by simp; omega
  simp only [patch, s_0, s_s]
  refine awp_seq_k fun KC hKC => ?_
  have er : ((l.length + 1 + c : Nat) : Int).tmod 64 = (((l.length + 1 + c) % 64 : Nat) : Int) := by rw [Int.tmod_eq_emod_of_nonneg (by omega)]; omega
  refine awp_seq_k fun K hK => awp_ev tab_ok [] ?_
  simp (maxSteps:=9^7) only [ss, evLit, tab, reduceCtorEq, reduceIte, Nat.reduceEqDiff, Nat.reduceBEq, Int.reduceLE, Int.reduceToNat, Nat.reduceAdd, Nat.reduceLT, Nat.reduceLeDiff, i_rem _ _ (b := 64) (by decide), bytes_length, el, er]
  repeat' (first | (with_reducible refine hK _ ?_; clear hK K) | with_reducible apply And.intro)
  refine awp_if rfl (fun ht => awp_skip (hKC _ ?_)) (fun hf => awp_exit (id ?_))
  rotate_left
  · simp only [thenA, blockA, if_true]
    refine hKB _ ?_
    clear hKB KB hKC KC
    have hcm : c = pad l.length := by
      have h1 : (((l.length + 1 + c) % 64 : Nat) : Int) = 56 := by simpa using hf
      unfold pad at hc ⊢
      omega
    subst hcm
    have e6 : IntKind.u64.wrap (l.length : Int) = (l.length : Int) := wrap_u64 (by omega) (by omega)
    have e7 : IntKind.u64.wrap (8 * (l.length : Int)) = ((BitVec.ofNat 64 (8 * l.length)).toNat : Int) := by
      rw [wrap_u64 (by omega) (by omega), BitVec.toNat_ofNat, Nat.mod_eq_of_lt (by omega)]; omega
    refine awp_seq_k fun K hK => awp_ev tab_ok [] ?_
    simp (maxSteps:=9^7) only [ss, evLit, tab, reduceCtorEq, reduceIte, Nat.reduceEqDiff, Nat.reduceBEq, Int.reduceLE, Int.reduceToNat, Nat.reduceAdd, Nat.reduceLT, Nat.reduceLeDiff, bytes_length, e6, e7]
    repeat' (first | (with_reducible refine hK _ ?_; clear hK K) | with_reducible apply And.intro)
    refine call_one (c_put (n + 0) _ _ 8 (by rw [el]; omega) (by decide) (by decide)) (by rw [el]; exact look_loc _ (Nat.le_refl _) 0) (dom_loc _ (by simp)) (by simp) ?_
    simp (maxSteps:=9^7) only [ss, evLit, tab, reduceCtorEq, reduceIte, Nat.reduceEqDiff, Nat.reduceBEq, Int.reduceLE, Int.reduceToNat, Nat.reduceAdd, Nat.reduceLT, Nat.reduceLeDiff]
    repeat' (first | (with_reducible refine hK _ ?_; clear hK K) | with_reducible apply And.intro)
    refine awp_le (le_frame (fr' := [.top, .top, .sl 1 (bytesAV (filled l)) .sh, .top, .top, .top, .top, .top, .top, .top, .top, .top, .top, .top, .top, .top, .top, .top, .top, .top, .top]) ?_) ?_
    · simp only [patch, s_0, s_s, leL_cons, leL_nil, le_refl_iff, le_top_iff, le_nil_iff, le_sh_iff, true_and, and_true]
      exact .sh _ _ _
    refine awp_ret ?_
    exact ret_tmp (.inr rfl) rfl rfl rfl (fun _ _ => rfl) rfl
  clear hKC KC
  have hc2 : c < pad l.length := by
    have h1 : ¬ (((l.length + 1 + c) % 64 : Nat) : Int) = 56 := by simpa using ht
    rcases Nat.lt_or_ge c (pad l.length) with h | h
    · exact h
    · have : c = pad l.length := by omega
      subst this
      unfold pad at h1
      omega
  refine awp_block ?_
  have e6 : l.length + 1 + c + 1 ≤ 140737488355328 := by omega
  have e7 : l.length + 1 + c + 1 ≤ 9223372036854775807 := by omega
  refine awp_ev tab_ok [] ?_
  simp (maxSteps:=9^7) only [ss, evLit, tab, reduceCtorEq, reduceIte, Nat.reduceEqDiff, Nat.reduceBEq, Int.reduceLE, Int.reduceToNat, Nat.reduceAdd, Nat.reduceLT, Nat.reduceLeDiff, bytes_length, el, e6, e7]
  refine ⟨c + 1, hc2, by omega, ?_⟩
  have e8 : bytesAV (l ++ [128] ++ List.replicate c 0) ++ [[.val (.int .u8 0)]] = bytesAV (l ++ [128] ++ List.replicate (c + 1) 0) := by
    rw [List.replicate_succ', ← List.append_assoc]; exact bytes_snoc _ 0
  rw [e8]
  refine le_of_all ?_ ?_ rfl rfl rfl rfl <;> simp only [patch, sl, show l.length + 1 + (c + 1) = l.length + 1 + c + 1 from rfl]
end Go.Proofs.Ytgdhnngpfieloaa.Hm
end
section
namespace Go.Proofs.Ytgdhnngpfieloaa.Hm
set_option linter.unusedVariables false
set_option linter.unusedSimpArgs false
open Go Go.VS Tab Sha
set_option maxHeartbeats 1000000
theorem c_chunk (els : List (List AV)) (md : Md) (m : Int) (hm : 1 ≤ m) :
    ACall Try.prog 91 [.sl 1 els md, i64 m] [] (.fn (.func 113) [.ref [.sl 1 els md], .ref [i64 m]]) [] := by
  refine acall_of 2 Try.func91 rfl fun n out _ _ => ?_
  simp only [Try.ntmps91, List.length_cons, List.length_nil, List.length_map, List.length_replicate, rep_map, Nat.reduceAdd, Nat.reduceSub, List.replicate, List.cons_append, List.nil_append]
  refine awp_seq_k fun K hK => awp_ev tab_ok [] ?_
  simp (maxSteps:=9^7) only [ss, evLit, tab, reduceCtorEq, reduceIte, Nat.reduceEqDiff, Nat.reduceBEq, Int.reduceLE, Int.reduceToNat, Nat.reduceAdd, Nat.reduceLT, Nat.reduceLeDiff]
  repeat' (first | (with_reducible refine hK _ ?_; clear hK K) | with_reducible apply And.intro)
  refine awp_le (le_freeze (i := 0) 1 (e := 28) (cs := [.sl 1 els md]) rfl (by simp)) ?_
  simp only [List.map_cons, List.map_nil, AV.frz, mo_t, mo_f, Nat.add_left_cancel_iff, reduceIte, Nat.reduceEqDiff, s_0, s_s, List.drop_zero]
  refine awp_le (le_freeze (i := 1) 1 (e := 3) (cs := [i64 m]) rfl (by simp)) ?_
  simp only [List.map_cons, List.map_nil, AV.frz, mo_t, mo_f, Nat.add_left_cancel_iff, reduceIte, Nat.reduceEqDiff, s_0, s_s, List.drop_zero]
  refine awp_seq_k fun KB hKB => ?_
  refine awp_seq_k fun K hK => awp_ev tab_ok [] ?_
  simp (maxSteps:=9^7) only [ss, evLit, tab, reduceCtorEq, reduceIte, Nat.reduceEqDiff, Nat.reduceBEq, Int.reduceLE, Int.reduceToNat, Nat.reduceAdd, Nat.reduceLT, Nat.reduceLeDiff]
  repeat' (first | (with_reducible refine hK _ ?_; clear hK K) | with_reducible apply And.intro)
  have hm1 : decide (m < 1) = false := decide_eq_false (by omega)
  rw [hm1]
  refine awp_cond_f rfl (awp_skip ?_)
  refine hKB _ ?_
  clear hKB KB
  refine awp_seq_k fun K hK => awp_ev tab_ok [] ?_
  simp (maxSteps:=9^7) only [ss, evLit, tab, reduceCtorEq, reduceIte, Nat.reduceEqDiff, Nat.reduceBEq, Int.reduceLE, Int.reduceToNat, Nat.reduceAdd, Nat.reduceLT, Nat.reduceLeDiff]
  repeat' (first | (with_reducible refine hK _ ?_; clear hK K) | with_reducible apply And.intro)
  refine awp_ret ?_
  exact ret_tmp (.inr rfl) rfl rfl rfl (fun _ _ => rfl) rfl
def piece (b : List UInt8) (m i : Nat) : List UInt8 := (b.drop (m * i)).take m
theorem c_chunk1 (l kl kh : Nat) (hne : kl ≠ kh) (P0 : Res) (hP : P0 ≠ .dead) (B : Nat → Res) (hB : ∀ i, B i ≠ .dead) (b : List UInt8) (md : Md) (hb : b.length ≤ 1000000) (m cnt : Nat) (hm : 1 ≤ m) (hm2 : m ≤ 1000000)
    (hcnt : b.length ≤ m * cnt) (hcnt2 : ∀ i, i < cnt → m * i < b.length)
    (hy : ∀ i, i < cnt → AYld Try.prog l [.sl 1 (bytesAV (piece b m i)) .full] [(kl, some P0), (kh, some (B i))] (.val (.bool true)) [(kh, B (i + 1))]) :
    ACall Try.prog 113 [.fn (.yield l) [], .ref [.sl 1 (bytesAV b) md], .ref [i64 (m : Int)]] [(kl, some P0), (kh, some (B 0))] (.tup []) [(kh, B cnt)] := by
  refine acall_of' 0 Try.func113 rfl fun n out _ _ _ => ?_
  simp only [Try.ntmps113, List.length_cons, List.length_nil, List.length_map, List.length_replicate, rep_map, Nat.reduceAdd, Nat.reduceSub, List.replicate, List.cons_append, List.nil_append]
  rename_i hneeds hg hz
  obtain ⟨hkl, hk, _⟩ := hneeds
  obtain ⟨hkn, _⟩ := hg
  refine awp_seq_k fun K hK => awp_ev tab_ok [] ?_
  simp (maxSteps:=9^7) only [ss, evLit, tab, reduceCtorEq, reduceIte, Nat.reduceEqDiff, Nat.reduceBEq, Int.reduceLE, Int.reduceToNat, Nat.reduceAdd, Nat.reduceLT, Nat.reduceLeDiff]
  repeat' (first | (with_reducible refine hK _ ?_; clear hK K) | with_reducible apply And.intro)
  refine awp_block ?_
  refine awp_for_all (fun c : Nat => [(4, i64 ((m * c : Nat) : Int)), (5, .top), (6, .top), (7, .top), (8, .top), (9, .top), (10, .top), (11, .top), (12, .top), (13, .top), (14, .top), (15, .top), (16, .top), (17, .top), (18, .top), (19, .top), (20, .top), (21, .top), (22, .top), (23, .top), (24, .top), (25, .top), (26, .top), (27, .top), (28, .top), (29, .top), (30, .top)]) (fun _ => []) (fun c => upd1 out kh (B c)) (fun c => c ≤ cnt) (fun c => cnt - c) 0 (Nat.zero_le _) ?_ rfl (upd1_self hk) fun c hc => ?_
  · simp only [patch, s_0, s_s, leL_cons, leL_nil, le_refl_iff, le_top_iff, le_nil_iff, le_sh_iff, true_and, and_true, Nat.mul_zero, Int.natCast_zero]
  simp only [patch, s_0, s_s]
  refine awp_seq_k fun KC hKC => ?_
  refine awp_seq_k fun K hK => awp_ev tab_ok [] ?_
  simp (maxSteps:=9^7) only [ss, evLit, tab, reduceCtorEq, reduceIte, Nat.reduceEqDiff, Nat.reduceBEq, Int.reduceLE, Int.reduceToNat, Nat.reduceAdd, Nat.reduceLT, Nat.reduceLeDiff, bytes_length]
  repeat' (first | (with_reducible refine hK _ ?_; clear hK K) | with_reducible apply And.intro)
  refine awp_if rfl (fun ht => awp_skip (hKC _ ?_)) (fun hf => awp_exit (id ?_))
  rotate_left
  · simp only [thenA, blockA, if_true]
    have hcc : c = cnt := by
      have h1 := of_decide_eq_false hf
      rcases Nat.lt_or_ge c cnt with h | h
      · have := hcnt2 c h; omega
      · omega
    subst hcc
    exact ret_unit (.inl rfl) rfl rfl rfl (fun _ _ => rfl)
  clear hKC KC
  have h1 : m * c < b.length := by have := of_decide_eq_true ht; omega
  have hcc : c < cnt := by
    rcases Nat.lt_or_ge c cnt with h | h
    · exact h
    · have : c = cnt := by omega
      subst this; omega
  refine awp_seq_k fun KC hKC => awp_block ?_
  have hkln : kl < n := by
    rcases Nat.lt_or_ge kl n with h | h
    · exact h
    · rw [hz kl h] at hkl; cases hkl
  obtain ⟨q, hq⟩ : ∃ q, q = min m (b.length - m * c) := ⟨_, rfl⟩
  have e1 : (List.take (b.length - m * c) (List.drop (m * c) (bytesAV b))).length = b.length - m * c := by simp [bytesAV]
  have e2 : (if b.length - m * c < m then ((b.length - m * c : Nat) : Int) else (m : Int)) = (q : Int) := by rw [hq]; split <;> omega
  have e3 : (b.drop (m * c)).take q = piece b m c := by
    rw [hq, piece]
    apply List.ext_getElem?
    intro i
    simp only [List.getElem?_take, List.getElem?_drop]
    by_cases h : i < min m (b.length - m * c)
    · rw [if_pos h, if_pos (by omega)]
    · rw [if_neg h]
      split
      · rw [List.getElem?_eq_none (by omega)]
      · rfl
  have e4 : m * c ≤ m * c + q := by omega
  have e5 : m * c + q ≤ b.length := by omega
  refine awp_seq_k fun K hK => awp_ev_quiet tab_ok follows (by kernel_rfl) ?_
  simp (maxSteps:=9^7) only [ss, evLit, tab, reduceCtorEq, reduceIte, Nat.reduceEqDiff, Nat.reduceBEq, Int.reduceLE, Int.reduceToNat, Nat.reduceAdd, Nat.reduceLT, Nat.reduceLeDiff, bytes_length, loOf, hiOf, Nat.le_of_lt h1, e1, e2]
  repeat' (first | (with_reducible refine hK _ ?_; clear hK K) | with_reducible apply And.intro)
  refine awp_seq_k fun K hK => awp_ev tab_ok [] ?_
  simp (maxSteps:=9^7) only [ss, evLit, tab, reduceCtorEq, reduceIte, Nat.reduceEqDiff, Nat.reduceBEq, Int.reduceLE, Int.reduceToNat, Nat.reduceAdd, Nat.reduceLT, Nat.reduceLeDiff, bytes_length, loOf, hiOf, addw (n := m * c) (q : Int) q rfl (by omega), e4, e5, Nat.add_sub_cancel_left, bytes_drop, bytes_take, e3]
  repeat' (first | (with_reducible refine hK _ ?_; clear hK K) | with_reducible apply And.intro)
  refine yld_of (hy c hcc) ⟨?_, ?_, trivial⟩ ⟨?_, trivial⟩ ?_ ?_
  · rw [lk_out hkln, upd1_ne _ _ hne]; exact hkl
  · rw [lk_out hkn]; exact upd1_same _ _ _
  · rw [dm_out hkn]; trivial
  · intro x hx
    simp only [List.mem_cons, List.not_mem_nil, or_false] at hx
    rcases hx with rfl | rfl
    · exact ⟨by rw [dm_out hkln]; trivial, by simpa using hP⟩
    · exact ⟨by rw [dm_out hkn]; trivial, by simpa using hB c⟩
  simp (maxSteps:=9^7) only [ss, evLit, tab, reduceCtorEq, reduceIte, Nat.reduceEqDiff, Nat.reduceBEq, Int.reduceLE, Int.reduceToNat, Nat.reduceAdd, Nat.reduceLT, Nat.reduceLeDiff, nx_out0 hkn, upd1_upd1, Bool.not_true]
  repeat' (first | (with_reducible refine hK _ ?_; clear hK K) | with_reducible apply And.intro)
  refine awp_cond_f rfl (awp_skip ?_)
  simp only [thenA, blockA]
  refine hKC _ ?_
  clear hKC KC
  have e6 : IntKind.i64.wrap (((m * c : Nat) : Int) + (m : Int)) = ((m * (c + 1) : Nat) : Int) := by rw [Nat.mul_succ, wrap_i64] <;> omega
  refine awp_ev tab_ok [] ?_
  simp (maxSteps:=9^7) only [ss, evLit, tab, reduceCtorEq, reduceIte, Nat.reduceEqDiff, Nat.reduceBEq, Int.reduceLE, Int.reduceToNat, Nat.reduceAdd, Nat.reduceLT, Nat.reduceLeDiff, e6]
  refine ⟨c + 1, by omega, by omega, ?_⟩
  refine le_of_all ?_ ?_ rfl rfl rfl rfl <;> simp only [patch, sl]
end Go.Proofs.Ytgdhnngpfieloaa.Hm
end
section
namespace Go.Proofs.Ytgdhnngpfieloaa.Hm
set_option linter.unusedVariables false
set_option linter.unusedSimpArgs false
open Go Go.VS Tab Sha
set_option maxHeartbeats 1000000
theorem filled_length (l : List UInt8) : (filled l).length = 64 * ((l.length + 72) / 64) := by
  simp [filled, be_length, pad]; omega
def hs (b : List UInt8) : Nat → V8
  | 0 => firstV
  | i + 1 => block (hs b i) (piece b 64 i)
def digest (v : V8) : List UInt8 := v.list.flatMap fun w => be (w.setWidth 64) 4
def sumOf (l : List UInt8) : List UInt8 := digest (hs (filled l) ((l.length + 72) / 64))
def dg (v : V8) (i : Nat) : List UInt8 := (v.list.take i).flatMap fun w => be (w.setWidth 64) 4
theorem dg_succ (v : V8) (i : Nat) (h : i < 8) : dg v (i + 1) = dg v i ++ be ((v.list.getD i 0).setWidth 64) 4 := by
  have hl : i < v.list.length := h
  rw [dg, dg, List.take_succ_eq_append_getElem hl, List.flatMap_append, List.getD_eq_getElem?_getD, List.getElem?_eq_getElem hl]
  simp
theorem dg_length (v : V8) : ∀ i, i ≤ 8 → (dg v i).length = 4 * i
  | 0, _ => rfl
  | i + 1, h => by rw [dg_succ v i (by omega), List.length_append, dg_length v i (by omega), be_length]; omega
theorem c_sum (l : List UInt8) (hl : l.length ≤ 900000) :
    ACall Try.prog 54 [.sl 1 (bytesAV l) .sh] [] (.agg ((sumOf l).map b8)) [] := by
  refine acall_of_range 5 Try.func54 rfl fun n out _ _ => ?_
  simp only [Try.ntmps54, List.length_cons, List.length_nil, List.length_map, List.length_replicate, rep_map, Nat.reduceAdd, Nat.reduceSub, List.replicate, List.cons_append, List.nil_append]
  refine awp0_seq_k fun K hK => AWp.zero (awp_ev tab_ok [] ?_)
  simp (maxSteps:=9^7) only [ss, evLit, tab, reduceCtorEq, reduceIte, Nat.reduceEqDiff, Nat.reduceBEq, Int.reduceLE, Int.reduceToNat, Nat.reduceAdd, Nat.reduceLT, Nat.reduceLeDiff]
  repeat' (first | (with_reducible refine hK _ ?_; clear hK K) | with_reducible apply And.intro)
  refine awp0_seq_k fun K hK => AWp.zero (awp_ev tab_ok [] ?_)
  simp (maxSteps:=9^7) only [ss, evLit, tab, reduceCtorEq, reduceIte, Nat.reduceEqDiff, Nat.reduceBEq, Int.reduceLE, Int.reduceToNat, Nat.reduceAdd, Nat.reduceLT, Nat.reduceLeDiff]
  repeat' (first | (with_reducible refine hK _ ?_; clear hK K) | with_reducible apply And.intro)
  refine call_pure c_first ?_
  simp (maxSteps:=9^7) only [ss, evLit, tab, reduceCtorEq, reduceIte, Nat.reduceEqDiff, Nat.reduceBEq, Int.reduceLE, Int.reduceToNat, Nat.reduceAdd, Nat.reduceLT, Nat.reduceLeDiff, splice_all, firsts_length]
  repeat' (first | (with_reducible refine hK _ ?_; clear hK K) | with_reducible apply And.intro)
  refine awp0_seq_k fun KB hKB => ?_
  refine awp0_seq_k fun K hK => AWp.zero (awp_ev tab_ok [] ?_)
  simp (maxSteps:=9^7) only [ss, evLit, tab, reduceCtorEq, reduceIte, Nat.reduceEqDiff, Nat.reduceBEq, Int.reduceLE, Int.reduceToNat, Nat.reduceAdd, Nat.reduceLT, Nat.reduceLeDiff]
  repeat' (first | (with_reducible refine hK _ ?_; clear hK K) | with_reducible apply And.intro)
  refine call_pure (c_filled l (by omega)) ?_
  simp (maxSteps:=9^7) only [ss, evLit, tab, reduceCtorEq, reduceIte, Nat.reduceEqDiff, Nat.reduceBEq, Int.reduceLE, Int.reduceToNat, Nat.reduceAdd, Nat.reduceLT, Nat.reduceLeDiff]
  refine call_pure (c_chunk _ .sh 64 (by decide)) ?_
  simp (maxSteps:=9^7) only [ss, evLit, tab, reduceCtorEq, reduceIte, Nat.reduceEqDiff, Nat.reduceBEq, Int.reduceLE, Int.reduceToNat, Nat.reduceAdd, Nat.reduceLT, Nat.reduceLeDiff]
  repeat' (first | (with_reducible refine hK _ ?_; clear hK K) | with_reducible apply And.intro)
  obtain ⟨cnt, hcnt⟩ : ∃ cnt, cnt = (l.length + 72) / 64 := ⟨_, rfl⟩
  have hfl : (filled l).length = 64 * cnt := by rw [filled_length, hcnt]
  have hcb : 64 * cnt ≤ 1000000 := by omega
  refine awp0_block (awp0_range (r := .tup []) (gf := 113) (caps := [.ref [.sl 1 (bytesAV (filled l)) .sh], .ref [i64 64]]) 2 3 Try.func113 (by kernel_rfl) (by kernel_rfl) rfl (by decide) rfl rfl ?_)
  intro D lp rec F hF h1 h2 h3 h4 h5
  refine ⟨_, _, c_chunk1 lp (n + 3) (n + 1) (by omega) (.pin lp (.loop rec) F) (by simp) (fun i => .box 149 ((hs (filled l) i).list.map w32)) (by simp) (filled l) .sh (by omega) 64 cnt (by decide) (by decide) (by omega) (fun i hi => by omega) (fun i hi => ayld_of_body (fr := F) (fr1 := (F.set 12 (.sl 1 (bytesAV (piece (filled l) 64 i)) .full)).set 4 (.sl 1 (bytesAV (piece (filled l) 64 i)) .full)) (ps := [12]) 0 h1 h2 h3 h4 h5 rfl (by simp) (by simp) ?_ ?_), ?_, ?_, ?_, ?_, ?_⟩
  · intro n' out'
    subst hF
    simp only [List.zip_cons_cons, List.zip_nil_left, List.zip_nil_right, setAll, s_0, s_s]
    refine awp_ev tab_ok [] ?_
    simp (maxSteps:=9^7) only [ss, evLit, tab, reduceCtorEq, reduceIte, Nat.reduceEqDiff, Nat.reduceBEq, Int.reduceLE, Int.reduceToNat, Nat.reduceAdd, Nat.reduceLT, Nat.reduceLeDiff]
  · intro n' out' hh hg
    obtain ⟨hk, _⟩ := hh
    obtain ⟨hkn, _⟩ := hg
    have hpl : (piece (filled l) 64 i).length = 64 := by simp [piece]; omega
    refine awp_block ?_
    subst hF
    simp only [List.replicate, s_0, s_s]
    have hv8 : ∀ v : V8, v.list.length = 8 := fun _ => rfl
    refine awp_ev_tail tab_ok [] 5 [0, 3] follows (by kernel_rfl) (by kernel_rfl) ?_
    simp (maxSteps:=9^7) only [ss, evLit, tab, reduceCtorEq, reduceIte, Nat.reduceEqDiff, Nat.reduceBEq, Int.reduceLE, Int.reduceToNat, Nat.reduceAdd, Nat.reduceLT, Nat.reduceLeDiff, lk_out hkn, dm_out hkn, hk, pick_all, hv8, bytes_flat, bytes_length, hpl]
    refine call_pure (c_block _ _ hpl) ?_
    simp (maxSteps:=9^7) only [ss, evLit, tab, reduceCtorEq, reduceIte, Nat.reduceEqDiff, Nat.reduceBEq, Int.reduceLE, Int.reduceToNat, Nat.reduceAdd, Nat.reduceLT, Nat.reduceLeDiff, lk_out hkn, dm_out hkn, nx_out1 hkn, hk, hv8, splice_all]
    exact fun _ _ => rfl
  · subst hF
    simp only [holds, s_0, s_s, lk_loc, List.getElem?_cons_zero, List.getElem?_cons_succ, Option.join_some, and_true, true_and]
    rfl
  · exact ⟨dom_loc _ (by simp), trivial⟩
  · intro x hx
    simp only [List.mem_cons, List.not_mem_nil, or_false] at hx
    rcases hx with rfl | rfl
    · exact dom_loc _ (by simp)
    · exact dom_loc _ (by simp)
  · intro x hx
    simp only [List.mem_cons, List.not_mem_nil, or_false] at hx
    subst hx
    show n + 1 ≠ n + 3
    omega
  simp only [thenA, blockA, s_0, s_s, gv_loc]
  refine hKB _ ?_
  clear hKB KB
  refine AWp.zero ?_
  obtain ⟨V, hV⟩ : ∃ V, V = hs (filled l) cnt := ⟨_, rfl⟩
  rw [← hV]
  have hv8 : V.list.length = 8 := rfl
  refine awp_seq_k fun K hK => awp_ev tab_ok [] ?_
  simp (maxSteps:=9^7) only [ss, evLit, tab, reduceCtorEq, reduceIte, Nat.reduceEqDiff, Nat.reduceBEq, Int.reduceLE, Int.reduceToNat, Nat.reduceAdd, Nat.reduceLT, Nat.reduceLeDiff]
  repeat' (first | (with_reducible refine hK _ ?_; clear hK K) | with_reducible apply And.intro)
  refine awp_le (le_row (i := 4) 5 1 rfl) ?_
  simp only [s_0, s_s]
  refine awp_seq_k fun KB hKB => ?_
  refine awp_seq_k fun K hK => awp_ev tab_ok [] ?_
  simp (maxSteps:=9^7) only [ss, evLit, tab, reduceCtorEq, reduceIte, Nat.reduceEqDiff, Nat.reduceBEq, Int.reduceLE, Int.reduceToNat, Nat.reduceAdd, Nat.reduceLT, Nat.reduceLeDiff, pick_all, hv8]
  repeat' (first | (with_reducible refine hK _ ?_; clear hK K) | with_reducible apply And.intro)
  refine awp_block ?_
  refine awp_for_lo (fun i : Nat => [(5, .sl 1 (bytesAV (dg V i)) (.own (n + 4))), (19, i64 (i : Int)), (7, .top), (20, .top), (21, .top), (22, .top), (23, .top), (24, .top), (25, .top), (26, .top)]) (fun i => [some (.box 47 (List.replicate 32 (.val (.int .u8 0)))), some (.box 149 (V.list.map w32)), some (.pin D (.deferred (some [])) []), some .dead, some (.row 5 1 (4 * i))]) (fun i => i ≤ 8) (fun i => 8 - i) 0 (by omega) ?_ fun i hi => ?_
  · refine le_of_all ?_ ?_ rfl rfl rfl rfl <;> simp only [patch, sl]
    exact (le_nilo_iff _ _ _).2 trivial
  simp only [patch, s_0, s_s]
  refine awp_seq_k fun K hK => awp_ev tab_ok [] ?_
  simp (maxSteps:=9^7) only [ss, evLit, tab, reduceCtorEq, reduceIte, Nat.reduceEqDiff, Nat.reduceBEq, Int.reduceLE, Int.reduceToNat, Nat.reduceAdd, Nat.reduceLT, Nat.reduceLeDiff]
  repeat' (first | (with_reducible refine hK _ ?_; clear hK K) | with_reducible apply And.intro)
  refine awp_seq (awp_if rfl (fun ht => awp_skip (id ?_)) (fun hf => awp_exit (id ?_)))
  rotate_left
  · simp only [thenA, blockA, if_true]
    refine hKB _ ?_
    clear hKB KB
    have hi8 : i = 8 := by have := of_decide_eq_false hf; omega
    subst hi8
    have hd32 : (dg V 8).length = 32 := dg_length V 8 (by decide)
    refine awp_seq_k fun K hK => awp_ev tab_ok [] ?_
    simp (maxSteps:=9^7) only [ss, evLit, tab, reduceCtorEq, reduceIte, Nat.reduceEqDiff, Nat.reduceBEq, Int.reduceLE, Int.reduceToNat, Nat.reduceAdd, Nat.reduceLT, Nat.reduceLeDiff, bytes_length, bytes_flat, hd32, pick_all, splice_all]
    repeat' (first | (with_reducible refine hK _ ?_; clear hK K) | with_reducible apply And.intro)
    refine awp_ret ?_
    have e : sumOf l = dg V 8 := by rw [hV, hcnt]; rfl
    rw [e]
    exact ⟨2, D, rfl, rfl, ret_cell (.inr rfl) rfl rfl rfl (fun _ _ => rfl) ok47 (k := n + 0) (off := 0) rfl (dom_loc _ (by simp)) (look_loc _ (Nat.le_refl _) 0) (pick_all (by simp [hd32]))⟩
  have hi2 : i < 8 := by have := of_decide_eq_true ht; omega
  have hi3 : (i : Int) < 8 := by omega
  refine awp_seq_k fun KC hKC => awp_block ?_
  refine awp_seq_k fun K hK => awp_ev tab_ok [] ?_
  simp (maxSteps:=9^7) only [ss, evLit, tab, reduceCtorEq, reduceIte, Nat.reduceEqDiff, Nat.reduceBEq, Int.reduceLE, Int.reduceToNat, Nat.reduceAdd, Nat.reduceLT, Nat.reduceLeDiff, nc, hi3, pick_map 1 w32 V.list i 0 hi2]
  repeat' (first | (with_reducible refine hK _ ?_; clear hK K) | with_reducible apply And.intro)
  refine awp_ev tab_ok [] ?_
  simp (maxSteps:=9^7) only [ss, evLit, tab, reduceCtorEq, reduceIte, Nat.reduceEqDiff, Nat.reduceBEq, Int.reduceLE, Int.reduceToNat, Nat.reduceAdd, Nat.reduceLT, Nat.reduceLeDiff, conv32_64]
  refine call_one (c_put (n + 4) _ _ 4 (by rw [dg_length V i hi]; omega) (by decide) (by decide)) (by rw [dg_length V i hi]; exact look_loc _ (Nat.le_refl _) 4) (dom_loc _ (by simp)) (by simp) ?_
  simp (maxSteps:=9^7) only [ss, evLit, tab, reduceCtorEq, reduceIte, Nat.reduceEqDiff, Nat.reduceBEq, Int.reduceLE, Int.reduceToNat, Nat.reduceAdd, Nat.reduceLT, Nat.reduceLeDiff]
  refine hKC _ ?_
  clear hKC KC
  rw [dg_length V i hi, ← dg_succ V i hi2]
  refine awp_ev tab_ok [] ?_
  simp (maxSteps:=9^7) only [ss, evLit, tab, reduceCtorEq, reduceIte, Nat.reduceEqDiff, Nat.reduceBEq, Int.reduceLE, Int.reduceToNat, Nat.reduceAdd, Nat.reduceLT, Nat.reduceLeDiff, addw (n := i) 1 1 rfl (by omega)]
  refine ⟨i + 1, by omega, by omega, ?_⟩
  rw [show 4 * i + 4 = 4 * (i + 1) by omega]
  refine le_of_all ?_ ?_ rfl rfl rfl rfl <;> simp only [patch, sl]
theorem sumOf_length (l : List UInt8) : (sumOf l).length = 32 := dg_length _ 8 (by decide)
end Go.Proofs.Ytgdhnngpfieloaa.Hm
end
