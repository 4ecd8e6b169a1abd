/-
  Lists made anew, thing by thing.
-/
import Derived.Test.YtefkjdkalgemeaaZGA
import Derived.Test.YtefkjdkalgemeaaZD2
namespace Go.Proofs.Ytefkjdkalgemeaa
set_option linter.unusedVariables false
set_option linter.unusedSimpArgs false
open Go Go.VS Tab
set_option maxHeartbeats 1000000
theorem map_snoc {α β : Type} (g : α → β) (l : List α) (i : Nat) (h : i < l.length) : (l.take i).map g ++ [g l[i]] = (l.take (i + 1)).map g := by
  rw [List.take_succ_eq_append_getElem h, List.map_append]; rfl
theorem c_each_wb (k : Nat) (l : List Wr) (fid : FuncId) (caps : List AV) (val : Wr → AV) (g : Wr → List AV) (hb : hasBody Try.prog fid = True) (hl : l.length ≤ 1000000)
    (hg : ∀ x, (val x).parts = some (g x)) (hgl : ∀ x, (g x).length = 1) (hp : ∀ x, x ∈ l → ACall Try.prog fid (wrA x :: caps) [] (val x) []) :
    ACall Try.prog 71 [.sl 2 (l.map wrC) .sh, .fn (.func fid) caps] [(k, none)] (.sl 1 (l.map g) (.own k)) [(k, .row 37 1 l.length)] := by
  refine acall_of 1 Try.func71 rfl fun n out _ _ => ?_
  simp only [Try.ntmps71, List.length_cons, List.length_nil, List.length_map, List.length_replicate, rep_map, Nat.reduceAdd, Nat.reduceSub, List.replicate, List.cons_append, List.nil_append]
  rename_i hneeds hgv
  obtain ⟨hk, _⟩ := hneeds
  obtain ⟨hkn, _⟩ := hgv
  refine awp_seq_k fun K hK => awp_ev tab_ok [] ?_
  simp (maxSteps := 4000000) only [su, evLit, hbT, tab, thenA, blockA, reduceCtorEq, reduceIte, Nat.reduceEqDiff, Nat.reduceBEq, Int.reduceLE, Int.reduceToNat, Nat.reduceAdd, Nat.reduceLT, Nat.reduceLeDiff]
  repeat' (first | (with_reducible refine hK _ ?_; clear hK K) | with_reducible apply And.intro)
  refine awp_seq_k fun KB hKB => ?_
  refine awp_seq_k fun K hK => awp_ev tab_ok [] ?_
  simp (maxSteps := 4000000) only [su, evLit, hbT, tab, thenA, blockA, reduceCtorEq, reduceIte, Nat.reduceEqDiff, Nat.reduceBEq, Int.reduceLE, Int.reduceToNat, Nat.reduceAdd, Nat.reduceLT, Nat.reduceLeDiff]
  repeat' (first | (with_reducible refine hK _ ?_; clear hK K) | with_reducible apply And.intro)
  refine awp_le (le_rowN (k := k) 37 1 (by rw [dm_out hkn]; trivial) (by rw [lk_out hkn]; exact hk)) ?_
  rw [gv_out hkn]
  refine awp_block ?_
  refine awp_for_mv (fun m (i : Nat) => [(9, i64 (i : Int)), (4, .sl 1 ((l.take i).map g) (.own k)), (6, .top), (10, .top), (11, .top), (12, .top), (13, .top), (14, .top), (15, .top), (16, .top), (17, .top), (18, .top), (19, .top)]) (fun m i => [none]) (fun i => upd1 out k (.row 37 1 i)) (fun i => i ≤ l.length) (fun i => l.length - i) 0 (Nat.zero_le _) ?_ fun m i hm hi => ?_
  · refine le_of_all ?_ ?_ (by first | rfl | (simp only [List.take_zero, List.map_nil]; rfl) | simp only [List.take_zero, List.map_nil]) rfl rfl rfl <;> simp only [patch, sl, List.take_zero, List.map_nil]
  simp only [patch, s_0, s_s]
  refine awp_seq_k fun K hK => awp_ev tab_ok [] ?_
  simp (maxSteps := 4000000) only [su, evLit, hbT, tab, thenA, blockA, reduceCtorEq, reduceIte, Nat.reduceEqDiff, Nat.reduceBEq, Int.reduceLE, Int.reduceToNat, Nat.reduceAdd, Nat.reduceLT, Nat.reduceLeDiff, List.take_zero, List.map_nil]
  repeat' (first | (with_reducible refine hK _ ?_; clear hK K) | with_reducible apply And.intro)
  refine awp_seq_k fun KC hKC => ?_
  refine awp_if rfl (fun ht => awp_skip (hKC _ ?_)) (fun hf => awp_exit (id ?_))
  rotate_left
  · simp only [thenA, blockA, if_true]
    refine hKB _ ?_
    clear hKB KB hKC KC
    have h_ib : i = l.length := by have := of_decide_eq_false hf; omega
    subst h_ib
    rw [List.take_length]
    refine awp_ret ?_
    exact ret_tmp (.inr rfl) rfl rfl rfl (fun _ _ => rfl) rfl
  clear hKC KC
  have hlt : i < l.length := by have := of_decide_eq_true ht; omega
  refine awp_seq_k fun KC hKC => awp_block ?_
  refine awp_seq_k fun K hK => awp_ev tab_ok [] ?_
  simp (maxSteps := 4000000) only [su, evLit, hbT, tab, thenA, blockA, reduceCtorEq, reduceIte, Nat.reduceEqDiff, Nat.reduceBEq, Int.reduceLE, Int.reduceToNat, Nat.reduceAdd, Nat.reduceLT, Nat.reduceLeDiff, locM hm, hlt, List.length_map, getD_map wrC l i [] hlt, splice_all, wrC]
  repeat' (first | (with_reducible refine hK _ ?_; clear hK K) | with_reducible apply And.intro)
  have lit : ∀ (σ : AState) (K : AV → List (Nat × Res) → Prop), evLit tab σ K none 22 1 [(0, val l[i])] = K (.sl 1 [g l[i]] .full) [] := fun σ K => evLit_one (T := tab) (ti := ti22) (te := ti37) rfl rfl rfl (by decide) (by decide) (hg _) (hgl _)
  refine awp_ev tab_ok [] ?_
  simp (maxSteps := 4000000) only [su, hbT, tab, thenA, blockA, reduceCtorEq, reduceIte, Nat.reduceEqDiff, Nat.reduceBEq, Int.reduceLE, Int.reduceToNat, Nat.reduceAdd, Nat.reduceLT, Nat.reduceLeDiff, locM hm, hb]
  refine call_pure (hp _ (List.getElem_mem hlt)) ?_
  simp (maxSteps := 4000000) only [su, hbT, tab, thenA, blockA, reduceCtorEq, reduceIte, Nat.reduceEqDiff, Nat.reduceBEq, Int.reduceLE, Int.reduceToNat, Nat.reduceAdd, Nat.reduceLT, Nat.reduceLeDiff, locM hm, lit, lk_out hkn, dm_out hkn, nx_out0 hkn, upd1_same, upd1_upd1, List.length_map, List.length_take, Nat.min_eq_left hi, show (i + 1) ≤ 140737488355328 by omega, show i + 1 ≤ 9223372036854775807 by omega, map_snoc g l i hlt]
  repeat refine And.intro (by omega) ?_
  refine hKC _ ?_
  clear hKC KC
  refine awp_ev tab_ok [] ?_
  simp (maxSteps := 4000000) only [su, evLit, hbT, tab, thenA, blockA, reduceCtorEq, reduceIte, Nat.reduceEqDiff, Nat.reduceBEq, Int.reduceLE, Int.reduceToNat, Nat.reduceAdd, Nat.reduceLT, Nat.reduceLeDiff, locM hm, addw (n := i) 1 1 rfl (by omega)]
  refine ⟨i + 1, by omega, by omega, ?_⟩
  refine le_move [false] (fun n_ => ?_) (fun n_ => ?_) <;> simp only [patch, sm]
theorem c_each_wi (k : Nat) (l : List Wr) (fid : FuncId) (caps : List AV) (val : Wr → AV) (g : Wr → List AV) (hb : hasBody Try.prog fid = True) (hl : l.length ≤ 1000000)
    (hg : ∀ x, (val x).parts = some (g x)) (hgl : ∀ x, (g x).length = 1) (hp : ∀ x, x ∈ l → ACall Try.prog fid (wrA x :: caps) [] (val x) []) :
    ACall Try.prog 74 [.sl 2 (l.map wrC) .sh, .fn (.func fid) caps] [(k, none)] (.sl 1 (l.map g) (.own k)) [(k, .row 3 1 l.length)] := by
  refine acall_of 1 Try.func74 rfl fun n out _ _ => ?_
  simp only [Try.ntmps74, List.length_cons, List.length_nil, List.length_map, List.length_replicate, rep_map, Nat.reduceAdd, Nat.reduceSub, List.replicate, List.cons_append, List.nil_append]
  rename_i hneeds hgv
  obtain ⟨hk, _⟩ := hneeds
  obtain ⟨hkn, _⟩ := hgv
  refine awp_seq_k fun K hK => awp_ev tab_ok [] ?_
  simp (maxSteps := 4000000) only [su, evLit, hbT, tab, thenA, blockA, reduceCtorEq, reduceIte, Nat.reduceEqDiff, Nat.reduceBEq, Int.reduceLE, Int.reduceToNat, Nat.reduceAdd, Nat.reduceLT, Nat.reduceLeDiff]
  repeat' (first | (with_reducible refine hK _ ?_; clear hK K) | with_reducible apply And.intro)
  refine awp_seq_k fun KB hKB => ?_
  refine awp_seq_k fun K hK => awp_ev tab_ok [] ?_
  simp (maxSteps := 4000000) only [su, evLit, hbT, tab, thenA, blockA, reduceCtorEq, reduceIte, Nat.reduceEqDiff, Nat.reduceBEq, Int.reduceLE, Int.reduceToNat, Nat.reduceAdd, Nat.reduceLT, Nat.reduceLeDiff]
  repeat' (first | (with_reducible refine hK _ ?_; clear hK K) | with_reducible apply And.intro)
  refine awp_le (le_rowN (k := k) 3 1 (by rw [dm_out hkn]; trivial) (by rw [lk_out hkn]; exact hk)) ?_
  rw [gv_out hkn]
  refine awp_block ?_
  refine awp_for_mv (fun m (i : Nat) => [(9, i64 (i : Int)), (4, .sl 1 ((l.take i).map g) (.own k)), (6, .top), (10, .top), (11, .top), (12, .top), (13, .top), (14, .top), (15, .top), (16, .top), (17, .top), (18, .top), (19, .top)]) (fun m i => [none]) (fun i => upd1 out k (.row 3 1 i)) (fun i => i ≤ l.length) (fun i => l.length - i) 0 (Nat.zero_le _) ?_ fun m i hm hi => ?_
  · refine le_of_all ?_ ?_ (by first | rfl | (simp only [List.take_zero, List.map_nil]; rfl) | simp only [List.take_zero, List.map_nil]) rfl rfl rfl <;> simp only [patch, sl, List.take_zero, List.map_nil]
  simp only [patch, s_0, s_s]
  refine awp_seq_k fun K hK => awp_ev tab_ok [] ?_
  simp (maxSteps := 4000000) only [su, evLit, hbT, tab, thenA, blockA, reduceCtorEq, reduceIte, Nat.reduceEqDiff, Nat.reduceBEq, Int.reduceLE, Int.reduceToNat, Nat.reduceAdd, Nat.reduceLT, Nat.reduceLeDiff, List.take_zero, List.map_nil]
  repeat' (first | (with_reducible refine hK _ ?_; clear hK K) | with_reducible apply And.intro)
  refine awp_seq_k fun KC hKC => ?_
  refine awp_if rfl (fun ht => awp_skip (hKC _ ?_)) (fun hf => awp_exit (id ?_))
  rotate_left
  · simp only [thenA, blockA, if_true]
    refine hKB _ ?_
    clear hKB KB hKC KC
    have h_ib : i = l.length := by have := of_decide_eq_false hf; omega
    subst h_ib
    rw [List.take_length]
    refine awp_ret ?_
    exact ret_tmp (.inr rfl) rfl rfl rfl (fun _ _ => rfl) rfl
  clear hKC KC
  have hlt : i < l.length := by have := of_decide_eq_true ht; omega
  refine awp_seq_k fun KC hKC => awp_block ?_
  refine awp_seq_k fun K hK => awp_ev tab_ok [] ?_
  simp (maxSteps := 4000000) only [su, evLit, hbT, tab, thenA, blockA, reduceCtorEq, reduceIte, Nat.reduceEqDiff, Nat.reduceBEq, Int.reduceLE, Int.reduceToNat, Nat.reduceAdd, Nat.reduceLT, Nat.reduceLeDiff, locM hm, hlt, List.length_map, getD_map wrC l i [] hlt, splice_all, wrC]
  repeat' (first | (with_reducible refine hK _ ?_; clear hK K) | with_reducible apply And.intro)
  have lit : ∀ (σ : AState) (K : AV → List (Nat × Res) → Prop), evLit tab σ K none 26 1 [(0, val l[i])] = K (.sl 1 [g l[i]] .full) [] := fun σ K => evLit_one (T := tab) (ti := ti26) (te := ti3) rfl rfl rfl (by decide) (by decide) (hg _) (hgl _)
  refine awp_ev tab_ok [] ?_
  simp (maxSteps := 4000000) only [su, hbT, tab, thenA, blockA, reduceCtorEq, reduceIte, Nat.reduceEqDiff, Nat.reduceBEq, Int.reduceLE, Int.reduceToNat, Nat.reduceAdd, Nat.reduceLT, Nat.reduceLeDiff, locM hm, hb]
  refine call_pure (hp _ (List.getElem_mem hlt)) ?_
  simp (maxSteps := 4000000) only [su, hbT, tab, thenA, blockA, reduceCtorEq, reduceIte, Nat.reduceEqDiff, Nat.reduceBEq, Int.reduceLE, Int.reduceToNat, Nat.reduceAdd, Nat.reduceLT, Nat.reduceLeDiff, locM hm, lit, lk_out hkn, dm_out hkn, nx_out0 hkn, upd1_same, upd1_upd1, List.length_map, List.length_take, Nat.min_eq_left hi, show (i + 1) ≤ 140737488355328 by omega, show i + 1 ≤ 9223372036854775807 by omega, map_snoc g l i hlt]
  repeat refine And.intro (by omega) ?_
  refine hKC _ ?_
  clear hKC KC
  refine awp_ev tab_ok [] ?_
  simp (maxSteps := 4000000) only [su, evLit, hbT, tab, thenA, blockA, reduceCtorEq, reduceIte, Nat.reduceEqDiff, Nat.reduceBEq, Int.reduceLE, Int.reduceToNat, Nat.reduceAdd, Nat.reduceLT, Nat.reduceLeDiff, locM hm, addw (n := i) 1 1 rfl (by omega)]
  refine ⟨i + 1, by omega, by omega, ?_⟩
  refine le_move [false] (fun n_ => ?_) (fun n_ => ?_) <;> simp only [patch, sm]
theorem c_each_ww (k : Nat) (l : List Wr) (fid : FuncId) (caps : List AV) (val : Wr → AV) (g : Wr → List AV) (hb : hasBody Try.prog fid = True) (hl : l.length ≤ 1000000)
    (hg : ∀ x, (val x).parts = some (g x)) (hgl : ∀ x, (g x).length = 2) (hp : ∀ x, x ∈ l → ACall Try.prog fid (wrA x :: caps) [] (val x) []) :
    ACall Try.prog 83 [.sl 2 (l.map wrC) .sh, .fn (.func fid) caps] [(k, none)] (.sl 2 (l.map g) (.own k)) [(k, .row 52 2 l.length)] := by
  refine acall_of 1 Try.func83 rfl fun n out _ _ => ?_
  simp only [Try.ntmps83, List.length_cons, List.length_nil, List.length_map, List.length_replicate, rep_map, Nat.reduceAdd, Nat.reduceSub, List.replicate, List.cons_append, List.nil_append]
  rename_i hneeds hgv
  obtain ⟨hk, _⟩ := hneeds
  obtain ⟨hkn, _⟩ := hgv
  refine awp_seq_k fun K hK => awp_ev tab_ok [] ?_
  simp (maxSteps := 4000000) only [su, evLit, hbT, tab, thenA, blockA, reduceCtorEq, reduceIte, Nat.reduceEqDiff, Nat.reduceBEq, Int.reduceLE, Int.reduceToNat, Nat.reduceAdd, Nat.reduceLT, Nat.reduceLeDiff]
  repeat' (first | (with_reducible refine hK _ ?_; clear hK K) | with_reducible apply And.intro)
  refine awp_seq_k fun KB hKB => ?_
  refine awp_seq_k fun K hK => awp_ev tab_ok [] ?_
  simp (maxSteps := 4000000) only [su, evLit, hbT, tab, thenA, blockA, reduceCtorEq, reduceIte, Nat.reduceEqDiff, Nat.reduceBEq, Int.reduceLE, Int.reduceToNat, Nat.reduceAdd, Nat.reduceLT, Nat.reduceLeDiff]
  repeat' (first | (with_reducible refine hK _ ?_; clear hK K) | with_reducible apply And.intro)
  refine awp_le (le_rowN (k := k) 52 2 (by rw [dm_out hkn]; trivial) (by rw [lk_out hkn]; exact hk)) ?_
  rw [gv_out hkn]
  refine awp_block ?_
  refine awp_for_mv (fun m (i : Nat) => [(9, i64 (i : Int)), (4, .sl 2 ((l.take i).map g) (.own k)), (6, .top), (10, .top), (11, .top), (12, .top), (13, .top), (14, .top), (15, .top), (16, .top), (17, .top), (18, .top), (19, .top)]) (fun m i => [none]) (fun i => upd1 out k (.row 52 2 i)) (fun i => i ≤ l.length) (fun i => l.length - i) 0 (Nat.zero_le _) ?_ fun m i hm hi => ?_
  · refine le_of_all ?_ ?_ (by first | rfl | (simp only [List.take_zero, List.map_nil]; rfl) | simp only [List.take_zero, List.map_nil]) rfl rfl rfl <;> simp only [patch, sl, List.take_zero, List.map_nil]
  simp only [patch, s_0, s_s]
  refine awp_seq_k fun K hK => awp_ev tab_ok [] ?_
  simp (maxSteps := 4000000) only [su, evLit, hbT, tab, thenA, blockA, reduceCtorEq, reduceIte, Nat.reduceEqDiff, Nat.reduceBEq, Int.reduceLE, Int.reduceToNat, Nat.reduceAdd, Nat.reduceLT, Nat.reduceLeDiff, List.take_zero, List.map_nil]
  repeat' (first | (with_reducible refine hK _ ?_; clear hK K) | with_reducible apply And.intro)
  refine awp_seq_k fun KC hKC => ?_
  refine awp_if rfl (fun ht => awp_skip (hKC _ ?_)) (fun hf => awp_exit (id ?_))
  rotate_left
  · simp only [thenA, blockA, if_true]
    refine hKB _ ?_
    clear hKB KB hKC KC
    have h_ib : i = l.length := by have := of_decide_eq_false hf; omega
    subst h_ib
    rw [List.take_length]
    refine awp_ret ?_
    exact ret_tmp (.inr rfl) rfl rfl rfl (fun _ _ => rfl) rfl
  clear hKC KC
  have hlt : i < l.length := by have := of_decide_eq_true ht; omega
  refine awp_seq_k fun KC hKC => awp_block ?_
  refine awp_seq_k fun K hK => awp_ev tab_ok [] ?_
  simp (maxSteps := 4000000) only [su, evLit, hbT, tab, thenA, blockA, reduceCtorEq, reduceIte, Nat.reduceEqDiff, Nat.reduceBEq, Int.reduceLE, Int.reduceToNat, Nat.reduceAdd, Nat.reduceLT, Nat.reduceLeDiff, locM hm, hlt, List.length_map, getD_map wrC l i [] hlt, splice_all, wrC]
  repeat' (first | (with_reducible refine hK _ ?_; clear hK K) | with_reducible apply And.intro)
  have lit : ∀ (σ : AState) (K : AV → List (Nat × Res) → Prop), evLit tab σ K none 23 1 [(0, val l[i])] = K (.sl 2 [g l[i]] .full) [] := fun σ K => evLit_one (T := tab) (ti := ti23) (te := ti52) rfl rfl rfl (by decide) (by decide) (hg _) (hgl _)
  refine awp_ev tab_ok [] ?_
  simp (maxSteps := 4000000) only [su, hbT, tab, thenA, blockA, reduceCtorEq, reduceIte, Nat.reduceEqDiff, Nat.reduceBEq, Int.reduceLE, Int.reduceToNat, Nat.reduceAdd, Nat.reduceLT, Nat.reduceLeDiff, locM hm, hb]
  refine call_pure (hp _ (List.getElem_mem hlt)) ?_
  simp (maxSteps := 4000000) only [su, hbT, tab, thenA, blockA, reduceCtorEq, reduceIte, Nat.reduceEqDiff, Nat.reduceBEq, Int.reduceLE, Int.reduceToNat, Nat.reduceAdd, Nat.reduceLT, Nat.reduceLeDiff, locM hm, lit, lk_out hkn, dm_out hkn, nx_out0 hkn, upd1_same, upd1_upd1, List.length_map, List.length_take, Nat.min_eq_left hi, show (i + 1) ≤ 140737488355328 by omega, show i + 1 ≤ 9223372036854775807 by omega, map_snoc g l i hlt]
  repeat refine And.intro (by omega) ?_
  refine hKC _ ?_
  clear hKC KC
  refine awp_ev tab_ok [] ?_
  simp (maxSteps := 4000000) only [su, evLit, hbT, tab, thenA, blockA, reduceCtorEq, reduceIte, Nat.reduceEqDiff, Nat.reduceBEq, Int.reduceLE, Int.reduceToNat, Nat.reduceAdd, Nat.reduceLT, Nat.reduceLeDiff, locM hm, addw (n := i) 1 1 rfl (by omega)]
  refine ⟨i + 1, by omega, by omega, ?_⟩
  refine le_move [false] (fun n_ => ?_) (fun n_ => ?_) <;> simp only [patch, sm]
end Go.Proofs.Ytefkjdkalgemeaa
