/-
  Disks, writes; bytes copied, compared; lists made anew.
-/
import Derived.Test.YtefkjdkalgemeaaD1
namespace Go.Proofs.Ytefkjdkalgemeaa
set_option linter.unusedVariables false
set_option linter.unusedSimpArgs false
open Go Go.VS Tab
set_option maxHeartbeats 1000000

abbrev bs (l : List UInt8) : AV := .sl 1 (bytesAV l) .sh
/-- A write that waits: where to, and its bytes. -/
structure Wr where
  at' : Int
  data : List UInt8
structure Dsk where
  sectors : List (List UInt8)
  waits : List Wr
def secC (b : List UInt8) : List AV := [bs b]
def wrC (w : Wr) : List AV := [i64 w.at', bs w.data]
def dskC (d : Dsk) : List AV := [.sl 1 (d.sectors.map secC) .sh, .sl 2 (d.waits.map wrC) .sh]
def wrA (w : Wr) : AV := .agg (wrC w)
def dskA (d : Dsk) : AV := .agg (dskC d)
def intC (n : Int) : List AV := [i64 n]
theorem pick_sec (b : List UInt8) : pick false 1 (secC b) = some (bs b) := rfl
theorem pick_int (n : Int) : pick false 1 (intC n) = some (i64 n) := rfl
theorem pick_wr (w : Wr) : pick true 2 (wrC w) = some (wrA w) := rfl
theorem pick_dsk (d : Dsk) : pick true 2 (dskC d) = some (dskA d) := rfl

theorem c_clone (l : List UInt8) (hl : l.length ≤ 100000000) : ACall Try.prog 82 [bs l] [] (bs l) [] := by
  refine acall_split (fun h => ?_) ?_
  · obtain rfl : l = [] := by simpa [bytesAV] using h
    refine acall_of 0 Try.func82 rfl fun n out _ _ => ?_
    simp only [Try.ntmps82, List.length_cons, List.length_nil, List.length_map, List.length_replicate, rep_map, Nat.reduceAdd, Nat.reduceSub, List.replicate, List.cons_append, List.nil_append]
    refine awp_seq_k fun K hK => awp_ev tab_ok [] ?_
    simp (maxSteps := 4000000) only [sx, bne_self_eq_false, Nat.reduceEqDiff, hbT, evBuild, evLit, evMake, tab, List.nil_append, List.isEmpty_cons, List.isEmpty_nil, decide_true, decide_false, ne_eq, not_false_eq_true, List.drop_zero, List.drop_succ_cons, isShift, thenA, blockA, reduceCtorEq, eq_self, Option.isSome_some, if_true, if_false, reduceIte, List.contains_nil, List.contains_cons, Nat.reduceBEq, beq_self_eq_true, Int.reduceLE, Int.reduceToNat, List.map_cons, List.map_nil, List.length_cons, List.length_nil, List.length_map, List.length_replicate, Nat.reduceAdd, Nat.reduceLT, Nat.reduceLeDiff, List.getElem?_toArray, List.getElem?_cons_zero, List.getElem?_cons_succ, Option.join_some, Option.join_none]
    repeat' (first | (with_reducible refine hK _ ?_; clear hK K) | with_reducible apply And.intro)
    refine awp_seq_k fun KB hKB => ?_
    refine awp_seq_k fun K hK => awp_ev tab_ok [] ?_
    simp (maxSteps := 4000000) only [sx, bne_self_eq_false, Nat.reduceEqDiff, hbT, evBuild, evLit, evMake, tab, List.nil_append, List.isEmpty_cons, List.isEmpty_nil, decide_true, decide_false, ne_eq, not_false_eq_true, List.drop_zero, List.drop_succ_cons, isShift, thenA, blockA, reduceCtorEq, eq_self, Option.isSome_some, if_true, if_false, reduceIte, List.contains_nil, List.contains_cons, Nat.reduceBEq, beq_self_eq_true, Int.reduceLE, Int.reduceToNat, List.map_cons, List.map_nil, List.length_cons, List.length_nil, List.length_map, List.length_replicate, Nat.reduceAdd, Nat.reduceLT, Nat.reduceLeDiff, List.getElem?_toArray, List.getElem?_cons_zero, List.getElem?_cons_succ, Option.join_some, Option.join_none]
    repeat' (first | (with_reducible refine hK _ ?_; clear hK K) | with_reducible apply And.intro)
    refine awp_cond_t rfl ?_
    refine awp_seq_k fun K hK => awp_ev tab_ok [] ?_
    simp (maxSteps := 4000000) only [sx, bne_self_eq_false, Nat.reduceEqDiff, hbT, evBuild, evLit, evMake, tab, List.nil_append, List.isEmpty_cons, List.isEmpty_nil, decide_true, decide_false, ne_eq, not_false_eq_true, List.drop_zero, List.drop_succ_cons, isShift, thenA, blockA, reduceCtorEq, eq_self, Option.isSome_some, if_true, if_false, reduceIte, List.contains_nil, List.contains_cons, Nat.reduceBEq, beq_self_eq_true, Int.reduceLE, Int.reduceToNat, List.map_cons, List.map_nil, List.length_cons, List.length_nil, List.length_map, List.length_replicate, Nat.reduceAdd, Nat.reduceLT, Nat.reduceLeDiff, List.getElem?_toArray, List.getElem?_cons_zero, List.getElem?_cons_succ, Option.join_some, Option.join_none]
    repeat' (first | (with_reducible refine hK _ ?_; clear hK K) | with_reducible apply And.intro)
    refine awp_ret ?_
    exact ret_tmp_le (.inr rfl) rfl rfl rfl (fun _ _ => rfl) ((le_nil_iff _ _).2 trivial) rfl
  · refine acall_of 0 Try.func82 rfl fun n out _ _ => ?_
    simp only [Try.ntmps82, List.length_cons, List.length_nil, List.length_map, List.length_replicate, rep_map, Nat.reduceAdd, Nat.reduceSub, List.replicate, List.cons_append, List.nil_append]
    refine awp_seq_k fun K hK => awp_ev tab_ok [] ?_
    simp (maxSteps := 4000000) only [sx, bne_self_eq_false, Nat.reduceEqDiff, hbT, evBuild, evLit, evMake, tab, List.nil_append, List.isEmpty_cons, List.isEmpty_nil, decide_true, decide_false, ne_eq, not_false_eq_true, List.drop_zero, List.drop_succ_cons, isShift, thenA, blockA, reduceCtorEq, eq_self, Option.isSome_some, if_true, if_false, reduceIte, List.contains_nil, List.contains_cons, Nat.reduceBEq, beq_self_eq_true, Int.reduceLE, Int.reduceToNat, List.map_cons, List.map_nil, List.length_cons, List.length_nil, List.length_map, List.length_replicate, Nat.reduceAdd, Nat.reduceLT, Nat.reduceLeDiff, List.getElem?_toArray, List.getElem?_cons_zero, List.getElem?_cons_succ, Option.join_some, Option.join_none]
    repeat' (first | (with_reducible refine hK _ ?_; clear hK K) | with_reducible apply And.intro)
    refine awp_seq_k fun KB hKB => ?_
    refine awp_seq_k fun K hK => awp_ev tab_ok [] ?_
    simp (maxSteps := 4000000) only [sx, bne_self_eq_false, Nat.reduceEqDiff, hbT, evBuild, evLit, evMake, tab, List.nil_append, List.isEmpty_cons, List.isEmpty_nil, decide_true, decide_false, ne_eq, not_false_eq_true, List.drop_zero, List.drop_succ_cons, isShift, thenA, blockA, reduceCtorEq, eq_self, Option.isSome_some, if_true, if_false, reduceIte, List.contains_nil, List.contains_cons, Nat.reduceBEq, beq_self_eq_true, Int.reduceLE, Int.reduceToNat, List.map_cons, List.map_nil, List.length_cons, List.length_nil, List.length_map, List.length_replicate, Nat.reduceAdd, Nat.reduceLT, Nat.reduceLeDiff, List.getElem?_toArray, List.getElem?_cons_zero, List.getElem?_cons_succ, Option.join_some, Option.join_none]
    repeat' (first | (with_reducible refine hK _ ?_; clear hK K) | with_reducible apply And.intro)
    refine awp_cond_f rfl (awp_skip (hKB _ ?_))
    refine awp_seq_k fun K hK => awp_ev tab_ok [] ?_
    simp (maxSteps := 4000000) only [sx, bne_self_eq_false, Nat.reduceEqDiff, hbT, evBuild, evLit, evMake, tab, List.nil_append, List.isEmpty_cons, List.isEmpty_nil, decide_true, decide_false, ne_eq, not_false_eq_true, List.drop_zero, List.drop_succ_cons, isShift, thenA, blockA, reduceCtorEq, eq_self, Option.isSome_some, if_true, if_false, reduceIte, List.contains_nil, List.contains_cons, Nat.reduceBEq, beq_self_eq_true, Int.reduceLE, Int.reduceToNat, List.map_cons, List.map_nil, List.length_cons, List.length_nil, List.length_map, List.length_replicate, Nat.reduceAdd, Nat.reduceLT, Nat.reduceLeDiff, List.getElem?_toArray, List.getElem?_cons_zero, List.getElem?_cons_succ, Option.join_some, Option.join_none, bytes_length, show l.length ≤ 140737488355328 by omega, show l.length ≤ 9223372036854775807 by omega]
    repeat' (first | (with_reducible refine hK _ ?_; clear hK K) | with_reducible apply And.intro)
    refine awp_ret ?_
    refine ret_tmp_le (.inr rfl) rfl rfl rfl (fun _ _ => rfl) (.sh _ _ _) rfl

theorem c_bequal (a b : List UInt8) : ACall Try.prog 78 [bs a, bs b] [] (bool (a == b)) [] := by
  refine acall_of 0 Try.func78 rfl fun n out _ _ => ?_
  simp only [Try.ntmps78, List.length_cons, List.length_nil, List.length_map, List.length_replicate, rep_map, Nat.reduceAdd, Nat.reduceSub, List.replicate, List.cons_append, List.nil_append]
  refine awp_seq_k fun K hK => awp_ev tab_ok [] ?_
  simp (maxSteps := 4000000) only [sx, bne_self_eq_false, Nat.reduceEqDiff, hbT, evBuild, evLit, evMake, tab, List.nil_append, List.isEmpty_cons, List.isEmpty_nil, decide_true, decide_false, ne_eq, not_false_eq_true, List.drop_zero, List.drop_succ_cons, isShift, thenA, blockA, reduceCtorEq, eq_self, Option.isSome_some, if_true, if_false, reduceIte, List.contains_nil, List.contains_cons, Nat.reduceBEq, beq_self_eq_true, Int.reduceLE, Int.reduceToNat, List.map_cons, List.map_nil, List.length_cons, List.length_nil, List.length_map, List.length_replicate, Nat.reduceAdd, Nat.reduceLT, Nat.reduceLeDiff, List.getElem?_toArray, List.getElem?_cons_zero, List.getElem?_cons_succ, Option.join_some, Option.join_none]
  repeat' (first | (with_reducible refine hK _ ?_; clear hK K) | with_reducible apply And.intro)
  refine awp_seq_k fun K hK => awp_ev tab_ok [] ?_
  simp (maxSteps := 4000000) only [sx, bne_self_eq_false, Nat.reduceEqDiff, hbT, evBuild, evLit, evMake, tab, List.nil_append, List.isEmpty_cons, List.isEmpty_nil, decide_true, decide_false, ne_eq, not_false_eq_true, List.drop_zero, List.drop_succ_cons, isShift, thenA, blockA, reduceCtorEq, eq_self, Option.isSome_some, if_true, if_false, reduceIte, List.contains_nil, List.contains_cons, Nat.reduceBEq, beq_self_eq_true, Int.reduceLE, Int.reduceToNat, List.map_cons, List.map_nil, List.length_cons, List.length_nil, List.length_map, List.length_replicate, Nat.reduceAdd, Nat.reduceLT, Nat.reduceLeDiff, List.getElem?_toArray, List.getElem?_cons_zero, List.getElem?_cons_succ, Option.join_some, Option.join_none, ex_bytes, str_eq]
  repeat' (first | (with_reducible refine hK _ ?_; clear hK K) | with_reducible apply And.intro)
  refine awp_ret ?_
  exact ret_tmp (.inr rfl) rfl rfl rfl (fun _ _ => rfl) rfl
end Go.Proofs.Ytefkjdkalgemeaa
