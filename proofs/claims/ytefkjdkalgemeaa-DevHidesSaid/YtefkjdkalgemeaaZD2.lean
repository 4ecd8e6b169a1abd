/-
  Disks, writes; bytes copied, compared; lists made anew.
-/
import Derived.Test.YtefkjdkalgemeaaZGA
import Derived.Test.YtefkjdkalgemeaaZD1
namespace Go.Proofs.Ytefkjdkalgemeaa
set_option linter.unusedVariables false
set_option linter.unusedSimpArgs false
open Go Go.VS Tab
set_option maxHeartbeats 1000000
abbrev bs (l : List UInt8) : AV := .sl 1 (bytesAV l) .sh
structure Wr where
  at' : Int
  data : List UInt8
structure Dsk where
  sectors : List (List UInt8)
  waits : List Wr
def secC (b : List UInt8) : List AV := [bs b]
def wrC (w : Wr) : List AV := [i64 w.at', bs w.data]
def dskC (d : Dsk) : List AV := [.sl 1 (d.sectors.map secC) .sh, .sl 2 (d.waits.map wrC) .sh]
def wrA (w : Wr) : AV := .agg (wrC w)
def dskA (d : Dsk) : AV := .agg (dskC d)
def intC (n : Int) : List AV := [i64 n]
theorem pick_sec (b : List UInt8) : pick false 1 (secC b) = some (bs b) := rfl
theorem pick_int (n : Int) : pick false 1 (intC n) = some (i64 n) := rfl
theorem c_clone (l : List UInt8) (hl : l.length ≤ 100000000) : ACall Try.prog 82 [bs l] [] (bs l) [] := by
  refine acall_split (fun h => ?_) ?_
  · obtain rfl : l = [] := by simpa [bytesAV] using h
    refine acall_of 0 Try.func82 rfl fun n out _ _ => ?_
    simp only [Try.ntmps82, List.length_cons, List.length_nil, List.length_map, List.length_replicate, rep_map, Nat.reduceAdd, Nat.reduceSub, List.replicate, List.cons_append, List.nil_append]
    refine awp_seq_k fun K hK => awp_ev tab_ok [] ?_
    simp (maxSteps := 4000000) only [su, evLit, hbT, tab, thenA, blockA, reduceCtorEq, reduceIte, Nat.reduceEqDiff, Nat.reduceBEq, Int.reduceLE, Int.reduceToNat, Nat.reduceAdd, Nat.reduceLT, Nat.reduceLeDiff]
    repeat' (first | (with_reducible refine hK _ ?_; clear hK K) | with_reducible apply And.intro)
    refine awp_seq_k fun KB hKB => ?_
    refine awp_seq_k fun K hK => awp_ev tab_ok [] ?_
    simp (maxSteps := 4000000) only [su, evLit, hbT, tab, thenA, blockA, reduceCtorEq, reduceIte, Nat.reduceEqDiff, Nat.reduceBEq, Int.reduceLE, Int.reduceToNat, Nat.reduceAdd, Nat.reduceLT, Nat.reduceLeDiff]
    repeat' (first | (with_reducible refine hK _ ?_; clear hK K) | with_reducible apply And.intro)
    refine awp_cond_t rfl ?_
    refine awp_seq_k fun K hK => awp_ev tab_ok [] ?_
    simp (maxSteps := 4000000) only [su, evLit, hbT, tab, thenA, blockA, reduceCtorEq, reduceIte, Nat.reduceEqDiff, Nat.reduceBEq, Int.reduceLE, Int.reduceToNat, Nat.reduceAdd, Nat.reduceLT, Nat.reduceLeDiff]
    repeat' (first | (with_reducible refine hK _ ?_; clear hK K) | with_reducible apply And.intro)
    refine awp_ret ?_
    exact ret_tmp_le (.inr rfl) rfl rfl rfl (fun _ _ => rfl) ((le_nil_iff _ _).2 trivial) rfl
  · refine acall_of 0 Try.func82 rfl fun n out _ _ => ?_
    simp only [Try.ntmps82, List.length_cons, List.length_nil, List.length_map, List.length_replicate, rep_map, Nat.reduceAdd, Nat.reduceSub, List.replicate, List.cons_append, List.nil_append]
    refine awp_seq_k fun K hK => awp_ev tab_ok [] ?_
    simp (maxSteps := 4000000) only [su, evLit, hbT, tab, thenA, blockA, reduceCtorEq, reduceIte, Nat.reduceEqDiff, Nat.reduceBEq, Int.reduceLE, Int.reduceToNat, Nat.reduceAdd, Nat.reduceLT, Nat.reduceLeDiff]
    repeat' (first | (with_reducible refine hK _ ?_; clear hK K) | with_reducible apply And.intro)
    refine awp_seq_k fun KB hKB => ?_
    refine awp_seq_k fun K hK => awp_ev tab_ok [] ?_
    simp (maxSteps := 4000000) only [su, evLit, hbT, tab, thenA, blockA, reduceCtorEq, reduceIte, Nat.reduceEqDiff, Nat.reduceBEq, Int.reduceLE, Int.reduceToNat, Nat.reduceAdd, Nat.reduceLT, Nat.reduceLeDiff]
    repeat' (first | (with_reducible refine hK _ ?_; clear hK K) | with_reducible apply And.intro)
    refine awp_cond_f rfl (awp_skip (hKB _ ?_))
    refine awp_seq_k fun K hK => awp_ev tab_ok [] ?_
    simp (maxSteps := 4000000) only [su, evLit, hbT, tab, thenA, blockA, reduceCtorEq, reduceIte, Nat.reduceEqDiff, Nat.reduceBEq, Int.reduceLE, Int.reduceToNat, Nat.reduceAdd, Nat.reduceLT, Nat.reduceLeDiff, bytes_length, show l.length ≤ 140737488355328 by omega, show l.length ≤ 9223372036854775807 by omega]
    repeat' (first | (with_reducible refine hK _ ?_; clear hK K) | with_reducible apply And.intro)
    refine awp_ret ?_
    refine ret_tmp_le (.inr rfl) rfl rfl rfl (fun _ _ => rfl) (.sh _ _ _) rfl
end Go.Proofs.Ytefkjdkalgemeaa
