/-
  A disk of noughts; the laws' small functions.
-/
import Derived.Test.YtefkjdkalgemeaaZGA
import Derived.Test.YtefkjdkalgemeaaZD10
namespace Go.Proofs.Ytefkjdkalgemeaa
set_option linter.unusedVariables false
set_option linter.unusedSimpArgs false
open Go Go.VS Tab
set_option maxHeartbeats 1000000
set_option maxRecDepth 4000
def z128 : List UInt8 := List.replicate 128 0
def newD : Dsk := ⟨List.replicate 32 z128, []⟩
theorem mk128 (σ : AState) (K : AV → List (Nat × Res) → Prop) : evMake tab σ K none 37 (.val (.int .i64 128)) (.val (.int .i64 128)) = K (.sl 1 (bytesAV z128) .full) [] := by
  have e : chunk 1 128 (repZero [Value.int .u8 0] (128 * 1)) = bytesAV z128 := rfl
  simp only [evMake, tab]
  simp [e]
theorem c_new : ACall Try.prog 32 [] [] (dskA newD) [] := by
  refine acall_of 2 Try.func32 rfl fun n out _ _ => ?_
  simp only [Try.ntmps32, List.length_cons, List.length_nil, List.length_map, List.length_replicate, rep_map, Nat.reduceAdd, Nat.reduceSub, List.replicate, List.cons_append, List.nil_append]
  refine awp_seq_k fun K hK => awp_ev tab_ok [] ?_
  simp (maxSteps := 4000000) only [su, evLit, hbT, tab, thenA, blockA, reduceCtorEq, reduceIte, Nat.reduceEqDiff, Nat.reduceBEq, Int.reduceLE, Int.reduceToNat, Nat.reduceAdd, Nat.reduceLT, Nat.reduceLeDiff]
  repeat' (first | (with_reducible refine hK _ ?_; clear hK K) | with_reducible apply And.intro)
  refine awp_seq_k fun KB hKB => ?_
  refine awp_seq_k fun K hK => awp_ev tab_ok [] ?_
  simp (maxSteps := 4000000) only [su, evLit, hbT, tab, thenA, blockA, reduceCtorEq, reduceIte, Nat.reduceEqDiff, Nat.reduceBEq, Int.reduceLE, Int.reduceToNat, Nat.reduceAdd, Nat.reduceLT, Nat.reduceLeDiff]
  repeat' (first | (with_reducible refine hK _ ?_; clear hK K) | with_reducible apply And.intro)
  refine awp_le (le_row (i := 1) 37 1 rfl) ?_
  simp only [s_0, s_s]
  refine awp_block ?_
  refine awp_for_g (fun i : Nat => [(1, i64 (i : Int)), (2, .top), (3, .top), (4, .top), (5, .top), (6, .top), (7, .top), (8, .top), (9, .top)]) (fun i => [some (.box 25 [.sl 1 ((List.replicate i z128).map secC) (.own (n + 1)), .sl 0 [] .nil]), some (.row 37 1 i)]) (fun i => out) (fun i => i ≤ 32) (fun i => 32 - i) 0 (Nat.zero_le _) ?_ fun i hi => ?_
  · refine le_of_all ?_ ?_ (by first | rfl | (simp only [List.replicate_zero, List.map_nil]; rfl) | simp only [List.replicate_zero, List.map_nil]) rfl rfl rfl <;> simp only [patch, sl, List.replicate_zero, List.map_nil]
  simp only [patch, s_0, s_s]
  refine awp_seq_k fun K hK => awp_ev tab_ok [] ?_
  simp (maxSteps := 4000000) only [su, evLit, hbT, tab, thenA, blockA, reduceCtorEq, reduceIte, Nat.reduceEqDiff, Nat.reduceBEq, Int.reduceLE, Int.reduceToNat, Nat.reduceAdd, Nat.reduceLT, Nat.reduceLeDiff, List.replicate_zero, List.map_nil]
  repeat' (first | (with_reducible refine hK _ ?_; clear hK K) | with_reducible apply And.intro)
  refine awp_seq_k fun KC hKC => ?_
  refine awp_if rfl (fun ht => awp_skip (hKC _ ?_)) (fun hf => awp_exit (id ?_))
  rotate_left
  · simp only [thenA, blockA, if_true]
    refine hKB _ ?_
    clear hKB KB hKC KC
    have hi32 : i = 32 := by have := of_decide_eq_false hf; omega
    subst hi32
    refine awp_ret ?_
    exact ret_cell_le (.inr rfl) rfl rfl rfl (fun _ _ => rfl) ok25 (k := n + 0) (off := 0) rfl (dom_loc _ (by simp)) (look_loc _ (Nat.le_refl _) 0) rfl (by simp only [dskA, dskC, newD, List.map_nil, patch, sl])
  clear hKC KC
  have hlt : i < 32 := by have := of_decide_eq_true ht; omega
  refine awp_seq_k fun KC hKC => awp_block ?_
  have lit : ∀ (σ : AState) (K : AV → List (Nat × Res) → Prop), evLit tab σ K none 22 1 [(0, .sl 1 (bytesAV z128) .full)] = K (.sl 1 [[.sl 1 (bytesAV z128) .full]] .full) [] := fun σ K => evLit_one (T := tab) (ti := ti22) (te := ti37) rfl rfl rfl (by decide) (by decide) rfl rfl
  refine awp_ev_draw tab_ok [] [[], [0], [], [], [1], [], [0]] [[], [], [], [], [1], [], [0]] follows (by kernel_rfl) (by decide) (by decide) (by kernel_rfl) ?_
  simp (maxSteps := 4000000) only [sx, sy, ne_eq, eq_self, if_true, if_false, Nat.reduceEqDiff, hbT, evBuild, tab, isShift, thenA, blockA, reduceCtorEq, reduceIte, Nat.reduceBEq, Int.reduceLE, Int.reduceToNat, Nat.reduceAdd, Nat.reduceLT, Nat.reduceLeDiff, mk128, lit, List.length_map, List.length_replicate, show i + 1 ≤ 9223372036854775807 by omega]
  repeat refine And.intro (by omega) ?_
  repeat refine And.intro (by omega) ?_
  refine hKC _ ?_
  clear hKC KC
  refine awp_ev tab_ok [] ?_
  simp (maxSteps := 4000000) only [su, evLit, hbT, tab, thenA, blockA, reduceCtorEq, reduceIte, Nat.reduceEqDiff, Nat.reduceBEq, Int.reduceLE, Int.reduceToNat, Nat.reduceAdd, Nat.reduceLT, Nat.reduceLeDiff, addw (n := i) 1 1 rfl (by omega)]
  refine ⟨i + 1, by omega, by omega, ?_⟩
  rw [List.replicate_succ', List.map_append]
  refine le_of_all ?_ ?_ rfl rfl rfl rfl <;> simp only [patch, sl, secC, List.map_cons, List.map_nil]
def ofB (x : UInt8) : List UInt8 := List.replicate 128 x
theorem c_of (x : UInt8) : ACall Try.prog 35 [b8 x] [] (bs (ofB x)) [] := by
  refine acall_of 1 Try.func35 rfl fun n out _ _ => ?_
  simp only [Try.ntmps35, List.length_cons, List.length_nil, List.length_map, List.length_replicate, rep_map, Nat.reduceAdd, Nat.reduceSub, List.replicate, List.cons_append, List.nil_append]
  refine awp_seq_k fun K hK => awp_ev tab_ok [] ?_
  simp (maxSteps := 4000000) only [su, evLit, hbT, tab, thenA, blockA, reduceCtorEq, reduceIte, Nat.reduceEqDiff, Nat.reduceBEq, Int.reduceLE, Int.reduceToNat, Nat.reduceAdd, Nat.reduceLT, Nat.reduceLeDiff]
  repeat' (first | (with_reducible refine hK _ ?_; clear hK K) | with_reducible apply And.intro)
  refine awp_seq_k fun K hK => awp_ev tab_ok [] ?_
  simp (maxSteps := 4000000) only [su, evLit, hbT, tab, thenA, blockA, reduceCtorEq, reduceIte, Nat.reduceEqDiff, Nat.reduceBEq, Int.reduceLE, Int.reduceToNat, Nat.reduceAdd, Nat.reduceLT, Nat.reduceLeDiff]
  repeat' (first | (with_reducible refine hK _ ?_; clear hK K) | with_reducible apply And.intro)
  refine awp_le (le_row (i := 0) 5 1 rfl) ?_
  simp only [s_0, s_s]
  refine awp_seq_k fun KB hKB => ?_
  refine awp_block ?_
  refine awp_for_g (fun i : Nat => [(3, .sl 1 (bytesAV (List.replicate i x)) (.own (n + 0))), (4, .top), (5, .top), (6, .top), (7, .top), (8, .top), (9, .top), (10, .top)]) (fun i => [some (.row 5 1 i)]) (fun i => out) (fun i => i ≤ 128) (fun i => 128 - i) 0 (Nat.zero_le _) ?_ fun i hi => ?_
  · refine le_of_all ?_ ?_ (by first | rfl | (simp only [List.replicate_zero, bytes_nil, bytes_length, List.length_replicate]; rfl) | simp only [List.replicate_zero, bytes_nil, bytes_length, List.length_replicate]) rfl rfl rfl <;> simp only [patch, sl, List.replicate_zero, bytes_nil, bytes_length, List.length_replicate]
  simp only [patch, s_0, s_s]
  refine awp_seq_k fun KC hKC => ?_
  refine awp_seq_k fun K hK => awp_ev tab_ok [] ?_
  simp (maxSteps := 4000000) only [su, evLit, hbT, tab, thenA, blockA, reduceCtorEq, reduceIte, Nat.reduceEqDiff, Nat.reduceBEq, Int.reduceLE, Int.reduceToNat, Nat.reduceAdd, Nat.reduceLT, Nat.reduceLeDiff, List.replicate_zero, bytes_nil, bytes_length, List.length_replicate]
  repeat' (first | (with_reducible refine hK _ ?_; clear hK K) | with_reducible apply And.intro)
  refine awp_if rfl (fun ht => awp_skip (hKC _ ?_)) (fun hf => awp_exit (id ?_))
  rotate_left
  · simp only [thenA, blockA, if_true]
    refine hKB _ ?_
    clear hKB KB hKC KC
    have hi32 : i = 128 := by have := of_decide_eq_false hf; omega
    subst hi32
    refine awp_seq_k fun K hK => awp_ev tab_ok [] ?_
    simp (maxSteps := 4000000) only [su, evLit, hbT, tab, thenA, blockA, reduceCtorEq, reduceIte, Nat.reduceEqDiff, Nat.reduceBEq, Int.reduceLE, Int.reduceToNat, Nat.reduceAdd, Nat.reduceLT, Nat.reduceLeDiff]
    repeat' (first | (with_reducible refine hK _ ?_; clear hK K) | with_reducible apply And.intro)
    refine awp_ret ?_
    exact ret_tmp_le (.inr rfl) rfl rfl rfl (fun _ _ => rfl) (.sh _ _ _) rfl
  clear hKC KC
  have hlt : i < 128 := by have := of_decide_eq_true ht; omega
  refine awp_block ?_
  refine awp_ev tab_ok [] ?_
  simp (maxSteps := 4000000) only [su, evLit, hbT, tab, thenA, blockA, reduceCtorEq, reduceIte, Nat.reduceEqDiff, Nat.reduceBEq, Int.reduceLE, Int.reduceToNat, Nat.reduceAdd, Nat.reduceLT, Nat.reduceLeDiff, bytes_length, List.length_replicate, show i + 1 ≤ 140737488355328 by omega, show i + 1 ≤ 9223372036854775807 by omega, bytes_snoc, List.replicate_succ'.symm]
  refine ⟨i + 1, by omega, by omega, ?_⟩
  refine le_of_all ?_ ?_ rfl rfl rfl rfl <;> simp only [patch, sl]
def runs : List Nat → Nat → Nat
  | [], s => s
  | x :: l, s => if s ≤ 200000 then runs l (s + x) else s
theorem runs_le : ∀ (l : List Nat) (s : Nat), s ≤ runs l s
  | [], s => Nat.le_refl _
  | x :: l, s => by
    rw [runs]; split
    · have := runs_le l (s + x); omega
    · exact Nat.le_refl _
theorem runs_all : ∀ (l : List Nat) (s : Nat), runs l s ≤ 200000 → ∀ x, x ∈ l → x ≤ 200000
  | [], _, _, x, hx => by simp at hx
  | y :: l, s, h, x, hx => by
    rw [runs] at h
    split at h
    · rcases List.mem_cons.1 hx with rfl | hx
      · have := runs_le l (s + x); omega
      · exact runs_all l _ h x hx
    · omega
theorem runs_big (l : List Nat) {s : Nat} (h : ¬ s ≤ 200000) : runs l s = s := by
  cases l with
  | nil => rfl
  | cons x l => rw [runs, if_neg h]
def great (d : Dsk) : Bool := decide (runs (d.waits.map fun w => w.data.length) (runs (d.sectors.map List.length) (d.sectors.length + d.waits.length)) > 200000) || decide (d.sectors.length + d.waits.length > 600)
theorem small_of {d : Dsk} (h : great d = false) : Small d ∧ d.sectors.length + d.waits.length ≤ 600 := by
  simp only [great, Bool.or_eq_false_iff, decide_eq_false_iff_not, Nat.not_lt] at h
  obtain ⟨h1, h2⟩ := h
  have h3 := Nat.le_trans (runs_le _ _) h1
  exact ⟨⟨by omega, by omega, fun b hb => by have := runs_all _ _ h3 b.length (List.mem_map.2 ⟨b, hb, rfl⟩); omega, fun w hw => by have := runs_all _ _ h1 w.data.length (List.mem_map.2 ⟨w, hw, rfl⟩); omega⟩, by omega⟩
end Go.Proofs.Ytefkjdkalgemeaa
