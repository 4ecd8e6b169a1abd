/-
  A disk copied, one of its sectors in memory that may be written.
-/
import Derived.Test.YtefkjdkalgemeaaZGA
import Derived.Test.YtefkjdkalgemeaaZD27
namespace Go.Proofs.Ytefkjdkalgemeaa
set_option linter.unusedVariables false
set_option linter.unusedSimpArgs false
open Go Go.VS Tab
set_option maxHeartbeats 1000000
set_option maxRecDepth 4000
theorem cD_two (wr : List Nat) (R : AState → Prop) (fr : List AV) (lo : List (Option Res)) (out : Nat → Option Res) (n0 n : Nat) (df : List Deferred) (d : Option Tmp) (r : AV) (x y : Nat) (p q : Res) :
    contD wr R ⟨fr, lo, out, n0, n, df⟩ d r [(n + x, p), (n + y, q)] = ((wr.contains x = true ∧ wr.contains y = true) ∧ R (AState.next ⟨fr, lo, out, n0, n, df⟩ d r [(n + x, p), (n + y, q)])) := by
  simp only [contD, List.mem_cons, List.not_mem_nil, or_false, forall_eq_or_imp, forall_eq, List.contains_iff_mem, Nat.add_left_cancel_iff, exists_eq_right', eq_iff_iff]
theorem nx_two (fr : List AV) (lo : List (Option Res)) (out : Nat → Option Res) (n : Nat) (df : List Deferred) (t : Tmp) (r : AV) (x y : Nat) (p q : Res) :
    AState.next ⟨fr, lo, out, n, n, df⟩ (some t) r [(n + x, p), (n + y, q)] = ⟨fr.set t r, (lo.set x (some p)).set y (some q), out, n, n, df⟩ := by
  have h1 : ¬ n + x < n := by omega
  have h2 : ¬ n + y < n := by omega
  simp only [AState.next, AState.put, AState.give, if_neg h1, if_neg h2, Nat.add_sub_cancel_left]
theorem c_twinZ (k kz : Nat) (d : Dsk) (hd : Small d) (z : Nat) (hz : z < d.sectors.length) (hz0 : 0 < (d.sectors[z]).length) : ACall Try.prog 40 [dskA d] [(kz, none)]
    (.agg [.sl 1 ((d.sectors.map secC).set z [.bsl kz 0 (d.sectors[z]).length false]) .sh, .sl 2 (d.waits.map wrC) .sh]) [(kz, .box 5 ((d.sectors[z]).map b8))] := by
  refine acall_of 5 Try.func40 rfl fun n out _ _ => ?_
  simp only [Try.ntmps40, List.length_cons, List.length_nil, List.length_map, List.length_replicate, rep_map, Nat.reduceAdd, Nat.reduceSub, List.replicate, List.cons_append, List.nil_append]
  rename_i hneeds hgv
  obtain ⟨hkz, _⟩ := hneeds
  obtain ⟨hkzn, _⟩ := hgv
  refine awp_seq_k fun K hK => awp_ev tab_ok [] ?_
  simp (maxSteps := 4000000) only [su, evLit, hbT, tab, thenA, blockA, reduceCtorEq, reduceIte, Nat.reduceEqDiff, Nat.reduceBEq, Int.reduceLE, Int.reduceToNat, Nat.reduceAdd, Nat.reduceLT, Nat.reduceLeDiff, dskA, dskC]
  repeat' (first | (with_reducible refine hK _ ?_; clear hK K) | with_reducible apply And.intro)
  refine awp_seq_k fun K hK => awp_ev_draw tab_ok [] [[], [0], [2, 4], [], [0], [3], [], [1]] [[], [], [2, 4], [], [], [3], [], [1]] follows (by kernel_rfl) (by decide) (by decide) (by kernel_rfl) ?_
  simp (maxSteps := 4000000) only [su, evLit, hbT, tab, thenA, blockA, reduceCtorEq, reduceIte, Nat.reduceEqDiff, Nat.reduceBEq, Int.reduceLE, Int.reduceToNat, Nat.reduceAdd, Nat.reduceLT, Nat.reduceLeDiff]
  repeat' (first | (with_reducible refine hK _ ?_; clear hK K) | with_reducible apply And.intro)
  refine ⟨_, _, _, c_eachZ_b (n + 2) (n + 4) (by omega) d.sectors z hz (by have := hd.s; omega) hd.sb hz0, ?_, ?_, ?_, ?_⟩
  · exact ⟨look_loc _ (Nat.le_refl _) 2, look_loc _ (Nat.le_refl _) 4, trivial⟩
  · exact ⟨dom_loc _ (by simp), dom_loc _ (by simp), trivial⟩
  · intro x hx
    simp only [List.mem_cons, List.not_mem_nil, or_false] at hx
    rcases hx with rfl | rfl
    · exact ⟨dom_loc _ (by simp), by simp⟩
    · exact ⟨dom_loc _ (by simp), by simp⟩
  simp (maxSteps := 4000000) only [su, evLit, hbT, tab, thenA, blockA, reduceCtorEq, reduceIte, Nat.reduceEqDiff, Nat.reduceBEq, Int.reduceLE, Int.reduceToNat, Nat.reduceAdd, Nat.reduceLT, Nat.reduceLeDiff, cD_two, nx_two]
  refine call_one (c_each_ww (n + 3) d.waits _ [] wrA wrC (hb0 _ (by decide) (by decide)) (by have := hd.w; omega) (fun _ => rfl) (fun _ => rfl) fun w hw => c_twinW w (by have := hd.wb w hw; omega)) (look_loc _ (Nat.le_refl _) 3) (dom_loc _ (by simp)) (by simp) ?_
  simp (maxSteps := 4000000) only [su, evLit, hbT, tab, thenA, blockA, reduceCtorEq, reduceIte, Nat.reduceEqDiff, Nat.reduceBEq, Int.reduceLE, Int.reduceToNat, Nat.reduceAdd, Nat.reduceLT, Nat.reduceLeDiff]
  repeat' (first | (with_reducible refine hK _ ?_; clear hK K) | with_reducible apply And.intro)
  have hmv : Mv [true] (n + 4) kz (.sl 1 ((d.sectors.map secC).set z [.bsl (n + 4) 0 (d.sectors[z]).length false]) (.own (n + 2))) (.sl 1 ((d.sectors.map secC).set z [.bsl kz 0 (d.sectors[z]).length false]) .sh) := mv_slE (mvE_set z ⟨Mv.bsl (n := n + 4) (n' := kz) 0 0 _ false rfl, trivial⟩)
  refine awp_le (le_toOutP (i := 4) (k := kz) [] (lo1 := [some (.box 25 (dskC d)), some (.box 25 [.sl 1 ((d.sectors.map secC).set z [.bsl kz 0 (d.sectors[z]).length false]) .sh, .sl 2 (d.waits.map wrC) .sh]), some (.row 37 1 d.sectors.length), some (.row 52 2 d.waits.length), some (.box 5 ((d.sectors[z]).map b8))]) rfl hkzn hkz ((mvL_refl _).2 trivial) ?_) ?_
  · simp only [mvRL_cons, mvRL_nil, mvRes_same, mvRes_box, mvL_cons, mvL_nil, mvL_refl, mv_sh_iff, mv_le_iff, dskC, hmv, true_and, and_true]
  simp only [patch, s_0, s_s, zombie]
  refine awp_ret ?_
  exact ret_cell_le (.inr rfl) rfl rfl rfl (fun _ _ => rfl) ok25 (k := n + 1) (off := 0) rfl (dom_loc _ (by simp)) (look_loc _ (Nat.le_refl _) 1) rfl (by simp only [patch, sl])
end Go.Proofs.Ytefkjdkalgemeaa
