/-
  The law DevHides.
-/
import Derived.Test.YtefkjdkalgemeaaZGA
import Derived.Test.YtefkjdkalgemeaaZE21
import Derived.Test.YtefkjdkalgemeaaZVsBox
namespace Go.Proofs.Ytefkjdkalgemeaa
set_option linter.unusedVariables false
set_option linter.unusedSimpArgs false
open Go Go.VS Tab
set_option maxHeartbeats 32000000
set_option maxRecDepth 8000
theorem c_lawHides (d : Dsk) (kp ko : List Int) (z : Int) (hd : DOk d) : ACall Try.prog 5 [dskA d, .sl 1 (kp.map intC) .sh, .sl 1 (ko.map intC) .sh, i64 z] [] (bool true) [] := by
  have cg := c_great' d hd
  simp only [dskA, dskC] at cg
  by_cases g1 : great d = true
  · rw [g1] at cg
    refine acall_of 6 Try.func5 rfl fun n out _ _ => ?_
    simp only [Try.ntmps5, List.length_cons, List.length_nil, List.length_map, List.length_replicate, rep_map, Nat.reduceAdd, Nat.reduceSub, List.replicate, List.cons_append, List.nil_append]
    repeat' (first | (with_reducible first | refine awp_seq_k fun K hK => ?_ | refine awp_ev tab_ok [] ?_ | refine awp_block_s ?_ | refine awp_block_c ?_ | refine awp_block_r ?_ | refine awp_skip ?_ | apply And.intro | refine awp_ev_quiet tab_ok follows (by kernel_rfl) ?_) | ((with_reducible first | refine gE ?_ | refine gR ?_); simp (maxSteps := 4000000) only [su, evLit, hbT, tab, thenA, blockA, reduceCtorEq, reduceIte, Nat.reduceEqDiff, Nat.reduceBEq, Int.reduceLE, Int.reduceToNat, Nat.reduceAdd, Nat.reduceLT, Nat.reduceLeDiff, dskA, dskC]) | (show (_ : Nat) = (_ : Nat); rfl) | ((with_reducible refine awp_ret ?_); refine ret_tmp (.inr rfl) rfl rfl rfl (fun _ _ => rfl) ?_ <;> first | rfl | skip) | (refine call_pure (cg) ?_) | (refine call_pure (c_alive) ?_) | ((with_reducible refine gsel_case (fun hg => ?_) (fun hg => ?_)) <;> (try simp only [nb] at hg) <;> simp (maxSteps := 4000000) only [su, evLit, hbT, tab, thenA, blockA, reduceCtorEq, reduceIte, Nat.reduceEqDiff, Nat.reduceBEq, Int.reduceLE, Int.reduceToNat, Nat.reduceAdd, Nat.reduceLT, Nat.reduceLeDiff, hg, dskA, dskC]) | ((with_reducible refine awp_exit ?_); simp only [thenA, blockA, if_true, if_false, reduceIte, Nat.reduceEqDiff]) | (refine hK _ ?_; clear hK K) | refine awp_cond_t rfl ?_ | refine awp_cond_f rfl ?_ | refine awp_if rfl (fun hg => ?_) (fun hg => ?_) | clear hK K)
  have g1 : great d = false := by simpa using g1
  rw [g1] at cg
  obtain ⟨hsm, hsw⟩ := small_of g1
  by_cases hr : 1000 < kp.length
  · have hrI : decide ((kp.length : Int) > 1000) = true := decide_eq_true (by omega)
    refine acall_of 6 Try.func5 rfl fun n out _ _ => ?_
    simp only [Try.ntmps5, List.length_cons, List.length_nil, List.length_map, List.length_replicate, rep_map, Nat.reduceAdd, Nat.reduceSub, List.replicate, List.cons_append, List.nil_append]
    repeat' (first | (with_reducible first | refine awp_seq_k fun K hK => ?_ | refine awp_ev tab_ok [] ?_ | refine awp_block_s ?_ | refine awp_block_c ?_ | refine awp_block_r ?_ | refine awp_skip ?_ | apply And.intro | refine awp_ev_quiet tab_ok follows (by kernel_rfl) ?_) | ((with_reducible first | refine gE ?_ | refine gR ?_); simp (maxSteps := 4000000) only [su, evLit, hbT, tab, thenA, blockA, reduceCtorEq, reduceIte, Nat.reduceEqDiff, Nat.reduceBEq, Int.reduceLE, Int.reduceToNat, Nat.reduceAdd, Nat.reduceLT, Nat.reduceLeDiff, dskA, dskC, List.length_map, hrI]) | (show (_ : Nat) = (_ : Nat); rfl) | ((with_reducible refine awp_ret ?_); refine ret_tmp (.inr rfl) rfl rfl rfl (fun _ _ => rfl) ?_ <;> first | rfl | skip) | (refine call_pure (cg) ?_) | (refine call_pure (c_alive) ?_) | ((with_reducible refine gsel_case (fun hg => ?_) (fun hg => ?_)) <;> (try simp only [nb] at hg) <;> simp (maxSteps := 4000000) only [su, evLit, hbT, tab, thenA, blockA, reduceCtorEq, reduceIte, Nat.reduceEqDiff, Nat.reduceBEq, Int.reduceLE, Int.reduceToNat, Nat.reduceAdd, Nat.reduceLT, Nat.reduceLeDiff, hg, dskA, dskC, List.length_map, hrI]) | ((with_reducible refine awp_exit ?_); simp only [thenA, blockA, if_true, if_false, reduceIte, Nat.reduceEqDiff]) | (refine hK _ ?_; clear hK K) | refine awp_cond_t rfl ?_ | refine awp_cond_f rfl ?_ | refine awp_if rfl (fun hg => ?_) (fun hg => ?_) | clear hK K)
  have hrI : decide ((kp.length : Int) > 1000) = false := decide_eq_false (by omega)
  by_cases hs : 1000 < ko.length
  · have hsI : decide ((ko.length : Int) > 1000) = true := decide_eq_true (by omega)
    refine acall_of 6 Try.func5 rfl fun n out _ _ => ?_
    simp only [Try.ntmps5, List.length_cons, List.length_nil, List.length_map, List.length_replicate, rep_map, Nat.reduceAdd, Nat.reduceSub, List.replicate, List.cons_append, List.nil_append]
    repeat' (first | (with_reducible first | refine awp_seq_k fun K hK => ?_ | refine awp_ev tab_ok [] ?_ | refine awp_block_s ?_ | refine awp_block_c ?_ | refine awp_block_r ?_ | refine awp_skip ?_ | apply And.intro | refine awp_ev_quiet tab_ok follows (by kernel_rfl) ?_) | ((with_reducible first | refine gE ?_ | refine gR ?_); simp (maxSteps := 4000000) only [su, evLit, hbT, tab, thenA, blockA, reduceCtorEq, reduceIte, Nat.reduceEqDiff, Nat.reduceBEq, Int.reduceLE, Int.reduceToNat, Nat.reduceAdd, Nat.reduceLT, Nat.reduceLeDiff, dskA, dskC, List.length_map, hrI, hsI]) | (show (_ : Nat) = (_ : Nat); rfl) | ((with_reducible refine awp_ret ?_); refine ret_tmp (.inr rfl) rfl rfl rfl (fun _ _ => rfl) ?_ <;> first | rfl | skip) | (refine call_pure (cg) ?_) | (refine call_pure (c_alive) ?_) | ((with_reducible refine gsel_case (fun hg => ?_) (fun hg => ?_)) <;> (try simp only [nb] at hg) <;> simp (maxSteps := 4000000) only [su, evLit, hbT, tab, thenA, blockA, reduceCtorEq, reduceIte, Nat.reduceEqDiff, Nat.reduceBEq, Int.reduceLE, Int.reduceToNat, Nat.reduceAdd, Nat.reduceLT, Nat.reduceLeDiff, hg, dskA, dskC, List.length_map, hrI, hsI]) | ((with_reducible refine awp_exit ?_); simp only [thenA, blockA, if_true, if_false, reduceIte, Nat.reduceEqDiff]) | (refine hK _ ?_; clear hK K) | refine awp_cond_t rfl ?_ | refine awp_cond_f rfl ?_ | refine awp_if rfl (fun hg => ?_) (fun hg => ?_) | clear hK K)
  have hsI : decide ((ko.length : Int) > 1000) = false := decide_eq_false (by omega)
  by_cases hz0 : z < 0
  · have hzI : decide (z < 0) = true := decide_eq_true hz0
    refine acall_of 6 Try.func5 rfl fun n out _ _ => ?_
    simp only [Try.ntmps5, List.length_cons, List.length_nil, List.length_map, List.length_replicate, rep_map, Nat.reduceAdd, Nat.reduceSub, List.replicate, List.cons_append, List.nil_append]
    repeat' (first | (with_reducible first | refine awp_seq_k fun K hK => ?_ | refine awp_ev tab_ok [] ?_ | refine awp_block_s ?_ | refine awp_block_c ?_ | refine awp_block_r ?_ | refine awp_skip ?_ | apply And.intro | refine awp_ev_quiet tab_ok follows (by kernel_rfl) ?_) | ((with_reducible first | refine gE ?_ | refine gR ?_); simp (maxSteps := 4000000) only [su, evLit, hbT, tab, thenA, blockA, reduceCtorEq, reduceIte, Nat.reduceEqDiff, Nat.reduceBEq, Int.reduceLE, Int.reduceToNat, Nat.reduceAdd, Nat.reduceLT, Nat.reduceLeDiff, dskA, dskC, List.length_map, hrI, hsI, hzI, hz0]) | (show (_ : Nat) = (_ : Nat); rfl) | ((with_reducible refine awp_ret ?_); refine ret_tmp (.inr rfl) rfl rfl rfl (fun _ _ => rfl) ?_ <;> first | rfl | skip) | (refine call_pure (cg) ?_) | (refine call_pure (c_alive) ?_) | ((with_reducible refine gsel_case (fun hg => ?_) (fun hg => ?_)) <;> (try simp only [nb] at hg) <;> simp (maxSteps := 4000000) only [su, evLit, hbT, tab, thenA, blockA, reduceCtorEq, reduceIte, Nat.reduceEqDiff, Nat.reduceBEq, Int.reduceLE, Int.reduceToNat, Nat.reduceAdd, Nat.reduceLT, Nat.reduceLeDiff, hg, dskA, dskC, List.length_map, hrI, hsI, hzI, hz0]) | ((with_reducible refine awp_exit ?_); simp only [thenA, blockA, if_true, if_false, reduceIte, Nat.reduceEqDiff]) | (refine hK _ ?_; clear hK K) | refine awp_cond_t rfl ?_ | refine awp_cond_f rfl ?_ | refine awp_if rfl (fun hg => ?_) (fun hg => ?_) | clear hK K)
  obtain ⟨w, rfl⟩ := Int.eq_ofNat_of_zero_le (show 0 ≤ z by omega)
  by_cases hk : kp.length ≤ w
  · refine acall_of 6 Try.func5 rfl fun n out _ _ => ?_
    simp only [Try.ntmps5, List.length_cons, List.length_nil, List.length_map, List.length_replicate, rep_map, Nat.reduceAdd, Nat.reduceSub, List.replicate, List.cons_append, List.nil_append]
    repeat' (first | (with_reducible first | refine awp_seq_k fun K hK => ?_ | refine awp_ev tab_ok [] ?_ | refine awp_block_s ?_ | refine awp_block_c ?_ | refine awp_block_r ?_ | refine awp_skip ?_ | apply And.intro | refine awp_ev_quiet tab_ok follows (by kernel_rfl) ?_) | ((with_reducible first | refine gE ?_ | refine gR ?_); simp (maxSteps := 4000000) only [su, evLit, hbT, tab, thenA, blockA, reduceCtorEq, reduceIte, Nat.reduceEqDiff, Nat.reduceBEq, Int.reduceLE, Int.reduceToNat, Nat.reduceAdd, Nat.reduceLT, Nat.reduceLeDiff, dskA, dskC, List.length_map, hrI, hsI, hz0, ge_iff_le, Int.ofNat_le, hk]) | (show (_ : Nat) = (_ : Nat); rfl) | ((with_reducible refine awp_ret ?_); refine ret_tmp (.inr rfl) rfl rfl rfl (fun _ _ => rfl) ?_ <;> first | rfl | skip) | (refine call_pure (cg) ?_) | (refine call_pure (c_alive) ?_) | ((with_reducible refine gsel_case (fun hg => ?_) (fun hg => ?_)) <;> (try simp only [nb] at hg) <;> simp (maxSteps := 4000000) only [su, evLit, hbT, tab, thenA, blockA, reduceCtorEq, reduceIte, Nat.reduceEqDiff, Nat.reduceBEq, Int.reduceLE, Int.reduceToNat, Nat.reduceAdd, Nat.reduceLT, Nat.reduceLeDiff, hg, dskA, dskC, List.length_map, hrI, hsI, hz0, ge_iff_le, Int.ofNat_le, hk]) | ((with_reducible refine awp_exit ?_); simp only [thenA, blockA, if_true, if_false, reduceIte, Nat.reduceEqDiff]) | (refine hK _ ?_; clear hK K) | refine awp_cond_t rfl ?_ | refine awp_cond_f rfl ?_ | refine awp_if rfl (fun hg => ?_) (fun hg => ?_) | clear hK K)
  by_cases ho : ko.length ≤ w
  · refine acall_of 6 Try.func5 rfl fun n out _ _ => ?_
    simp only [Try.ntmps5, List.length_cons, List.length_nil, List.length_map, List.length_replicate, rep_map, Nat.reduceAdd, Nat.reduceSub, List.replicate, List.cons_append, List.nil_append]
    repeat' (first | (with_reducible first | refine awp_seq_k fun K hK => ?_ | refine awp_ev tab_ok [] ?_ | refine awp_block_s ?_ | refine awp_block_c ?_ | refine awp_block_r ?_ | refine awp_skip ?_ | apply And.intro | refine awp_ev_quiet tab_ok follows (by kernel_rfl) ?_) | ((with_reducible first | refine gE ?_ | refine gR ?_); simp (maxSteps := 4000000) only [su, evLit, hbT, tab, thenA, blockA, reduceCtorEq, reduceIte, Nat.reduceEqDiff, Nat.reduceBEq, Int.reduceLE, Int.reduceToNat, Nat.reduceAdd, Nat.reduceLT, Nat.reduceLeDiff, dskA, dskC, List.length_map, hrI, hsI, hz0, ge_iff_le, Int.ofNat_le, hk, ho]) | (show (_ : Nat) = (_ : Nat); rfl) | ((with_reducible refine awp_ret ?_); refine ret_tmp (.inr rfl) rfl rfl rfl (fun _ _ => rfl) ?_ <;> first | rfl | skip) | (refine call_pure (cg) ?_) | (refine call_pure (c_alive) ?_) | ((with_reducible refine gsel_case (fun hg => ?_) (fun hg => ?_)) <;> (try simp only [nb] at hg) <;> simp (maxSteps := 4000000) only [su, evLit, hbT, tab, thenA, blockA, reduceCtorEq, reduceIte, Nat.reduceEqDiff, Nat.reduceBEq, Int.reduceLE, Int.reduceToNat, Nat.reduceAdd, Nat.reduceLT, Nat.reduceLeDiff, hg, dskA, dskC, List.length_map, hrI, hsI, hz0, ge_iff_le, Int.ofNat_le, hk, ho]) | ((with_reducible refine awp_exit ?_); simp only [thenA, blockA, if_true, if_false, reduceIte, Nat.reduceEqDiff]) | (refine hK _ ?_; clear hK K) | refine awp_cond_t rfl ?_ | refine awp_cond_f rfl ?_ | refine awp_if rfl (fun hg => ?_) (fun hg => ?_) | clear hK K)
  obtain ⟨a, ha⟩ : ∃ a, a = kp.set w 128 := ⟨_, rfl⟩
  obtain ⟨b, hb⟩ : ∃ b, b = ko.set w 128 := ⟨_, rfl⟩
  have hal : a.length = kp.length := by rw [ha, List.length_set]
  have hbl : b.length = ko.length := by rw [hb, List.length_set]
  have sa := splice_map i64 kp w 128 (by omega)
  have sb := splice_map i64 ko w 128 (by omega)
  rw [← ha] at sa
  rw [← hb] at sb
  have c1 := c_crash d a hsm.s hsm.w (by omega)
  refine acall_of 6 Try.func5 rfl fun n out _ _ => ?_
  simp only [Try.ntmps5, List.length_cons, List.length_nil, List.length_map, List.length_replicate, rep_map, Nat.reduceAdd, Nat.reduceSub, List.replicate, List.cons_append, List.nil_append]
  repeat' (first | (with_reducible first | refine awp_seq_k fun K hK => ?_ | refine awp_ev tab_ok [] ?_ | refine awp_block_s ?_ | refine awp_block_c ?_ | refine awp_block_r ?_ | refine awp_skip ?_ | apply And.intro | refine awp_ev_quiet tab_ok follows (by kernel_rfl) ?_) | ((with_reducible first | refine gE ?_ | refine gR ?_); simp (maxSteps := 4000000) only [su, evLit, hbT, tab, thenA, blockA, reduceCtorEq, reduceIte, Nat.reduceEqDiff, Nat.reduceBEq, Int.reduceLE, Int.reduceToNat, Nat.reduceAdd, Nat.reduceLT, Nat.reduceLeDiff, dskA, dskC, List.length_map, hrI, hsI, hz0, ge_iff_le, Int.ofNat_le, hk, ho]) | (show (_ : Nat) = (_ : Nat); rfl) | ((with_reducible refine awp_ret ?_); refine ret_tmp (.inr rfl) rfl rfl rfl (fun _ _ => rfl) ?_ <;> first | rfl | skip) | (refine call_pure (c_alive) ?_) | ((with_reducible refine gsel_case (fun hg => ?_) (fun hg => ?_)) <;> (try simp only [nb] at hg) <;> simp (maxSteps := 4000000) only [su, evLit, hbT, tab, thenA, blockA, reduceCtorEq, reduceIte, Nat.reduceEqDiff, Nat.reduceBEq, Int.reduceLE, Int.reduceToNat, Nat.reduceAdd, Nat.reduceLT, Nat.reduceLeDiff, hg, dskA, dskC, List.length_map, hrI, hsI, hz0, ge_iff_le, Int.ofNat_le, hk, ho]) | ((with_reducible refine awp_exit ?_); simp only [thenA, blockA, if_true, if_false, reduceIte, Nat.reduceEqDiff]) | (refine hK _ ?_; clear hK K) | refine awp_cond_t rfl ?_ | refine awp_cond_f rfl ?_ | refine awp_if rfl (fun hg => ?_) (fun hg => ?_) | clear hK K)
  refine call_pure cg ?_
  simp (maxSteps := 4000000) only [su, evLit, hbT, tab, thenA, blockA, reduceCtorEq, reduceIte, Nat.reduceEqDiff, Nat.reduceBEq, Int.reduceLE, Int.reduceToNat, Nat.reduceAdd, Nat.reduceLT, Nat.reduceLeDiff, List.length_map, hrI, hsI, hz0, ge_iff_le, Int.ofNat_le, hk, ho]
  repeat' (first | (with_reducible refine hK _ ?_; clear hK K) | with_reducible apply And.intro)
  refine awp_cond_f rfl (awp_skip (hK _ ?_))
  clear hK K
  have nk : List.map intC kp ≠ [] := by intro h; have := congrArg List.length h; simp at this; rw [this] at hk; simp at hk
  have no : List.map intC ko ≠ [] := by intro h; have := congrArg List.length h; simp at this; rw [this] at ho; simp at ho
  refine awp_seq_k fun K hK => awp_ev tab_ok [(1055, none)] ?_
  simp (maxSteps := 4000000) only [su, evLit, hbT, tab, thenA, blockA, reduceCtorEq, reduceIte, Nat.reduceEqDiff, Nat.reduceBEq, Int.reduceLE, Int.reduceToNat, Nat.reduceAdd, Nat.reduceLT, Nat.reduceLeDiff, List.length_map, nk, ints_flat, Nat.zero_add]
  repeat' (first | (with_reducible refine hK _ ?_; clear hK K) | with_reducible apply And.intro)
  · omega
  · omega
  refine awp_le (le_boxP (i := 1) (m := kp.length) (sz := 1) (e := 3) (cs := kp.map i64) [(10, .bsl (n + 1) 0 kp.length false)] (lo1 := [some (.box 25 (dskC d)), some (.vec 3 1 kp.length (kp.map i64)), none, none, none, none]) rfl (by omega) ?_ ?_) ?_
  · simp only [patch, s_0, s_s, bxL_cons, bxL_nil, bx_same, bx_vsl, true_and, and_true]
  · simp only [bxRL_cons, bxRL_nil, bxRes_same, dskC, true_and, and_true]
  simp only [patch, s_0, s_s]
  refine awp_seq_k fun K hK => awp_ev tab_ok [(1057, none)] ?_
  simp (maxSteps := 4000000) only [su, evLit, hbT, tab, thenA, blockA, reduceCtorEq, reduceIte, Nat.reduceEqDiff, Nat.reduceBEq, Int.reduceLE, Int.reduceToNat, Nat.reduceAdd, Nat.reduceLT, Nat.reduceLeDiff, List.length_map, no, ints_flat, Nat.zero_add]
  repeat' (first | (with_reducible refine hK _ ?_; clear hK K) | with_reducible apply And.intro)
  · omega
  · omega
  refine awp_le (le_boxP (i := 2) (m := ko.length) (sz := 1) (e := 3) (cs := ko.map i64) [(11, .bsl (n + 2) 0 ko.length false)] (lo1 := [some (.box 25 (dskC d)), some (.box 3 (kp.map i64)), some (.vec 3 1 ko.length (ko.map i64)), none, none, none]) rfl (by omega) ?_ ?_) ?_
  · simp only [patch, s_0, s_s, bxL_cons, bxL_nil, bx_same, bx_vsl, true_and, and_true]
  · simp only [bxRL_cons, bxRL_nil, bxRes_same, dskC, true_and, and_true]
  simp only [patch, s_0, s_s]
  have hwk : w < kp.length := by omega
  have hwo : w < ko.length := by omega
  refine awp_seq_k fun K hK => awp_ev tab_ok [] ?_
  simp (maxSteps := 4000000) only [su, evLit, hbT, tab, thenA, blockA, reduceCtorEq, reduceIte, Nat.reduceEqDiff, Nat.reduceBEq, Int.reduceLE, Int.reduceToNat, Nat.reduceAdd, Nat.reduceLT, Nat.reduceLeDiff, List.length_map, hwk, sa]
  repeat' (first | (with_reducible refine hK _ ?_; clear hK K) | with_reducible apply And.intro)
  · omega
  have hfz : Fz (n + 1) 1 (a.map i64) (.bsl (n + 1) 0 kp.length false) (.sl 1 (a.map intC) .sh) := by
    have h := Fz.bsl (k := n + 1) (sz := 1) (cs := a.map i64) 0 kp.length false ⟨by omega, by rw [List.length_map, hal]; omega⟩
    rw [List.drop_zero, ← hal, chunk_ints' a] at h
    rw [← hal]
    exact h
  refine awp_le (le_freezeAt (i := 1) (t := 10) 1 (.sl 1 (a.map intC) .sh) rfl rfl hfz) ?_
  simp only [s_0, s_s]
  refine awp_seq_k fun K hK => awp_ev tab_ok [] ?_
  simp (maxSteps := 4000000) only [su, evLit, hbT, tab, thenA, blockA, reduceCtorEq, reduceIte, Nat.reduceEqDiff, Nat.reduceBEq, Int.reduceLE, Int.reduceToNat, Nat.reduceAdd, Nat.reduceLT, Nat.reduceLeDiff, List.length_map, hwo, sb]
  repeat' (first | (with_reducible refine hK _ ?_; clear hK K) | with_reducible apply And.intro)
  · omega
  have cK := fun (q : Dsk) (h1 : q.sectors.length ≤ 1000) (h2 : q.waits.length ≤ 1000) (l : List Int) (h3 : l.length = ko.length) => c_crashK (n + 2) false q l h1 h2 (by omega)
  have c2 := cK d hsm.s hsm.w b hbl
  rw [hbl] at c2
  by_cases hE1 : crashE d a = 0
  · by_cases hE2 : crashE d b = 0
    · obtain ⟨m1, m2, m3⟩ := crashE_0.1 hE1
      obtain ⟨_, q2, _⟩ := crashE_0.1 hE2
      have hwd : w < d.waits.length := by omega
      have gw := getD_map wrC d.waits w [] hwd
      obtain ⟨p, hp⟩ : ∃ p : Nat → Bool, p = fun i => if hi : i < d.waits.length then (decide (w < i) && (d.waits[i].at' == d.waits[w].at')) else false := ⟨_, rfl⟩
      have hp' : ∀ i (hi : i < d.waits.length), p i = (decide (w < i) && (d.waits[i].at' == d.waits[w].at')) := fun i hi => by rw [hp]; dsimp only; rw [dif_pos hi]
      clear hp
      obtain ⟨l1, l2⟩ := hides_law hE1 hE2 hwd (by rw [ha]; simp [List.getD_eq_getElem?_getD, hwk]) (by rw [hb]; simp [List.getD_eq_getElem?_getD, hwo]) hp'
      have c3 := cK d hsm.s hsm.w (mixL a b p d.waits.length) (by rw [mix_len]; exact hbl)
      have hml : (mixL a b p d.waits.length).length = ko.length := by rw [mix_len]; exact hbl
      rw [hml, l1] at c3
      rw [hE1] at c1
      rw [hE2] at c2
      have hmA : may (crashD d a) = true := by
        unfold crashD
        rw [if_pos hE1]
        exact may_comes m1 (fun i _ => kf_le m3 i) [] (by decide) (fun w hw => by cases hw) _
      have hmM : may (crashD d (mixL a b p d.waits.length)) = true := by
        obtain ⟨_, _, x3⟩ := crashE_0.1 l1
        unfold crashD
        rw [if_pos l1]
        exact may_comes m1 (fun i _ => kf_le x3 i) [] (by decide) (fun w hw => by cases hw) _
      obtain ⟨w1, w2, _⟩ := ((may_iff d).1 m1).2.2.2 _ (List.getElem_mem hwd)
      have hsA := ((may_iff _).1 hmA).1
      have hsM := ((may_iff _).1 hmM).1
      obtain ⟨Z, hZ⟩ : ∃ Z : Nat, d.waits[w].at' = (Z : Int) := ⟨d.waits[w].at'.toNat, by omega⟩
      have hZ32 : Z < 32 := by omega
      rw [hZ, Int.toNat_natCast] at l2
      obtain ⟨XA, hXA⟩ : ∃ XA, XA = crashD d a := ⟨_, rfl⟩
      obtain ⟨XM, hXM⟩ : ∃ XM, XM = crashD d (mixL a b p d.waits.length) := ⟨_, rfl⟩
      obtain ⟨XB, hXB⟩ : ∃ XB, XB = crashD d b := ⟨_, rfl⟩
      rw [← hXA] at c1 l2 hsA
      rw [← hXM] at c3 l2 hsM
      rw [← hXB] at c2
      have gA := getD_map secC XA.sectors Z [] (by omega)
      have gM := getD_map secC XM.sectors Z [] (by omega)
      have eA : XA.sectors.getD Z [] = XA.sectors[Z] := by simp [List.getD_eq_getElem?_getD, show Z < XA.sectors.length by omega]
      have eM : XM.sectors.getD Z [] = XM.sectors[Z] := by simp [List.getD_eq_getElem?_getD, show Z < XM.sectors.length by omega]
      rw [eA, eM] at l2
      simp only [dskA, dskC] at c1 c2 c3
      have hw1 := addw (n := w) 1 1 rfl (by omega)
      repeat' (first | (with_reducible first | refine awp_seq_k fun K hK => ?_ | refine awp_ev tab_ok [] ?_ | refine awp_block_s ?_ | refine awp_block_c ?_ | refine awp_block_r ?_ | refine awp_skip ?_ | apply And.intro | refine awp_ev_quiet tab_ok follows (by kernel_rfl) ?_) | ((with_reducible first | refine gE ?_ | refine gR ?_); simp (maxSteps := 4000000) only [su, evLit, hbT, tab, thenA, blockA, reduceCtorEq, reduceIte, Nat.reduceEqDiff, Nat.reduceBEq, Int.reduceLE, Int.reduceToNat, Nat.reduceAdd, Nat.reduceLT, Nat.reduceLeDiff, dskC, Int.reduceBNe, bne_self_eq_false, splice_all, List.length_map, hwd, gw, wrC, pick_cons, hZ, hw1]) | (show (_ : Nat) = (_ : Nat); rfl) | ((with_reducible refine awp_ret ?_); refine ret_tmp (.inr rfl) rfl rfl rfl (fun _ _ => rfl) ?_ <;> first | rfl | skip) | (refine call_pure (c1) ?_) | (refine call_one c2 (look_loc _ (Nat.le_refl _) 2) (dom_loc _ (by simp)) (by simp) ?_) | ((with_reducible refine gsel_case (fun hg => ?_) (fun hg => ?_)) <;> (try simp only [nb] at hg) <;> simp (maxSteps := 4000000) only [su, evLit, hbT, tab, thenA, blockA, reduceCtorEq, reduceIte, Nat.reduceEqDiff, Nat.reduceBEq, Int.reduceLE, Int.reduceToNat, Nat.reduceAdd, Nat.reduceLT, Nat.reduceLeDiff, hg, dskC, Int.reduceBNe, bne_self_eq_false, splice_all, List.length_map, hwd, gw, wrC, pick_cons, hZ, hw1]) | ((with_reducible refine awp_exit ?_); simp only [thenA, blockA, if_true, if_false, reduceIte, Nat.reduceEqDiff]) | (refine hK _ ?_; clear hK K) | refine awp_cond_t rfl ?_ | refine awp_cond_f rfl ?_ | refine awp_if rfl (fun hg => ?_) (fun hg => ?_) | clear hK K)
      have hL : ko.length = d.waits.length := by omega
      have hM0 : mixL a b p (w + 1 + 0) = b := mix_first _ _ _ _ fun q hq => by
        rw [hp' q (by omega)]
        have : ¬ w < q := by omega
        simp [this]
      have hdA : d.waits.length ≤ a.length := by omega
      refine awp_block ?_
      refine awp_for_g (fun c : Nat => [(17, i64 ((w + 1 + c : Nat) : Int)), (91, .top), (92, .top), (93, .top), (94, .top), (95, .top), (96, .top), (97, .top), (98, .top), (99, .top), (100, .top), (101, .top), (102, .top), (103, .top), (104, .top), (105, .top), (106, .top), (107, .top), (108, .top), (109, .top), (110, .top), (111, .top)]) (fun c => [some (.box 25 (dskC d)), some .dead, some (intBox (mixL a b p (w + 1 + c))), some (.box 25 (dskC XA)), some (.box 25 (dskC XB)), none]) (fun c => out) (fun c => c ≤ (d.waits.length - (w + 1))) (fun c => (d.waits.length - (w + 1)) - c) 0 (Nat.zero_le _) ?_ fun c hc => ?_
      · refine le_of_all ?_ ?_ (by first | rfl | (simp only [dskC, hM0, Nat.add_zero]; rfl) | simp only [dskC, hM0, Nat.add_zero]) rfl rfl rfl <;> simp only [patch, sl, dskC, hM0, Nat.add_zero]
      simp only [patch, s_0, s_s]
      obtain ⟨i, hi⟩ : ∃ i, i = w + 1 + c := ⟨_, rfl⟩
      rw [← hi]
      have hwi := addw (n := i) 1 1 rfl (by omega)
      by_cases hlt : i < d.waits.length
      · have hlo : i < ko.length := by omega
        have gi := getD_map wrC d.waits i [] hlt
        have hpi := hp' i hlt
        have hwlt : w < i := by omega
        have ga := getD_map intC a i [] (by omega)
        have gae : a.getD i 0 = a[i] := by simp [List.getD_eq_getElem?_getD, show i < a.length by omega]
        have hml' : (mixL a b p i).length = ko.length := by rw [mix_len]; exact hbl
        cases hbq : (d.waits[i].at' == (Z : Int)) with
        | false =>
          have hpf : p i = false := by rw [hpi, hZ, hbq, Bool.and_false]
          have hk' := mix_keep a b hpf
          repeat' (first | (with_reducible first | refine awp_seq_k fun K hK => ?_ | refine awp_ev tab_ok [] ?_ | refine awp_block_s ?_ | refine awp_block_c ?_ | refine awp_block_r ?_ | refine awp_skip ?_ | apply And.intro | refine awp_ev_quiet tab_ok follows (by kernel_rfl) ?_) | ((with_reducible first | refine gE ?_ | refine gR ?_); simp (maxSteps := 4000000) only [su, evLit, hbT, tab, thenA, blockA, reduceCtorEq, reduceIte, Nat.reduceEqDiff, Nat.reduceBEq, Int.reduceLE, Int.reduceToNat, Nat.reduceAdd, Nat.reduceLT, Nat.reduceLeDiff, dskC, List.length_map, hlt, hlo, gi, wrC, pick_cons, hbq, hwi]) | (show (_ : Nat) = (_ : Nat); rfl) | ((with_reducible refine awp_ret ?_); refine ret_tmp (.inr rfl) rfl rfl rfl (fun _ _ => rfl) ?_ <;> first | rfl | skip) | ((with_reducible refine gsel_case (fun hg => ?_) (fun hg => ?_)) <;> (try simp only [nb] at hg) <;> simp (maxSteps := 4000000) only [su, evLit, hbT, tab, thenA, blockA, reduceCtorEq, reduceIte, Nat.reduceEqDiff, Nat.reduceBEq, Int.reduceLE, Int.reduceToNat, Nat.reduceAdd, Nat.reduceLT, Nat.reduceLeDiff, hg, dskC, List.length_map, hlt, hlo, gi, wrC, pick_cons, hbq, hwi]) | ((with_reducible refine awp_exit ?_); simp only [thenA, blockA, if_true, if_false, reduceIte, Nat.reduceEqDiff]) | (refine hK _ ?_; clear hK K) | refine awp_cond_t rfl ?_ | refine awp_cond_f rfl ?_ | refine awp_if rfl (fun hg => ?_) (fun hg => ?_) | clear hK K)
          rw [← hk']
          refine ⟨c + 1, by omega, by omega, ?_⟩
          refine le_of_all ?_ ?_ rfl rfl rfl rfl <;> simp only [patch, sl, dskC, hlo, decide_true, show w + 1 + (c + 1) = i + 1 by omega]
        | true =>
          have hpt : p i = true := by rw [hpi, hZ, hbq, Bool.and_true]; exact decide_eq_true hwlt
          have hset := splice_map i64 (mixL a b p i) i (a.getD i 0) (by omega)
          rw [mix_set a b (by omega) hpt, gae] at hset
          repeat' (first | (with_reducible first | refine awp_seq_k fun K hK => ?_ | refine awp_ev tab_ok [] ?_ | refine awp_block_s ?_ | refine awp_block_c ?_ | refine awp_block_r ?_ | refine awp_skip ?_ | apply And.intro | refine awp_ev_quiet tab_ok follows (by kernel_rfl) ?_) | ((with_reducible first | refine gE ?_ | refine gR ?_); simp (maxSteps := 4000000) only [su, evLit, hbT, tab, thenA, blockA, reduceCtorEq, reduceIte, Nat.reduceEqDiff, Nat.reduceBEq, Int.reduceLE, Int.reduceToNat, Nat.reduceAdd, Nat.reduceLT, Nat.reduceLeDiff, dskC, List.length_map, hlt, hlo, hal, gi, wrC, pick_cons, hbq, hwi, ga, intC, hset, hml', show i < a.length by omega]) | (show (_ : Nat) = (_ : Nat); rfl) | ((with_reducible refine awp_ret ?_); refine ret_tmp (.inr rfl) rfl rfl rfl (fun _ _ => rfl) ?_ <;> first | rfl | skip) | ((with_reducible refine gsel_case (fun hg => ?_) (fun hg => ?_)) <;> (try simp only [nb] at hg) <;> simp (maxSteps := 4000000) only [su, evLit, hbT, tab, thenA, blockA, reduceCtorEq, reduceIte, Nat.reduceEqDiff, Nat.reduceBEq, Int.reduceLE, Int.reduceToNat, Nat.reduceAdd, Nat.reduceLT, Nat.reduceLeDiff, hg, dskC, List.length_map, hlt, hlo, hal, gi, wrC, pick_cons, hbq, hwi, ga, intC, hset, hml', show i < a.length by omega]) | ((with_reducible refine awp_exit ?_); simp only [thenA, blockA, if_true, if_false, reduceIte, Nat.reduceEqDiff]) | (refine hK _ ?_; clear hK K) | refine awp_cond_t rfl ?_ | refine awp_cond_f rfl ?_ | refine awp_if rfl (fun hg => ?_) (fun hg => ?_) | clear hK K)
          · omega
          · omega
          refine ⟨c + 1, by omega, by omega, ?_⟩
          refine le_of_all ?_ ?_ rfl rfl rfl rfl <;> simp only [patch, sl, dskC, intBox, hlo, decide_true, show w + 1 + (c + 1) = i + 1 by omega]
      · obtain rfl : i = d.waits.length := by omega
        have hlo : ¬ d.waits.length < ko.length := by omega
        repeat' (first | (with_reducible first | refine awp_seq_k fun K hK => ?_ | refine awp_ev tab_ok [] ?_ | refine awp_block_s ?_ | refine awp_block_c ?_ | refine awp_block_r ?_ | refine awp_skip ?_ | apply And.intro | refine awp_ev_draw (id := 19) tab_ok [] [[],[],[],[],[],[],[],[3],[],[],[],[],[],[5],[],[],[],[],[],[],[]] [[],[],[],[],[],[],[],[],[],[],[],[],[],[],[],[],[],[],[],[],[]] follows (by kernel_rfl) (by decide) (by decide) (by kernel_rfl) ?_ | refine awp_ev_quiet tab_ok follows (by kernel_rfl) ?_) | ((with_reducible first | refine gE ?_ | refine gR ?_ | refine gD ?_ | refine gF ?_); simp (maxSteps := 4000000) only [su, evLit, hbT, tab, thenA, blockA, reduceCtorEq, reduceIte, Nat.reduceEqDiff, Nat.reduceBEq, Int.reduceLE, Int.reduceToNat, Nat.reduceAdd, Nat.reduceLT, Nat.reduceLeDiff, sg, dskC, List.length_map, hlo, hml, splice_all, beq_self_eq_true, hsA, hsM, gA, gM, secC, pick_cons, l2, hZ32, Int.ofNat_lt, ex_bytes, str_eq]) | (show (_ : Nat) = (_ : Nat); rfl) | ((with_reducible refine awp_ret ?_); refine ret_tmp (.inr rfl) rfl rfl rfl (fun _ _ => rfl) ?_ <;> first | rfl | skip) | (refine call_one c3 (look_loc _ (Nat.le_refl _) 2) (dom_loc _ (by simp)) (by simp) ?_) | ((with_reducible first | refine gsel_case (fun hg => ?_) (fun hg => ?_) | refine gselD_case (fun hg => ?_) (fun hg => ?_)) <;> (try simp only [nb] at hg) <;> simp (maxSteps := 4000000) only [su, evLit, hbT, tab, thenA, blockA, reduceCtorEq, reduceIte, Nat.reduceEqDiff, Nat.reduceBEq, Int.reduceLE, Int.reduceToNat, Nat.reduceAdd, Nat.reduceLT, Nat.reduceLeDiff, hg, sg, dskC, List.length_map, hlo, hml, splice_all, beq_self_eq_true, hsA, hsM, gA, gM, secC, pick_cons, l2, hZ32, Int.ofNat_lt, ex_bytes, str_eq]) | ((with_reducible refine awp_exit ?_); simp only [thenA, blockA, if_true, if_false, reduceIte, Nat.reduceEqDiff]) | (refine hK _ ?_; clear hK K) | refine awp_cond_t rfl ?_ | refine awp_cond_f rfl ?_ | refine awp_if rfl (fun hg => ?_) (fun hg => ?_) | clear hK K)
    · have hb2 : (crashE d b != 0) = true := by simpa using hE2
      rw [hE1] at c1
      simp only [dskA, dskC] at c1 c2
      repeat' (first | (with_reducible first | refine awp_seq_k fun K hK => ?_ | refine awp_ev tab_ok [] ?_ | refine awp_block_s ?_ | refine awp_block_c ?_ | refine awp_block_r ?_ | refine awp_skip ?_ | apply And.intro | refine awp_ev_quiet tab_ok follows (by kernel_rfl) ?_) | ((with_reducible first | refine gE ?_ | refine gR ?_); simp (maxSteps := 4000000) only [su, evLit, hbT, tab, thenA, blockA, reduceCtorEq, reduceIte, Nat.reduceEqDiff, Nat.reduceBEq, Int.reduceLE, Int.reduceToNat, Nat.reduceAdd, Nat.reduceLT, Nat.reduceLeDiff, dskC, Int.reduceBNe, bne_self_eq_false, hb2, splice_all, List.length_map]) | (show (_ : Nat) = (_ : Nat); rfl) | ((with_reducible refine awp_ret ?_); refine ret_tmp (.inr rfl) rfl rfl rfl (fun _ _ => rfl) ?_ <;> first | rfl | skip) | (refine call_pure (c1) ?_) | (refine call_one c2 (look_loc _ (Nat.le_refl _) 2) (dom_loc _ (by simp)) (by simp) ?_) | ((with_reducible refine gsel_case (fun hg => ?_) (fun hg => ?_)) <;> (try simp only [nb] at hg) <;> simp (maxSteps := 4000000) only [su, evLit, hbT, tab, thenA, blockA, reduceCtorEq, reduceIte, Nat.reduceEqDiff, Nat.reduceBEq, Int.reduceLE, Int.reduceToNat, Nat.reduceAdd, Nat.reduceLT, Nat.reduceLeDiff, hg, dskC, Int.reduceBNe, bne_self_eq_false, hb2, splice_all, List.length_map]) | ((with_reducible refine awp_exit ?_); simp only [thenA, blockA, if_true, if_false, reduceIte, Nat.reduceEqDiff]) | (refine hK _ ?_; clear hK K) | refine awp_cond_t rfl ?_ | refine awp_cond_f rfl ?_ | refine awp_if rfl (fun hg => ?_) (fun hg => ?_) | clear hK K)
  · have hb1 : (crashE d a != 0) = true := by simpa using hE1
    simp only [dskA, dskC] at c1 c2
    repeat' (first | (with_reducible first | refine awp_seq_k fun K hK => ?_ | refine awp_ev tab_ok [] ?_ | refine awp_block_s ?_ | refine awp_block_c ?_ | refine awp_block_r ?_ | refine awp_skip ?_ | apply And.intro | refine awp_ev_quiet tab_ok follows (by kernel_rfl) ?_) | ((with_reducible first | refine gE ?_ | refine gR ?_); simp (maxSteps := 4000000) only [su, evLit, hbT, tab, thenA, blockA, reduceCtorEq, reduceIte, Nat.reduceEqDiff, Nat.reduceBEq, Int.reduceLE, Int.reduceToNat, Nat.reduceAdd, Nat.reduceLT, Nat.reduceLeDiff, dskC, Int.reduceBNe, bne_self_eq_false, hb1, splice_all, List.length_map]) | (show (_ : Nat) = (_ : Nat); rfl) | ((with_reducible refine awp_ret ?_); refine ret_tmp (.inr rfl) rfl rfl rfl (fun _ _ => rfl) ?_ <;> first | rfl | skip) | (refine call_pure (c1) ?_) | (refine call_one c2 (look_loc _ (Nat.le_refl _) 2) (dom_loc _ (by simp)) (by simp) ?_) | ((with_reducible refine gsel_case (fun hg => ?_) (fun hg => ?_)) <;> (try simp only [nb] at hg) <;> simp (maxSteps := 4000000) only [su, evLit, hbT, tab, thenA, blockA, reduceCtorEq, reduceIte, Nat.reduceEqDiff, Nat.reduceBEq, Int.reduceLE, Int.reduceToNat, Nat.reduceAdd, Nat.reduceLT, Nat.reduceLeDiff, hg, dskC, Int.reduceBNe, bne_self_eq_false, hb1, splice_all, List.length_map]) | ((with_reducible refine awp_exit ?_); simp only [thenA, blockA, if_true, if_false, reduceIte, Nat.reduceEqDiff]) | (refine hK _ ?_; clear hK K) | refine awp_cond_t rfl ?_ | refine awp_cond_f rfl ?_ | refine awp_if rfl (fun hg => ?_) (fun hg => ?_) | clear hK K)
end Go.Proofs.Ytefkjdkalgemeaa
