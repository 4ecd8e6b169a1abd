/-
  The document's answer: what a crash leaves.
-/
import Derived.Test.YtefkjdkalgemeaaZGA
import Derived.Test.YtefkjdkalgemeaaZD24
namespace Go.Proofs.Ytefkjdkalgemeaa
set_option linter.unusedVariables false
set_option linter.unusedSimpArgs false
open Go Go.VS Tab
set_option maxHeartbeats 2000000
set_option maxRecDepth 4000
def okp (x : Int) : Bool := decide (0 ≤ x) && decide (x < 129)
def ce (d : Dsk) (kp : List Int) (i : Nat) : Int := if may d then (if (kp.take i).all okp then 0 else 2) else 8
theorem ce_succ {d : Dsk} {kp : List Int} {i : Nat} (h : i < kp.length) (h0 : ce d kp i = 0) : ce d kp (i + 1) = if okp kp[i] then 0 else 2 := by
  unfold ce at *
  by_cases hm : may d = true
  · rw [if_pos hm] at h0 ⊢
    by_cases ha : (kp.take i).all okp = true
    · rw [List.take_succ_eq_append_getElem h, List.all_append, ha]; simp
    · rw [if_neg ha] at h0; omega
  · rw [if_neg hm] at h0; omega
theorem ce_all {d : Dsk} {kp : List Int} {i : Nat} (h : i = kp.length ∨ ce d kp i ≠ 0) : ce d kp i = ce d kp kp.length := by
  rcases h with rfl | h
  · rfl
  · unfold ce at *
    by_cases hm : may d = true
    · rw [if_pos hm] at h ⊢
      rw [if_pos hm, List.take_length]
      by_cases ha : (kp.take i).all okp = true
      · rw [if_pos ha] at h; exact absurd rfl h
      · rw [if_neg ha, if_neg fun h3 => ha (List.all_eq_true.2 fun x hx => List.all_eq_true.1 h3 x (List.mem_of_mem_take hx))]
    · rw [if_neg hm, if_neg hm]
theorem crashE_ce (d : Dsk) (kp : List Int) : crashE d kp = if (ce d kp kp.length != 8) && !(decide (kp.length = d.waits.length)) then 4 else ce d kp kp.length := by
  unfold ce crashE okp
  rw [List.take_length]
  by_cases hm : may d = true
  · rw [if_pos hm, if_pos hm]
    by_cases hl : kp.length = d.waits.length
    · rw [if_pos hl]; simp [hl]
    · rw [if_neg hl]
      split <;> simp [hl]
  · rw [if_neg hm, if_neg hm]; simp
theorem c_rcrash (d : Dsk) (kp : List Int) (h1 : d.sectors.length ≤ 1000) (h2 : d.waits.length ≤ 1000) (h3 : kp.length ≤ 1000000) :
    ACall Try.prog 20 [dskA d, .sl 1 (kp.map intC) .sh] [] (.tup [dskA (crashD d kp), i64 (crashE d kp)]) [] := by
  have hE := crashE_ce d kp
  refine acall_of 2 Try.func20 rfl fun n out _ _ => ?_
  simp only [Try.ntmps20, List.length_cons, List.length_nil, List.length_map, List.length_replicate, rep_map, Nat.reduceAdd, Nat.reduceSub, List.replicate, List.cons_append, List.nil_append]
  refine awp_seq_k fun K hK => awp_ev tab_ok [] ?_
  simp (maxSteps := 4000000) only [su, evLit, hbT, tab, thenA, blockA, reduceCtorEq, reduceIte, Nat.reduceEqDiff, Nat.reduceBEq, Int.reduceLE, Int.reduceToNat, Nat.reduceAdd, Nat.reduceLT, Nat.reduceLeDiff, dskA, dskC]
  repeat' (first | (with_reducible refine hK _ ?_; clear hK K) | with_reducible apply And.intro)
  refine awp_seq_k fun K hK => awp_ev tab_ok [] ?_
  simp (maxSteps := 4000000) only [su, evLit, hbT, tab, thenA, blockA, reduceCtorEq, reduceIte, Nat.reduceEqDiff, Nat.reduceBEq, Int.reduceLE, Int.reduceToNat, Nat.reduceAdd, Nat.reduceLT, Nat.reduceLeDiff]
  repeat' (first | (with_reducible refine hK _ ?_; clear hK K) | with_reducible apply And.intro)
  refine call_pure (c_rcheck d h1 h2) ?_
  simp (maxSteps := 4000000) only [su, evLit, hbT, tab, thenA, blockA, reduceCtorEq, reduceIte, Nat.reduceEqDiff, Nat.reduceBEq, Int.reduceLE, Int.reduceToNat, Nat.reduceAdd, Nat.reduceLT, Nat.reduceLeDiff]
  repeat' (first | (with_reducible refine hK _ ?_; clear hK K) | with_reducible apply And.intro)
  refine awp_seq_k fun KB hKB => ?_
  refine awp_seq_k fun K hK => awp_ev tab_ok [] ?_
  simp (maxSteps := 4000000) only [su, evLit, hbT, tab, thenA, blockA, reduceCtorEq, reduceIte, Nat.reduceEqDiff, Nat.reduceBEq, Int.reduceLE, Int.reduceToNat, Nat.reduceAdd, Nat.reduceLT, Nat.reduceLeDiff]
  repeat' (first | (with_reducible refine hK _ ?_; clear hK K) | with_reducible apply And.intro)
  refine awp_block_to [(6, i64 (ce d kp kp.length)), (7, .top), (10, .top), (11, .top), (12, .top), (13, .top), (14, .top), (15, .top), (16, .top), (17, .top), (18, .top), (19, .top), (20, .top), (21, .top), (22, .top), (23, .top), (24, .top), (25, .top)] [some (.box 25 [.sl 1 (d.sectors.map secC) .sh, .sl 2 (d.waits.map wrC) .sh]), some (.box 25 [.sl 0 [] .nil, .sl 0 [] .nil])] out (id ?_) (awp_for_g (fun i : Nat => [(6, i64 (ce d kp i)), (7, i64 (i : Int)), (10, .top), (11, .top), (12, .top), (13, .top), (14, .top), (15, .top), (16, .top), (17, .top), (18, .top), (19, .top), (20, .top), (21, .top), (22, .top), (23, .top), (24, .top), (25, .top)]) (fun i => [some (.box 25 [.sl 1 (d.sectors.map secC) .sh, .sl 2 (d.waits.map wrC) .sh]), some (.box 25 [.sl 0 [] .nil, .sl 0 [] .nil])]) (fun i => out) (fun i => i ≤ kp.length ∧ True) (fun i => kp.length - i) 0 ⟨Nat.zero_le _, ?_⟩ ?_ fun i hi => ?_)
  rotate_left
  · trivial
  · have e0 : ce d kp 0 = if may d then 0 else 8 := by unfold ce; simp
    rw [e0]
    refine le_of_all ?_ ?_ rfl rfl rfl rfl <;> simp only [patch, sl]
  · obtain ⟨hi, hq⟩ := hi
    simp only [patch, s_0, s_s]
    refine awp_seq_k fun KC hKC => ?_
    by_cases hlt : i < kp.length
    · by_cases h0 : ce d kp i = 0
      · have hgk := getD_map intC kp i [] hlt
        have es := ce_succ hlt h0
        unfold okp at es
        refine awp_seq_k fun K hK => awp_ev tab_ok [] ?_
        simp (maxSteps := 4000000) only [su, evLit, hbT, tab, thenA, blockA, reduceCtorEq, reduceIte, Nat.reduceEqDiff, Nat.reduceBEq, Int.reduceLE, Int.reduceToNat, Nat.reduceAdd, Nat.reduceLT, Nat.reduceLeDiff, List.length_map, hlt, h0, Int.reduceBEq]
        repeat' (first | (with_reducible refine hK _ ?_; clear hK K) | with_reducible apply And.intro)
        refine awp_cond_t rfl (awp_skip (hKC _ ?_))
        clear hKC KC
        refine awp_seq_k fun KC hKC => awp_block ?_
        refine awp_seq_k fun K hK => awp_ev tab_ok [] ?_
        simp (maxSteps := 4000000) only [su, evLit, hbT, tab, thenA, blockA, reduceCtorEq, reduceIte, Nat.reduceEqDiff, Nat.reduceBEq, Int.reduceLE, Int.reduceToNat, Nat.reduceAdd, Nat.reduceLT, Nat.reduceLeDiff, hlt, List.length_map, hgk, intC]
        repeat' (first | (with_reducible refine hK _ ?_; clear hK K) | with_reducible apply And.intro)
        refine call_pure (c_rnumber kp[i] 129) ?_
        simp (maxSteps := 4000000) only [su, evLit, hbT, tab, thenA, blockA, reduceCtorEq, reduceIte, Nat.reduceEqDiff, Nat.reduceBEq, Int.reduceLE, Int.reduceToNat, Nat.reduceAdd, Nat.reduceLT, Nat.reduceLeDiff]
        repeat' (first | (with_reducible refine hK _ ?_; clear hK K) | with_reducible apply And.intro)
        cases hc : (decide (0 ≤ kp[i]) && decide (kp[i] < 129)) with
        | true =>
          rw [hc, if_pos rfl] at es
          refine awp_cond_f rfl (awp_skip (hKC _ ?_))
          clear hKC KC
          refine awp_ev tab_ok [] ?_
          simp (maxSteps := 4000000) only [su, evLit, hbT, tab, thenA, blockA, reduceCtorEq, reduceIte, Nat.reduceEqDiff, Nat.reduceBEq, Int.reduceLE, Int.reduceToNat, Nat.reduceAdd, Nat.reduceLT, Nat.reduceLeDiff, addw (n := i) 1 1 rfl (by omega)]
          refine ⟨i + 1, by omega, by omega, ?_⟩
          rw [es]
          refine le_of_all ?_ ?_ rfl rfl rfl rfl <;> simp only [patch, sl]
        | false =>
          rw [hc, if_neg (by decide)] at es
          refine awp_cond_t rfl ?_
          refine awp_ev tab_ok [] ?_
          simp (maxSteps := 4000000) only [su, evLit, hbT, tab, thenA, blockA, reduceCtorEq, reduceIte, Nat.reduceEqDiff, Nat.reduceBEq, Int.reduceLE, Int.reduceToNat, Nat.reduceAdd, Nat.reduceLT, Nat.reduceLeDiff]
          refine hKC _ ?_
          clear hKC KC
          refine awp_ev tab_ok [] ?_
          simp (maxSteps := 4000000) only [su, evLit, hbT, tab, thenA, blockA, reduceCtorEq, reduceIte, Nat.reduceEqDiff, Nat.reduceBEq, Int.reduceLE, Int.reduceToNat, Nat.reduceAdd, Nat.reduceLT, Nat.reduceLeDiff, addw (n := i) 1 1 rfl (by omega)]
          refine ⟨i + 1, by omega, by omega, ?_⟩
          rw [es]
          refine le_of_all ?_ ?_ rfl rfl rfl rfl <;> simp only [patch, sl]
      · have e6 := ce_all (d := d) (kp := kp) (i := i) (.inr h0)
        have g0 : (ce d kp i == 0) = false := by simpa using h0
        refine awp_seq_k fun K hK => awp_ev tab_ok [] ?_
        simp (maxSteps := 4000000) only [su, evLit, hbT, tab, thenA, blockA, reduceCtorEq, reduceIte, Nat.reduceEqDiff, Nat.reduceBEq, Int.reduceLE, Int.reduceToNat, Nat.reduceAdd, Nat.reduceLT, Nat.reduceLeDiff, List.length_map, hlt, g0]
        repeat' (first | (with_reducible refine hK _ ?_; clear hK K) | with_reducible apply And.intro)
        refine awp_cond_f rfl (awp_exit ?_)
        rw [e6]
        simp only [thenA, blockA, if_true]
        refine .inl ⟨by trivial, ?_⟩
        refine le_of_all ?_ ?_ rfl rfl rfl rfl <;> simp only [patch, sl]
    · have e6 := ce_all (d := d) (kp := kp) (i := i) (.inl (by omega))
      rw [e6]
      refine awp_seq_k fun K hK => awp_ev tab_ok [] ?_
      simp (maxSteps := 4000000) only [su, evLit, hbT, tab, thenA, blockA, reduceCtorEq, reduceIte, Nat.reduceEqDiff, Nat.reduceBEq, Int.reduceLE, Int.reduceToNat, Nat.reduceAdd, Nat.reduceLT, Nat.reduceLeDiff, List.length_map, hlt]
      repeat' (first | (with_reducible refine hK _ ?_; clear hK K) | with_reducible apply And.intro)
      refine awp_cond_f rfl (awp_exit ?_)
      simp only [thenA, blockA, if_true]
      refine .inl ⟨by trivial, ?_⟩
      refine le_of_all ?_ ?_ rfl rfl rfl rfl <;> simp only [patch, sl]
  refine hKB _ ?_
  clear hKB KB
  simp only [patch, s_0, s_s]
  refine awp_seq_to [(6, i64 (crashE d kp)), (26, .top), (27, .top), (28, .top), (29, .top), (30, .top), (31, .top), (32, .top), (33, .top), (34, .top), (35, .top)] [some (.box 25 [.sl 1 (d.sectors.map secC) .sh, .sl 2 (d.waits.map wrC) .sh]), some (.box 25 [.sl 0 [] .nil, .sl 0 [] .nil])] out (id ?_) ?_
  rotate_left
  · by_cases h8 : ce d kp kp.length = 8
    · have g8 : (ce d kp kp.length != 8) = false := by simpa using h8
      rw [g8, Bool.false_and, if_neg (by decide)] at hE
      refine awp_seq_k fun K hK => awp_ev tab_ok [] ?_
      simp (maxSteps := 4000000) only [su, evLit, hbT, tab, thenA, blockA, reduceCtorEq, reduceIte, Nat.reduceEqDiff, Nat.reduceBEq, Int.reduceLE, Int.reduceToNat, Nat.reduceAdd, Nat.reduceLT, Nat.reduceLeDiff, g8]
      repeat' (first | (with_reducible refine hK _ ?_; clear hK K) | with_reducible apply And.intro)
      refine awp_cond_f rfl ?_
      rw [hE]
      refine awp_skip (.inl ⟨rfl, ?_⟩)
      refine le_of_all ?_ ?_ rfl rfl rfl rfl <;> simp only [patch, sl]
    · have g8 : (ce d kp kp.length != 8) = true := by simpa using h8
      by_cases hl : kp.length = d.waits.length
      · have gl : ((kp.length : Int) != (d.waits.length : Int)) = false := by simp; omega
        rw [g8, decide_eq_true hl, if_neg (by decide)] at hE
        refine awp_seq_k fun K hK => awp_ev tab_ok [] ?_
        simp (maxSteps := 4000000) only [su, evLit, hbT, tab, thenA, blockA, reduceCtorEq, reduceIte, Nat.reduceEqDiff, Nat.reduceBEq, Int.reduceLE, Int.reduceToNat, Nat.reduceAdd, Nat.reduceLT, Nat.reduceLeDiff, g8, gl, List.length_map]
        repeat' (first | (with_reducible refine hK _ ?_; clear hK K) | with_reducible apply And.intro)
        refine awp_cond_f rfl ?_
        rw [hE]
        refine awp_skip (.inl ⟨rfl, ?_⟩)
        refine le_of_all ?_ ?_ rfl rfl rfl rfl <;> simp only [patch, sl]
      · have gl : ((kp.length : Int) != (d.waits.length : Int)) = true := by simp; omega
        rw [g8, decide_eq_false hl, if_pos (by decide)] at hE
        refine awp_seq_k fun K hK => awp_ev tab_ok [] ?_
        simp (maxSteps := 4000000) only [su, evLit, hbT, tab, thenA, blockA, reduceCtorEq, reduceIte, Nat.reduceEqDiff, Nat.reduceBEq, Int.reduceLE, Int.reduceToNat, Nat.reduceAdd, Nat.reduceLT, Nat.reduceLeDiff, g8, gl, List.length_map]
        repeat' (first | (with_reducible refine hK _ ?_; clear hK K) | with_reducible apply And.intro)
        refine awp_cond_t rfl ?_
        rw [hE]
        refine awp_ev tab_ok [] ?_
        simp (maxSteps := 4000000) only [su, evLit, hbT, tab, thenA, blockA, reduceCtorEq, reduceIte, Nat.reduceEqDiff, Nat.reduceBEq, Int.reduceLE, Int.reduceToNat, Nat.reduceAdd, Nat.reduceLT, Nat.reduceLeDiff]
        refine .inl ?_
        refine le_of_all ?_ ?_ rfl rfl rfl rfl <;> simp only [patch, sl]
  simp only [patch, s_0, s_s]
  refine awp_seq_k fun KB hKB => ?_
  by_cases h0 : crashE d kp ≠ 0
  · have g0 : (crashE d kp != 0) = true := by simpa using h0
    have g1 : crashD d kp = noDsk := by unfold crashD; rw [if_neg h0]
    refine awp_seq_k fun K hK => awp_ev tab_ok [] ?_
    simp (maxSteps := 4000000) only [su, evLit, hbT, tab, thenA, blockA, reduceCtorEq, reduceIte, Nat.reduceEqDiff, Nat.reduceBEq, Int.reduceLE, Int.reduceToNat, Nat.reduceAdd, Nat.reduceLT, Nat.reduceLeDiff, g0]
    repeat' (first | (with_reducible refine hK _ ?_; clear hK K) | with_reducible apply And.intro)
    refine awp_cond_t rfl ?_
    refine awp_seq_k fun K hK => awp_ev tab_ok [] ?_
    simp (maxSteps := 4000000) only [su, evLit, hbT, tab, thenA, blockA, reduceCtorEq, reduceIte, Nat.reduceEqDiff, Nat.reduceBEq, Int.reduceLE, Int.reduceToNat, Nat.reduceAdd, Nat.reduceLT, Nat.reduceLeDiff]
    repeat' (first | (with_reducible refine hK _ ?_; clear hK K) | with_reducible apply And.intro)
    refine awp_ret ?_
    refine ret_ct (.inr rfl) rfl rfl rfl (fun _ _ => rfl) ok25 (k := n + 1) (off := 0) rfl (dom_loc _ (by simp)) (look_loc _ (Nat.le_refl _) 1) rfl rfl ?_
    rw [g1]
    simp only [dskA, dskC, noDsk, List.map_nil, patch, sl]
  have h0' : crashE d kp = 0 := by omega
  have g0 : (crashE d kp != 0) = false := by simpa using h0'
  refine awp_seq_k fun K hK => awp_ev tab_ok [] ?_
  simp (maxSteps := 4000000) only [su, evLit, hbT, tab, thenA, blockA, reduceCtorEq, reduceIte, Nat.reduceEqDiff, Nat.reduceBEq, Int.reduceLE, Int.reduceToNat, Nat.reduceAdd, Nat.reduceLT, Nat.reduceLeDiff, g0]
  repeat' (first | (with_reducible refine hK _ ?_; clear hK K) | with_reducible apply And.intro)
  refine awp_cond_f rfl (awp_skip (hKB _ ?_))
  clear hKB KB
  obtain ⟨hm, hl, hk⟩ := crashE_0.1 h0'
  have hkp : kp = [] ∨ kp.length = d.waits.length := .inr hl
  have hcm : comes (kq kp) d = crashD d kp := by
    unfold crashD
    rw [if_pos h0']
    by_cases hn : kp = []
    · have hw : d.waits.length = 0 := by rw [← hl, hn]; rfl
      unfold comes
      rw [hw]; rfl
    · unfold kq; simp only [if_neg hn]
  have hc := c_rcomes d kp hm hkp hk
  rw [hcm] at hc
  refine awp_seq_k fun K hK => awp_ev tab_ok [] ?_
  simp (maxSteps := 4000000) only [su, evLit, hbT, tab, thenA, blockA, reduceCtorEq, reduceIte, Nat.reduceEqDiff, Nat.reduceBEq, Int.reduceLE, Int.reduceToNat, Nat.reduceAdd, Nat.reduceLT, Nat.reduceLeDiff]
  repeat' (first | (with_reducible refine hK _ ?_; clear hK K) | with_reducible apply And.intro)
  refine call_pure hc ?_
  simp (maxSteps := 4000000) only [su, evLit, hbT, tab, thenA, blockA, reduceCtorEq, reduceIte, Nat.reduceEqDiff, Nat.reduceBEq, Int.reduceLE, Int.reduceToNat, Nat.reduceAdd, Nat.reduceLT, Nat.reduceLeDiff, dskA, dskC]
  repeat' (first | (with_reducible refine hK _ ?_; clear hK K) | with_reducible apply And.intro)
  refine awp_ret ?_
  refine ret_ct (.inr rfl) rfl rfl rfl (fun _ _ => rfl) ok25 (k := n + 1) (off := 0) rfl (dom_loc _ (by simp)) (look_loc _ (Nat.le_refl _) 1) rfl rfl ?_
  rw [h0']
  simp only [dskA, dskC, patch, sl]
end Go.Proofs.Ytefkjdkalgemeaa
