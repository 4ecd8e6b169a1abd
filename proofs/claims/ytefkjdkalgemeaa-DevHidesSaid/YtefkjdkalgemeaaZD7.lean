/-
  Disks that may be.
-/
import Derived.Test.YtefkjdkalgemeaaZGA
import Derived.Test.YtefkjdkalgemeaaZD6
namespace Go.Proofs.Ytefkjdkalgemeaa
set_option linter.unusedVariables false
set_option linter.unusedSimpArgs false
open Go Go.VS Tab
set_option maxHeartbeats 1000000
set_option maxRecDepth 4000
theorem c_below (a m : Int) : ACall Try.prog 56 [i64 a, i64 m] [] (bool (decide (0 ≤ a) && decide (a < m))) [] := by
  refine acall_of 0 Try.func56 rfl fun n out _ _ => ?_
  simp only [Try.ntmps56, List.length_cons, List.length_nil, List.length_map, List.length_replicate, rep_map, Nat.reduceAdd, Nat.reduceSub, List.replicate, List.cons_append, List.nil_append]
  refine awp_seq_k fun K hK => awp_ev tab_ok [] ?_
  simp (maxSteps := 4000000) only [su, evLit, hbT, tab, thenA, blockA, reduceCtorEq, reduceIte, Nat.reduceEqDiff, Nat.reduceBEq, Int.reduceLE, Int.reduceToNat, Nat.reduceAdd, Nat.reduceLT, Nat.reduceLeDiff]
  repeat' (first | (with_reducible refine hK _ ?_; clear hK K) | with_reducible apply And.intro)
  by_cases h : 0 ≤ a
  · have e : decide (a ≥ 0) = true := decide_eq_true h
    refine awp_seq_k fun K hK => awp_ev tab_ok [] ?_
    simp (maxSteps := 4000000) only [su, evLit, hbT, tab, thenA, blockA, reduceCtorEq, reduceIte, Nat.reduceEqDiff, Nat.reduceBEq, Int.reduceLE, Int.reduceToNat, Nat.reduceAdd, Nat.reduceLT, Nat.reduceLeDiff, e]
    repeat' (first | (with_reducible refine hK _ ?_; clear hK K) | with_reducible apply And.intro)
    rw [show decide (0 ≤ a) = true from e, Bool.true_and]
    refine awp_ret ?_
    exact ret_tmp (.inr rfl) rfl rfl rfl (fun _ _ => rfl) rfl
  · have e : decide (a ≥ 0) = false := decide_eq_false h
    refine awp_seq_k fun K hK => awp_ev tab_ok [] ?_
    simp (maxSteps := 4000000) only [su, evLit, hbT, tab, thenA, blockA, reduceCtorEq, reduceIte, Nat.reduceEqDiff, Nat.reduceBEq, Int.reduceLE, Int.reduceToNat, Nat.reduceAdd, Nat.reduceLT, Nat.reduceLeDiff, e]
    repeat' (first | (with_reducible refine hK _ ?_; clear hK K) | with_reducible apply And.intro)
    rw [show decide (0 ≤ a) = false from e, Bool.false_and]
    refine awp_ret ?_
    exact ret_tmp (.inr rfl) rfl rfl rfl (fun _ _ => rfl) rfl
theorem c_check1 (w : Wr) : ACall Try.prog 68 [wrA w] [] (i64 w.at') [] := by
  refine acall_of 1 Try.func68 rfl fun n out _ _ => ?_
  simp only [Try.ntmps68, List.length_cons, List.length_nil, List.length_map, List.length_replicate, rep_map, Nat.reduceAdd, Nat.reduceSub, List.replicate, List.cons_append, List.nil_append]
  refine awp_seq_k fun K hK => awp_ev tab_ok [] ?_
  simp (maxSteps := 4000000) only [su, evLit, hbT, tab, thenA, blockA, reduceCtorEq, reduceIte, Nat.reduceEqDiff, Nat.reduceBEq, Int.reduceLE, Int.reduceToNat, Nat.reduceAdd, Nat.reduceLT, Nat.reduceLeDiff, wrA, wrC]
  repeat' (first | (with_reducible refine hK _ ?_; clear hK K) | with_reducible apply And.intro)
  refine awp_seq_k fun K hK => awp_ev tab_ok [] ?_
  simp (maxSteps := 4000000) only [su, evLit, hbT, tab, thenA, blockA, reduceCtorEq, reduceIte, Nat.reduceEqDiff, Nat.reduceBEq, Int.reduceLE, Int.reduceToNat, Nat.reduceAdd, Nat.reduceLT, Nat.reduceLeDiff]
  repeat' (first | (with_reducible refine hK _ ?_; clear hK K) | with_reducible apply And.intro)
  refine awp_ret ?_
  exact ret_tmp (.inr rfl) rfl rfl rfl (fun _ _ => rfl) rfl
theorem c_check2 (w : Wr) : ACall Try.prog 69 [wrA w] [] (bs w.data) [] := by
  refine acall_of 1 Try.func69 rfl fun n out _ _ => ?_
  simp only [Try.ntmps69, List.length_cons, List.length_nil, List.length_map, List.length_replicate, rep_map, Nat.reduceAdd, Nat.reduceSub, List.replicate, List.cons_append, List.nil_append]
  refine awp_seq_k fun K hK => awp_ev tab_ok [] ?_
  simp (maxSteps := 4000000) only [su, evLit, hbT, tab, thenA, blockA, reduceCtorEq, reduceIte, Nat.reduceEqDiff, Nat.reduceBEq, Int.reduceLE, Int.reduceToNat, Nat.reduceAdd, Nat.reduceLT, Nat.reduceLeDiff, wrA, wrC]
  repeat' (first | (with_reducible refine hK _ ?_; clear hK K) | with_reducible apply And.intro)
  refine awp_seq_k fun K hK => awp_ev tab_ok [] ?_
  simp (maxSteps := 4000000) only [su, evLit, hbT, tab, thenA, blockA, reduceCtorEq, reduceIte, Nat.reduceEqDiff, Nat.reduceBEq, Int.reduceLE, Int.reduceToNat, Nat.reduceAdd, Nat.reduceLT, Nat.reduceLeDiff]
  repeat' (first | (with_reducible refine hK _ ?_; clear hK K) | with_reducible apply And.intro)
  refine awp_ret ?_
  exact ret_tmp (.inr rfl) rfl rfl rfl (fun _ _ => rfl) rfl
theorem c_check3 (l : List UInt8) : ACall Try.prog 73 [bs l] [] (bool ((l.length : Int) != 128)) [] := by
  refine acall_of 0 Try.func73 rfl fun n out _ _ => ?_
  simp only [Try.ntmps73, List.length_cons, List.length_nil, List.length_map, List.length_replicate, rep_map, Nat.reduceAdd, Nat.reduceSub, List.replicate, List.cons_append, List.nil_append]
  refine awp_seq_k fun K hK => awp_ev tab_ok [] ?_
  simp (maxSteps := 4000000) only [su, evLit, hbT, tab, thenA, blockA, reduceCtorEq, reduceIte, Nat.reduceEqDiff, Nat.reduceBEq, Int.reduceLE, Int.reduceToNat, Nat.reduceAdd, Nat.reduceLT, Nat.reduceLeDiff]
  repeat' (first | (with_reducible refine hK _ ?_; clear hK K) | with_reducible apply And.intro)
  refine awp_seq_k fun K hK => awp_ev tab_ok [] ?_
  simp (maxSteps := 4000000) only [su, evLit, hbT, tab, thenA, blockA, reduceCtorEq, reduceIte, Nat.reduceEqDiff, Nat.reduceBEq, Int.reduceLE, Int.reduceToNat, Nat.reduceAdd, Nat.reduceLT, Nat.reduceLeDiff, bytes_length]
  repeat' (first | (with_reducible refine hK _ ?_; clear hK K) | with_reducible apply And.intro)
  refine awp_ret ?_
  exact ret_tmp (.inr rfl) rfl rfl rfl (fun _ _ => rfl) rfl
theorem c_check4 (a : Int) : ACall Try.prog 75 [i64 a] [] (bool (!(decide (0 ≤ a) && decide (a < 32)))) [] := by
  refine acall_of 0 Try.func75 rfl fun n out _ _ => ?_
  simp only [Try.ntmps75, List.length_cons, List.length_nil, List.length_map, List.length_replicate, rep_map, Nat.reduceAdd, Nat.reduceSub, List.replicate, List.cons_append, List.nil_append]
  refine awp_seq_k fun K hK => awp_ev tab_ok [] ?_
  simp (maxSteps := 4000000) only [su, evLit, hbT, tab, thenA, blockA, reduceCtorEq, reduceIte, Nat.reduceEqDiff, Nat.reduceBEq, Int.reduceLE, Int.reduceToNat, Nat.reduceAdd, Nat.reduceLT, Nat.reduceLeDiff]
  repeat' (first | (with_reducible refine hK _ ?_; clear hK K) | with_reducible apply And.intro)
  refine awp_seq_k fun K hK => awp_ev tab_ok [] ?_
  simp (maxSteps := 4000000) only [su, evLit, hbT, tab, thenA, blockA, reduceCtorEq, reduceIte, Nat.reduceEqDiff, Nat.reduceBEq, Int.reduceLE, Int.reduceToNat, Nat.reduceAdd, Nat.reduceLT, Nat.reduceLeDiff]
  repeat' (first | (with_reducible refine hK _ ?_; clear hK K) | with_reducible apply And.intro)
  refine call_pure (c_below a 32) ?_
  simp (maxSteps := 4000000) only [su, evLit, hbT, tab, thenA, blockA, reduceCtorEq, reduceIte, Nat.reduceEqDiff, Nat.reduceBEq, Int.reduceLE, Int.reduceToNat, Nat.reduceAdd, Nat.reduceLT, Nat.reduceLeDiff]
  repeat' (first | (with_reducible refine hK _ ?_; clear hK K) | with_reducible apply And.intro)
  refine awp_ret ?_
  exact ret_tmp (.inr rfl) rfl rfl rfl (fun _ _ => rfl) rfl
def mayW (w : Wr) : Bool := decide (0 ≤ w.at') && decide (w.at' < 32) && decide (w.data.length = 128)
def may (d : Dsk) : Bool := decide (d.sectors.length = 32) && decide (d.waits.length ≤ 256) && d.sectors.all (fun b => decide (b.length = 128)) && d.waits.all mayW
theorem may_iff (d : Dsk) : may d = true ↔ d.sectors.length = 32 ∧ d.waits.length ≤ 256 ∧ (∀ b, b ∈ d.sectors → b.length = 128) ∧ ∀ w, w ∈ d.waits → 0 ≤ w.at' ∧ w.at' < 32 ∧ w.data.length = 128 := by
  simp [may, mayW, and_assoc]
theorem c_check (d : Dsk) (h1 : d.sectors.length ≤ 1000) (h2 : d.waits.length ≤ 1000) : ACall Try.prog 30 [dskA d] [] (i64 (if may d then 0 else 8)) [] := by
  refine acall_of 5 Try.func30 rfl fun n out _ _ => ?_
  simp only [Try.ntmps30, List.length_cons, List.length_nil, List.length_map, List.length_replicate, rep_map, Nat.reduceAdd, Nat.reduceSub, List.replicate, List.cons_append, List.nil_append]
  refine awp_seq_k fun K hK => awp_ev tab_ok [] ?_
  simp (maxSteps := 4000000) only [su, evLit, hbT, tab, thenA, blockA, reduceCtorEq, reduceIte, Nat.reduceEqDiff, Nat.reduceBEq, Int.reduceLE, Int.reduceToNat, Nat.reduceAdd, Nat.reduceLT, Nat.reduceLeDiff, dskA, dskC]
  repeat' (first | (with_reducible refine hK _ ?_; clear hK K) | with_reducible apply And.intro)
  refine awp_seq_k fun K hK => awp_ev tab_ok [] ?_
  simp (maxSteps := 4000000) only [su, evLit, hbT, tab, thenA, blockA, reduceCtorEq, reduceIte, Nat.reduceEqDiff, Nat.reduceBEq, Int.reduceLE, Int.reduceToNat, Nat.reduceAdd, Nat.reduceLT, Nat.reduceLeDiff]
  repeat' (first | (with_reducible refine hK _ ?_; clear hK K) | with_reducible apply And.intro)
  refine awp_seq_k fun K hK => awp_ev tab_ok [] ?_
  simp (maxSteps := 4000000) only [su, evLit, hbT, tab, thenA, blockA, reduceCtorEq, reduceIte, Nat.reduceEqDiff, Nat.reduceBEq, Int.reduceLE, Int.reduceToNat, Nat.reduceAdd, Nat.reduceLT, Nat.reduceLeDiff]
  repeat' (first | (with_reducible refine hK _ ?_; clear hK K) | with_reducible apply And.intro)
  have lit : ∀ (σ : AState) (K : AV → List (Nat × Res) → Prop) (m1 m2 : Md) (x y : List (List AV)), evLit tab σ K none 127 2 [(0, .sl 1 x m1), (1, .sl 1 y m2)] = K (.sl 1 [[.sl 1 x m1], [.sl 1 y m2]] .full) [] := fun σ K m1 m2 x y =>
    evLit_two (T := tab) (ti := ti127) (te := ti22) rfl rfl rfl rfl rfl rfl
  refine awp_seq_k fun K hK => awp_ev_draw tab_ok [] [[], [0], [], [0], [], [1], [], [2], []] [[], [], [], [], [], [1], [], [2], []] follows (by kernel_rfl) (by decide) (by decide) (by kernel_rfl) ?_
  simp (maxSteps := 4000000) only [su, hbT, tab, thenA, blockA, reduceCtorEq, reduceIte, Nat.reduceEqDiff, Nat.reduceBEq, Int.reduceLE, Int.reduceToNat, Nat.reduceAdd, Nat.reduceLT, Nat.reduceLeDiff]
  repeat' (first | (with_reducible refine hK _ ?_; clear hK K) | with_reducible apply And.intro)
  refine call_one (c_each_wb (n + 1) d.waits _ [] (fun w => bs w.data) (fun w => secC w.data) (hb0 _ (by decide) (by decide)) (by omega) (fun _ => rfl) (fun _ => rfl) fun w _ => c_check2 w) (look_loc _ (Nat.le_refl _) 1) (dom_loc _ (by simp)) (by simp) ?_
  simp (maxSteps := 4000000) only [su, hbT, tab, thenA, blockA, reduceCtorEq, reduceIte, Nat.reduceEqDiff, Nat.reduceBEq, Int.reduceLE, Int.reduceToNat, Nat.reduceAdd, Nat.reduceLT, Nat.reduceLeDiff, lit]
  refine call_one (c_concat_rows (n + 2) (d.sectors.map secC) (d.waits.map fun w => secC w.data) _ _ _ (by simp; omega)) (look_loc _ (Nat.le_refl _) 2) (dom_loc _ (by simp)) (by simp) ?_
  simp (maxSteps := 4000000) only [su, evLit, hbT, tab, thenA, blockA, reduceCtorEq, reduceIte, Nat.reduceEqDiff, Nat.reduceBEq, Int.reduceLE, Int.reduceToNat, Nat.reduceAdd, Nat.reduceLT, Nat.reduceLeDiff]
  repeat' (first | (with_reducible refine hK _ ?_; clear hK K) | with_reducible apply And.intro)
  have e1 : d.sectors.map secC ++ d.waits.map (fun w => secC w.data) = (d.sectors ++ d.waits.map Wr.data).map secC := by simp
  rw [e1]
  obtain ⟨odd, hodd⟩ : ∃ odd, odd = (d.sectors ++ d.waits.map Wr.data).any fun l => (l.length : Int) != 128 := ⟨_, rfl⟩
  refine awp_seq_k fun K hK => awp_ev tab_ok [] ?_
  simp (maxSteps := 4000000) only [su, evLit, hbT, tab, thenA, blockA, reduceCtorEq, reduceIte, Nat.reduceEqDiff, Nat.reduceBEq, Int.reduceLE, Int.reduceToNat, Nat.reduceAdd, Nat.reduceLT, Nat.reduceLeDiff]
  repeat' (first | (with_reducible refine hK _ ?_; clear hK K) | with_reducible apply And.intro)
  refine call_pure (acall_le (c_containsFunc_rows secC bs (d.sectors ++ d.waits.map Wr.data) _ [] (fun l => (l.length : Int) != 128) (hb0 _ (by decide) (by decide)) (by simp; omega) pick_sec fun l _ => c_check3 l) ⟨.sh _ _ _, .rfl _, trivial⟩) ?_
  simp (maxSteps := 4000000) only [su, evLit, hbT, tab, thenA, blockA, reduceCtorEq, reduceIte, Nat.reduceEqDiff, Nat.reduceBEq, Int.reduceLE, Int.reduceToNat, Nat.reduceAdd, Nat.reduceLT, Nat.reduceLeDiff]
  repeat' (first | (with_reducible refine hK _ ?_; clear hK K) | with_reducible apply And.intro)
  rw [← hodd]
  obtain ⟨away, haway⟩ : ∃ away, away = (d.waits.map Wr.at').any fun a => !(decide (0 ≤ a) && decide (a < 32)) := ⟨_, rfl⟩
  refine awp_seq_k fun K hK => awp_ev tab_ok [] ?_
  simp (maxSteps := 4000000) only [su, hbT, tab, thenA, blockA, reduceCtorEq, reduceIte, Nat.reduceEqDiff, Nat.reduceBEq, Int.reduceLE, Int.reduceToNat, Nat.reduceAdd, Nat.reduceLT, Nat.reduceLeDiff]
  repeat' (first | (with_reducible refine hK _ ?_; clear hK K) | with_reducible apply And.intro)
  refine call_one (c_each_wi (n + 3) d.waits _ [] (fun w => i64 w.at') (fun w => intC w.at') (hb0 _ (by decide) (by decide)) (by omega) (fun _ => rfl) (fun _ => rfl) fun w _ => c_check1 w) (look_loc _ (Nat.le_refl _) 3) (dom_loc _ (by simp)) (by simp) ?_
  simp (maxSteps := 4000000) only [su, evLit, hbT, tab, thenA, blockA, reduceCtorEq, reduceIte, Nat.reduceEqDiff, Nat.reduceBEq, Int.reduceLE, Int.reduceToNat, Nat.reduceAdd, Nat.reduceLT, Nat.reduceLeDiff]
  have e2 : d.waits.map (fun w => intC w.at') = (d.waits.map Wr.at').map intC := by simp
  rw [e2]
  refine call_pure (acall_le (c_containsFunc_ints intC i64 (d.waits.map Wr.at') _ [] (fun a => !(decide (0 ≤ a) && decide (a < 32))) (hb0 _ (by decide) (by decide)) (by simp; omega) pick_int fun a _ => c_check4 a) ⟨.sh _ _ _, .rfl _, trivial⟩) ?_
  simp (maxSteps := 4000000) only [su, evLit, hbT, tab, thenA, blockA, reduceCtorEq, reduceIte, Nat.reduceEqDiff, Nat.reduceBEq, Int.reduceLE, Int.reduceToNat, Nat.reduceAdd, Nat.reduceLT, Nat.reduceLeDiff]
  repeat' (first | (with_reducible refine hK _ ?_; clear hK K) | with_reducible apply And.intro)
  rw [← haway]
  have key : may d = (!odd && !away && decide (d.sectors.length = 32) && decide (d.waits.length ≤ 256)) := by
    rw [Bool.eq_iff_iff, may_iff, hodd, haway]
    simp only [Bool.and_eq_true, Bool.not_eq_true', List.any_eq_false, decide_eq_true_eq, List.mem_append, List.mem_map]
    constructor
    · rintro ⟨q1, q2, q3, q4⟩
      refine ⟨⟨⟨fun x hx => ?_, fun x hx => ?_⟩, q1⟩, q2⟩
      · rcases hx with hx | ⟨w, hw, rfl⟩
        · rw [q3 x hx]; decide
        · rw [(q4 w hw).2.2]; decide
      · obtain ⟨w, hw, rfl⟩ := hx
        have := q4 w hw
        simp [this.1, this.2.1]
    · rintro ⟨⟨⟨q1, q2⟩, q3⟩, q4⟩
      have q5 : ∀ x : List UInt8, ¬ ((x.length : Int) != 128) = true → x.length = 128 := fun x h => by
        simp at h; omega
      refine ⟨q3, q4, fun b hb => q5 b (q1 b (.inl hb)), fun w hw => ?_⟩
      have h1 := q5 _ (q1 w.data (.inr ⟨w, hw, rfl⟩))
      have h2 := q2 w.at' ⟨w, hw, rfl⟩
      have h3 : 0 ≤ w.at' ∧ w.at' < 32 := by simpa using h2
      exact ⟨h3.1, h3.2, h1⟩
  rw [key]
  cases odd with
  | true =>
    refine awp_seq_k fun KB hKB => ?_
    refine awp_seq_k fun K hK => awp_ev tab_ok [] ?_
    simp (maxSteps := 4000000) only [su, evLit, hbT, tab, thenA, blockA, reduceCtorEq, reduceIte, Nat.reduceEqDiff, Nat.reduceBEq, Int.reduceLE, Int.reduceToNat, Nat.reduceAdd, Nat.reduceLT, Nat.reduceLeDiff, List.length_map]
    repeat' (first | (with_reducible refine hK _ ?_; clear hK K) | with_reducible apply And.intro)
    refine awp_cond_t rfl ?_
    refine awp_seq_k fun K hK => awp_ev tab_ok [] ?_
    simp (maxSteps := 4000000) only [su, evLit, hbT, tab, thenA, blockA, reduceCtorEq, reduceIte, Nat.reduceEqDiff, Nat.reduceBEq, Int.reduceLE, Int.reduceToNat, Nat.reduceAdd, Nat.reduceLT, Nat.reduceLeDiff]
    repeat' (first | (with_reducible refine hK _ ?_; clear hK K) | with_reducible apply And.intro)
    refine awp_ret ?_
    exact ret_tmp (.inr rfl) rfl rfl rfl (fun _ _ => rfl) rfl
  | false =>
    cases away with
    | true =>
      refine awp_seq_k fun KB hKB => ?_
      refine awp_seq_k fun K hK => awp_ev tab_ok [] ?_
      simp (maxSteps := 4000000) only [su, evLit, hbT, tab, thenA, blockA, reduceCtorEq, reduceIte, Nat.reduceEqDiff, Nat.reduceBEq, Int.reduceLE, Int.reduceToNat, Nat.reduceAdd, Nat.reduceLT, Nat.reduceLeDiff, List.length_map]
      repeat' (first | (with_reducible refine hK _ ?_; clear hK K) | with_reducible apply And.intro)
      refine awp_cond_t rfl ?_
      refine awp_seq_k fun K hK => awp_ev tab_ok [] ?_
      simp (maxSteps := 4000000) only [su, evLit, hbT, tab, thenA, blockA, reduceCtorEq, reduceIte, Nat.reduceEqDiff, Nat.reduceBEq, Int.reduceLE, Int.reduceToNat, Nat.reduceAdd, Nat.reduceLT, Nat.reduceLeDiff]
      repeat' (first | (with_reducible refine hK _ ?_; clear hK K) | with_reducible apply And.intro)
      refine awp_ret ?_
      exact ret_tmp (.inr rfl) rfl rfl rfl (fun _ _ => rfl) rfl
    | false =>
      refine id ?_
      by_cases h32 : d.sectors.length = 32
      · have g : ((d.sectors.length : Int) != 32) = false := by simp; omega
        by_cases h256 : d.waits.length ≤ 256
        · have g' : decide ((d.waits.length : Int) > 256) = false := decide_eq_false (by omega)
          refine awp_seq_k fun KB hKB => ?_
          refine awp_seq_k fun K hK => awp_ev tab_ok [] ?_
          simp (maxSteps := 4000000) only [su, evLit, hbT, tab, thenA, blockA, reduceCtorEq, reduceIte, Nat.reduceEqDiff, Nat.reduceBEq, Int.reduceLE, Int.reduceToNat, Nat.reduceAdd, Nat.reduceLT, Nat.reduceLeDiff, List.length_map, g, g']
          repeat' (first | (with_reducible refine hK _ ?_; clear hK K) | with_reducible apply And.intro)
          refine awp_cond_f rfl (awp_skip (hKB _ ?_))
          refine awp_seq_k fun K hK => awp_ev tab_ok [] ?_
          simp (maxSteps := 4000000) only [su, evLit, hbT, tab, thenA, blockA, reduceCtorEq, reduceIte, Nat.reduceEqDiff, Nat.reduceBEq, Int.reduceLE, Int.reduceToNat, Nat.reduceAdd, Nat.reduceLT, Nat.reduceLeDiff]
          repeat' (first | (with_reducible refine hK _ ?_; clear hK K) | with_reducible apply And.intro)
          refine awp_ret ?_
          simp only [h32, h256, Bool.not_false, Bool.and_true, Bool.true_and, decide_true, if_true]
          exact ret_tmp (.inr rfl) rfl rfl rfl (fun _ _ => rfl) rfl
        · have g' : decide ((d.waits.length : Int) > 256) = true := decide_eq_true (by omega)
          refine awp_seq_k fun KB hKB => ?_
          refine awp_seq_k fun K hK => awp_ev tab_ok [] ?_
          simp (maxSteps := 4000000) only [su, evLit, hbT, tab, thenA, blockA, reduceCtorEq, reduceIte, Nat.reduceEqDiff, Nat.reduceBEq, Int.reduceLE, Int.reduceToNat, Nat.reduceAdd, Nat.reduceLT, Nat.reduceLeDiff, List.length_map, g, g']
          repeat' (first | (with_reducible refine hK _ ?_; clear hK K) | with_reducible apply And.intro)
          refine awp_cond_t rfl ?_
          refine awp_seq_k fun K hK => awp_ev tab_ok [] ?_
          simp (maxSteps := 4000000) only [su, evLit, hbT, tab, thenA, blockA, reduceCtorEq, reduceIte, Nat.reduceEqDiff, Nat.reduceBEq, Int.reduceLE, Int.reduceToNat, Nat.reduceAdd, Nat.reduceLT, Nat.reduceLeDiff]
          repeat' (first | (with_reducible refine hK _ ?_; clear hK K) | with_reducible apply And.intro)
          refine awp_ret ?_
          simp only [h32, h256, Bool.not_false, Bool.and_true, Bool.true_and, decide_true, decide_false, if_false, Bool.false_eq_true, Bool.and_false]
          exact ret_tmp (.inr rfl) rfl rfl rfl (fun _ _ => rfl) rfl
      · have g : ((d.sectors.length : Int) != 32) = true := by simp; omega
        refine awp_seq_k fun KB hKB => ?_
        refine awp_seq_k fun K hK => awp_ev tab_ok [] ?_
        simp (maxSteps := 4000000) only [su, evLit, hbT, tab, thenA, blockA, reduceCtorEq, reduceIte, Nat.reduceEqDiff, Nat.reduceBEq, Int.reduceLE, Int.reduceToNat, Nat.reduceAdd, Nat.reduceLT, Nat.reduceLeDiff, List.length_map, g]
        repeat' (first | (with_reducible refine hK _ ?_; clear hK K) | with_reducible apply And.intro)
        refine awp_cond_t rfl ?_
        refine awp_seq_k fun K hK => awp_ev tab_ok [] ?_
        simp (maxSteps := 4000000) only [su, evLit, hbT, tab, thenA, blockA, reduceCtorEq, reduceIte, Nat.reduceEqDiff, Nat.reduceBEq, Int.reduceLE, Int.reduceToNat, Nat.reduceAdd, Nat.reduceLT, Nat.reduceLeDiff]
        repeat' (first | (with_reducible refine hK _ ?_; clear hK K) | with_reducible apply And.intro)
        refine awp_ret ?_
        simp only [h32, Bool.not_false, Bool.and_true, Bool.true_and, decide_true, decide_false, if_false, Bool.false_eq_true, Bool.false_and]
        exact ret_tmp (.inr rfl) rfl rfl rfl (fun _ _ => rfl) rfl
theorem c_asked (d : Dsk) (b : Bool) (h1 : d.sectors.length ≤ 1000) (h2 : d.waits.length ≤ 1000) : ACall Try.prog 61 [dskA d, bool b] [] (i64 (if may d then (if b then 0 else 2) else 8)) [] := by
  refine acall_of 1 Try.func61 rfl fun n out _ _ => ?_
  simp only [Try.ntmps61, List.length_cons, List.length_nil, List.length_map, List.length_replicate, rep_map, Nat.reduceAdd, Nat.reduceSub, List.replicate, List.cons_append, List.nil_append]
  refine awp_seq_k fun K hK => awp_ev tab_ok [] ?_
  simp (maxSteps := 4000000) only [su, evLit, hbT, tab, thenA, blockA, reduceCtorEq, reduceIte, Nat.reduceEqDiff, Nat.reduceBEq, Int.reduceLE, Int.reduceToNat, Nat.reduceAdd, Nat.reduceLT, Nat.reduceLeDiff, dskA, dskC]
  repeat' (first | (with_reducible refine hK _ ?_; clear hK K) | with_reducible apply And.intro)
  refine awp_seq_k fun K hK => awp_ev tab_ok [] ?_
  simp (maxSteps := 4000000) only [su, evLit, hbT, tab, thenA, blockA, reduceCtorEq, reduceIte, Nat.reduceEqDiff, Nat.reduceBEq, Int.reduceLE, Int.reduceToNat, Nat.reduceAdd, Nat.reduceLT, Nat.reduceLeDiff]
  repeat' (first | (with_reducible refine hK _ ?_; clear hK K) | with_reducible apply And.intro)
  refine call_pure (c_check d h1 h2) ?_
  simp (maxSteps := 4000000) only [su, evLit, hbT, tab, thenA, blockA, reduceCtorEq, reduceIte, Nat.reduceEqDiff, Nat.reduceBEq, Int.reduceLE, Int.reduceToNat, Nat.reduceAdd, Nat.reduceLT, Nat.reduceLeDiff]
  repeat' (first | (with_reducible refine hK _ ?_; clear hK K) | with_reducible apply And.intro)
  cases hm : may d with
  | true =>
    cases b with
    | true =>
      refine awp_seq_k fun KB hKB => ?_
      refine awp_seq_k fun K hK => awp_ev tab_ok [] ?_
      simp (maxSteps := 4000000) only [su, evLit, hbT, tab, thenA, blockA, reduceCtorEq, reduceIte, Nat.reduceEqDiff, Nat.reduceBEq, Int.reduceLE, Int.reduceToNat, Nat.reduceAdd, Nat.reduceLT, Nat.reduceLeDiff]
      repeat' (first | (with_reducible refine hK _ ?_; clear hK K) | with_reducible apply And.intro)
      refine awp_cond_f rfl (awp_skip (hKB _ ?_))
      refine awp_seq_k fun K hK => awp_ev tab_ok [] ?_
      simp (maxSteps := 4000000) only [su, evLit, hbT, tab, thenA, blockA, reduceCtorEq, reduceIte, Nat.reduceEqDiff, Nat.reduceBEq, Int.reduceLE, Int.reduceToNat, Nat.reduceAdd, Nat.reduceLT, Nat.reduceLeDiff]
      repeat' (first | (with_reducible refine hK _ ?_; clear hK K) | with_reducible apply And.intro)
      refine awp_ret ?_
      exact ret_tmp (.inr rfl) rfl rfl rfl (fun _ _ => rfl) rfl
    | false =>
      refine awp_seq_k fun KB hKB => ?_
      refine awp_seq_k fun K hK => awp_ev tab_ok [] ?_
      simp (maxSteps := 4000000) only [su, evLit, hbT, tab, thenA, blockA, reduceCtorEq, reduceIte, Nat.reduceEqDiff, Nat.reduceBEq, Int.reduceLE, Int.reduceToNat, Nat.reduceAdd, Nat.reduceLT, Nat.reduceLeDiff]
      repeat' (first | (with_reducible refine hK _ ?_; clear hK K) | with_reducible apply And.intro)
      refine awp_cond_t rfl ?_
      refine awp_seq_k fun K hK => awp_ev tab_ok [] ?_
      simp (maxSteps := 4000000) only [su, evLit, hbT, tab, thenA, blockA, reduceCtorEq, reduceIte, Nat.reduceEqDiff, Nat.reduceBEq, Int.reduceLE, Int.reduceToNat, Nat.reduceAdd, Nat.reduceLT, Nat.reduceLeDiff]
      repeat' (first | (with_reducible refine hK _ ?_; clear hK K) | with_reducible apply And.intro)
      refine awp_ret ?_
      exact ret_tmp (.inr rfl) rfl rfl rfl (fun _ _ => rfl) rfl
  | false =>
    refine awp_seq_k fun KB hKB => ?_
    refine awp_seq_k fun K hK => awp_ev tab_ok [] ?_
    simp (maxSteps := 4000000) only [su, evLit, hbT, tab, thenA, blockA, reduceCtorEq, reduceIte, Nat.reduceEqDiff, Nat.reduceBEq, Int.reduceLE, Int.reduceToNat, Nat.reduceAdd, Nat.reduceLT, Nat.reduceLeDiff, Bool.false_eq_true, Int.reduceBEq]
    repeat' (first | (with_reducible refine hK _ ?_; clear hK K) | with_reducible apply And.intro)
    refine awp_cond_f rfl (awp_skip (hKB _ ?_))
    refine awp_seq_k fun K hK => awp_ev tab_ok [] ?_
    simp (maxSteps := 4000000) only [su, evLit, hbT, tab, thenA, blockA, reduceCtorEq, reduceIte, Nat.reduceEqDiff, Nat.reduceBEq, Int.reduceLE, Int.reduceToNat, Nat.reduceAdd, Nat.reduceLT, Nat.reduceLeDiff]
    repeat' (first | (with_reducible refine hK _ ?_; clear hK K) | with_reducible apply And.intro)
    refine awp_ret ?_
    exact ret_tmp (.inr rfl) rfl rfl rfl (fun _ _ => rfl) rfl
theorem c_twinW (w : Wr) (h : w.data.length ≤ 100000000) : ACall Try.prog 65 [wrA w] [] (wrA w) [] := by
  refine acall_of 2 Try.func65 rfl fun n out _ _ => ?_
  simp only [Try.ntmps65, List.length_cons, List.length_nil, List.length_map, List.length_replicate, rep_map, Nat.reduceAdd, Nat.reduceSub, List.replicate, List.cons_append, List.nil_append]
  refine awp_seq_k fun K hK => awp_ev tab_ok [] ?_
  simp (maxSteps := 4000000) only [su, evLit, hbT, tab, thenA, blockA, reduceCtorEq, reduceIte, Nat.reduceEqDiff, Nat.reduceBEq, Int.reduceLE, Int.reduceToNat, Nat.reduceAdd, Nat.reduceLT, Nat.reduceLeDiff, wrA, wrC]
  repeat' (first | (with_reducible refine hK _ ?_; clear hK K) | with_reducible apply And.intro)
  refine awp_seq_k fun K hK => awp_ev tab_ok [] ?_
  simp (maxSteps := 4000000) only [su, evLit, hbT, tab, thenA, blockA, reduceCtorEq, reduceIte, Nat.reduceEqDiff, Nat.reduceBEq, Int.reduceLE, Int.reduceToNat, Nat.reduceAdd, Nat.reduceLT, Nat.reduceLeDiff]
  repeat' (first | (with_reducible refine hK _ ?_; clear hK K) | with_reducible apply And.intro)
  refine call_pure (c_clone w.data h) ?_
  simp (maxSteps := 4000000) only [su, evLit, hbT, tab, thenA, blockA, reduceCtorEq, reduceIte, Nat.reduceEqDiff, Nat.reduceBEq, Int.reduceLE, Int.reduceToNat, Nat.reduceAdd, Nat.reduceLT, Nat.reduceLeDiff]
  repeat' (first | (with_reducible refine hK _ ?_; clear hK K) | with_reducible apply And.intro)
  refine awp_seq_k fun K hK => awp_ev tab_ok [] ?_
  simp (maxSteps := 4000000) only [su, evLit, hbT, tab, thenA, blockA, reduceCtorEq, reduceIte, Nat.reduceEqDiff, Nat.reduceBEq, Int.reduceLE, Int.reduceToNat, Nat.reduceAdd, Nat.reduceLT, Nat.reduceLeDiff]
  repeat' (first | (with_reducible refine hK _ ?_; clear hK K) | with_reducible apply And.intro)
  refine awp_ret ?_
  exact ret_cell (.inr rfl) rfl rfl rfl (fun _ _ => rfl) ok52 (k := n + 1) (off := 0) rfl (dom_loc _ (by simp)) (look_loc _ (Nat.le_refl _) 1) rfl
end Go.Proofs.Ytefkjdkalgemeaa
