/-
  The law DevTears.
-/
import Derived.Test.YtefkjdkalgemeaaZD31
import Derived.Test.YtefkjdkalgemeaaZD26
import Derived.Test.YtefkjdkalgemeaaZD25
import Derived.Test.YtefkjdkalgemeaaZGA
namespace Go.Proofs.Ytefkjdkalgemeaa
set_option linter.unusedVariables false
set_option linter.unusedSimpArgs false
open Go Go.VS Tab
set_option maxHeartbeats 4000000
set_option maxRecDepth 4000
theorem spoilD_small {d : Dsk} {a b : Int} {x : UInt8} (hd : Small d) : Small (spoilD d a b x) := by
  unfold spoilD
  split
  · rename_i hE
    obtain ⟨hm, ⟨ha1, ha2⟩, hb1, hb2⟩ := spoilE_0.1 hE
    obtain ⟨h32, hw, hs, _⟩ := (may_iff d).1 hm
    refine ⟨by show (turnS _ _ _ _).length ≤ _; unfold turnS; rw [List.length_set]; exact hd.s, hd.w, fun r hr => ?_, hd.wb⟩
    unfold turnS at hr
    rcases List.mem_or_eq_of_mem_set hr with h | h
    · exact hd.sb r h
    · rw [h, turnL_len]
      have hz : a.toNat < d.sectors.length := by omega
      have : d.sectors.getD a.toNat [] = d.sectors[a.toNat] := by simp [List.getD_eq_getElem?_getD, hz]
      rw [this]; exact hd.sb _ (List.getElem_mem hz)
  · exact noDsk_small
theorem crashD_small {d : Dsk} {kp : List Int} (hd : Small d) : Small (crashD d kp) := by
  unfold crashD
  split
  · rename_i hE
    have hm : may d = true := by
      unfold crashE at hE
      cases h : may d with
      | true => rfl
      | false => rw [h] at hE; simp at hE
    have hk : ∀ i, i < d.waits.length → (kp.getD i 0).toNat ≤ 128 := by
      unfold crashE at hE
      rw [if_pos hm] at hE
      by_cases hl : kp.length = d.waits.length
      · rw [if_pos hl] at hE
        by_cases ha : (kp.all fun x => decide (0 ≤ x) && decide (x < 129)) = true
        · intro i hi
          have hi' : i < kp.length := by omega
          have h5 := List.all_eq_true.1 ha _ (List.getElem_mem hi')
          simp only [Bool.and_eq_true, decide_eq_true_eq] at h5
          have : kp.getD i 0 = kp[i] := by simp [List.getD_eq_getElem?_getD, hi']
          rw [this]; omega
        · rw [if_neg ha] at hE; exact absurd hE (by decide)
      · rw [if_neg hl] at hE; exact absurd hE (by decide)
    refine ⟨?_, Nat.zero_le _, fun b hb => ?_, fun w hw => by cases hw⟩
    · show (comesS _ _ _).length ≤ _
      rw [comesS_len]; exact hd.s
    · have := comesS_rows hm hk _ b hb; omega
  · exact noDsk_small
theorem c_lawTears (d : Dsk) (kp : List Int) (a b : Int) (x : UInt8) (hd : DOk d) (hk : kp.length ≤ reach) : ACall Try.prog 3 [dskA d, .sl 1 (kp.map intC) .sh, i64 a, i64 b, b8 x] [] (bool true) [] := by
  have cg := c_great' d hd
  simp only [dskA, dskC] at cg
  by_cases g1 : great d = true
  · rw [g1] at cg
    refine acall_of 5 Try.func3 rfl fun n out _ _ => ?_
    simp only [Try.ntmps3, List.length_cons, List.length_nil, List.length_map, List.length_replicate, rep_map, Nat.reduceAdd, Nat.reduceSub, List.replicate, List.cons_append, List.nil_append]
    repeat' (first | (with_reducible first | refine awp_seq_k fun K hK => ?_ | refine awp_ev tab_ok [] ?_ | refine awp_skip ?_ | apply And.intro) | ((with_reducible first | refine gE ?_ | refine gR ?_); simp (maxSteps := 4000000) only [su, evLit, hbT, tab, thenA, blockA, reduceCtorEq, reduceIte, Nat.reduceEqDiff, Nat.reduceBEq, Int.reduceLE, Int.reduceToNat, Nat.reduceAdd, Nat.reduceLT, Nat.reduceLeDiff, dskA, dskC]) | (show (_ : Nat) = (_ : Nat); rfl) | ((with_reducible refine awp_ret ?_); refine ret_tmp (.inr rfl) rfl rfl rfl (fun _ _ => rfl) ?_ <;> first | rfl | skip) | (refine call_pure (cg) ?_) | ((with_reducible refine gsel_case (fun hg => ?_) (fun hg => ?_)) <;> (try simp only [nb] at hg) <;> simp (maxSteps := 4000000) only [su, evLit, hbT, tab, thenA, blockA, reduceCtorEq, reduceIte, Nat.reduceEqDiff, Nat.reduceBEq, Int.reduceLE, Int.reduceToNat, Nat.reduceAdd, Nat.reduceLT, Nat.reduceLeDiff, hg, dskA, dskC]) | (refine hK _ ?_; clear hK K) | refine awp_cond_t rfl ?_ | refine awp_cond_f rfl ?_ | refine awp_if rfl (fun hg => ?_) (fun hg => ?_) | clear hK K)
  · have g1 : great d = false := by simpa using g1
    rw [g1] at cg
    obtain ⟨hsm, hsw⟩ := small_of g1
    by_cases a1 : (kp.length : Int) > 1000
    · have e1 : decide ((kp.length : Int) > 1000) = true := decide_eq_true a1
      have e2 : decide (1000 < kp.length) = true := by simp; omega
      refine acall_of 5 Try.func3 rfl fun n out _ _ => ?_
      simp only [Try.ntmps3, List.length_cons, List.length_nil, List.length_map, List.length_replicate, rep_map, Nat.reduceAdd, Nat.reduceSub, List.replicate, List.cons_append, List.nil_append]
      repeat' (first | (with_reducible first | refine awp_seq_k fun K hK => ?_ | refine awp_ev tab_ok [] ?_ | refine awp_skip ?_ | apply And.intro) | ((with_reducible first | refine gE ?_ | refine gR ?_); simp (maxSteps := 4000000) only [su, evLit, hbT, tab, thenA, blockA, reduceCtorEq, reduceIte, Nat.reduceEqDiff, Nat.reduceBEq, Int.reduceLE, Int.reduceToNat, Nat.reduceAdd, Nat.reduceLT, Nat.reduceLeDiff, dskA, dskC, List.length_map, e1, e2]) | (show (_ : Nat) = (_ : Nat); rfl) | ((with_reducible refine awp_ret ?_); refine ret_tmp (.inr rfl) rfl rfl rfl (fun _ _ => rfl) ?_ <;> first | rfl | skip) | (refine call_pure (cg) ?_) | ((with_reducible refine gsel_case (fun hg => ?_) (fun hg => ?_)) <;> (try simp only [nb] at hg) <;> simp (maxSteps := 4000000) only [su, evLit, hbT, tab, thenA, blockA, reduceCtorEq, reduceIte, Nat.reduceEqDiff, Nat.reduceBEq, Int.reduceLE, Int.reduceToNat, Nat.reduceAdd, Nat.reduceLT, Nat.reduceLeDiff, hg, dskA, dskC, List.length_map, e1, e2]) | (refine hK _ ?_; clear hK K) | refine awp_cond_t rfl ?_ | refine awp_cond_f rfl ?_ | refine awp_if rfl (fun hg => ?_) (fun hg => ?_) | clear hK K)
    · have e1 : decide ((kp.length : Int) > 1000) = false := decide_eq_false a1
      have e2 : decide (1000 < kp.length) = false := by simp; omega
      have c1 := c_crash d kp hsm.s hsm.w (by omega)
      have c2 := c_rcrash d kp hsm.s hsm.w (by omega)
      have c3 := c_spoil d hsm a b x
      have c4 := c_rspoil d hsm a b x
      have c5 := c_rsame _ _ (crashD_small (kp := kp) hsm) (crashD_small (kp := kp) hsm)
      have c6 := c_rsame _ _ (spoilD_small (a := a) (b := b) (x := x) hsm) (spoilD_small (a := a) (b := b) (x := x) hsm)
      rw [rsame_refl] at c5 c6
      generalize crashD d kp = C at *
      generalize crashE d kp = E1 at *
      generalize spoilD d a b x = S at *
      generalize spoilE d a b = E2 at *
      simp only [dskA, dskC] at c1 c2 c3 c4 c5 c6
      refine acall_of 5 Try.func3 rfl fun n out _ _ => ?_
      simp only [Try.ntmps3, List.length_cons, List.length_nil, List.length_map, List.length_replicate, rep_map, Nat.reduceAdd, Nat.reduceSub, List.replicate, List.cons_append, List.nil_append]
      repeat' (first | (with_reducible first | refine awp_seq_k fun K hK => ?_ | refine awp_ev tab_ok [] ?_ | refine awp_skip ?_ | apply And.intro) | ((with_reducible first | refine gE ?_ | refine gR ?_); simp (maxSteps := 4000000) only [su, evLit, hbT, tab, thenA, blockA, reduceCtorEq, reduceIte, Nat.reduceEqDiff, Nat.reduceBEq, Int.reduceLE, Int.reduceToNat, Nat.reduceAdd, Nat.reduceLT, Nat.reduceLeDiff, dskA, dskC, List.length_map, e1, e2, splice_all, beq_self_eq_true, Bool.and_self]) | (show (_ : Nat) = (_ : Nat); rfl) | ((with_reducible refine awp_ret ?_); refine ret_tmp (.inr rfl) rfl rfl rfl (fun _ _ => rfl) ?_ <;> first | rfl | skip) | (refine call_pure (cg) ?_) | (refine call_pure (c1) ?_) | (refine call_pure (c2) ?_) | (refine call_pure (c3) ?_) | (refine call_pure (c4) ?_) | (refine call_pure (c5) ?_) | (refine call_pure (c6) ?_) | ((with_reducible refine gsel_case (fun hg => ?_) (fun hg => ?_)) <;> (try simp only [nb] at hg) <;> simp (maxSteps := 4000000) only [su, evLit, hbT, tab, thenA, blockA, reduceCtorEq, reduceIte, Nat.reduceEqDiff, Nat.reduceBEq, Int.reduceLE, Int.reduceToNat, Nat.reduceAdd, Nat.reduceLT, Nat.reduceLeDiff, hg, dskA, dskC, List.length_map, e1, e2, splice_all, beq_self_eq_true, Bool.and_self]) | (refine hK _ ?_; clear hK K) | refine awp_cond_t rfl ?_ | refine awp_cond_f rfl ?_ | refine awp_if rfl (fun hg => ?_) (fun hg => ?_) | clear hK K)
end Go.Proofs.Ytefkjdkalgemeaa
