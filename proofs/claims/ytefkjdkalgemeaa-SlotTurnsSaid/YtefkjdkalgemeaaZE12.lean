/-
  The laws' small functions.
-/
import Derived.Test.YtefkjdkalgemeaaZGA
import Derived.Test.YtefkjdkalgemeaaZE11
import Derived.Test.YtefkjdkalgemeaaZD14
namespace Go.Proofs.Ytefkjdkalgemeaa
set_option linter.unusedVariables false
set_option linter.unusedSimpArgs false
open Go Go.VS Tab
set_option maxHeartbeats 16000000
set_option maxRecDepth 8000
theorem gen_beq (x y : BitVec 32) : ((x.toNat : Int) == (y.toNat : Int)) = (x == y) := by
  rw [Bool.eq_iff_iff, beq_iff_eq, beq_iff_eq]
  constructor
  · intro h
    exact BitVec.eq_of_toNat_eq (by omega)
  · intro h
    rw [h]
theorem c_sameR (a b : Rc) : ACall Try.prog 46 [rcA a, rcA b] [] (bool (sameR a b)) [] := by
  have hg := gen_beq a.gen b.gen
  unfold sameR
  cases h : (a.gen == b.gen) with
  | false =>
    rw [h] at hg
    refine acall_of 2 Try.func46 rfl fun n out _ _ => ?_
    simp only [Try.ntmps46, List.length_cons, List.length_nil, List.length_map, List.length_replicate, rep_map, Nat.reduceAdd, Nat.reduceSub, List.replicate, List.cons_append, List.nil_append]
    repeat' (first | (with_reducible first | refine awp_seq_k fun K hK => ?_ | refine awp_ev tab_ok [] ?_ | refine awp_skip ?_ | apply And.intro) | ((with_reducible first | refine gE ?_ | refine gR ?_); simp (maxSteps := 4000000) only [su, evLit, hbT, tab, thenA, blockA, reduceCtorEq, reduceIte, Nat.reduceEqDiff, Nat.reduceBEq, Int.reduceLE, Int.reduceToNat, Nat.reduceAdd, Nat.reduceLT, Nat.reduceLeDiff, rcA, rcC, hg]) | (show (_ : Nat) = (_ : Nat); rfl) | ((with_reducible refine awp_ret ?_); refine ret_tmp (.inr rfl) rfl rfl rfl (fun _ _ => rfl) ?_ <;> first | rfl | skip) | ((with_reducible refine gsel_case (fun hg => ?_) (fun hg => ?_)) <;> (try simp only [nb] at hg) <;> simp (maxSteps := 4000000) only [su, evLit, hbT, tab, thenA, blockA, reduceCtorEq, reduceIte, Nat.reduceEqDiff, Nat.reduceBEq, Int.reduceLE, Int.reduceToNat, Nat.reduceAdd, Nat.reduceLT, Nat.reduceLeDiff, hg, rcA, rcC]) | (refine hK _ ?_; clear hK K) | clear hK K)
  | true =>
    rw [h] at hg
    refine acall_of 2 Try.func46 rfl fun n out _ _ => ?_
    simp only [Try.ntmps46, List.length_cons, List.length_nil, List.length_map, List.length_replicate, rep_map, Nat.reduceAdd, Nat.reduceSub, List.replicate, List.cons_append, List.nil_append]
    repeat' (first | (with_reducible first | refine awp_seq_k fun K hK => ?_ | refine awp_ev tab_ok [] ?_ | refine awp_skip ?_ | apply And.intro) | ((with_reducible first | refine gE ?_ | refine gR ?_); simp (maxSteps := 4000000) only [su, evLit, hbT, tab, thenA, blockA, reduceCtorEq, reduceIte, Nat.reduceEqDiff, Nat.reduceBEq, Int.reduceLE, Int.reduceToNat, Nat.reduceAdd, Nat.reduceLT, Nat.reduceLeDiff, rcA, rcC, hg, ex_bytes, str_eq]) | (show (_ : Nat) = (_ : Nat); rfl) | ((with_reducible refine awp_ret ?_); refine ret_tmp (.inr rfl) rfl rfl rfl (fun _ _ => rfl) ?_ <;> first | rfl | skip) | ((with_reducible refine gsel_case (fun hg => ?_) (fun hg => ?_)) <;> (try simp only [nb] at hg) <;> simp (maxSteps := 4000000) only [su, evLit, hbT, tab, thenA, blockA, reduceCtorEq, reduceIte, Nat.reduceEqDiff, Nat.reduceBEq, Int.reduceLE, Int.reduceToNat, Nat.reduceAdd, Nat.reduceLT, Nat.reduceLeDiff, hg, rcA, rcC, ex_bytes, str_eq]) | (refine hK _ ?_; clear hK K) | clear hK K)
theorem c_among (l : List Rc) (r : Rc) (hl : l.length ≤ 1000000) : ACall Try.prog 44 [.sl 2 (l.map rcC) .sh, rcA r] [] (bool (amongR l r)) [] := by
  refine acall_of 1 Try.func44 rfl fun n out _ _ => ?_
  simp only [Try.ntmps44, List.length_cons, List.length_nil, List.length_map, List.length_replicate, rep_map, Nat.reduceAdd, Nat.reduceSub, List.replicate, List.cons_append, List.nil_append]
  repeat' (first | (with_reducible first | refine awp_seq_k fun K hK => ?_ | refine awp_ev tab_ok [] ?_ | refine awp_block_s ?_ | refine awp_block_c ?_ | refine awp_block_r ?_ | refine awp_skip ?_ | apply And.intro | refine awp_ev_quiet tab_ok follows (by kernel_rfl) ?_) | ((with_reducible first | refine gE ?_ | refine gR ?_); simp (maxSteps := 4000000) only [su, evLit, hbT, tab, thenA, blockA, reduceCtorEq, reduceIte, Nat.reduceEqDiff, Nat.reduceBEq, Int.reduceLE, Int.reduceToNat, Nat.reduceAdd, Nat.reduceLT, Nat.reduceLeDiff, rcA, rcC]) | (show (_ : Nat) = (_ : Nat); rfl) | ((with_reducible refine awp_ret ?_); refine ret_tmp (.inr rfl) rfl rfl rfl (fun _ _ => rfl) ?_ <;> first | rfl | skip) | ((with_reducible refine awp_exit ?_); simp only [thenA, blockA, if_true, if_false, reduceIte, Nat.reduceEqDiff]) | (refine hK _ ?_; clear hK K) | refine awp_cond_t rfl ?_ | refine awp_cond_f rfl ?_ | refine awp_if rfl (fun hg => ?_) (fun hg => ?_) | clear hK K)
  refine awp_block ?_
  refine awp_for_g (fun i : Nat => [(5, i64 (i : Int)), (4, .top), (6, .top), (7, .top), (8, .top), (9, .top), (10, .top), (11, .top), (12, .top), (13, .top), (14, .top), (15, .top), (16, .top), (17, .top)]) (fun i => [some (.box 65 [w32 r.gen, bs r.text])]) (fun i => out) (fun i => i ≤ l.length ∧ (∀ j (hj : j < l.length), j < i → sameR l[j] r = false)) (fun i => l.length - i) 0 ⟨Nat.zero_le _, by intros; omega⟩ ?_ fun i hi => ?_
  · refine le_of_all ?_ ?_ rfl rfl rfl rfl <;> simp only [patch, sl]
  obtain ⟨hi, hq⟩ := hi
  simp only [patch, s_0, s_s]
  have hw := addw (n := i) 1 1 rfl (by omega)
  by_cases hlt : i < l.length
  · have gi := getD_map rcC l i [] hlt
    have cs := c_sameR l[i] r
    simp only [rcA, rcC] at cs
    cases hb : sameR l[i] r with
    | false =>
      rw [hb] at cs
      repeat' (first | (with_reducible first | refine awp_seq_k fun K hK => ?_ | refine awp_ev tab_ok [] ?_ | refine awp_block_s ?_ | refine awp_block_c ?_ | refine awp_block_r ?_ | refine awp_skip ?_ | apply And.intro | refine awp_ev_draw (id := 4) tab_ok [] [[],[],[],[],[0],[]] [[],[],[],[],[],[]] follows (by kernel_rfl) (by decide) (by decide) (by kernel_rfl) ?_ | refine awp_ev_quiet tab_ok follows (by kernel_rfl) ?_) | ((with_reducible first | refine gE ?_ | refine gR ?_ | refine gD ?_ | refine gF ?_); simp (maxSteps := 4000000) only [su, evLit, hbT, tab, thenA, blockA, reduceCtorEq, reduceIte, Nat.reduceEqDiff, Nat.reduceBEq, Int.reduceLE, Int.reduceToNat, Nat.reduceAdd, Nat.reduceLT, Nat.reduceLeDiff, List.length_map, hlt, gi, rcC, hw]) | (show (_ : Nat) = (_ : Nat); rfl) | ((with_reducible refine awp_ret ?_); refine ret_tmp (.inr rfl) rfl rfl rfl (fun _ _ => rfl) ?_ <;> first | rfl | skip) | (refine call_pure (cs) ?_) | ((with_reducible refine awp_exit ?_); simp only [thenA, blockA, if_true, if_false, reduceIte, Nat.reduceEqDiff]) | (refine hK _ ?_; clear hK K) | refine awp_cond_t rfl ?_ | refine awp_cond_f rfl ?_ | refine awp_if rfl (fun hg => ?_) (fun hg => ?_) | clear hK K)
      refine ⟨i + 1, ⟨by omega, fun j hj hji => ?_⟩, by omega, ?_⟩
      · by_cases h : j = i
        · subst h; exact hb
        · exact hq j hj (by omega)
      refine le_of_all ?_ ?_ rfl rfl rfl rfl <;> simp only [patch, sl, List.length_map, hlt, decide_true]
    | true =>
      have hA : amongR l r = true := by
        unfold amongR
        rw [List.any_eq_true]
        exact ⟨l[i], List.getElem_mem hlt, hb⟩
      rw [hb] at cs
      rw [hA]
      repeat' (first | (with_reducible first | refine awp_seq_k fun K hK => ?_ | refine awp_ev tab_ok [] ?_ | refine awp_block_s ?_ | refine awp_block_c ?_ | refine awp_block_r ?_ | refine awp_skip ?_ | apply And.intro | refine awp_ev_draw (id := 4) tab_ok [] [[],[],[],[],[0],[]] [[],[],[],[],[],[]] follows (by kernel_rfl) (by decide) (by decide) (by kernel_rfl) ?_ | refine awp_ev_quiet tab_ok follows (by kernel_rfl) ?_) | ((with_reducible first | refine gE ?_ | refine gR ?_ | refine gD ?_ | refine gF ?_); simp (maxSteps := 4000000) only [su, evLit, hbT, tab, thenA, blockA, reduceCtorEq, reduceIte, Nat.reduceEqDiff, Nat.reduceBEq, Int.reduceLE, Int.reduceToNat, Nat.reduceAdd, Nat.reduceLT, Nat.reduceLeDiff, List.length_map, hlt, gi, rcC, hw]) | (show (_ : Nat) = (_ : Nat); rfl) | ((with_reducible refine awp_ret ?_); refine ret_tmp (.inr rfl) rfl rfl rfl (fun _ _ => rfl) ?_ <;> first | rfl | skip) | (refine call_pure (cs) ?_) | ((with_reducible refine awp_exit ?_); simp only [thenA, blockA, if_true, if_false, reduceIte, Nat.reduceEqDiff]) | (refine hK _ ?_; clear hK K) | refine awp_cond_t rfl ?_ | refine awp_cond_f rfl ?_ | refine awp_if rfl (fun hg => ?_) (fun hg => ?_) | clear hK K)
  · obtain rfl : i = l.length := by omega
    have hA : amongR l r = false := by
      unfold amongR
      rw [List.any_eq_false]
      intro x hx
      obtain ⟨j, hj, rfl⟩ := List.getElem_of_mem hx
      rw [hq j hj hj]; decide
    repeat' (first | (with_reducible first | refine awp_seq_k fun K hK => ?_ | refine awp_ev tab_ok [] ?_ | refine awp_block_s ?_ | refine awp_block_c ?_ | refine awp_block_r ?_ | refine awp_skip ?_ | apply And.intro | refine awp_ev_quiet tab_ok follows (by kernel_rfl) ?_) | ((with_reducible first | refine gE ?_ | refine gR ?_); simp (maxSteps := 4000000) only [su, evLit, hbT, tab, thenA, blockA, reduceCtorEq, reduceIte, Nat.reduceEqDiff, Nat.reduceBEq, Int.reduceLE, Int.reduceToNat, Nat.reduceAdd, Nat.reduceLT, Nat.reduceLeDiff, List.length_map, hlt]) | (show (_ : Nat) = (_ : Nat); rfl) | ((with_reducible refine awp_ret ?_); refine ret_tmp (.inr rfl) rfl rfl rfl (fun _ _ => rfl) ?_ <;> first | rfl | skip) | ((with_reducible refine awp_exit ?_); simp only [thenA, blockA, if_true, if_false, reduceIte, Nat.reduceEqDiff]) | (refine hK _ ?_; clear hK K) | refine awp_cond_t rfl ?_ | refine awp_cond_f rfl ?_ | refine awp_if rfl (fun hg => ?_) (fun hg => ?_) | clear hK K)
    rw [hA]; rfl
def rec3 : Rc := ⟨3, []⟩
theorem newD_may : may newD = true := by kernel_rfl
theorem put3_e : putE newD rec3 = 0 := putE_0.2 ⟨newD_may, by decide, by decide, by decide +kernel⟩
theorem new_none0 : wholeB newD 0 = none := by kernel_rfl
theorem find3 : findL (putD newD rec3) = [rec3] := by
  have h1 := whole_put put3_e
  have h2 := whole_other put3_e (s := 0) (.inl rfl) (by decide)
  rw [new_none0] at h2
  rw [find_eq (may_put put3_e), h2, show wholeB (putD newD rec3) 16 = some rec3 from h1]
  rfl
theorem sec3_head : (secB rec3 0).take 6 = [3, 0, 0, 0, 0, 1] := by kernel_rfl
theorem rec3_W : recW rec3 = [⟨16, secB rec3 0⟩] := by kernel_rfl
theorem le_rc0 (g : BitVec 32) : AV.le (.agg [w32 g, .sl 0 [] .nil]) (rcA ⟨g, []⟩) := by
  simp only [rcA, rcC, le_agg_iff, leL_cons, leL_nil, and_true]
  exact ⟨.rfl _, (le_nil_iff _ _).2 trivial⟩
theorem c_alive06 : ACall Try.prog 41 [] [] (bool true) [] := by
  have c1 := c_slotPut newD rec3 (by decide) (by decide) (by decide)
  have c2 := c_slotFind (putD newD rec3) (by have := ((may_iff _).1 (may_put put3_e)).1; omega) (by have := ((may_iff _).1 (may_put put3_e)).2.1; omega)
  rw [find3, may_put put3_e] at c2
  rw [put3_e] at c1
  have eD : putD newD rec3 = ⟨newD.sectors, [⟨16, secB rec3 0⟩]⟩ := by
    unfold putD
    rw [if_pos put3_e, rec3_W]; rfl
  rw [eD] at c1 c2
  have hl : (secB rec3 0).length = 128 := by kernel_rfl
  have hh := sec3_head
  have c1' : ACall Try.prog 43 [dskA newD, .agg [.val (.int .u32 3), .sl 0 [] .nil]] [] _ [] := acall_le c1 ⟨.rfl _, le_rc0 3, trivial⟩
  clear c1
  obtain ⟨B, hB⟩ : ∃ B, B = secB rec3 0 := ⟨_, rfl⟩
  rw [← hB] at c1' c2 hl hh
  obtain ⟨S, hS⟩ : ∃ S, S = newD.sectors := ⟨_, rfl⟩
  have c0 := c_new
  simp only [rcA, rcC, dskA, dskC, if_true, List.map_cons, List.map_nil, wrC, rec3, ← hS] at c1' c2 c0
  have h33 : (((3 : BitVec 32).toNat : Int) == 3) = true := rfl
  refine acall_of 1 Try.func41 rfl fun n out _ _ => ?_
  simp only [Try.ntmps41, List.length_cons, List.length_nil, List.length_map, List.length_replicate, rep_map, Nat.reduceAdd, Nat.reduceSub, List.replicate, List.cons_append, List.nil_append]
  repeat' (first | (with_reducible first | refine awp_seq_k fun K hK => ?_ | refine awp_ev tab_ok [] ?_ | refine awp_skip ?_ | apply And.intro) | ((with_reducible first | refine gE ?_ | refine gR ?_); simp (maxSteps := 4000000) only [su, evLit, hbT, tab, thenA, blockA, reduceCtorEq, reduceIte, Nat.reduceEqDiff, Nat.reduceBEq, Int.reduceLE, Int.reduceToNat, Nat.reduceAdd, Nat.reduceLT, Nat.reduceLeDiff, h33, dskC, List.getD_cons_zero, pick_cons, splice_all, bytes_length, hl, loOf, hiOf, Int.reduceToNat, bytes_take, Nat.sub_zero, hh, ex_bytes, bytes_nil, List.length_nil, str_eq, Int.reduceBEq, Int.cast_ofNat_Int]) | (show (_ : Nat) = (_ : Nat); rfl) | ((with_reducible refine awp_ret ?_); refine ret_tmp (.inr rfl) rfl rfl rfl (fun _ _ => rfl) ?_ <;> first | rfl | skip) | (refine call_pure (c0) ?_) | (refine call_pure (c1') ?_) | (refine call_pure (c2) ?_) | ((with_reducible refine gsel_case (fun hg => ?_) (fun hg => ?_)) <;> (try simp only [nb] at hg) <;> simp (maxSteps := 4000000) only [su, evLit, hbT, tab, thenA, blockA, reduceCtorEq, reduceIte, Nat.reduceEqDiff, Nat.reduceBEq, Int.reduceLE, Int.reduceToNat, Nat.reduceAdd, Nat.reduceLT, Nat.reduceLeDiff, hg, h33, dskC, List.getD_cons_zero, pick_cons, splice_all, bytes_length, hl, loOf, hiOf, Int.reduceToNat, bytes_take, Nat.sub_zero, hh, ex_bytes, bytes_nil, List.length_nil, str_eq, Int.reduceBEq, Int.cast_ofNat_Int]) | (refine hK _ ?_; clear hK K) | clear hK K)
end Go.Proofs.Ytefkjdkalgemeaa
