/-
  The laws' small functions.
-/
import Derived.Test.YtefkjdkalgemeaaZGA
import Derived.Test.YtefkjdkalgemeaaZE11
import Derived.Test.YtefkjdkalgemeaaZD15
namespace Go.Proofs.Ytefkjdkalgemeaa
set_option linter.unusedVariables false
set_option linter.unusedSimpArgs false
open Go Go.VS Tab
set_option maxHeartbeats 16000000
set_option maxRecDepth 8000
theorem c_number (l : List UInt8) (md : Md) (hl : l.length = 4) : ACall Try.prog 53 [.sl 1 (bytesAV l) md] [] (w32 (getB l)) [] := by
  have g0 := bytes_get l 0 (by omega)
  have g1 := bytes_get l 1 (by omega)
  have g2 := bytes_get l 2 (by omega)
  have g3 := bytes_get l 3 (by omega)
  have e : getB l = (((0#32 ||| (BitVec.ofNat 32 (l.getD 0 0).toNat <<< 0)) ||| (BitVec.ofNat 32 (l.getD 1 0).toNat <<< 8)) ||| (BitVec.ofNat 32 (l.getD 2 0).toNat <<< 16)) ||| (BitVec.ofNat 32 (l.getD 3 0).toNat <<< 24) := by
    unfold getB
    rw [hl]; rfl
  rw [BitVec.shiftLeft_zero, BitVec.zero_or] at e
  rw [e]
  refine acall_of 0 Try.func53 rfl fun n out _ _ => ?_
  simp only [Try.ntmps53, List.length_cons, List.length_nil, List.length_map, List.length_replicate, rep_map, Nat.reduceAdd, Nat.reduceSub, List.replicate, List.cons_append, List.nil_append]
  repeat' (first | (with_reducible first | refine awp_seq_k fun K hK => ?_ | refine awp_ev tab_ok [] ?_ | refine awp_skip ?_ | apply And.intro | refine awp_ev_quiet tab_ok follows (by kernel_rfl) ?_) | ((with_reducible first | refine gE ?_ | refine gR ?_); simp (maxSteps := 4000000) only [su, evLit, hbT, tab, thenA, blockA, reduceCtorEq, reduceIte, Nat.reduceEqDiff, Nat.reduceBEq, Int.reduceLE, Int.reduceToNat, Nat.reduceAdd, Nat.reduceLT, Nat.reduceLeDiff, bytes_length, hl, g0, g1, g2, g3, conv8_32, shl8, shl16, shl24, w32_or]) | (show (_ : Nat) = (_ : Nat); rfl) | ((with_reducible refine awp_ret ?_); refine ret_tmp (.inr rfl) rfl rfl rfl (fun _ _ => rfl) ?_ <;> first | rfl | skip) | (refine hK _ ?_; clear hK K) | clear hK K)
def rec3 : Rc := ⟨3, []⟩
theorem newD_may : may newD = true := by kernel_rfl
theorem put3_e : putE newD rec3 = 0 := putE_0.2 ⟨newD_may, by decide, by decide, by decide +kernel⟩
theorem new_none0 : wholeB newD 0 = none := by kernel_rfl
theorem find3 : findL (putD newD rec3) = [rec3] := by
  have h1 := whole_put put3_e
  have h2 := whole_other put3_e (s := 0) (.inl rfl) (by decide)
  rw [new_none0] at h2
  rw [find_eq (may_put put3_e), h2, show wholeB (putD newD rec3) 16 = some rec3 from h1]
  rfl
theorem sec3_head : (secB rec3 0).take 6 = [3, 0, 0, 0, 0, 1] := by kernel_rfl
theorem rec3_W : recW rec3 = [⟨16, secB rec3 0⟩] := by kernel_rfl
theorem le_rc0 (g : BitVec 32) : AV.le (.agg [w32 g, .sl 0 [] .nil]) (rcA ⟨g, []⟩) := by
  simp only [rcA, rcC, le_agg_iff, leL_cons, leL_nil, and_true]
  exact ⟨.rfl _, (le_nil_iff _ _).2 trivial⟩
theorem c_alive06 : ACall Try.prog 41 [] [] (bool true) [] := by
  have c1 := c_slotPut newD rec3 (by decide) (by decide) (by decide)
  have c2 := c_slotFind (putD newD rec3) (by have := ((may_iff _).1 (may_put put3_e)).1; omega) (by have := ((may_iff _).1 (may_put put3_e)).2.1; omega)
  rw [find3, may_put put3_e] at c2
  rw [put3_e] at c1
  have eD : putD newD rec3 = ⟨newD.sectors, [⟨16, secB rec3 0⟩]⟩ := by
    unfold putD
    rw [if_pos put3_e, rec3_W]; rfl
  rw [eD] at c1 c2
  have hl : (secB rec3 0).length = 128 := by kernel_rfl
  have hh := sec3_head
  have c1' : ACall Try.prog 43 [dskA newD, .agg [.val (.int .u32 3), .sl 0 [] .nil]] [] _ [] := acall_le c1 ⟨.rfl _, le_rc0 3, trivial⟩
  clear c1
  obtain ⟨B, hB⟩ : ∃ B, B = secB rec3 0 := ⟨_, rfl⟩
  rw [← hB] at c1' c2 hl hh
  obtain ⟨S, hS⟩ : ∃ S, S = newD.sectors := ⟨_, rfl⟩
  have c0 := c_new
  simp only [rcA, rcC, dskA, dskC, if_true, List.map_cons, List.map_nil, wrC, rec3, ← hS] at c1' c2 c0
  have h33 : (((3 : BitVec 32).toNat : Int) == 3) = true := rfl
  refine acall_of 1 Try.func41 rfl fun n out _ _ => ?_
  simp only [Try.ntmps41, List.length_cons, List.length_nil, List.length_map, List.length_replicate, rep_map, Nat.reduceAdd, Nat.reduceSub, List.replicate, List.cons_append, List.nil_append]
  repeat' (first | (with_reducible first | refine awp_seq_k fun K hK => ?_ | refine awp_ev tab_ok [] ?_ | refine awp_skip ?_ | apply And.intro) | ((with_reducible first | refine gE ?_ | refine gR ?_); simp (maxSteps := 4000000) only [su, evLit, hbT, tab, thenA, blockA, reduceCtorEq, reduceIte, Nat.reduceEqDiff, Nat.reduceBEq, Int.reduceLE, Int.reduceToNat, Nat.reduceAdd, Nat.reduceLT, Nat.reduceLeDiff, h33, dskC, List.getD_cons_zero, pick_cons, splice_all, bytes_length, hl, loOf, hiOf, Int.reduceToNat, bytes_take, Nat.sub_zero, hh, ex_bytes, bytes_nil, List.length_nil, str_eq, Int.reduceBEq, Int.cast_ofNat_Int]) | (show (_ : Nat) = (_ : Nat); rfl) | ((with_reducible refine awp_ret ?_); refine ret_tmp (.inr rfl) rfl rfl rfl (fun _ _ => rfl) ?_ <;> first | rfl | skip) | (refine call_pure (c0) ?_) | (refine call_pure (c1') ?_) | (refine call_pure (c2) ?_) | ((with_reducible refine gsel_case (fun hg => ?_) (fun hg => ?_)) <;> (try simp only [nb] at hg) <;> simp (maxSteps := 4000000) only [su, evLit, hbT, tab, thenA, blockA, reduceCtorEq, reduceIte, Nat.reduceEqDiff, Nat.reduceBEq, Int.reduceLE, Int.reduceToNat, Nat.reduceAdd, Nat.reduceLT, Nat.reduceLeDiff, hg, h33, dskC, List.getD_cons_zero, pick_cons, splice_all, bytes_length, hl, loOf, hiOf, Int.reduceToNat, bytes_take, Nat.sub_zero, hh, ex_bytes, bytes_nil, List.length_nil, str_eq, Int.reduceBEq, Int.cast_ofNat_Int]) | (refine hK _ ?_; clear hK K) | clear hK K)
end Go.Proofs.Ytefkjdkalgemeaa
