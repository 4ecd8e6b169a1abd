/-
  The law SlotNames.
-/
import Derived.Test.YtefkjdkalgemeaaZGA
import Derived.Test.YtefkjdkalgemeaaZE12
namespace Go.Proofs.Ytefkjdkalgemeaa
set_option linter.unusedVariables false
set_option linter.unusedSimpArgs false
open Go Go.VS Tab
set_option maxHeartbeats 16000000
set_option maxRecDepth 8000
theorem mkN (k : Nat) (hk : k ≤ 10000) (σ : AState) (K : AV → List (Nat × Res) → Prop) : evMake tab σ K none 37 (.val (.int .i64 (k : Int))) (.val (.int .i64 (k : Int))) = K (.sl 1 (bytesAV (List.replicate k 0)) .full) [] := by
  have e := noughts k
  have h1 : (k : Int) ≤ 281474976710656 := by omega
  have h2 : (k : Int) ≤ 9223372036854775807 := by omega
  simp only [evMake, tab]
  simp [e, h1, h2]
def recN (k : Nat) : Rc := ⟨1, List.replicate k 0⟩
theorem putN_3 : putE newD (recN 1883) = 3 := by
  unfold putE
  rw [newD_may, if_pos rfl, if_neg (by decide), if_pos (by show 1882 < (List.replicate 1883 (0 : UInt8)).length; rw [List.length_replicate]; decide)]
theorem putN_0 : putE newD (recN 1882) = 0 := by
  refine putE_0.2 ⟨newD_may, by decide, ?_, ?_⟩
  · show (List.replicate 1882 (0 : UInt8)).length ≤ 1882
    rw [List.length_replicate]; exact Nat.le_refl _
  · unfold manyB
    rw [all_len]
    show 0 + (6 + (List.replicate 1882 (0 : UInt8)).length + 117) / 118 ≤ 256
    rw [List.length_replicate]; decide
theorem putN_len : (putD newD (recN 1882)).waits.length = 16 := by
  unfold putD
  rw [if_pos putN_0]
  show (newD.waits ++ recW (recN 1882)).length = 16
  rw [List.length_append, recW_len]
  unfold manyB
  rw [all_len]
  show 0 + (6 + (List.replicate 1882 (0 : UInt8)).length + 117) / 118 = 16
  rw [List.length_replicate]
theorem find_new : findL newD = [] := by rw [find_eq newD_may, new_none0, new_none16]; rfl
theorem next_1 : nextE newD 0 = 0 ∧ nextW newD 0 = 1 := ⟨by kernel_rfl, by kernel_rfl⟩
theorem next_4 : nextE (putD newD rec3) 3 = 0 ∧ nextW (putD newD rec3) 3 = 4 := ⟨by kernel_rfl, by kernel_rfl⟩
theorem next_5 : nextE (putD newD rec3) 2 = 0 ∧ nextW (putD newD rec3) 2 = 5 := ⟨by kernel_rfl, by kernel_rfl⟩
theorem put_0 : putE newD ⟨0, []⟩ = 2 := by unfold putE; rw [newD_may, if_pos rfl, if_pos rfl]
theorem c_lawSlotNames : ACall Try.prog 15 [] [] (bool true) [] := by
  have c0 := c_new
  have c1 := c_slotFind newD (by decide) (by decide)
  have c2 : ACall Try.prog 43 [dskA newD, .agg [.val (.int .u32 0), .sl 0 [] .nil]] [] _ [] := acall_le (c_slotPut newD ⟨0, []⟩ (by decide) (by decide) (by decide)) ⟨.rfl _, le_rc0 0, trivial⟩
  have le3 : ∀ k, AV.le (.agg [.val (.int .u32 1), .sl 1 (bytesAV (List.replicate k 0)) .full]) (rcA (recN k)) := fun k => by
    simp only [rcA, rcC, le_agg_iff, leL_cons, leL_nil, and_true]
    exact ⟨.rfl _, .sh _ _ _⟩
  have c3 : ACall Try.prog 43 [dskA newD, .agg [.val (.int .u32 1), .sl 1 (bytesAV (List.replicate 1883 0)) .full]] [] _ [] := acall_le (c_slotPut newD (recN 1883) (by decide) (by decide) (by show (List.replicate 1883 (0 : UInt8)).length ≤ 10000; rw [List.length_replicate]; decide)) ⟨.rfl _, le3 _, trivial⟩
  have c4 : ACall Try.prog 43 [dskA newD, .agg [.val (.int .u32 1), .sl 1 (bytesAV (List.replicate 1882 0)) .full]] [] _ [] := acall_le (c_slotPut newD (recN 1882) (by decide) (by decide) (by show (List.replicate 1882 (0 : UInt8)).length ≤ 10000; rw [List.length_replicate]; decide)) ⟨.rfl _, le3 _, trivial⟩
  have c5 : ACall Try.prog 43 [dskA newD, .agg [.val (.int .u32 3), .sl 0 [] .nil]] [] _ [] := acall_le (c_slotPut newD rec3 (by decide) (by decide) (by decide)) ⟨.rfl _, le_rc0 3, trivial⟩
  have hm3 := (may_iff _).1 (may_put put3_e)
  have c6 : ACall Try.prog 49 [dskA newD, .val (.int .u32 0)] [] _ [] := c_slotNext newD 0 (by decide) (by decide)
  have c7 : ACall Try.prog 49 [dskA (putD newD rec3), .val (.int .u32 3)] [] _ [] := c_slotNext (putD newD rec3) 3 (by have := hm3.1; omega) (by have := hm3.2.1; omega)
  have c8 : ACall Try.prog 49 [dskA (putD newD rec3), .val (.int .u32 2)] [] _ [] := c_slotNext (putD newD rec3) 2 (by have := hm3.1; omega) (by have := hm3.2.1; omega)
  have s2 : ACall Try.prog 45 [.val (.int .u32 2)] [] (i64 0) [] := c_slot 2
  have s7 : ACall Try.prog 45 [.val (.int .u32 7)] [] (i64 16) [] := c_slot 7
  have d0 : putD newD ⟨0, []⟩ = noDsk := by unfold putD; rw [put_0, if_neg (by decide)]
  have d3 : putD newD (recN 1883) = noDsk := by unfold putD; rw [putN_3, if_neg (by decide)]
  have wl := putN_len
  rw [find_new, newD_may, if_pos rfl] at c1
  rw [put_0, d0] at c2
  rw [putN_3, d3] at c3
  rw [putN_0] at c4
  rw [put3_e] at c5
  rw [next_1.1, next_1.2] at c6
  rw [next_4.1, next_4.2] at c7
  rw [next_5.1, next_5.2] at c8
  generalize putD newD rec3 = D3 at *
  generalize putD newD (recN 1882) = D4 at *
  generalize newD = N at *
  have n1 : ((1 : BitVec 32).toNat : Int) = 1 := rfl
  have n4 : ((4 : BitVec 32).toNat : Int) = 4 := rfl
  have n5 : ((5 : BitVec 32).toNat : Int) = 5 := rfl
  have m3 := mkN 1883 (by decide)
  have m4 := mkN 1882 (by decide)
  simp only [dskA, dskC, noDsk, List.map_nil, Int.cast_ofNat_Int] at c0 c1 c2 c3 c4 c5 c6 c7 c8 m3 m4
  refine acall_of 4 Try.func15 rfl fun n out _ _ => ?_
  simp only [Try.ntmps15, List.length_cons, List.length_nil, List.length_map, List.length_replicate, rep_map, Nat.reduceAdd, Nat.reduceSub, List.replicate, List.cons_append, List.nil_append]
  repeat' (first | (with_reducible first | refine awp_seq_k fun K hK => ?_ | refine awp_ev tab_ok [] ?_ | refine awp_skip ?_ | apply And.intro | refine awp_ev_draw (id := 3) tab_ok [] [[],[],[],[],[],[],[],[1],[1],[]] [[],[],[],[],[],[],[],[1],[1],[]] follows (by kernel_rfl) (by decide) (by decide) (by kernel_rfl) ?_ | refine awp_ev_draw (id := 4) tab_ok [] [[],[],[],[],[],[],[],[2],[2],[]] [[],[],[],[],[],[],[],[2],[2],[]] follows (by kernel_rfl) (by decide) (by decide) (by kernel_rfl) ?_ | refine awp_ev_quiet tab_ok follows (by kernel_rfl) ?_) | ((with_reducible first | refine gE ?_ | refine gR ?_ | refine gD ?_ | refine gF ?_); simp (maxSteps := 4000000) only [sx, sy, ne_eq, eq_self, if_true, if_false, Nat.reduceEqDiff, hbT, evBuild, evLit, tab, isShift, thenA, blockA, reduceCtorEq, reduceIte, Nat.reduceBEq, Int.reduceLE, Int.reduceToNat, Nat.reduceAdd, Nat.reduceLT, Nat.reduceLeDiff, m3, m4, dskC, n1, n4, n5, List.length_map, wl, List.length_nil, Int.reduceBNe, Int.reduceBEq, Int.cast_ofNat_Int, bne_self_eq_false, splice_all]) | (show (_ : Nat) = (_ : Nat); rfl) | ((with_reducible refine awp_ret ?_); refine ret_tmp (.inr rfl) rfl rfl rfl (fun _ _ => rfl) ?_ <;> first | rfl | skip) | (refine call_pure (c0) ?_) | (refine call_pure (c1) ?_) | (refine call_pure (c2) ?_) | (refine call_pure (c3) ?_) | (refine call_pure (c4) ?_) | (refine call_pure (c5) ?_) | (refine call_pure (c6) ?_) | (refine call_pure (c7) ?_) | (refine call_pure (c8) ?_) | (refine call_pure (s2) ?_) | (refine call_pure (s7) ?_) | (refine call_pure (c_alive06) ?_) | ((with_reducible refine gsel_case (fun hg => ?_) (fun hg => ?_)) <;> (try simp only [nb] at hg) <;> simp (maxSteps := 4000000) only [sx, sy, ne_eq, eq_self, if_true, if_false, Nat.reduceEqDiff, hbT, evBuild, evLit, tab, isShift, thenA, blockA, reduceCtorEq, reduceIte, Nat.reduceBEq, Int.reduceLE, Int.reduceToNat, Nat.reduceAdd, Nat.reduceLT, Nat.reduceLeDiff, hg, m3, m4, dskC, n1, n4, n5, List.length_map, wl, List.length_nil, Int.reduceBNe, Int.reduceBEq, Int.cast_ofNat_Int, bne_self_eq_false, splice_all]) | (refine hK _ ?_; clear hK K) | refine awp_cond_t rfl ?_ | refine awp_cond_f rfl ?_ | refine awp_if rfl (fun hg => ?_) (fun hg => ?_) | clear hK K)
end Go.Proofs.Ytefkjdkalgemeaa
