/-
  The laws PackBack, PackApart, PackKeys.
-/
import Derived.Test.YtgdhnngpfieloaaZGA
import Derived.Test.YtgdhnngpfieloaaZKG
import Derived.Test.YtgdhnngpfieloaaZPQ
namespace Go.Proofs.Ytgdhnngpfieloaa.Pln
set_option linter.unusedVariables false
set_option linter.unusedSimpArgs false
open Go Go.VS Tab
set_option maxHeartbeats 8000000
set_option maxRecDepth 4000
theorem noPl_sm : Sm noPl := ⟨by decide, by decide, by decide, by decide, by decide, by decide⟩
theorem c_sameNone : ACall Try.prog 14 [plA noPl, .agg [i64 0, i64 0, .sl 0 [] .nil, .sl 0 [] .nil, .sl 0 [] .nil, .sl 0 [] .nil]] [] (bool true) [] := by
  have h := c_rsameP noPl noPl noPl_sm
  rw [sameP_refl] at h
  refine acall_le h ?_
  simp only [plA, plC, noPl, List.map_nil, patch, sl]
theorem c_lawBack (p : Pl) (b : List UInt8) : ACall Try.prog 5 [plA p, .sl 1 (bytesAV b) .sh] [] (bool true) [] := by
  have cg := c_rgreat p
  simp only [plA, plC] at cg
  cases hG : greatP p with
  | true =>
    rw [hG] at cg
    refine acall_of 3 Try.func5 rfl fun n out _ _ => ?_
    simp only [Try.ntmps5, List.length_cons, List.length_nil, List.length_map, List.length_replicate, rep_map, Nat.reduceAdd, Nat.reduceSub, List.replicate, List.cons_append, List.nil_append]
    repeat' (first | (with_reducible first | refine Vk fun K hK => ?_ | refine V0 ?_ | refine Vs ?_ | apply And.intro) | ((with_reducible first | refine gE ?_ | refine gR ?_); simp (maxSteps:=9^7) only [ss, evLit, tab, reduceCtorEq, reduceIte, Nat.reduceEqDiff, Nat.reduceBEq, Int.reduceLE, Int.reduceToNat, Nat.reduceAdd, Nat.reduceLT, Nat.reduceLeDiff, plA, plC, bytes_length]) | exact Vn | ((with_reducible refine Vz ?_); refine Vo rfl rfl rfl (fun _ _ => rfl) ?_ <;> first | rfl | skip) | (refine call_pure (c_alive12) ?_) | (refine call_pure (cg) ?_) | ((with_reducible refine Vg (fun hg => ?_) (fun hg => ?_)) <;> (try simp only [nb] at hg) <;> simp (maxSteps:=9^7) only [ss, evLit, tab, reduceCtorEq, reduceIte, Nat.reduceEqDiff, Nat.reduceBEq, Int.reduceLE, Int.reduceToNat, Nat.reduceAdd, Nat.reduceLT, Nat.reduceLeDiff, hg, plA, plC, bytes_length]) | (refine hK _ ?_; clear hK K) | refine Vt rfl ?_ | refine Vf rfl ?_ | refine Vi rfl (fun hg => ?_) (fun hg => ?_) | clear hK K)
  | false =>
    rw [hG] at cg
    have hs := small_of hG
    by_cases hb : b.length ≤ 5000
    · have g1 : ((b.length : Int) > 5000) = False := eq_false (by omega)
      have ct := c_text p hs
      have cs := c_rsameP p p hs
      rw [sameP_refl] at cs
      have cb := c_parse b (by omega)
      have eN : plA noPl = .agg [i64 0, i64 0, .sl 3 [] .sh, .sl 2 [] .sh, .sl 3 [] .sh, .sl 7 [] .sh] := rfl
      have cx : mayP p = true → ACall Try.prog 12 [.sl 1 (bytesAV (encP p)) .sh] [] (.tup [plA p, i64 0]) [] := fun h => by
        have cx := c_parse (encP p) (by have := text_len h; omega)
        have h0 := parse_text h []
        rw [List.append_nil] at h0
        rw [h0, parse_read h] at cx
        exact cx
      cases hok : parseOk b with
      | false =>
        rw [hok] at cb
        simp only [Bool.false_eq_true, if_false] at cb
        have cn := c_sameNone
        rw [eN] at cb cn
        cases hmy : mayP p with
        | true =>
          have cx := cx hmy
          rw [show textB p = encP p from if_pos hmy, show textE p = 0 from if_pos hmy] at ct
          have hl := text_len hmy
          have g2 : (((encP p).length : Int) > 1000) = False := eq_false (by omega)
          generalize encP p = B at *
          simp only [plA, plC] at ct cs cx
          refine acall_of 3 Try.func5 rfl fun n out _ _ => ?_
          simp only [Try.ntmps5, List.length_cons, List.length_nil, List.length_map, List.length_replicate, rep_map, Nat.reduceAdd, Nat.reduceSub, List.replicate, List.cons_append, List.nil_append]
          repeat' (first | (with_reducible first | refine Vk fun K hK => ?_ | refine V0 ?_ | refine Vs ?_ | apply And.intro) | ((with_reducible first | refine gE ?_ | refine gR ?_); simp (maxSteps:=9^7) only [ss, evLit, tab, reduceCtorEq, reduceIte, Nat.reduceEqDiff, Nat.reduceBEq, Int.reduceLE, Int.reduceToNat, Nat.reduceAdd, Nat.reduceLT, Nat.reduceLeDiff, plA, plC, bytes_length, g1, g2, decide_false, splice_all, Int.reduceBNe, Int.reduceBEq]) | exact Vn | ((with_reducible refine Vz ?_); refine Vo rfl rfl rfl (fun _ _ => rfl) ?_ <;> first | rfl | skip) | (refine call_pure (c_alive12) ?_) | (refine call_pure (cg) ?_) | (refine call_pure (ct) ?_) | (refine call_pure (cx) ?_) | (refine call_pure (cs) ?_) | (refine call_pure (cb) ?_) | (refine call_pure (cn) ?_) | ((with_reducible refine Vg (fun hg => ?_) (fun hg => ?_)) <;> (try simp only [nb] at hg) <;> simp (maxSteps:=9^7) only [ss, evLit, tab, reduceCtorEq, reduceIte, Nat.reduceEqDiff, Nat.reduceBEq, Int.reduceLE, Int.reduceToNat, Nat.reduceAdd, Nat.reduceLT, Nat.reduceLeDiff, hg, plA, plC, bytes_length, g1, g2, decide_false, splice_all, Int.reduceBNe, Int.reduceBEq]) | (refine hK _ ?_; clear hK K) | refine Vt rfl ?_ | refine Vf rfl ?_ | refine Vi rfl (fun hg => ?_) (fun hg => ?_) | clear hK K)
        | false =>
          rw [show textE p = 8 from if_neg (by rw [hmy]; decide)] at ct
          generalize textB p = B at *
          simp only [plA, plC] at ct
          refine acall_of 3 Try.func5 rfl fun n out _ _ => ?_
          simp only [Try.ntmps5, List.length_cons, List.length_nil, List.length_map, List.length_replicate, rep_map, Nat.reduceAdd, Nat.reduceSub, List.replicate, List.cons_append, List.nil_append]
          repeat' (first | (with_reducible first | refine Vk fun K hK => ?_ | refine V0 ?_ | refine Vs ?_ | apply And.intro) | ((with_reducible first | refine gE ?_ | refine gR ?_); simp (maxSteps:=9^7) only [ss, evLit, tab, reduceCtorEq, reduceIte, Nat.reduceEqDiff, Nat.reduceBEq, Int.reduceLE, Int.reduceToNat, Nat.reduceAdd, Nat.reduceLT, Nat.reduceLeDiff, plA, plC, bytes_length, g1, decide_false, splice_all, Int.reduceBNe, Int.reduceBEq]) | exact Vn | ((with_reducible refine Vz ?_); refine Vo rfl rfl rfl (fun _ _ => rfl) ?_ <;> first | rfl | skip) | (refine call_pure (c_alive12) ?_) | (refine call_pure (cg) ?_) | (refine call_pure (ct) ?_) | (refine call_pure (cb) ?_) | (refine call_pure (cn) ?_) | ((with_reducible refine Vg (fun hg => ?_) (fun hg => ?_)) <;> (try simp only [nb] at hg) <;> simp (maxSteps:=9^7) only [ss, evLit, tab, reduceCtorEq, reduceIte, Nat.reduceEqDiff, Nat.reduceBEq, Int.reduceLE, Int.reduceToNat, Nat.reduceAdd, Nat.reduceLT, Nat.reduceLeDiff, hg, plA, plC, bytes_length, g1, decide_false, splice_all, Int.reduceBNe, Int.reduceBEq]) | (refine hK _ ?_; clear hK K) | refine Vt rfl ?_ | refine Vf rfl ?_ | refine Vi rfl (fun hg => ?_) (fun hg => ?_) | clear hK K)
      | true =>
        rw [hok] at cb
        simp only [if_true] at cb
        obtain ⟨q1, q2⟩ := parse_ok hok
        have cq := c_text _ (sm_may q1)
        have ck := c_pcheck _ (sm_may q1)
        rw [show textB (readP b).1 = encP (readP b).1 from if_pos q1, show textE (readP b).1 = 0 from if_pos q1, q2] at cq
        rw [q1] at ck
        simp only [if_true] at ck
        generalize (readP b).1 = Q at cb cq ck
        cases hmy : mayP p with
        | true =>
          have cx := cx hmy
          rw [show textB p = encP p from if_pos hmy, show textE p = 0 from if_pos hmy] at ct
          have hl := text_len hmy
          have g2 : (((encP p).length : Int) > 1000) = False := eq_false (by omega)
          generalize encP p = B at *
          simp only [plA, plC] at ct cs cx cb cq ck
          refine acall_of 4 Try.func5 rfl fun n out _ _ => ?_
          simp only [Try.ntmps5, List.length_cons, List.length_nil, List.length_map, List.length_replicate, rep_map, Nat.reduceAdd, Nat.reduceSub, List.replicate, List.cons_append, List.nil_append]
          repeat' (first | (with_reducible first | refine Vk fun K hK => ?_ | refine V0 ?_ | refine Vs ?_ | apply And.intro) | ((with_reducible first | refine gE ?_ | refine gR ?_); simp (maxSteps:=9^7) only [ss, evLit, tab, reduceCtorEq, reduceIte, Nat.reduceEqDiff, Nat.reduceBEq, Int.reduceLE, Int.reduceToNat, Nat.reduceAdd, Nat.reduceLT, Nat.reduceLeDiff, plA, plC, bytes_length, g1, g2, decide_false, splice_all, Int.reduceBNe, Int.reduceBEq, ex_bytes, str_eq, beq_self_eq_true]) | exact Vn | ((with_reducible refine Vz ?_); refine Vo rfl rfl rfl (fun _ _ => rfl) ?_ <;> first | rfl | skip) | (refine call_pure (c_alive12) ?_) | (refine call_pure (cg) ?_) | (refine call_pure (ct) ?_) | (refine call_pure (cx) ?_) | (refine call_pure (cs) ?_) | (refine call_pure (cb) ?_) | (refine call_pure (cq) ?_) | (refine call_pure (ck) ?_) | ((with_reducible refine Vg (fun hg => ?_) (fun hg => ?_)) <;> (try simp only [nb] at hg) <;> simp (maxSteps:=9^7) only [ss, evLit, tab, reduceCtorEq, reduceIte, Nat.reduceEqDiff, Nat.reduceBEq, Int.reduceLE, Int.reduceToNat, Nat.reduceAdd, Nat.reduceLT, Nat.reduceLeDiff, hg, plA, plC, bytes_length, g1, g2, decide_false, splice_all, Int.reduceBNe, Int.reduceBEq, ex_bytes, str_eq, beq_self_eq_true]) | (refine hK _ ?_; clear hK K) | refine Vt rfl ?_ | refine Vf rfl ?_ | refine Vi rfl (fun hg => ?_) (fun hg => ?_) | clear hK K)
        | false =>
          rw [show textE p = 8 from if_neg (by rw [hmy]; decide)] at ct
          generalize textB p = B at *
          simp only [plA, plC] at ct cb cq ck
          refine acall_of 4 Try.func5 rfl fun n out _ _ => ?_
          simp only [Try.ntmps5, List.length_cons, List.length_nil, List.length_map, List.length_replicate, rep_map, Nat.reduceAdd, Nat.reduceSub, List.replicate, List.cons_append, List.nil_append]
          repeat' (first | (with_reducible first | refine Vk fun K hK => ?_ | refine V0 ?_ | refine Vs ?_ | apply And.intro) | ((with_reducible first | refine gE ?_ | refine gR ?_); simp (maxSteps:=9^7) only [ss, evLit, tab, reduceCtorEq, reduceIte, Nat.reduceEqDiff, Nat.reduceBEq, Int.reduceLE, Int.reduceToNat, Nat.reduceAdd, Nat.reduceLT, Nat.reduceLeDiff, plA, plC, bytes_length, g1, decide_false, splice_all, Int.reduceBNe, Int.reduceBEq, ex_bytes, str_eq, beq_self_eq_true]) | exact Vn | ((with_reducible refine Vz ?_); refine Vo rfl rfl rfl (fun _ _ => rfl) ?_ <;> first | rfl | skip) | (refine call_pure (c_alive12) ?_) | (refine call_pure (cg) ?_) | (refine call_pure (ct) ?_) | (refine call_pure (cb) ?_) | (refine call_pure (cq) ?_) | (refine call_pure (ck) ?_) | ((with_reducible refine Vg (fun hg => ?_) (fun hg => ?_)) <;> (try simp only [nb] at hg) <;> simp (maxSteps:=9^7) only [ss, evLit, tab, reduceCtorEq, reduceIte, Nat.reduceEqDiff, Nat.reduceBEq, Int.reduceLE, Int.reduceToNat, Nat.reduceAdd, Nat.reduceLT, Nat.reduceLeDiff, hg, plA, plC, bytes_length, g1, decide_false, splice_all, Int.reduceBNe, Int.reduceBEq, ex_bytes, str_eq, beq_self_eq_true]) | (refine hK _ ?_; clear hK K) | refine Vt rfl ?_ | refine Vf rfl ?_ | refine Vi rfl (fun hg => ?_) (fun hg => ?_) | clear hK K)
    · have g1 : ((b.length : Int) > 5000) = True := eq_true (by omega)
      refine acall_of 3 Try.func5 rfl fun n out _ _ => ?_
      simp only [Try.ntmps5, List.length_cons, List.length_nil, List.length_map, List.length_replicate, rep_map, Nat.reduceAdd, Nat.reduceSub, List.replicate, List.cons_append, List.nil_append]
      repeat' (first | (with_reducible first | refine Vk fun K hK => ?_ | refine V0 ?_ | refine Vs ?_ | apply And.intro) | ((with_reducible first | refine gE ?_ | refine gR ?_); simp (maxSteps:=9^7) only [ss, evLit, tab, reduceCtorEq, reduceIte, Nat.reduceEqDiff, Nat.reduceBEq, Int.reduceLE, Int.reduceToNat, Nat.reduceAdd, Nat.reduceLT, Nat.reduceLeDiff, plA, plC, bytes_length, g1, decide_true]) | exact Vn | ((with_reducible refine Vz ?_); refine Vo rfl rfl rfl (fun _ _ => rfl) ?_ <;> first | rfl | skip) | (refine call_pure (c_alive12) ?_) | (refine call_pure (cg) ?_) | ((with_reducible refine Vg (fun hg => ?_) (fun hg => ?_)) <;> (try simp only [nb] at hg) <;> simp (maxSteps:=9^7) only [ss, evLit, tab, reduceCtorEq, reduceIte, Nat.reduceEqDiff, Nat.reduceBEq, Int.reduceLE, Int.reduceToNat, Nat.reduceAdd, Nat.reduceLT, Nat.reduceLeDiff, hg, plA, plC, bytes_length, g1, decide_true]) | (refine hK _ ?_; clear hK K) | refine Vt rfl ?_ | refine Vf rfl ?_ | refine Vi rfl (fun hg => ?_) (fun hg => ?_) | clear hK K)
end Go.Proofs.Ytgdhnngpfieloaa.Pln
