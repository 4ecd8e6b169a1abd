/-
  The laws PackApart, PackKeys.
-/
import Derived.Test.YtgdhnngpfieloaaZGA
import Derived.Test.YtgdhnngpfieloaaZK18
namespace Go.Proofs.Ytgdhnngpfieloaa.Pln
set_option linter.unusedVariables false
set_option linter.unusedSimpArgs false
open Go Go.VS Tab
set_option maxHeartbeats 8000000
set_option maxRecDepth 4000
theorem encP_pos {p : Pl} (h : mayP p = true) : encP p ≠ [] := fun h0 => by
  have h1 := parse_text h []
  rw [h0] at h1
  have h2 : parseOk ([] ++ []) = false := by kernel_rfl
  rw [h2] at h1
  exact absurd h1 (by decide)
theorem c_lawApart (p o : Pl) (more : List UInt8) : ACall Try.prog 7 [plA p, plA o, .sl 1 (bytesAV more) .sh] [] (bool true) [] := by
  have cg := c_rgreat p
  have ch := c_rgreat o
  simp only [plA, plC] at cg ch
  by_cases hmo : more.length ≤ 1000
  · have g1 : ((more.length : Int) > 1000) = False := eq_false (by omega)
    cases hG : greatP p with
    | true =>
      rw [hG] at cg
      refine acall_of 4 Try.func7 rfl fun n out _ _ => ?_
      simp only [Try.ntmps7, List.length_cons, List.length_nil, List.length_map, List.length_replicate, rep_map, Nat.reduceAdd, Nat.reduceSub, List.replicate, List.cons_append, List.nil_append]
      repeat' (first | (with_reducible first | refine Vk fun K hK => ?_ | refine V0 ?_ | refine Vs ?_ | apply And.intro | refine Vq (by kernel_rfl) ?_) | ((with_reducible first | refine gE ?_ | refine gR ?_); simp (maxSteps:=9^7) only [ss, evLit, tab, reduceCtorEq, reduceIte, Nat.reduceEqDiff, Nat.reduceBEq, Int.reduceLE, Int.reduceToNat, Nat.reduceAdd, Nat.reduceLT, Nat.reduceLeDiff, plA, plC, bytes_length, g1, decide_false]) | exact Vn | ((with_reducible refine Vz ?_); refine Vo rfl rfl rfl (fun _ _ => rfl) ?_ <;> first | rfl | skip) | (refine call_pure (c_alive12) ?_) | (refine call_pure (cg) ?_) | ((with_reducible refine Vg (fun hg => ?_) (fun hg => ?_)) <;> (try simp only [nb] at hg) <;> simp (maxSteps:=9^7) only [ss, evLit, tab, reduceCtorEq, reduceIte, Nat.reduceEqDiff, Nat.reduceBEq, Int.reduceLE, Int.reduceToNat, Nat.reduceAdd, Nat.reduceLT, Nat.reduceLeDiff, hg, plA, plC, bytes_length, g1, decide_false]) | (refine hK _ ?_; clear hK K) | refine Vt rfl ?_ | refine Vf rfl ?_ | refine Vi rfl (fun hg => ?_) (fun hg => ?_) | clear hK K)
    | false =>
      rw [hG] at cg
      cases hH : greatP o with
      | true =>
        rw [hH] at ch
        refine acall_of 4 Try.func7 rfl fun n out _ _ => ?_
        simp only [Try.ntmps7, List.length_cons, List.length_nil, List.length_map, List.length_replicate, rep_map, Nat.reduceAdd, Nat.reduceSub, List.replicate, List.cons_append, List.nil_append]
        repeat' (first | (with_reducible first | refine Vk fun K hK => ?_ | refine V0 ?_ | refine Vs ?_ | apply And.intro | refine Vq (by kernel_rfl) ?_) | ((with_reducible first | refine gE ?_ | refine gR ?_); simp (maxSteps:=9^7) only [ss, evLit, tab, reduceCtorEq, reduceIte, Nat.reduceEqDiff, Nat.reduceBEq, Int.reduceLE, Int.reduceToNat, Nat.reduceAdd, Nat.reduceLT, Nat.reduceLeDiff, plA, plC, bytes_length, g1, decide_false]) | exact Vn | ((with_reducible refine Vz ?_); refine Vo rfl rfl rfl (fun _ _ => rfl) ?_ <;> first | rfl | skip) | (refine call_pure (c_alive12) ?_) | (refine call_pure (cg) ?_) | (refine call_pure (ch) ?_) | ((with_reducible refine Vg (fun hg => ?_) (fun hg => ?_)) <;> (try simp only [nb] at hg) <;> simp (maxSteps:=9^7) only [ss, evLit, tab, reduceCtorEq, reduceIte, Nat.reduceEqDiff, Nat.reduceBEq, Int.reduceLE, Int.reduceToNat, Nat.reduceAdd, Nat.reduceLT, Nat.reduceLeDiff, hg, plA, plC, bytes_length, g1, decide_false]) | (refine hK _ ?_; clear hK K) | refine Vt rfl ?_ | refine Vf rfl ?_ | refine Vi rfl (fun hg => ?_) (fun hg => ?_) | clear hK K)
      | false =>
        rw [hH] at ch
        have hs := small_of hG
        have ho := small_of hH
        have ct := c_text p hs
        have cu := c_text o ho
        cases hmy : mayP p with
        | false =>
          rw [show textE p = 8 from if_neg (by rw [hmy]; decide)] at ct
          generalize textB p = B at *
          generalize textB o = C at *
          generalize textE o = E at *
          simp only [plA, plC] at ct cu
          refine acall_of 4 Try.func7 rfl fun n out _ _ => ?_
          simp only [Try.ntmps7, List.length_cons, List.length_nil, List.length_map, List.length_replicate, rep_map, Nat.reduceAdd, Nat.reduceSub, List.replicate, List.cons_append, List.nil_append]
          repeat' (first | (with_reducible first | refine Vk fun K hK => ?_ | refine V0 ?_ | refine Vs ?_ | apply And.intro | refine Vq (by kernel_rfl) ?_) | ((with_reducible first | refine gE ?_ | refine gR ?_); simp (maxSteps:=9^7) only [ss, evLit, tab, reduceCtorEq, reduceIte, Nat.reduceEqDiff, Nat.reduceBEq, Int.reduceLE, Int.reduceToNat, Nat.reduceAdd, Nat.reduceLT, Nat.reduceLeDiff, plA, plC, bytes_length, g1, decide_false, splice_all, Int.reduceBNe]) | exact Vn | ((with_reducible refine Vz ?_); refine Vo rfl rfl rfl (fun _ _ => rfl) ?_ <;> first | rfl | skip) | (refine call_pure (c_alive12) ?_) | (refine call_pure (cg) ?_) | (refine call_pure (ch) ?_) | (refine call_pure (ct) ?_) | (refine call_pure (cu) ?_) | ((with_reducible refine Vg (fun hg => ?_) (fun hg => ?_)) <;> (try simp only [nb] at hg) <;> simp (maxSteps:=9^7) only [ss, evLit, tab, reduceCtorEq, reduceIte, Nat.reduceEqDiff, Nat.reduceBEq, Int.reduceLE, Int.reduceToNat, Nat.reduceAdd, Nat.reduceLT, Nat.reduceLeDiff, hg, plA, plC, bytes_length, g1, decide_false, splice_all, Int.reduceBNe]) | (refine hK _ ?_; clear hK K) | refine Vt rfl ?_ | refine Vf rfl ?_ | refine Vi rfl (fun hg => ?_) (fun hg => ?_) | clear hK K)
        | true =>
          cases hno : mayP o with
          | false =>
            rw [show textB p = encP p from if_pos hmy, show textE p = 0 from if_pos hmy] at ct
            rw [show textE o = 8 from if_neg (by rw [hno]; decide)] at cu
            generalize encP p = B at *
            generalize textB o = C at *
            simp only [plA, plC] at ct cu
            refine acall_of 4 Try.func7 rfl fun n out _ _ => ?_
            simp only [Try.ntmps7, List.length_cons, List.length_nil, List.length_map, List.length_replicate, rep_map, Nat.reduceAdd, Nat.reduceSub, List.replicate, List.cons_append, List.nil_append]
            repeat' (first | (with_reducible first | refine Vk fun K hK => ?_ | refine V0 ?_ | refine Vs ?_ | apply And.intro | refine Vq (by kernel_rfl) ?_) | ((with_reducible first | refine gE ?_ | refine gR ?_); simp (maxSteps:=9^7) only [ss, evLit, tab, reduceCtorEq, reduceIte, Nat.reduceEqDiff, Nat.reduceBEq, Int.reduceLE, Int.reduceToNat, Nat.reduceAdd, Nat.reduceLT, Nat.reduceLeDiff, plA, plC, bytes_length, g1, decide_false, splice_all, Int.reduceBNe]) | exact Vn | ((with_reducible refine Vz ?_); refine Vo rfl rfl rfl (fun _ _ => rfl) ?_ <;> first | rfl | skip) | (refine call_pure (c_alive12) ?_) | (refine call_pure (cg) ?_) | (refine call_pure (ch) ?_) | (refine call_pure (ct) ?_) | (refine call_pure (cu) ?_) | ((with_reducible refine Vg (fun hg => ?_) (fun hg => ?_)) <;> (try simp only [nb] at hg) <;> simp (maxSteps:=9^7) only [ss, evLit, tab, reduceCtorEq, reduceIte, Nat.reduceEqDiff, Nat.reduceBEq, Int.reduceLE, Int.reduceToNat, Nat.reduceAdd, Nat.reduceLT, Nat.reduceLeDiff, hg, plA, plC, bytes_length, g1, decide_false, splice_all, Int.reduceBNe]) | (refine hK _ ?_; clear hK K) | refine Vt rfl ?_ | refine Vf rfl ?_ | refine Vi rfl (fun hg => ?_) (fun hg => ?_) | clear hK K)
          | true =>
            rw [show textB p = encP p from if_pos hmy, show textE p = 0 from if_pos hmy] at ct
            rw [show textB o = encP o from if_pos hno, show textE o = 0 from if_pos hno] at cu
            have cs := c_rsameP p o hs
            rw [← text_same hmy hno] at cs
            have hl := text_len hmy
            have cx := c_parse (encP p ++ more) (by rw [List.length_append]; omega)
            have hpo : parseOk (encP p ++ more) = decide (more = []) := parse_text hmy more
            have hB0 : bytesAV (encP p) ≠ [] := fun h => encP_pos hmy (by simpa [bytesAV] using h)
            have e1 : ((if parseOk (encP p ++ more) = true then (0 : Int) else 8) == 0) = ((more.length : Int) == 0) := by
              rw [hpo]
              cases more with
              | nil => rfl
              | cons x l =>
                have : ((((x :: l).length : Nat) : Int) == 0) = false := by rw [beq_eq_false_iff_ne]; simp only [List.length_cons]; omega
                rw [this]; rfl
            generalize (if parseOk (encP p ++ more) = true then (readP (encP p ++ more)).1 else noPl) = Q at cx
            generalize (if parseOk (encP p ++ more) = true then (0 : Int) else 8) = E at cx e1
            obtain ⟨B, hB⟩ : ∃ B, B = encP p := ⟨_, rfl⟩
            rw [← hB] at ct cs cx hl hB0
            clear hB hpo
            generalize encP o = C at cu cs
            have y1 : B.length ≤ 140737488355328 := by omega
            have y2 : B.length ≤ 9223372036854775807 := by omega
            have y3 : B.length + more.length ≤ 140737488355328 := by omega
            have y4 : B.length + more.length ≤ 9223372036854775807 := by omega
            simp only [plA, plC] at ct cu cs cx
            refine acall_of 4 Try.func7 rfl fun n out _ _ => ?_
            simp only [Try.ntmps7, List.length_cons, List.length_nil, List.length_map, List.length_replicate, rep_map, Nat.reduceAdd, Nat.reduceSub, List.replicate, List.cons_append, List.nil_append]
            repeat' (first | (with_reducible first | refine Vk fun K hK => ?_ | refine Ve [(50, none)] ?_ | refine Vs ?_ | apply And.intro | refine Vd 9 [(50, none)] [[],[],[],[],[],[0],[1],[],[],[],[],[],[],[],[],[],[],[]] [[],[],[],[],[],[],[],[],[],[],[],[],[],[],[],[],[],[]] (by kernel_rfl) (by decide) (by decide) (by kernel_rfl) ?_ | refine Vq (by kernel_rfl) ?_) | ((with_reducible first | refine gE ?_ | refine gR ?_ | refine gD ?_ | refine gF ?_); simp (maxSteps:=9^7) only [ss, evLit, tab, reduceCtorEq, reduceIte, Nat.reduceEqDiff, Nat.reduceBEq, Int.reduceLE, Int.reduceToNat, Nat.reduceAdd, Nat.reduceLT, Nat.reduceLeDiff, sg, plA, plC, bytes_length, g1, decide_false, splice_all, Int.reduceBNe, hB0, y1, y2, y3, y4, bytes_app, List.length_append, ex_bytes, str_eq, beq_self_eq_true, e1, List.nil_append]) | exact Vn | ((with_reducible refine Vz ?_); refine Vo rfl rfl rfl (fun _ _ => rfl) ?_ <;> first | rfl | skip) | (refine call_pure (c_alive12) ?_) | (refine call_pure (cg) ?_) | (refine call_pure (ch) ?_) | (refine call_pure (ct) ?_) | (refine call_pure (cu) ?_) | (refine call_pure (cs) ?_) | (refine call_pure (acall_le cx ⟨.sh _ _ _, trivial⟩) ?_) | ((with_reducible first | refine Vg (fun hg => ?_) (fun hg => ?_) | refine gselD_case (fun hg => ?_) (fun hg => ?_)) <;> (try simp only [nb] at hg) <;> simp (maxSteps:=9^7) only [ss, evLit, tab, reduceCtorEq, reduceIte, Nat.reduceEqDiff, Nat.reduceBEq, Int.reduceLE, Int.reduceToNat, Nat.reduceAdd, Nat.reduceLT, Nat.reduceLeDiff, hg, sg, plA, plC, bytes_length, g1, decide_false, splice_all, Int.reduceBNe, hB0, y1, y2, y3, y4, bytes_app, List.length_append, ex_bytes, str_eq, beq_self_eq_true, e1, List.nil_append]) | (refine hK _ ?_; clear hK K) | refine Vt rfl ?_ | refine Vf rfl ?_ | refine Vi rfl (fun hg => ?_) (fun hg => ?_) | clear hK K)
  · have g1 : ((more.length : Int) > 1000) = True := eq_true (by omega)
    refine acall_of 4 Try.func7 rfl fun n out _ _ => ?_
    simp only [Try.ntmps7, List.length_cons, List.length_nil, List.length_map, List.length_replicate, rep_map, Nat.reduceAdd, Nat.reduceSub, List.replicate, List.cons_append, List.nil_append]
    repeat' (first | (with_reducible first | refine Vk fun K hK => ?_ | refine V0 ?_ | refine Vs ?_ | apply And.intro | refine Vq (by kernel_rfl) ?_) | ((with_reducible first | refine gE ?_ | refine gR ?_); simp (maxSteps:=9^7) only [ss, evLit, tab, reduceCtorEq, reduceIte, Nat.reduceEqDiff, Nat.reduceBEq, Int.reduceLE, Int.reduceToNat, Nat.reduceAdd, Nat.reduceLT, Nat.reduceLeDiff, plA, plC, bytes_length, g1, decide_true]) | exact Vn | ((with_reducible refine Vz ?_); refine Vo rfl rfl rfl (fun _ _ => rfl) ?_ <;> first | rfl | skip) | (refine call_pure (c_alive12) ?_) | (refine call_pure (cg) ?_) | (refine call_pure (ch) ?_) | ((with_reducible refine Vg (fun hg => ?_) (fun hg => ?_)) <;> (try simp only [nb] at hg) <;> simp (maxSteps:=9^7) only [ss, evLit, tab, reduceCtorEq, reduceIte, Nat.reduceEqDiff, Nat.reduceBEq, Int.reduceLE, Int.reduceToNat, Nat.reduceAdd, Nat.reduceLT, Nat.reduceLeDiff, hg, plA, plC, bytes_length, g1, decide_true]) | (refine hK _ ?_; clear hK K) | refine Vt rfl ?_ | refine Vf rfl ?_ | refine Vi rfl (fun hg => ?_) (fun hg => ?_) | clear hK K)
end Go.Proofs.Ytgdhnngpfieloaa.Pln
