/-
  The law PackKeys.
-/
import Derived.Test.YtgdhnngpfieloaaZGA
import Derived.Test.YtgdhnngpfieloaaZK18
namespace Go.Proofs.Ytgdhnngpfieloaa.Pln
set_option linter.unusedVariables false
set_option linter.unusedSimpArgs false
open Go Go.VS Tab
set_option maxHeartbeats 8000000
set_option maxRecDepth 4000
theorem c_lawKeys (key : List UInt8) (p : Pl) (b : List UInt8) : ACall Try.prog 6 [.sl 1 (bytesAV key) .sh, plA p, .sl 1 (bytesAV b) .sh] [] (bool true) [] := by
  have cg := c_rgreat p
  simp only [plA, plC] at cg
  by_cases hk : key.length ≤ 5000
  · have g0 : ((key.length : Int) > 5000) = False := eq_false (by omega)
    by_cases hb : b.length ≤ 5000
    · have g1 : ((b.length : Int) > 5000) = False := eq_false (by omega)
      cases hG : greatP p with
      | true =>
        rw [hG] at cg
        refine acall_of 4 Try.func6 rfl fun n out _ _ => ?_
        simp only [Try.ntmps6, List.length_cons, List.length_nil, List.length_map, List.length_replicate, rep_map, Nat.reduceAdd, Nat.reduceSub, List.replicate, List.cons_append, List.nil_append]
        repeat' (first | (with_reducible first | refine Vk fun K hK => ?_ | refine V0 ?_ | refine Vs ?_ | apply And.intro | refine Vq (by kernel_rfl) ?_) | ((with_reducible first | refine gE ?_ | refine gR ?_); simp (maxSteps:=9^7) only [ss, evLit, tab, reduceCtorEq, reduceIte, Nat.reduceEqDiff, Nat.reduceBEq, Int.reduceLE, Int.reduceToNat, Nat.reduceAdd, Nat.reduceLT, Nat.reduceLeDiff, plA, plC, bytes_length, g0, g1, decide_false]) | exact Vn | ((with_reducible refine Vz ?_); refine Vo rfl rfl rfl (fun _ _ => rfl) ?_ <;> first | rfl | skip) | (refine call_pure (c_alive12) ?_) | (refine call_pure (cg) ?_) | ((with_reducible refine Vg (fun hg => ?_) (fun hg => ?_)) <;> (try simp only [nb] at hg) <;> simp (maxSteps:=9^7) only [ss, evLit, tab, reduceCtorEq, reduceIte, Nat.reduceEqDiff, Nat.reduceBEq, Int.reduceLE, Int.reduceToNat, Nat.reduceAdd, Nat.reduceLT, Nat.reduceLeDiff, hg, plA, plC, bytes_length, g0, g1, decide_false]) | (refine hK _ ?_; clear hK K) | refine Vt rfl ?_ | refine Vf rfl ?_ | refine Vi rfl (fun hg => ?_) (fun hg => ?_) | clear hK K)
      | false =>
        rw [hG] at cg
        have hs := small_of hG
        have cw := c_write key p hs (by omega)
        have cr := c_read key b (by omega) (by omega)
        have cs := c_rsameP p p hs
        rw [sameP_refl] at cs
        have eN : plA noPl = .agg [i64 0, i64 0, .sl 3 [] .sh, .sl 2 [] .sh, .sl 3 [] .sh, .sl 7 [] .sh] := rfl
        have cn := c_sameNone
        rw [eN] at cn
        have cx : writeE key p = 0 → ACall Try.prog 17 [.sl 1 (bytesAV key) .sh, .sl 1 (bytesAV (writeB key p)) .sh] [] (.tup [plA p, i64 0]) [] ∧ (writeB key p).length ≤ 2048 := fun h => by
          have hkl : key.length ≤ 64 := by
            rcases Nat.lt_or_ge 64 key.length with h1 | h1
            · rw [show writeE key p = 3 from if_pos h1] at h; cases h
            · exact h1
          have hmy : mayP p = true := by
            cases hmy : mayP p with
            | true => rfl
            | false =>
              rw [show writeE key p = textE p from if_neg (by omega), show textE p = 8 from if_neg (by rw [hmy]; decide)] at h
              cases h
          have e1 : writeB key p = encP p ++ Hm.tagOf key (encP p) := if_pos ⟨hkl, hmy⟩
          have ht : (Hm.tagOf key (encP p)).length = 32 := Hm.sumOf_length _
          have hl := text_len hmy
          have hle : (encP p ++ Hm.tagOf key (encP p)).length ≤ 2048 := by rw [List.length_append]; omega
          have cx := c_read key (encP p ++ Hm.tagOf key (encP p)) (by omega) (by omega)
          obtain ⟨r1, r2⟩ := read_own hkl hmy
          rw [r1, r2] at cx
          rw [e1]
          exact ⟨cx, hle⟩
        by_cases hr : readE key b = 0
        · obtain ⟨q1, q2, q3⟩ := read_ok hr
          have hqs := sm_may q2
          have cq := c_text _ hqs
          rw [show textB (readD key b) = encP (readD key b) from if_pos q2, show textE (readD key b) = 0 from if_pos q2] at cq
          have hql := text_len q2
          have ct := Hm.c_tag key (encP (readD key b)) .sh .sh (by omega)
          rw [show Hm.tagR key (encP (readD key b)) = .tup [.agg ((Hm.tagOf key (encP (readD key b))).map b8), i64 0] from if_pos q1] at ct
          have ht : (Hm.tagOf key (encP (readD key b))).length = 32 := Hm.sumOf_length _
          rw [hr] at cr
          generalize Hm.tagOf key (encP (readD key b)) = T at q3 ct ht
          generalize encP (readD key b) = X at q3 cq ct hql
          generalize readD key b = Q at cr cq
          subst q3
          have y1 : X.length ≤ 9223372036854775775 := by omega
          have hib : (bytesAV T).length = 32 := by rw [bytes_length]; exact ht
          have hi33 : 32 ≤ T.length := Nat.le_of_eq ht.symm
          by_cases hw : writeE key p = 0
          · obtain ⟨cx, hwl⟩ := cx hw
            have g2 : (((writeB key p).length : Int) > 2048) = False := eq_false (by omega)
            rw [hw] at cw
            generalize writeB key p = W at *
            simp only [plA, plC] at cw cr cs cx cq
            have g4 : True := trivial
            refine acall_of 4 Try.func6 rfl fun n out _ _ => ?_
            simp only [Try.ntmps6, List.length_cons, List.length_nil, List.length_map, List.length_replicate, rep_map, Nat.reduceAdd, Nat.reduceSub, List.replicate, List.cons_append, List.nil_append]
            repeat' (first | (with_reducible first | refine Vk fun K hK => ?_ | refine V0 ?_ | refine Vs ?_ | apply And.intro | refine Vq (by kernel_rfl) ?_) | ((with_reducible first | refine gE ?_ | refine gR ?_); simp (maxSteps:=9^7) only [ss, evLit, tab, reduceCtorEq, reduceIte, Nat.reduceEqDiff, Nat.reduceBEq, Int.reduceLE, Int.reduceToNat, Nat.reduceAdd, Nat.reduceLT, Nat.reduceLeDiff, plA, plC, bytes_length, g0, g1, g2, g4, decide_false, splice_all, Int.reduceBNe, Int.reduceBEq]) | exact Vn | ((with_reducible refine Vz ?_); refine Vo rfl rfl rfl (fun _ _ => rfl) ?_ <;> first | rfl | skip) | (refine call_pure (c_alive12) ?_) | (refine call_pure (cg) ?_) | (refine call_pure (cw) ?_) | (refine call_pure (cx) ?_) | (refine call_pure (cs) ?_) | (refine call_pure (cr) ?_) | (refine call_pure (cq) ?_) | ((with_reducible refine Vg (fun hg => ?_) (fun hg => ?_)) <;> (try simp only [nb] at hg) <;> simp (maxSteps:=9^7) only [ss, evLit, tab, reduceCtorEq, reduceIte, Nat.reduceEqDiff, Nat.reduceBEq, Int.reduceLE, Int.reduceToNat, Nat.reduceAdd, Nat.reduceLT, Nat.reduceLeDiff, hg, plA, plC, bytes_length, g0, g1, g2, g4, decide_false, splice_all, Int.reduceBNe, Int.reduceBEq]) | (refine hK _ ?_; clear hK K) | refine Vt rfl ?_ | refine Vf rfl ?_ | refine Vi rfl (fun hg => ?_) (fun hg => ?_) | clear hK K)
            refine call_pure ct ?_
            simp (maxSteps:=9^7) only [ss, evLit, tab, reduceCtorEq, reduceIte, Nat.reduceEqDiff, Nat.reduceBEq, Int.reduceLE, Int.reduceToNat, Nat.reduceAdd, Nat.reduceLT, Nat.reduceLeDiff, splice_all, List.length_map, ht]
            repeat' (first | (with_reducible refine hK _ ?_; clear hK K) | with_reducible apply And.intro)
            refine awp_le (le_freeze (i := 3) 1 (e := 47) (cs := T.map b8) rfl (by simp)) ?_
            simp only [List.map_cons, List.map_nil, AV.frz, mo_t, mo_f, s_0, s_s, Nat.add_left_cancel_iff, reduceCtorEq, if_true, if_false, Nat.reduceEqDiff, reduceIte, List.drop_zero]
            repeat' (first | (with_reducible first | refine Vk fun K hK => ?_ | refine V0 ?_ | refine Vs ?_ | apply And.intro | refine Vq (by kernel_rfl) ?_) | ((with_reducible first | refine gE ?_ | refine gR ?_); simp (maxSteps:=9^7) only [ss, evLit, tab, reduceCtorEq, reduceIte, Nat.reduceEqDiff, Nat.reduceBEq, Int.reduceLE, Int.reduceToNat, Nat.reduceAdd, Nat.reduceLT, Nat.reduceLeDiff, sg, loOf, hiOf, Nat.sub_zero, chunk_b8' _ ht, List.take_of_length_le (Nat.le_of_eq hib), hi33, bytes_length, ht, ex_bytes, str_app, str_size, str_eq, y1, Int.reduceBEq, beq_self_eq_true]) | exact Vn | ((with_reducible refine Vz ?_); refine Vo rfl rfl rfl (fun _ _ => rfl) ?_ <;> first | rfl | skip) | ((with_reducible first | refine Vg (fun hg => ?_) (fun hg => ?_) | refine gselD_case (fun hg => ?_) (fun hg => ?_)) <;> (try simp only [nb] at hg) <;> simp (maxSteps:=9^7) only [ss, evLit, tab, reduceCtorEq, reduceIte, Nat.reduceEqDiff, Nat.reduceBEq, Int.reduceLE, Int.reduceToNat, Nat.reduceAdd, Nat.reduceLT, Nat.reduceLeDiff, hg, sg, loOf, hiOf, Nat.sub_zero, chunk_b8' _ ht, List.take_of_length_le (Nat.le_of_eq hib), hi33, bytes_length, ht, ex_bytes, str_app, str_size, str_eq, y1, Int.reduceBEq, beq_self_eq_true]) | (refine hK _ ?_; clear hK K) | refine Vt rfl ?_ | refine Vf rfl ?_ | refine Vi rfl (fun hg => ?_) (fun hg => ?_) | clear hK K)
          · have g4 : (writeE key p == 0) = false := by simpa using hw
            have g2 : True := trivial
            generalize writeE key p = F at cw g4
            generalize writeB key p = W at *
            simp only [plA, plC] at cw cr cq
            refine acall_of 4 Try.func6 rfl fun n out _ _ => ?_
            simp only [Try.ntmps6, List.length_cons, List.length_nil, List.length_map, List.length_replicate, rep_map, Nat.reduceAdd, Nat.reduceSub, List.replicate, List.cons_append, List.nil_append]
            repeat' (first | (with_reducible first | refine Vk fun K hK => ?_ | refine V0 ?_ | refine Vs ?_ | apply And.intro | refine Vq (by kernel_rfl) ?_) | ((with_reducible first | refine gE ?_ | refine gR ?_); simp (maxSteps:=9^7) only [ss, evLit, tab, reduceCtorEq, reduceIte, Nat.reduceEqDiff, Nat.reduceBEq, Int.reduceLE, Int.reduceToNat, Nat.reduceAdd, Nat.reduceLT, Nat.reduceLeDiff, plA, plC, bytes_length, g0, g1, g2, g4, decide_false, splice_all, Int.reduceBNe, Int.reduceBEq]) | exact Vn | ((with_reducible refine Vz ?_); refine Vo rfl rfl rfl (fun _ _ => rfl) ?_ <;> first | rfl | skip) | (refine call_pure (c_alive12) ?_) | (refine call_pure (cg) ?_) | (refine call_pure (cw) ?_) | (refine call_pure (cr) ?_) | (refine call_pure (cq) ?_) | ((with_reducible refine Vg (fun hg => ?_) (fun hg => ?_)) <;> (try simp only [nb] at hg) <;> simp (maxSteps:=9^7) only [ss, evLit, tab, reduceCtorEq, reduceIte, Nat.reduceEqDiff, Nat.reduceBEq, Int.reduceLE, Int.reduceToNat, Nat.reduceAdd, Nat.reduceLT, Nat.reduceLeDiff, hg, plA, plC, bytes_length, g0, g1, g2, g4, decide_false, splice_all, Int.reduceBNe, Int.reduceBEq]) | (refine hK _ ?_; clear hK K) | refine Vt rfl ?_ | refine Vf rfl ?_ | refine Vi rfl (fun hg => ?_) (fun hg => ?_) | clear hK K)
            refine call_pure ct ?_
            simp (maxSteps:=9^7) only [ss, evLit, tab, reduceCtorEq, reduceIte, Nat.reduceEqDiff, Nat.reduceBEq, Int.reduceLE, Int.reduceToNat, Nat.reduceAdd, Nat.reduceLT, Nat.reduceLeDiff, splice_all, List.length_map, ht]
            repeat' (first | (with_reducible refine hK _ ?_; clear hK K) | with_reducible apply And.intro)
            refine awp_le (le_freeze (i := 2) 1 (e := 47) (cs := T.map b8) rfl (by simp)) ?_
            simp only [List.map_cons, List.map_nil, AV.frz, mo_t, mo_f, s_0, s_s, Nat.add_left_cancel_iff, reduceCtorEq, if_true, if_false, Nat.reduceEqDiff, reduceIte, List.drop_zero]
            repeat' (first | (with_reducible first | refine Vk fun K hK => ?_ | refine V0 ?_ | refine Vs ?_ | apply And.intro | refine Vq (by kernel_rfl) ?_) | ((with_reducible first | refine gE ?_ | refine gR ?_); simp (maxSteps:=9^7) only [ss, evLit, tab, reduceCtorEq, reduceIte, Nat.reduceEqDiff, Nat.reduceBEq, Int.reduceLE, Int.reduceToNat, Nat.reduceAdd, Nat.reduceLT, Nat.reduceLeDiff, sg, loOf, hiOf, Nat.sub_zero, chunk_b8' _ ht, List.take_of_length_le (Nat.le_of_eq hib), hi33, bytes_length, ht, ex_bytes, str_app, str_size, str_eq, y1, Int.reduceBEq, beq_self_eq_true]) | exact Vn | ((with_reducible refine Vz ?_); refine Vo rfl rfl rfl (fun _ _ => rfl) ?_ <;> first | rfl | skip) | ((with_reducible first | refine Vg (fun hg => ?_) (fun hg => ?_) | refine gselD_case (fun hg => ?_) (fun hg => ?_)) <;> (try simp only [nb] at hg) <;> simp (maxSteps:=9^7) only [ss, evLit, tab, reduceCtorEq, reduceIte, Nat.reduceEqDiff, Nat.reduceBEq, Int.reduceLE, Int.reduceToNat, Nat.reduceAdd, Nat.reduceLT, Nat.reduceLeDiff, hg, sg, loOf, hiOf, Nat.sub_zero, chunk_b8' _ ht, List.take_of_length_le (Nat.le_of_eq hib), hi33, bytes_length, ht, ex_bytes, str_app, str_size, str_eq, y1, Int.reduceBEq, beq_self_eq_true]) | (refine hK _ ?_; clear hK K) | refine Vt rfl ?_ | refine Vf rfl ?_ | refine Vi rfl (fun hg => ?_) (fun hg => ?_) | clear hK K)
        · have hn := readD_no rfl hr
          rw [hn, eN] at cr
          have g3 : (readE key b != 0) = true := by simpa using hr
          generalize readE key b = E at cr g3
          by_cases hw : writeE key p = 0
          · obtain ⟨cx, hwl⟩ := cx hw
            have g2 : (((writeB key p).length : Int) > 2048) = False := eq_false (by omega)
            rw [hw] at cw
            generalize writeB key p = W at *
            simp only [plA, plC] at cw cs cx
            refine acall_of 4 Try.func6 rfl fun n out _ _ => ?_
            simp only [Try.ntmps6, List.length_cons, List.length_nil, List.length_map, List.length_replicate, rep_map, Nat.reduceAdd, Nat.reduceSub, List.replicate, List.cons_append, List.nil_append]
            repeat' (first | (with_reducible first | refine Vk fun K hK => ?_ | refine V0 ?_ | refine Vs ?_ | apply And.intro | refine Vq (by kernel_rfl) ?_) | ((with_reducible first | refine gE ?_ | refine gR ?_); simp (maxSteps:=9^7) only [ss, evLit, tab, reduceCtorEq, reduceIte, Nat.reduceEqDiff, Nat.reduceBEq, Int.reduceLE, Int.reduceToNat, Nat.reduceAdd, Nat.reduceLT, Nat.reduceLeDiff, plA, plC, bytes_length, g0, g1, g2, g3, decide_false, splice_all, Int.reduceBNe, Int.reduceBEq]) | exact Vn | ((with_reducible refine Vz ?_); refine Vo rfl rfl rfl (fun _ _ => rfl) ?_ <;> first | rfl | skip) | (refine call_pure (c_alive12) ?_) | (refine call_pure (cg) ?_) | (refine call_pure (cw) ?_) | (refine call_pure (cx) ?_) | (refine call_pure (cs) ?_) | (refine call_pure (cr) ?_) | (refine call_pure (cn) ?_) | ((with_reducible refine Vg (fun hg => ?_) (fun hg => ?_)) <;> (try simp only [nb] at hg) <;> simp (maxSteps:=9^7) only [ss, evLit, tab, reduceCtorEq, reduceIte, Nat.reduceEqDiff, Nat.reduceBEq, Int.reduceLE, Int.reduceToNat, Nat.reduceAdd, Nat.reduceLT, Nat.reduceLeDiff, hg, plA, plC, bytes_length, g0, g1, g2, g3, decide_false, splice_all, Int.reduceBNe, Int.reduceBEq]) | (refine hK _ ?_; clear hK K) | refine Vt rfl ?_ | refine Vf rfl ?_ | refine Vi rfl (fun hg => ?_) (fun hg => ?_) | clear hK K)
          · have g4 : (writeE key p == 0) = false := by simpa using hw
            generalize writeE key p = F at cw g4
            generalize writeB key p = W at *
            simp only [plA, plC] at cw
            refine acall_of 4 Try.func6 rfl fun n out _ _ => ?_
            simp only [Try.ntmps6, List.length_cons, List.length_nil, List.length_map, List.length_replicate, rep_map, Nat.reduceAdd, Nat.reduceSub, List.replicate, List.cons_append, List.nil_append]
            repeat' (first | (with_reducible first | refine Vk fun K hK => ?_ | refine V0 ?_ | refine Vs ?_ | apply And.intro | refine Vq (by kernel_rfl) ?_) | ((with_reducible first | refine gE ?_ | refine gR ?_); simp (maxSteps:=9^7) only [ss, evLit, tab, reduceCtorEq, reduceIte, Nat.reduceEqDiff, Nat.reduceBEq, Int.reduceLE, Int.reduceToNat, Nat.reduceAdd, Nat.reduceLT, Nat.reduceLeDiff, plA, plC, bytes_length, g0, g1, g3, g4, decide_false, splice_all, Int.reduceBNe, Int.reduceBEq]) | exact Vn | ((with_reducible refine Vz ?_); refine Vo rfl rfl rfl (fun _ _ => rfl) ?_ <;> first | rfl | skip) | (refine call_pure (c_alive12) ?_) | (refine call_pure (cg) ?_) | (refine call_pure (cw) ?_) | (refine call_pure (cr) ?_) | (refine call_pure (cn) ?_) | ((with_reducible refine Vg (fun hg => ?_) (fun hg => ?_)) <;> (try simp only [nb] at hg) <;> simp (maxSteps:=9^7) only [ss, evLit, tab, reduceCtorEq, reduceIte, Nat.reduceEqDiff, Nat.reduceBEq, Int.reduceLE, Int.reduceToNat, Nat.reduceAdd, Nat.reduceLT, Nat.reduceLeDiff, hg, plA, plC, bytes_length, g0, g1, g3, g4, decide_false, splice_all, Int.reduceBNe, Int.reduceBEq]) | (refine hK _ ?_; clear hK K) | refine Vt rfl ?_ | refine Vf rfl ?_ | refine Vi rfl (fun hg => ?_) (fun hg => ?_) | clear hK K)
    · have g1 : ((b.length : Int) > 5000) = True := eq_true (by omega)
      refine acall_of 4 Try.func6 rfl fun n out _ _ => ?_
      simp only [Try.ntmps6, List.length_cons, List.length_nil, List.length_map, List.length_replicate, rep_map, Nat.reduceAdd, Nat.reduceSub, List.replicate, List.cons_append, List.nil_append]
      repeat' (first | (with_reducible first | refine Vk fun K hK => ?_ | refine V0 ?_ | refine Vs ?_ | apply And.intro | refine Vq (by kernel_rfl) ?_) | ((with_reducible first | refine gE ?_ | refine gR ?_); simp (maxSteps:=9^7) only [ss, evLit, tab, reduceCtorEq, reduceIte, Nat.reduceEqDiff, Nat.reduceBEq, Int.reduceLE, Int.reduceToNat, Nat.reduceAdd, Nat.reduceLT, Nat.reduceLeDiff, plA, plC, bytes_length, g0, g1, decide_true, decide_false]) | exact Vn | ((with_reducible refine Vz ?_); refine Vo rfl rfl rfl (fun _ _ => rfl) ?_ <;> first | rfl | skip) | (refine call_pure (c_alive12) ?_) | (refine call_pure (cg) ?_) | ((with_reducible refine Vg (fun hg => ?_) (fun hg => ?_)) <;> (try simp only [nb] at hg) <;> simp (maxSteps:=9^7) only [ss, evLit, tab, reduceCtorEq, reduceIte, Nat.reduceEqDiff, Nat.reduceBEq, Int.reduceLE, Int.reduceToNat, Nat.reduceAdd, Nat.reduceLT, Nat.reduceLeDiff, hg, plA, plC, bytes_length, g0, g1, decide_true, decide_false]) | (refine hK _ ?_; clear hK K) | refine Vt rfl ?_ | refine Vf rfl ?_ | refine Vi rfl (fun hg => ?_) (fun hg => ?_) | clear hK K)
  · have g0 : ((key.length : Int) > 5000) = True := eq_true (by omega)
    refine acall_of 4 Try.func6 rfl fun n out _ _ => ?_
    simp only [Try.ntmps6, List.length_cons, List.length_nil, List.length_map, List.length_replicate, rep_map, Nat.reduceAdd, Nat.reduceSub, List.replicate, List.cons_append, List.nil_append]
    repeat' (first | (with_reducible first | refine Vk fun K hK => ?_ | refine V0 ?_ | refine Vs ?_ | apply And.intro | refine Vq (by kernel_rfl) ?_) | ((with_reducible first | refine gE ?_ | refine gR ?_); simp (maxSteps:=9^7) only [ss, evLit, tab, reduceCtorEq, reduceIte, Nat.reduceEqDiff, Nat.reduceBEq, Int.reduceLE, Int.reduceToNat, Nat.reduceAdd, Nat.reduceLT, Nat.reduceLeDiff, plA, plC, bytes_length, g0, decide_true]) | exact Vn | ((with_reducible refine Vz ?_); refine Vo rfl rfl rfl (fun _ _ => rfl) ?_ <;> first | rfl | skip) | (refine call_pure (c_alive12) ?_) | (refine call_pure (cg) ?_) | ((with_reducible refine Vg (fun hg => ?_) (fun hg => ?_)) <;> (try simp only [nb] at hg) <;> simp (maxSteps:=9^7) only [ss, evLit, tab, reduceCtorEq, reduceIte, Nat.reduceEqDiff, Nat.reduceBEq, Int.reduceLE, Int.reduceToNat, Nat.reduceAdd, Nat.reduceLT, Nat.reduceLeDiff, hg, plA, plC, bytes_length, g0, decide_true]) | (refine hK _ ?_; clear hK K) | refine Vt rfl ?_ | refine Vf rfl ?_ | refine Vi rfl (fun hg => ?_) (fun hg => ?_) | clear hK K)
end Go.Proofs.Ytgdhnngpfieloaa.Pln
