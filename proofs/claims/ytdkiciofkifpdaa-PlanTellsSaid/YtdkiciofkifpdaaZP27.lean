/-
  The law PlanTells.
-/
import Derived.Test.YtdkiciofkifpdaaZGA
import Derived.Test.YtdkiciofkifpdaaZP26
import Derived.Test.YtdkiciofkifpdaaZW12
import Derived.Test.YtdkiciofkifpdaaZW5
import Derived.Test.YtdkiciofkifpdaaZPQ
namespace Go.Proofs.Ytdkiciofkifpdaa.Pln
set_option linter.unusedVariables false
set_option linter.unusedSimpArgs false
open Go Go.VS Tab
set_option maxHeartbeats 8000000
set_option maxRecDepth 4000
theorem c_rsameRK (k : Nat) (a : Rt) (ha : a.path.length ≤ 20 ∧ a.over.length ≤ 20 ∧ a.flanks.length ≤ 20) : ACall Try.prog 31 [.agg (rtBC k a), rtA a] [(k, some (.box 3 (a.path.map i64)))] (bool true) [(k, .box 3 (a.path.map i64))] := by
  obtain ⟨l1, l2, l3⟩ := ha
  have c1 := c_rintsK k a.path (by omega)
  have c2 := c_rints a.over a.over (by omega)
  rw [beq_self_eq_true] at c2
  refine acall_of 2 Try.func31 rfl fun n out _ _ => ?_
  simp only [Try.ntmps31, List.length_cons, List.length_nil, List.length_map, List.length_replicate, rep_map, Nat.reduceAdd, Nat.reduceSub, List.replicate, List.cons_append, List.nil_append]
  rename_i hneeds hgv
  obtain ⟨hk, _⟩ := hneeds
  obtain ⟨hkn, _⟩ := hgv
  have hself := upd1_self hk
  repeat' (first | (with_reducible first | refine Vk fun K hK => ?_ | refine V0 ?_ | refine Vb ?_ | refine Vc ?_ | refine Vr ?_ | refine Vs ?_ | apply And.intro | refine Vq (by kernel_rfl) ?_) | ((with_reducible first | refine gE ?_ | refine gR ?_); simp (maxSteps:=9^7) only [ss, evLit, tab, reduceCtorEq, reduceIte, Nat.reduceEqDiff, Nat.reduceBEq, Int.reduceLE, Int.reduceToNat, Nat.reduceAdd, Nat.reduceLT, Nat.reduceLeDiff, rtA, rtC, rtBC, List.length_map, bne_self_eq_false, Bool.not_true, nx_outs hkn, hself]) | exact Vn | ((with_reducible refine Vz ?_); refine Vo rfl rfl rfl (fun _ _ => rfl) ?_ <;> first | rfl | skip) | (refine call_boxed c1 (by rw [lk_out hkn]; exact hk) (by rw [dm_out hkn]; trivial) ?_) | (refine call_pure (c2) ?_) | ((with_reducible refine Vg (fun hg => ?_) (fun hg => ?_)) <;> (try simp only [nb] at hg) <;> simp (maxSteps:=9^7) only [ss, evLit, tab, reduceCtorEq, reduceIte, Nat.reduceEqDiff, Nat.reduceBEq, Int.reduceLE, Int.reduceToNat, Nat.reduceAdd, Nat.reduceLT, Nat.reduceLeDiff, hg, rtA, rtC, rtBC, List.length_map, bne_self_eq_false, Bool.not_true, nx_outs hkn, hself]) | ((with_reducible refine Vx ?_); simp only [sb, reduceIte, Nat.reduceEqDiff]) | (refine hK _ ?_; clear hK K) | refine Vt rfl ?_ | refine Vf rfl ?_ | refine Vi rfl (fun hg => ?_) (fun hg => ?_) | ((first | show Program.eqGuardType _ _ _ = false | show numFieldsB _ _ _ = true | show Program.stoodInHeld _ _ = false); kernel_rfl) | clear hK K)
  refine awp_block ?_
  refine awp_for_mv (fun m (i : Nat) => [(5, i64 (i : Int)), (2, .ptr (m + 0) 0), (3, .ptr (m + 1) 0), (4, .top), (57, .top), (58, .top), (59, .top), (60, .top), (61, .top), (62, .top), (63, .top), (64, .top), (65, .top), (66, .top), (67, .top), (68, .top), (69, .top), (70, .top), (71, .top), (72, .top), (73, .top), (74, .top)]) (fun m i => [some (.box 34 (rtBC k a)), some (.box 34 (rtC a))]) (fun i => out) (fun i => i ≤ a.flanks.length) (fun i => a.flanks.length - i) 0 (Nat.zero_le _) ?_ fun m i hm hi => ?_
  · refine le_of_all ?_ ?_ (by first | rfl | (simp only [rtC, rtBC]; rfl) | simp only [rtC, rtBC]) rfl rfl rfl <;> simp only [patch, sl, rtC, rtBC]
  simp only [patch, s_0, s_s]
  have hw := addw (n := i) 1 1 rfl (by omega)
  by_cases hlt : i < a.flanks.length
  · have ga := getD_map jnC a.flanks i [] hlt
    repeat' (first | (with_reducible first | refine Vk fun K hK => ?_ | refine V0 ?_ | refine Vb ?_ | refine Vc ?_ | refine Vr ?_ | refine Vs ?_ | apply And.intro | refine Vq (by kernel_rfl) ?_) | ((with_reducible first | refine gE ?_ | refine gR ?_); simp (maxSteps:=9^7) only [ss, evLit, tab, reduceCtorEq, reduceIte, Nat.reduceEqDiff, Nat.reduceBEq, Int.reduceLE, Int.reduceToNat, Nat.reduceAdd, Nat.reduceLT, Nat.reduceLeDiff, locM hm, rtC, rtBC, jnC, List.length_map, hlt, ga, splice_all, evEq_jn, beq_self_eq_true, bne_self_eq_false, Bool.and_self, Bool.not_true, hw]) | exact Vn | ((with_reducible refine Vz ?_); refine Vo rfl rfl rfl (fun _ _ => rfl) ?_ <;> first | rfl | skip) | ((with_reducible refine Vg (fun hg => ?_) (fun hg => ?_)) <;> (try simp only [nb] at hg) <;> simp (maxSteps:=9^7) only [ss, evLit, tab, reduceCtorEq, reduceIte, Nat.reduceEqDiff, Nat.reduceBEq, Int.reduceLE, Int.reduceToNat, Nat.reduceAdd, Nat.reduceLT, Nat.reduceLeDiff, hg, locM hm, rtC, rtBC, jnC, List.length_map, hlt, ga, splice_all, evEq_jn, beq_self_eq_true, bne_self_eq_false, Bool.and_self, Bool.not_true, hw]) | ((with_reducible refine Vx ?_); simp only [sb, reduceIte, Nat.reduceEqDiff]) | (refine hK _ ?_; clear hK K) | refine Vt rfl ?_ | refine Vf rfl ?_ | refine Vi rfl (fun hg => ?_) (fun hg => ?_) | ((first | show Program.eqGuardType _ _ _ = false | show numFieldsB _ _ _ = true | show Program.stoodInHeld _ _ = false); kernel_rfl) | clear hK K)
    refine ⟨i + 1, by omega, by omega, ?_⟩
    refine le_move [true, true] (fun n_ => ?_) (fun n_ => ?_) <;> simp only [patch, sm, rtC, rtBC, hlt, decide_true]
  · repeat' (first | (with_reducible first | refine Vk fun K hK => ?_ | refine V0 ?_ | refine Vb ?_ | refine Vc ?_ | refine Vr ?_ | refine Vs ?_ | apply And.intro | refine Vq (by kernel_rfl) ?_) | ((with_reducible first | refine gE ?_ | refine gR ?_); simp (maxSteps:=9^7) only [ss, evLit, tab, reduceCtorEq, reduceIte, Nat.reduceEqDiff, Nat.reduceBEq, Int.reduceLE, Int.reduceToNat, Nat.reduceAdd, Nat.reduceLT, Nat.reduceLeDiff, locM hm, rtC, rtBC, List.length_map, hlt, splice_all]) | exact Vn | ((with_reducible refine Vz ?_); refine Vo rfl rfl rfl (fun _ _ => rfl) ?_ <;> first | rfl | skip) | ((with_reducible refine Vg (fun hg => ?_) (fun hg => ?_)) <;> (try simp only [nb] at hg) <;> simp (maxSteps:=9^7) only [ss, evLit, tab, reduceCtorEq, reduceIte, Nat.reduceEqDiff, Nat.reduceBEq, Int.reduceLE, Int.reduceToNat, Nat.reduceAdd, Nat.reduceLT, Nat.reduceLeDiff, hg, locM hm, rtC, rtBC, List.length_map, hlt, splice_all]) | ((with_reducible refine Vx ?_); simp only [sb, reduceIte, Nat.reduceEqDiff]) | (refine hK _ ?_; clear hK K) | refine Vt rfl ?_ | refine Vf rfl ?_ | refine Vi rfl (fun hg => ?_) (fun hg => ?_) | ((first | show Program.eqGuardType _ _ _ = false | show numFieldsB _ _ _ = true | show Program.stoodInHeld _ _ = false); kernel_rfl) | clear hK K)
    refine awp_ret ?_
    exact ret_tmp (.inr rfl) rfl rfl rfl (fun j _ => by rw [upd_cons, hself, upd_nil]) rfl
def incL (l : List Int) (i : Nat) : List Int := (l.take i).map (fun x => IntKind.i64.wrap (x + 1)) ++ l.drop i
theorem incL_zero (l : List Int) : incL l 0 = l := rfl
theorem incL_len (l : List Int) (i : Nat) : (incL l i).length = l.length := by unfold incL; simp; omega
theorem incL_at (l : List Int) (i : Nat) (h : i < l.length) : (incL l i)[i]'(by rw [incL_len]; exact h) = l[i] := by
  unfold incL
  rw [List.getElem_append_right (by simp; omega)]
  simp [Nat.min_eq_left (Nat.le_of_lt h)]
theorem incL_set (l : List Int) (i : Nat) (h : i < l.length) : (incL l i).set i (IntKind.i64.wrap (l[i] + 1)) = incL l (i + 1) := by
  unfold incL
  have e : ((l.take i).map fun x => IntKind.i64.wrap (x + 1)).length = i := by simp; omega
  rw [List.take_succ_eq_append_getElem h, List.map_append, List.drop_eq_getElem_cons h, List.set_append_right _ _ (by omega), e, Nat.sub_self, List.set_cons_zero, List.append_assoc]
  rfl
theorem c_lawPTells (p : Pl) (id en : Int) : ACall Try.prog 7 [plA p, i64 id, i64 en] [] (bool true) [] := by
  have cg := c_rgreat p
  simp only [plA, plC] at cg
  cases hG : greatP p with
  | true =>
    rw [hG] at cg
    refine acall_of 9 Try.func7 rfl fun n out _ _ => ?_
    simp only [Try.ntmps7, List.length_cons, List.length_nil, List.length_map, List.length_replicate, rep_map, Nat.reduceAdd, Nat.reduceSub, List.replicate, List.cons_append, List.nil_append]
    repeat' (first | (with_reducible first | refine Vk fun K hK => ?_ | refine V0 ?_ | refine Vb ?_ | refine Vc ?_ | refine Vr ?_ | refine Vs ?_ | apply And.intro | refine Vq (by kernel_rfl) ?_) | ((with_reducible first | refine gE ?_ | refine gR ?_); simp (maxSteps:=9^7) only [ss, evLit, tab, reduceCtorEq, reduceIte, Nat.reduceEqDiff, Nat.reduceBEq, Int.reduceLE, Int.reduceToNat, Nat.reduceAdd, Nat.reduceLT, Nat.reduceLeDiff, plA, plC]) | exact Vn | ((with_reducible refine Vz ?_); refine Vo rfl rfl rfl (fun _ _ => rfl) ?_ <;> first | rfl | skip) | (refine call_pure (cg) ?_) | ((with_reducible refine Vg (fun hg => ?_) (fun hg => ?_)) <;> (try simp only [nb] at hg) <;> simp (maxSteps:=9^7) only [ss, evLit, tab, reduceCtorEq, reduceIte, Nat.reduceEqDiff, Nat.reduceBEq, Int.reduceLE, Int.reduceToNat, Nat.reduceAdd, Nat.reduceLT, Nat.reduceLeDiff, hg, plA, plC]) | ((with_reducible refine Vx ?_); simp only [sb, reduceIte, Nat.reduceEqDiff]) | (refine hK _ ?_; clear hK K) | refine Vt rfl ?_ | refine Vf rfl ?_ | refine Vi rfl (fun hg => ?_) (fun hg => ?_) | ((first | show Program.eqGuardType _ _ _ = false | show numFieldsB _ _ _ = true | show Program.stoodInHeld _ _ = false); kernel_rfl) | clear hK K)
  | false =>
    rw [hG] at cg
    have hs := small_of hG
    have d1 := c_rtwinP p hs
    have d2 := c_pPoint p hs id
    have d3 := c_rPoint p hs id
    have d4 := c_pSignal p hs id
    have d5 := c_rSignal p hs id
    have d6 := c_rRoute p hs id
    have d7 := c_pStands p hs id en
    have d8 := c_rStands p hs id en
    have d9 := c_pcheck p hs
    have d10 := c_rcheck p hs
    have d11 := c_rsameP p p hs
    rw [sameP_refl] at d11
    have hX := elD_rt hs id
    have e1 := c_pRoute p hs id
    have e2 := fun k => c_pRouteK k p hs id
    generalize elD (mayP p) (getR p.rts id) noRt = X at *
    generalize elE (mayP p) (getR p.rts id) = E3 at *
    generalize elD (mayP p) (getP p.pts id) ((0, 0) : Int × Int) = X1 at *
    generalize elE (mayP p) (getP p.pts id) = E1 at *
    generalize elD (mayP p) (getG p.sgs id) ((0, 0, 0) : Int × Int × Int) = X2 at *
    generalize elE (mayP p) (getG p.sgs id) = E2 at *
    generalize stL p id en = SL at *
    generalize stE p id en = SE at *
    have hb : (X.path = []) ∨ 0 < X.path.length := by cases X.path <;> simp
    rcases hb with hp | hp
    · have e3 := c_rsameR X X (by omega)
      rw [sameR_iff.2 rfl] at e3
      clear e2
      simp only [plA, plC, rtA, rtC, jnA, jnC, sgA, sgC] at d1 d2 d3 d4 d5 d6 d7 d8 d9 d10 d11 e1 e3
      refine acall_of 9 Try.func7 rfl fun n out _ _ => ?_
      simp only [Try.ntmps7, List.length_cons, List.length_nil, List.length_map, List.length_replicate, rep_map, Nat.reduceAdd, Nat.reduceSub, List.replicate, List.cons_append, List.nil_append]
      repeat' (first | (with_reducible first | refine Vk fun K hK => ?_ | refine V0 ?_ | refine Vb ?_ | refine Vc ?_ | refine Vr ?_ | refine Vs ?_ | apply And.intro | refine Vq (by kernel_rfl) ?_) | ((with_reducible first | refine gE ?_ | refine gR ?_); simp (maxSteps:=9^7) only [ss, evLit, tab, reduceCtorEq, reduceIte, Nat.reduceEqDiff, Nat.reduceBEq, Int.reduceLE, Int.reduceToNat, Nat.reduceAdd, Nat.reduceLT, Nat.reduceLeDiff, plA, plC, rtC, rtA, jnA, jnC, sgA, sgC, splice_all, beq_self_eq_true, Bool.and_self, evEq_jn, evEq_gg]) | exact Vn | ((with_reducible refine Vz ?_); refine Vo rfl rfl rfl (fun _ _ => rfl) ?_ <;> first | rfl | skip) | (refine call_pure (cg) ?_) | (refine call_pure (d1) ?_) | (refine call_pure (d2) ?_) | (refine call_pure (d3) ?_) | (refine call_pure (d4) ?_) | (refine call_pure (d5) ?_) | (refine call_pure (d6) ?_) | (refine call_pure (d7) ?_) | (refine call_pure (d8) ?_) | (refine call_pure (d9) ?_) | (refine call_pure (d10) ?_) | (refine call_pure (e1) ?_) | (refine call_pure (e3) ?_) | ((with_reducible refine Vg (fun hg => ?_) (fun hg => ?_)) <;> (try simp only [nb] at hg) <;> simp (maxSteps:=9^7) only [ss, evLit, tab, reduceCtorEq, reduceIte, Nat.reduceEqDiff, Nat.reduceBEq, Int.reduceLE, Int.reduceToNat, Nat.reduceAdd, Nat.reduceLT, Nat.reduceLeDiff, hg, plA, plC, rtC, rtA, jnA, jnC, sgA, sgC, splice_all, beq_self_eq_true, Bool.and_self, evEq_jn, evEq_gg]) | ((with_reducible refine Vx ?_); simp only [sb, reduceIte, Nat.reduceEqDiff]) | (refine hK _ ?_; clear hK K) | refine Vt rfl ?_ | refine Vf rfl ?_ | refine Vi rfl (fun hg => ?_) (fun hg => ?_) | ((first | show Program.eqGuardType _ _ _ = false | show numFieldsB _ _ _ = true | show Program.stoodInHeld _ _ = false); kernel_rfl) | clear hK K)
      refine awp_block ?_
      refine awp_for_mv (fun m (i : Nat) => [(26, i64 (i : Int)), (3, .ptr (m + 0) 0), (7, .ptr (m + 1) 0), (16, .ptr (m + 6) 0), (124, .top), (125, .top), (126, .top), (127, .top), (128, .top), (129, .top), (130, .top), (131, .top), (132, .top), (133, .top), (134, .top), (135, .top), (136, .top), (137, .top)]) (fun m i => [some (.box 27 (plC p)), some (.box 27 (plC p)), some (.box 44 [i64 X1.1, i64 X1.2]), some (.box 44 [i64 X1.1, i64 X1.2]), some (.box 48 [i64 X2.1, i64 X2.2.1, i64 X2.2.2]), some (.box 48 [i64 X2.1, i64 X2.2.1, i64 X2.2.2]), some (.box 34 (rtC X)), some (.box 34 (rtC X)), none]) (fun i => out) (fun i => i ≤ 0) (fun i => 0 - i) 0 (Nat.zero_le _) ?_ fun m i hm hi => ?_
      · refine le_of_all ?_ ?_ (by first | rfl | (simp only [plC, rtC]; rfl) | simp only [plC, rtC]) rfl rfl rfl <;> simp only [patch, sl, plC, rtC]
      simp only [patch, s_0, s_s]
      obtain rfl : i = 0 := by omega
      repeat' (first | (with_reducible first | refine Vk fun K hK => ?_ | refine V0 ?_ | refine Vb ?_ | refine Vc ?_ | refine Vr ?_ | refine Vs ?_ | apply And.intro | refine Vq (by kernel_rfl) ?_) | ((with_reducible first | refine gE ?_ | refine gR ?_); simp (maxSteps:=9^7) only [ss, evLit, tab, reduceCtorEq, reduceIte, Nat.reduceEqDiff, Nat.reduceBEq, Int.reduceLE, Int.reduceToNat, Nat.reduceAdd, Nat.reduceLT, Nat.reduceLeDiff, locM hm, plC, rtC, hp, List.map_nil, List.length_nil, splice_all]) | exact Vn | ((with_reducible refine Vz ?_); refine Vo rfl rfl rfl (fun _ _ => rfl) ?_ <;> first | rfl | skip) | (refine call_pure (d11) ?_) | ((with_reducible refine Vg (fun hg => ?_) (fun hg => ?_)) <;> (try simp only [nb] at hg) <;> simp (maxSteps:=9^7) only [ss, evLit, tab, reduceCtorEq, reduceIte, Nat.reduceEqDiff, Nat.reduceBEq, Int.reduceLE, Int.reduceToNat, Nat.reduceAdd, Nat.reduceLT, Nat.reduceLeDiff, hg, locM hm, plC, rtC, hp, List.map_nil, List.length_nil, splice_all]) | ((with_reducible refine Vx ?_); simp only [sb, reduceIte, Nat.reduceEqDiff]) | (refine hK _ ?_; clear hK K) | refine Vt rfl ?_ | refine Vf rfl ?_ | refine Vi rfl (fun hg => ?_) (fun hg => ?_) | ((first | show Program.eqGuardType _ _ _ = false | show numFieldsB _ _ _ = true | show Program.stoodInHeld _ _ = false); kernel_rfl) | clear hK K)
    · have e3 := fun k => c_rsameRK k X hX
      replace e2 := fun k => e2 k hp
      clear e1
      simp only [plA, plC, rtA, rtC, rtBC, jnA, jnC, sgA, sgC] at d1 d2 d3 d4 d5 d6 d7 d8 d9 d10 d11 e2 e3
      refine acall_of 9 Try.func7 rfl fun n out _ _ => ?_
      simp only [Try.ntmps7, List.length_cons, List.length_nil, List.length_map, List.length_replicate, rep_map, Nat.reduceAdd, Nat.reduceSub, List.replicate, List.cons_append, List.nil_append]
      repeat' (first | (with_reducible first | refine Vk fun K hK => ?_ | refine V0 ?_ | refine Vb ?_ | refine Vc ?_ | refine Vr ?_ | refine Vs ?_ | apply And.intro | refine Vq (by kernel_rfl) ?_) | ((with_reducible first | refine gE ?_ | refine gR ?_); simp (maxSteps:=9^7) only [ss, evLit, tab, reduceCtorEq, reduceIte, Nat.reduceEqDiff, Nat.reduceBEq, Int.reduceLE, Int.reduceToNat, Nat.reduceAdd, Nat.reduceLT, Nat.reduceLeDiff, plA, plC, rtC, rtA, rtBC, jnA, jnC, sgA, sgC, splice_all, beq_self_eq_true, Bool.and_self, evEq_jn, evEq_gg]) | exact Vn | ((with_reducible refine Vz ?_); refine Vo rfl rfl rfl (fun _ _ => rfl) ?_ <;> first | rfl | skip) | (refine call_pure (cg) ?_) | (refine call_pure (d1) ?_) | (refine call_pure (d2) ?_) | (refine call_pure (d3) ?_) | (refine call_pure (d4) ?_) | (refine call_pure (d5) ?_) | (refine call_pure (d6) ?_) | (refine call_pure (d7) ?_) | (refine call_pure (d8) ?_) | (refine call_pure (d9) ?_) | (refine call_pure (d10) ?_) | (refine call_one (e2 (n + 8)) (look_loc _ (Nat.le_refl _) 8) (dom_loc _ (by simp)) (by simp) ?_) | (refine call_one (e3 (n + 8)) (look_loc _ (Nat.le_refl _) 8) (dom_loc _ (by simp)) (by simp) ?_) | ((with_reducible refine Vg (fun hg => ?_) (fun hg => ?_)) <;> (try simp only [nb] at hg) <;> simp (maxSteps:=9^7) only [ss, evLit, tab, reduceCtorEq, reduceIte, Nat.reduceEqDiff, Nat.reduceBEq, Int.reduceLE, Int.reduceToNat, Nat.reduceAdd, Nat.reduceLT, Nat.reduceLeDiff, hg, plA, plC, rtC, rtA, rtBC, jnA, jnC, sgA, sgC, splice_all, beq_self_eq_true, Bool.and_self, evEq_jn, evEq_gg]) | ((with_reducible refine Vx ?_); simp only [sb, reduceIte, Nat.reduceEqDiff]) | (refine hK _ ?_; clear hK K) | refine Vt rfl ?_ | refine Vf rfl ?_ | refine Vi rfl (fun hg => ?_) (fun hg => ?_) | ((first | show Program.eqGuardType _ _ _ = false | show numFieldsB _ _ _ = true | show Program.stoodInHeld _ _ = false); kernel_rfl) | clear hK K)
      refine awp_block ?_
      refine awp_for_mv (fun m (i : Nat) => [(26, i64 (i : Int)), (3, .ptr (m + 0) 0), (7, .ptr (m + 1) 0), (16, .ptr (m + 6) 0), (124, .top), (125, .top), (126, .top), (127, .top), (128, .top), (129, .top), (130, .top), (131, .top), (132, .top), (133, .top), (134, .top), (135, .top), (136, .top), (137, .top)]) (fun m i => [some (.box 27 (plC p)), some (.box 27 (plC p)), some (.box 44 [i64 X1.1, i64 X1.2]), some (.box 44 [i64 X1.1, i64 X1.2]), some (.box 48 [i64 X2.1, i64 X2.2.1, i64 X2.2.2]), some (.box 48 [i64 X2.1, i64 X2.2.1, i64 X2.2.2]), some (.box 34 (rtBC (m + 8) X)), some (.box 34 (rtC X)), some (.box 3 ((incL X.path i).map i64))]) (fun i => out) (fun i => i ≤ X.path.length) (fun i => X.path.length - i) 0 (Nat.zero_le _) ?_ fun m i hm hi => ?_
      · refine le_of_all ?_ ?_ (by first | rfl | (simp only [plC, rtC, rtBC, incL_zero]; rfl) | simp only [plC, rtC, rtBC, incL_zero]) rfl rfl rfl <;> simp only [patch, sl, plC, rtC, rtBC, incL_zero]
      simp only [patch, s_0, s_s]
      have hw := addw (n := i) 1 1 rfl (by omega)
      by_cases hlt : i < X.path.length
      · have hl := incL_len X.path i
        have hli : i < (incL X.path i).length := by omega
        have gp := pick_ints (incL X.path i) i 1 hli
        rw [incL_at X.path i hlt] at gp
        have gs := splice_map i64 (incL X.path i) i (IntKind.i64.wrap (X.path[i] + 1)) hli
        rw [incL_set X.path i hlt] at gs
        repeat' (first | (with_reducible first | refine Vk fun K hK => ?_ | refine V0 ?_ | refine Vb ?_ | refine Vc ?_ | refine Vr ?_ | refine Vs ?_ | apply And.intro | refine Vq (by kernel_rfl) ?_) | ((with_reducible first | refine gE ?_ | refine gR ?_); simp (maxSteps:=9^7) only [ss, evLit, tab, reduceCtorEq, reduceIte, Nat.reduceEqDiff, Nat.reduceBEq, Int.reduceLE, Int.reduceToNat, Nat.reduceAdd, Nat.reduceLT, Nat.reduceLeDiff, locM hm, plC, rtBC, List.length_map, hlt, hl, gp, gs, splice_all, hw]) | exact Vn | ((with_reducible refine Vz ?_); refine Vo rfl rfl rfl (fun _ _ => rfl) ?_ <;> first | rfl | skip) | ((with_reducible refine Vg (fun hg => ?_) (fun hg => ?_)) <;> (try simp only [nb] at hg) <;> simp (maxSteps:=9^7) only [ss, evLit, tab, reduceCtorEq, reduceIte, Nat.reduceEqDiff, Nat.reduceBEq, Int.reduceLE, Int.reduceToNat, Nat.reduceAdd, Nat.reduceLT, Nat.reduceLeDiff, hg, locM hm, plC, rtBC, List.length_map, hlt, hl, gp, gs, splice_all, hw]) | ((with_reducible refine Vx ?_); simp only [sb, reduceIte, Nat.reduceEqDiff]) | (refine hK _ ?_; clear hK K) | refine Vt rfl ?_ | refine Vf rfl ?_ | refine Vi rfl (fun hg => ?_) (fun hg => ?_) | ((first | show Program.eqGuardType _ _ _ = false | show numFieldsB _ _ _ = true | show Program.stoodInHeld _ _ = false); kernel_rfl) | clear hK K)
        · omega
        refine ⟨i + 1, by omega, by omega, ?_⟩
        refine le_move [true, true, true, true, true, true, true, true, true] (fun n_ => ?_) (fun n_ => ?_) <;> simp only [patch, sm, sk, plC, rtC, rtBC, hlt, decide_true]
      · repeat' (first | (with_reducible first | refine Vk fun K hK => ?_ | refine V0 ?_ | refine Vb ?_ | refine Vc ?_ | refine Vr ?_ | refine Vs ?_ | apply And.intro | refine Vq (by kernel_rfl) ?_) | ((with_reducible first | refine gE ?_ | refine gR ?_); simp (maxSteps:=9^7) only [ss, evLit, tab, reduceCtorEq, reduceIte, Nat.reduceEqDiff, Nat.reduceBEq, Int.reduceLE, Int.reduceToNat, Nat.reduceAdd, Nat.reduceLT, Nat.reduceLeDiff, locM hm, plC, rtBC, hlt, splice_all]) | exact Vn | ((with_reducible refine Vz ?_); refine Vo rfl rfl rfl (fun _ _ => rfl) ?_ <;> first | rfl | skip) | (refine call_pure (d11) ?_) | ((with_reducible refine Vg (fun hg => ?_) (fun hg => ?_)) <;> (try simp only [nb] at hg) <;> simp (maxSteps:=9^7) only [ss, evLit, tab, reduceCtorEq, reduceIte, Nat.reduceEqDiff, Nat.reduceBEq, Int.reduceLE, Int.reduceToNat, Nat.reduceAdd, Nat.reduceLT, Nat.reduceLeDiff, hg, locM hm, plC, rtBC, hlt, splice_all]) | ((with_reducible refine Vx ?_); simp only [sb, reduceIte, Nat.reduceEqDiff]) | (refine hK _ ?_; clear hK K) | refine Vt rfl ?_ | refine Vf rfl ?_ | refine Vi rfl (fun hg => ?_) (fun hg => ?_) | ((first | show Program.eqGuardType _ _ _ = false | show numFieldsB _ _ _ = true | show Program.stoodInHeld _ _ = false); kernel_rfl) | clear hK K)
end Go.Proofs.Ytdkiciofkifpdaa.Pln
