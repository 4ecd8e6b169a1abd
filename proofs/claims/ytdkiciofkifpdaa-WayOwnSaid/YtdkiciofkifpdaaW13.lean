/-
  The law WayOwn.
-/
import Derived.Test.YtdkiciofkifpdaaW7
import Derived.Test.YtdkiciofkifpdaaW11
import Derived.Test.YtdkiciofkifpdaaW12
import Derived.Test.YtdkiciofkifpdaaPF3
namespace Go.Proofs.Ytdkiciofkifpdaa.Pln
set_option linter.unusedVariables false
set_option linter.unusedSimpArgs false
open Go Go.VS Tab
set_option maxHeartbeats 8000000
set_option maxRecDepth 8000

theorem c_lawWOwn (p : Pl) (id : Int) : ACall Try.prog 9 [plA p, i64 id] [] (bool true) [] := by
  have cg := c_rgreat p
  simp only [plA, plC] at cg
  cases hG : greatP p with
  | true =>
    rw [hG] at cg
    refine acall_of 6 Try.func9 rfl fun n out _ _ => ?_
    simp only [Try.ntmps9, List.length_cons, List.length_nil, List.length_map, List.length_replicate, rep_map, Nat.reduceAdd, Nat.reduceSub, List.replicate, List.cons_append, List.nil_append]
    repeat' (first | (with_reducible first | refine awp_seq_k fun K hK => ?_ | refine awp_ev tab_ok [] ?_ | refine awp_block_s ?_ | refine awp_block_c ?_ | refine awp_block_r ?_ | refine awp_skip ?_ | apply And.intro) | (with_reducible refine awp_ev_quiet tab_ok follows (by kernel_rfl) ?_) | ((with_reducible first | refine gE ?_ | refine gR ?_ | refine gD ?_ | refine gF ?_); simp (maxSteps := 4000000) only [sx, sy, ne_eq, eq_self, if_true, if_false, Nat.reduceEqDiff, hbT, evBuild, evLit, evMake, tab, isShift, thenA, blockA, reduceCtorEq, reduceIte, Nat.reduceBEq, Int.reduceLE, Int.reduceToNat, Nat.reduceAdd, Nat.reduceLT, Nat.reduceLeDiff, plA, plC]) | (show (_ : Nat) = (_ : Nat); rfl) | ((with_reducible refine awp_ret ?_); (first | refine ret_tmp (.inr rfl) rfl rfl rfl (fun _ _ => rfl) ?_) <;> first | rfl | rfl | skip) | ((with_reducible refine awp_ret ?_); refine Or.inr ⟨(by intro h; cases h), ?_⟩; refine ret_tmp (.inr rfl) rfl rfl rfl (fun _ _ => rfl) ?_ <;> first | rfl | rfl | skip) | (refine call_pure (cg) ?_) | (refine call_pure (c_walive) ?_) | ((with_reducible refine gsel_case (fun hg => ?_) (fun hg => ?_)) <;> (try simp only [Bool.not_eq_true', Bool.not_eq_false'] at hg) <;> simp (maxSteps := 4000000) only [sx, sy, ne_eq, eq_self, if_true, if_false, Nat.reduceEqDiff, hbT, evBuild, evLit, evMake, tab, isShift, thenA, blockA, reduceCtorEq, reduceIte, Nat.reduceBEq, Int.reduceLE, Int.reduceToNat, Nat.reduceAdd, Nat.reduceLT, Nat.reduceLeDiff, hg, plA, plC]) | ((with_reducible refine awp_exit ?_); simp only [thenA, blockA, if_true, if_false, reduceIte, Nat.reduceEqDiff]) | (refine hK _ ?_; clear hK K) | refine awp_cond_t rfl ?_ | refine awp_cond_f rfl ?_ | refine awp_if rfl (fun hg => ?_) (fun hg => ?_) | (refine Or.inl ⟨rfl, ?_⟩; refine le_of_all ?_ ?_ rfl rfl rfl rfl <;> simp only [patch, sl, plA, plC]) | ((first | show Program.eqGuardType _ _ _ = false | show numFieldsB _ _ _ = true | show Program.stoodInHeld _ _ = false); kernel_rfl) | clear hK K)
  | false =>
    rw [hG] at cg
    have hs := small_of hG
    have c1 := c_of p hs id
    have c2 : ACall Try.prog 24 [plA p, i64 id] [] (.tup [rtA (rtO p id), i64 (rtE p id)]) [] := c_pRoute p hs id
    by_cases hE : rtE p id = 0
    · obtain ⟨hm, hr⟩ := rtE_zero hE
      obtain ⟨o1, o2⟩ := of_own hE
      have c3 := c_rtwinP p hs
      have c4 := c_of (qP p (rtO p id)) (sm_own hs hr) id
      rw [o1, o2] at c4
      obtain ⟨s1, s2, s3⟩ := ofW_small hs id
      have c5 := c_wsame (ofW p id) (ofW p id) s1 s2 s3
      have hss : wayS (ofW p id) (ofW p id) = true := by unfold wayS; simp
      rw [hss] at c5
      have hsl := hs.sgs
      rw [hE] at c2
      clear s1 s2 s3 hss o1 o2 hr hm hE
      generalize rtO p id = r at *
      generalize ofW p id = W at *
      generalize ofE p id = E1 at *
      simp only [plA, plC, wyA, wyC, rtA, rtC] at c1 c2 c3 c5
      have lit : ∀ (σ : AState) (K : AV → List (Nat × Res) → Prop), evLit tab σ K none 25 1 [(0, .agg [i64 r.id, i64 r.entry, i64 r.ex, .sl 1 (r.path.map intC) .sh, .sl 1 (r.over.map intC) .sh, .sl 2 (r.flanks.map jnC) .sh, i64 r.timer])] = K (.sl 7 [rtC r] .full) [] := fun σ K => evLit_one (T := tab) (ti := ti25) (te := ti34) rfl rfl rfl (by decide) (by decide) rfl rfl
      obtain ⟨kf, hkf⟩ : ∃ kf : Nat → List (Int × Int × Int), kf = fun i => (p.sgs.take i).filter (keepG r) := ⟨_, rfl⟩
      have kf0 : kf 0 = [] := by rw [hkf]; rfl
      have kfS : ∀ i (hi : i < p.sgs.length), kf (i + 1) = kf i ++ if keepG r p.sgs[i] then [p.sgs[i]] else [] := fun i hi => by
        rw [hkf]; dsimp only
        rw [List.take_succ_eq_append_getElem hi, List.filter_append]
        congr 1
        cases h : keepG r p.sgs[i] <;> simp [h]
      have kfl : ∀ i, i ≤ p.sgs.length → (kf i).length ≤ i := fun i hi => by
        rw [hkf]; dsimp only
        have := List.length_filter_le (keepG r) (p.sgs.take i)
        rw [List.length_take] at this
        omega
      have kfe : kf p.sgs.length = p.sgs.filter (keepG r) := by rw [hkf]; dsimp only; rw [List.take_length]
      clear hkf
      refine acall_of 6 Try.func9 rfl fun n out _ _ => ?_
      simp only [Try.ntmps9, List.length_cons, List.length_nil, List.length_map, List.length_replicate, rep_map, Nat.reduceAdd, Nat.reduceSub, List.replicate, List.cons_append, List.nil_append]
      repeat' (first | (with_reducible first | refine awp_seq_k fun K hK => ?_ | refine awp_ev tab_ok [] ?_ | refine awp_block_s ?_ | refine awp_block_c ?_ | refine awp_block_r ?_ | refine awp_skip ?_ | apply And.intro) | (with_reducible refine awp_ev_quiet tab_ok follows (by kernel_rfl) ?_) | ((with_reducible first | refine gE ?_ | refine gR ?_ | refine gD ?_ | refine gF ?_); simp (maxSteps := 4000000) only [sx, sy, ne_eq, eq_self, if_true, if_false, Nat.reduceEqDiff, hbT, evBuild, evMake, tab, isShift, thenA, blockA, reduceCtorEq, reduceIte, Nat.reduceBEq, Int.reduceLE, Int.reduceToNat, Nat.reduceAdd, Nat.reduceLT, Nat.reduceLeDiff, lit, plA, plC, rtC, splice_all, Int.reduceBNe, List.length_map]) | (show (_ : Nat) = (_ : Nat); rfl) | ((with_reducible refine awp_ret ?_); (first | refine ret_tmp (.inr rfl) rfl rfl rfl (fun _ _ => rfl) ?_) <;> first | rfl | rfl | skip) | ((with_reducible refine awp_ret ?_); refine Or.inr ⟨(by intro h; cases h), ?_⟩; refine ret_tmp (.inr rfl) rfl rfl rfl (fun _ _ => rfl) ?_ <;> first | rfl | rfl | skip) | (refine call_pure (cg) ?_) | (refine call_pure (c_walive) ?_) | (refine call_pure (c1) ?_) | (refine call_pure (c2) ?_) | (refine call_pure (c3) ?_) | ((with_reducible refine gsel_case (fun hg => ?_) (fun hg => ?_)) <;> (try simp only [Bool.not_eq_true', Bool.not_eq_false'] at hg) <;> simp (maxSteps := 4000000) only [sx, sy, ne_eq, eq_self, if_true, if_false, Nat.reduceEqDiff, hbT, evBuild, evMake, tab, isShift, thenA, blockA, reduceCtorEq, reduceIte, Nat.reduceBEq, Int.reduceLE, Int.reduceToNat, Nat.reduceAdd, Nat.reduceLT, Nat.reduceLeDiff, hg, lit, plA, plC, rtC, splice_all, Int.reduceBNe, List.length_map]) | ((with_reducible refine awp_exit ?_); simp only [thenA, blockA, if_true, if_false, reduceIte, Nat.reduceEqDiff]) | (refine hK _ ?_; clear hK K) | refine awp_cond_t rfl ?_ | refine awp_cond_f rfl ?_ | refine awp_if rfl (fun hg => ?_) (fun hg => ?_) | (refine Or.inl ⟨rfl, ?_⟩; refine le_of_all ?_ ?_ rfl rfl rfl rfl <;> simp only [patch, sl, lit, plA, plC, rtC, splice_all, Int.reduceBNe, List.length_map]) | ((first | show Program.eqGuardType _ _ _ = false | show numFieldsB _ _ _ = true | show Program.stoodInHeld _ _ = false); kernel_rfl) | clear hK K)
      refine awp_le (le_row (i := 4) 48 3 rfl) ?_
      simp only [s_0, s_s]
      refine awp_block ?_
      refine awp_for_g (fun i : Nat => [(11, i64 (i : Int)), (47, .top), (48, .top), (49, .top), (50, .top), (51, .top), (52, .top), (53, .top), (54, .top), (55, .top), (56, .top), (57, .top), (58, .top), (59, .top), (60, .top), (61, .top), (62, .top), (63, .top), (64, .top), (65, .top), (66, .top), (67, .top), (68, .top), (69, .top), (70, .top), (71, .top), (72, .top), (73, .top), (74, .top), (75, .top), (76, .top), (77, .top), (78, .top), (79, .top), (80, .top), (81, .top), (82, .top), (83, .top)]) (fun i => [some (.box 27 (plC p)), some (.box 77 [.sl 1 (W.path.map intC) .sh, .sl 1 (W.over.map intC) .sh, .sl 3 (W.asks.map sgC) .sh, i64 W.near]), some (.box 34 (rtC r)), some (.box 27 [i64 1, i64 0, .sl 3 (p.secs.map secC) .sh, .sl 2 (p.pts.map jnC) .sh, .sl 3 ((kf i).map sgC) (.own (n + 4)), .sl 7 [rtC r] .full]), some (.row 48 3 (kf i).length), none]) (fun i => out) (fun i => i ≤ p.sgs.length) (fun i => p.sgs.length - i) 0 (Nat.zero_le _) ?_ fun i hi => ?_
      · refine le_of_all ?_ ?_ (by first | rfl | (simp only [plC, rtC, kf0, List.map_nil, List.length_nil, List.length_map]; rfl) | simp only [plC, rtC, kf0, List.map_nil, List.length_nil, List.length_map]) rfl rfl rfl <;> simp only [patch, sl, plC, rtC, kf0, List.map_nil, List.length_nil, List.length_map]
      simp only [patch, s_0, s_s]
      have hw := addw (n := i) 1 1 rfl (by omega)
      by_cases hlt : i < p.sgs.length
      · have gi := getD_map sgC p.sgs i [] hlt
        have hks := kfS i hlt
        have hkl := kfl i (by omega)
        have hkg : keepG r p.sgs[i] = (p.sgs[i].1 == r.entry || p.sgs[i].1 == r.ex) := rfl
        have z1 : ((kf i).length + 1) * 24 ≤ 140737488355328 := by omega
        have z2 : (kf i).length ≤ 9223372036854775806 := by omega
        have lit2 : ∀ (σ : AState) (K : AV → List (Nat × Res) → Prop), evLit tab σ K none 24 1 [(0, .agg [i64 p.sgs[i].1, i64 p.sgs[i].2.1, i64 p.sgs[i].2.2])] = K (.sl 3 [[i64 p.sgs[i].1, i64 p.sgs[i].2.1, i64 p.sgs[i].2.2]] .full) [] := fun σ K => evLit_one (T := tab) (ti := ti24) (te := ti48) rfl rfl rfl (by decide) (by decide) rfl rfl
        cases hb : keepG r p.sgs[i] with
        | true =>
          rw [hb, if_pos rfl] at hks
          have hkm : (kf i).map sgC ++ [[i64 p.sgs[i].1, i64 p.sgs[i].2.1, i64 p.sgs[i].2.2]] = (kf (i + 1)).map sgC := by rw [hks, List.map_append]; rfl
          have hkn : (kf i).length + 1 = (kf (i + 1)).length := by rw [hks, List.length_append]; rfl
          cases hb1 : (p.sgs[i].1 == r.entry) with
          | true =>
            repeat' (first | (with_reducible first | refine awp_seq_k fun K hK => ?_ | refine awp_ev tab_ok [] ?_ | refine awp_block_s ?_ | refine awp_block_c ?_ | refine awp_block_r ?_ | refine awp_skip ?_ | apply And.intro) | (with_reducible refine awp_ev_draw (id := 17) tab_ok [] [[], [3], [], [0], [], [], [], [], [4], [], [3]] [[], [], [], [], [], [], [], [], [4], [], [3]] follows (by kernel_rfl) (by decide) (by decide) (by kernel_rfl) ?_) | (with_reducible refine awp_ev_quiet tab_ok follows (by kernel_rfl) ?_) | ((with_reducible first | refine gE ?_ | refine gR ?_ | refine gD ?_ | refine gF ?_); simp (maxSteps := 4000000) only [sx, sy, ne_eq, eq_self, if_true, if_false, Nat.reduceEqDiff, hbT, evBuild, evMake, tab, isShift, thenA, blockA, reduceCtorEq, reduceIte, Nat.reduceBEq, Int.reduceLE, Int.reduceToNat, Nat.reduceAdd, Nat.reduceLT, Nat.reduceLeDiff, lit2, plC, rtC, sgC, splice_all, List.length_map, hlt, gi, hb1, hw, z1, z2]) | (show (_ : Nat) = (_ : Nat); rfl) | ((with_reducible refine awp_ret ?_); (first | refine ret_tmp (.inr rfl) rfl rfl rfl (fun _ _ => rfl) ?_) <;> first | rfl | rfl | skip) | ((with_reducible refine awp_ret ?_); refine Or.inr ⟨(by intro h; cases h), ?_⟩; refine ret_tmp (.inr rfl) rfl rfl rfl (fun _ _ => rfl) ?_ <;> first | rfl | rfl | skip) | ((with_reducible refine gsel_case (fun hg => ?_) (fun hg => ?_)) <;> (try simp only [Bool.not_eq_true', Bool.not_eq_false'] at hg) <;> simp (maxSteps := 4000000) only [sx, sy, ne_eq, eq_self, if_true, if_false, Nat.reduceEqDiff, hbT, evBuild, evMake, tab, isShift, thenA, blockA, reduceCtorEq, reduceIte, Nat.reduceBEq, Int.reduceLE, Int.reduceToNat, Nat.reduceAdd, Nat.reduceLT, Nat.reduceLeDiff, hg, lit2, plC, rtC, sgC, splice_all, List.length_map, hlt, gi, hb1, hw, z1, z2]) | ((with_reducible refine awp_exit ?_); simp only [thenA, blockA, if_true, if_false, reduceIte, Nat.reduceEqDiff]) | (refine hK _ ?_; clear hK K) | refine awp_cond_t rfl ?_ | refine awp_cond_f rfl ?_ | refine awp_if rfl (fun hg => ?_) (fun hg => ?_) | (refine Or.inl ⟨rfl, ?_⟩; refine le_of_all ?_ ?_ rfl rfl rfl rfl <;> simp only [patch, sl, lit2, plC, rtC, sgC, splice_all, List.length_map, hlt, gi, hb1, hw, z1, z2]) | ((first | show Program.eqGuardType _ _ _ = false | show numFieldsB _ _ _ = true | show Program.stoodInHeld _ _ = false); kernel_rfl) | clear hK K)
            refine ⟨i + 1, by omega, by omega, ?_⟩
            rw [hkm, hkn]
            refine le_of_all ?_ ?_ rfl rfl rfl rfl <;> simp only [patch, sl, plC, rtC, hlt, decide_true]
          | false =>
            have hb2 : (p.sgs[i].1 == r.ex) = true := by rw [hkg, hb1, Bool.false_or] at hb; exact hb
            repeat' (first | (with_reducible first | refine awp_seq_k fun K hK => ?_ | refine awp_ev tab_ok [] ?_ | refine awp_block_s ?_ | refine awp_block_c ?_ | refine awp_block_r ?_ | refine awp_skip ?_ | apply And.intro) | (with_reducible refine awp_ev_draw (id := 17) tab_ok [] [[], [3], [], [0], [], [], [], [], [4], [], [3]] [[], [], [], [], [], [], [], [], [4], [], [3]] follows (by kernel_rfl) (by decide) (by decide) (by kernel_rfl) ?_) | (with_reducible refine awp_ev_quiet tab_ok follows (by kernel_rfl) ?_) | ((with_reducible first | refine gE ?_ | refine gR ?_ | refine gD ?_ | refine gF ?_); simp (maxSteps := 4000000) only [sx, sy, ne_eq, eq_self, if_true, if_false, Nat.reduceEqDiff, hbT, evBuild, evMake, tab, isShift, thenA, blockA, reduceCtorEq, reduceIte, Nat.reduceBEq, Int.reduceLE, Int.reduceToNat, Nat.reduceAdd, Nat.reduceLT, Nat.reduceLeDiff, lit2, plC, rtC, sgC, splice_all, List.length_map, hlt, gi, hb1, hb2, hw, z1, z2]) | (show (_ : Nat) = (_ : Nat); rfl) | ((with_reducible refine awp_ret ?_); (first | refine ret_tmp (.inr rfl) rfl rfl rfl (fun _ _ => rfl) ?_) <;> first | rfl | rfl | skip) | ((with_reducible refine awp_ret ?_); refine Or.inr ⟨(by intro h; cases h), ?_⟩; refine ret_tmp (.inr rfl) rfl rfl rfl (fun _ _ => rfl) ?_ <;> first | rfl | rfl | skip) | ((with_reducible refine gsel_case (fun hg => ?_) (fun hg => ?_)) <;> (try simp only [Bool.not_eq_true', Bool.not_eq_false'] at hg) <;> simp (maxSteps := 4000000) only [sx, sy, ne_eq, eq_self, if_true, if_false, Nat.reduceEqDiff, hbT, evBuild, evMake, tab, isShift, thenA, blockA, reduceCtorEq, reduceIte, Nat.reduceBEq, Int.reduceLE, Int.reduceToNat, Nat.reduceAdd, Nat.reduceLT, Nat.reduceLeDiff, hg, lit2, plC, rtC, sgC, splice_all, List.length_map, hlt, gi, hb1, hb2, hw, z1, z2]) | ((with_reducible refine awp_exit ?_); simp only [thenA, blockA, if_true, if_false, reduceIte, Nat.reduceEqDiff]) | (refine hK _ ?_; clear hK K) | refine awp_cond_t rfl ?_ | refine awp_cond_f rfl ?_ | refine awp_if rfl (fun hg => ?_) (fun hg => ?_) | (refine Or.inl ⟨rfl, ?_⟩; refine le_of_all ?_ ?_ rfl rfl rfl rfl <;> simp only [patch, sl, lit2, plC, rtC, sgC, splice_all, List.length_map, hlt, gi, hb1, hb2, hw, z1, z2]) | ((first | show Program.eqGuardType _ _ _ = false | show numFieldsB _ _ _ = true | show Program.stoodInHeld _ _ = false); kernel_rfl) | clear hK K)
            refine ⟨i + 1, by omega, by omega, ?_⟩
            rw [hkm, hkn]
            refine le_of_all ?_ ?_ rfl rfl rfl rfl <;> simp only [patch, sl, plC, rtC, hlt, decide_true]
        | false =>
          rw [hb, if_neg (by decide), List.append_nil] at hks
          rw [hkg, Bool.or_eq_false_iff] at hb
          obtain ⟨hb1, hb2⟩ := hb
          repeat' (first | (with_reducible first | refine awp_seq_k fun K hK => ?_ | refine awp_ev tab_ok [] ?_ | refine awp_block_s ?_ | refine awp_block_c ?_ | refine awp_block_r ?_ | refine awp_skip ?_ | apply And.intro) | (with_reducible refine awp_ev_quiet tab_ok follows (by kernel_rfl) ?_) | ((with_reducible first | refine gE ?_ | refine gR ?_ | refine gD ?_ | refine gF ?_); simp (maxSteps := 4000000) only [sx, sy, ne_eq, eq_self, if_true, if_false, Nat.reduceEqDiff, hbT, evBuild, evLit, evMake, tab, isShift, thenA, blockA, reduceCtorEq, reduceIte, Nat.reduceBEq, Int.reduceLE, Int.reduceToNat, Nat.reduceAdd, Nat.reduceLT, Nat.reduceLeDiff, plC, rtC, sgC, splice_all, List.length_map, hlt, gi, hb1, hb2, hw]) | (show (_ : Nat) = (_ : Nat); rfl) | ((with_reducible refine awp_ret ?_); (first | refine ret_tmp (.inr rfl) rfl rfl rfl (fun _ _ => rfl) ?_) <;> first | rfl | rfl | skip) | ((with_reducible refine awp_ret ?_); refine Or.inr ⟨(by intro h; cases h), ?_⟩; refine ret_tmp (.inr rfl) rfl rfl rfl (fun _ _ => rfl) ?_ <;> first | rfl | rfl | skip) | ((with_reducible refine gsel_case (fun hg => ?_) (fun hg => ?_)) <;> (try simp only [Bool.not_eq_true', Bool.not_eq_false'] at hg) <;> simp (maxSteps := 4000000) only [sx, sy, ne_eq, eq_self, if_true, if_false, Nat.reduceEqDiff, hbT, evBuild, evLit, evMake, tab, isShift, thenA, blockA, reduceCtorEq, reduceIte, Nat.reduceBEq, Int.reduceLE, Int.reduceToNat, Nat.reduceAdd, Nat.reduceLT, Nat.reduceLeDiff, hg, plC, rtC, sgC, splice_all, List.length_map, hlt, gi, hb1, hb2, hw]) | ((with_reducible refine awp_exit ?_); simp only [thenA, blockA, if_true, if_false, reduceIte, Nat.reduceEqDiff]) | (refine hK _ ?_; clear hK K) | refine awp_cond_t rfl ?_ | refine awp_cond_f rfl ?_ | refine awp_if rfl (fun hg => ?_) (fun hg => ?_) | (refine Or.inl ⟨rfl, ?_⟩; refine le_of_all ?_ ?_ rfl rfl rfl rfl <;> simp only [patch, sl, plC, rtC, sgC, splice_all, List.length_map, hlt, gi, hb1, hb2, hw]) | ((first | show Program.eqGuardType _ _ _ = false | show numFieldsB _ _ _ = true | show Program.stoodInHeld _ _ = false); kernel_rfl) | clear hK K)
          refine ⟨i + 1, by omega, by omega, ?_⟩
          rw [hks]
          refine le_of_all ?_ ?_ rfl rfl rfl rfl <;> simp only [patch, sl, plC, rtC, hlt, decide_true]
      · obtain rfl : i = p.sgs.length := by omega
        rw [kfe]
        have cq : ACall Try.prog 37 [.agg [i64 1, i64 0, .sl 3 (p.secs.map secC) .sh, .sl 2 (p.pts.map jnC) .sh, .sl 3 ((p.sgs.filter (keepG r)).map sgC) (.own (n + 4)), .sl 7 [rtC r] .full], i64 id] [] (.tup [wyA W, i64 E1]) [] := by
          refine acall_le c4 ?_
          simp only [plA, plC, qP, List.map_cons, List.map_nil, patch, sl]
        simp only [wyA, wyC] at cq
        repeat' (first | (with_reducible first | refine awp_seq_k fun K hK => ?_ | refine awp_ev tab_ok [] ?_ | refine awp_block_s ?_ | refine awp_block_c ?_ | refine awp_block_r ?_ | refine awp_skip ?_ | apply And.intro) | (with_reducible refine awp_ev_quiet tab_ok follows (by kernel_rfl) ?_) | ((with_reducible first | refine gE ?_ | refine gR ?_ | refine gD ?_ | refine gF ?_); simp (maxSteps := 4000000) only [sx, sy, ne_eq, eq_self, if_true, if_false, Nat.reduceEqDiff, hbT, evBuild, evLit, evMake, tab, isShift, thenA, blockA, reduceCtorEq, reduceIte, Nat.reduceBEq, Int.reduceLE, Int.reduceToNat, Nat.reduceAdd, Nat.reduceLT, Nat.reduceLeDiff, List.length_map, hlt, splice_all, plC, rtC, BEq.rfl, Bool.and_self]) | (show (_ : Nat) = (_ : Nat); rfl) | ((with_reducible refine awp_ret ?_); (first | refine ret_tmp (.inr rfl) rfl rfl rfl (fun _ _ => rfl) ?_) <;> first | rfl | rfl | skip) | ((with_reducible refine awp_ret ?_); refine Or.inr ⟨(by intro h; cases h), ?_⟩; refine ret_tmp (.inr rfl) rfl rfl rfl (fun _ _ => rfl) ?_ <;> first | rfl | rfl | skip) | (refine call_pure (cq) ?_) | (refine call_pure (c5) ?_) | ((with_reducible refine gsel_case (fun hg => ?_) (fun hg => ?_)) <;> (try simp only [Bool.not_eq_true', Bool.not_eq_false'] at hg) <;> simp (maxSteps := 4000000) only [sx, sy, ne_eq, eq_self, if_true, if_false, Nat.reduceEqDiff, hbT, evBuild, evLit, evMake, tab, isShift, thenA, blockA, reduceCtorEq, reduceIte, Nat.reduceBEq, Int.reduceLE, Int.reduceToNat, Nat.reduceAdd, Nat.reduceLT, Nat.reduceLeDiff, hg, List.length_map, hlt, splice_all, plC, rtC, BEq.rfl, Bool.and_self]) | ((with_reducible refine awp_exit ?_); simp only [thenA, blockA, if_true, if_false, reduceIte, Nat.reduceEqDiff]) | (refine hK _ ?_; clear hK K) | refine awp_cond_t rfl ?_ | refine awp_cond_f rfl ?_ | refine awp_if rfl (fun hg => ?_) (fun hg => ?_) | (refine Or.inl ⟨rfl, ?_⟩; refine le_of_all ?_ ?_ rfl rfl rfl rfl <;> simp only [patch, sl, List.length_map, hlt, splice_all, plC, rtC, BEq.rfl, Bool.and_self]) | ((first | show Program.eqGuardType _ _ _ = false | show numFieldsB _ _ _ = true | show Program.stoodInHeld _ _ = false); kernel_rfl) | clear hK K)
    · have hb : (rtE p id != 0) = true := by simpa using hE
      have e1 : ofE p id = rtE p id := if_neg hE
      rw [e1] at c1
      generalize rtO p id = r at *
      generalize ofW p id = W at *
      generalize rtE p id = E2 at *
      simp only [plA, plC, wyA, wyC, rtA, rtC] at c1 c2
      have hself : (E2 == E2) = true := by simp
      refine acall_of 6 Try.func9 rfl fun n out _ _ => ?_
      simp only [Try.ntmps9, List.length_cons, List.length_nil, List.length_map, List.length_replicate, rep_map, Nat.reduceAdd, Nat.reduceSub, List.replicate, List.cons_append, List.nil_append]
      repeat' (first | (with_reducible first | refine awp_seq_k fun K hK => ?_ | refine awp_ev tab_ok [] ?_ | refine awp_block_s ?_ | refine awp_block_c ?_ | refine awp_block_r ?_ | refine awp_skip ?_ | apply And.intro) | (with_reducible refine awp_ev_quiet tab_ok follows (by kernel_rfl) ?_) | ((with_reducible first | refine gE ?_ | refine gR ?_ | refine gD ?_ | refine gF ?_); simp (maxSteps := 4000000) only [sx, sy, ne_eq, eq_self, if_true, if_false, Nat.reduceEqDiff, hbT, evBuild, evLit, evMake, tab, isShift, thenA, blockA, reduceCtorEq, reduceIte, Nat.reduceBEq, Int.reduceLE, Int.reduceToNat, Nat.reduceAdd, Nat.reduceLT, Nat.reduceLeDiff, plA, plC, splice_all, hb, hself]) | (show (_ : Nat) = (_ : Nat); rfl) | ((with_reducible refine awp_ret ?_); (first | refine ret_tmp (.inr rfl) rfl rfl rfl (fun _ _ => rfl) ?_) <;> first | rfl | rfl | skip) | ((with_reducible refine awp_ret ?_); refine Or.inr ⟨(by intro h; cases h), ?_⟩; refine ret_tmp (.inr rfl) rfl rfl rfl (fun _ _ => rfl) ?_ <;> first | rfl | rfl | skip) | (refine call_pure (cg) ?_) | (refine call_pure (c_walive) ?_) | (refine call_pure (c1) ?_) | (refine call_pure (c2) ?_) | ((with_reducible refine gsel_case (fun hg => ?_) (fun hg => ?_)) <;> (try simp only [Bool.not_eq_true', Bool.not_eq_false'] at hg) <;> simp (maxSteps := 4000000) only [sx, sy, ne_eq, eq_self, if_true, if_false, Nat.reduceEqDiff, hbT, evBuild, evLit, evMake, tab, isShift, thenA, blockA, reduceCtorEq, reduceIte, Nat.reduceBEq, Int.reduceLE, Int.reduceToNat, Nat.reduceAdd, Nat.reduceLT, Nat.reduceLeDiff, hg, plA, plC, splice_all, hb, hself]) | ((with_reducible refine awp_exit ?_); simp only [thenA, blockA, if_true, if_false, reduceIte, Nat.reduceEqDiff]) | (refine hK _ ?_; clear hK K) | refine awp_cond_t rfl ?_ | refine awp_cond_f rfl ?_ | refine awp_if rfl (fun hg => ?_) (fun hg => ?_) | (refine Or.inl ⟨rfl, ?_⟩; refine le_of_all ?_ ?_ rfl rfl rfl rfl <;> simp only [patch, sl, plA, plC, splice_all, hb, hself]) | ((first | show Program.eqGuardType _ _ _ = false | show numFieldsB _ _ _ = true | show Program.stoodInHeld _ _ = false); kernel_rfl) | clear hK K)
end Go.Proofs.Ytdkiciofkifpdaa.Pln
