/-
  The law PlanPlaces.
-/
import Derived.Test.YtdkiciofkifpdaaP31
import Derived.Test.YtdkiciofkifpdaaP24
namespace Go.Proofs.Ytdkiciofkifpdaa.Pln
set_option linter.unusedVariables false
set_option linter.unusedSimpArgs false
open Go Go.VS Tab
set_option maxHeartbeats 8000000
set_option maxRecDepth 8000

theorem c_lawPlaces (p : Pl) : ACall Try.prog 4 [plA p] [] (bool true) [] := by
  have cg := c_rgreat p
  cases hG : greatP p with
  | true =>
    rw [hG] at cg
    refine acall_of 4 Try.func4 rfl fun n out _ _ => ?_
    simp only [Try.ntmps4, List.length_cons, List.length_nil, List.length_map, List.length_replicate, rep_map, Nat.reduceAdd, Nat.reduceSub, List.replicate, List.cons_append, List.nil_append]
    repeat' (first
      | with_reducible refine awp_seq_k fun K hK => ?_
      | ((with_reducible refine awp_ev tab_ok [] ?_); simp (maxSteps := 4000000) only [sx, sy, ne_eq, eq_self, if_true, if_false, Nat.reduceEqDiff, hbT, evBuild, evLit, evMake, tab, isShift, thenA, blockA, reduceCtorEq, reduceIte, Nat.reduceBEq, Int.reduceLE, Int.reduceToNat, Nat.reduceAdd, Nat.reduceLT, Nat.reduceLeDiff, plA, plC])
      | ((with_reducible refine awp_ev_quiet tab_ok follows (by kernel_rfl) ?_); simp (maxSteps := 4000000) only [sx, sy, ne_eq, eq_self, if_true, if_false, Nat.reduceEqDiff, hbT, evBuild, evLit, evMake, tab, isShift, thenA, blockA, reduceCtorEq, reduceIte, Nat.reduceBEq, Int.reduceLE, Int.reduceToNat, Nat.reduceAdd, Nat.reduceLT, Nat.reduceLeDiff, plA, plC])
      | with_reducible refine awp_block_s ?_
      | with_reducible refine awp_block_c ?_
      | with_reducible refine awp_block_r ?_
      | with_reducible refine awp_skip ?_
      | with_reducible apply And.intro
      | (show Program.eqGuardType _ _ _ = false; kernel_rfl)
      | (show numFieldsB _ _ _ = true; kernel_rfl)
      | (show Program.stoodInHeld _ _ = false; kernel_rfl)
      | (show (_ : Nat) = (_ : Nat); rfl)
      | ((with_reducible refine awp_ret ?_); refine ret_tmp (.inr rfl) rfl rfl rfl (fun _ _ => rfl) ?_ <;> first | rfl | rfl | skip)
      | ((with_reducible refine awp_ret ?_); refine Or.inr ⟨(by intro h; cases h), ?_⟩; refine ret_tmp (.inr rfl) rfl rfl rfl (fun _ _ => rfl) ?_ <;> first | rfl | rfl | skip)
      | (refine call_pure (cg) ?_; simp (maxSteps := 4000000) only [sx, sy, ne_eq, eq_self, if_true, if_false, Nat.reduceEqDiff, hbT, evBuild, evLit, evMake, tab, isShift, thenA, blockA, reduceCtorEq, reduceIte, Nat.reduceBEq, Int.reduceLE, Int.reduceToNat, Nat.reduceAdd, Nat.reduceLT, Nat.reduceLeDiff, plA, plC])
      | (refine call_pure (c_alive) ?_; simp (maxSteps := 4000000) only [sx, sy, ne_eq, eq_self, if_true, if_false, Nat.reduceEqDiff, hbT, evBuild, evLit, evMake, tab, isShift, thenA, blockA, reduceCtorEq, reduceIte, Nat.reduceBEq, Int.reduceLE, Int.reduceToNat, Nat.reduceAdd, Nat.reduceLT, Nat.reduceLeDiff, plA, plC])
      | ((with_reducible refine gsel_case (fun hg => ?_) (fun hg => ?_)) <;> (try simp only [Bool.not_eq_true', Bool.not_eq_false'] at hg) <;> simp (maxSteps := 4000000) only [sx, sy, ne_eq, eq_self, if_true, if_false, Nat.reduceEqDiff, hbT, evBuild, evLit, evMake, tab, isShift, thenA, blockA, reduceCtorEq, reduceIte, Nat.reduceBEq, Int.reduceLE, Int.reduceToNat, Nat.reduceAdd, Nat.reduceLT, Nat.reduceLeDiff, hg, plA, plC])
      | ((with_reducible refine awp_exit ?_); simp only [thenA, blockA, if_true, if_false, reduceIte, Nat.reduceEqDiff])
      | (refine hK _ ?_; clear hK K)
      | refine awp_cond_t rfl ?_
      | refine awp_cond_f rfl ?_
      | refine awp_if rfl (fun hg => ?_) (fun hg => ?_)
      | (refine Or.inl ⟨rfl, ?_⟩; refine le_of_all ?_ ?_ rfl rfl rfl rfl <;> simp only [patch, sl, plA, plC])
      | clear hK K)
  | false =>
    rw [hG] at cg
    have hs := sm_of hG
    have cc := c_pcheck p hs
    cases hmay : mayP p with
    | false =>
      rw [hmay] at cc
      refine acall_of 4 Try.func4 rfl fun n out _ _ => ?_
      simp only [Try.ntmps4, List.length_cons, List.length_nil, List.length_map, List.length_replicate, rep_map, Nat.reduceAdd, Nat.reduceSub, List.replicate, List.cons_append, List.nil_append]
      repeat' (first
        | with_reducible refine awp_seq_k fun K hK => ?_
        | ((with_reducible refine awp_ev tab_ok [] ?_); simp (maxSteps := 4000000) only [sx, sy, ne_eq, eq_self, if_true, if_false, Nat.reduceEqDiff, hbT, evBuild, evLit, evMake, tab, isShift, thenA, blockA, reduceCtorEq, reduceIte, Nat.reduceBEq, Int.reduceLE, Int.reduceToNat, Nat.reduceAdd, Nat.reduceLT, Nat.reduceLeDiff, plA, plC, Bool.false_eq_true, if_false, Int.reduceBNe])
        | ((with_reducible refine awp_ev_quiet tab_ok follows (by kernel_rfl) ?_); simp (maxSteps := 4000000) only [sx, sy, ne_eq, eq_self, if_true, if_false, Nat.reduceEqDiff, hbT, evBuild, evLit, evMake, tab, isShift, thenA, blockA, reduceCtorEq, reduceIte, Nat.reduceBEq, Int.reduceLE, Int.reduceToNat, Nat.reduceAdd, Nat.reduceLT, Nat.reduceLeDiff, plA, plC, Bool.false_eq_true, if_false, Int.reduceBNe])
        | with_reducible refine awp_block_s ?_
        | with_reducible refine awp_block_c ?_
        | with_reducible refine awp_block_r ?_
        | with_reducible refine awp_skip ?_
        | with_reducible apply And.intro
        | (show Program.eqGuardType _ _ _ = false; kernel_rfl)
        | (show numFieldsB _ _ _ = true; kernel_rfl)
        | (show Program.stoodInHeld _ _ = false; kernel_rfl)
        | (show (_ : Nat) = (_ : Nat); rfl)
        | ((with_reducible refine awp_ret ?_); refine ret_tmp (.inr rfl) rfl rfl rfl (fun _ _ => rfl) ?_ <;> first | rfl | rfl | skip)
        | ((with_reducible refine awp_ret ?_); refine Or.inr ⟨(by intro h; cases h), ?_⟩; refine ret_tmp (.inr rfl) rfl rfl rfl (fun _ _ => rfl) ?_ <;> first | rfl | rfl | skip)
        | (refine call_pure (cg) ?_; simp (maxSteps := 4000000) only [sx, sy, ne_eq, eq_self, if_true, if_false, Nat.reduceEqDiff, hbT, evBuild, evLit, evMake, tab, isShift, thenA, blockA, reduceCtorEq, reduceIte, Nat.reduceBEq, Int.reduceLE, Int.reduceToNat, Nat.reduceAdd, Nat.reduceLT, Nat.reduceLeDiff, plA, plC, Bool.false_eq_true, if_false, Int.reduceBNe])
        | (refine call_pure (c_alive) ?_; simp (maxSteps := 4000000) only [sx, sy, ne_eq, eq_self, if_true, if_false, Nat.reduceEqDiff, hbT, evBuild, evLit, evMake, tab, isShift, thenA, blockA, reduceCtorEq, reduceIte, Nat.reduceBEq, Int.reduceLE, Int.reduceToNat, Nat.reduceAdd, Nat.reduceLT, Nat.reduceLeDiff, plA, plC, Bool.false_eq_true, if_false, Int.reduceBNe])
        | (refine call_pure (cc) ?_; simp (maxSteps := 4000000) only [sx, sy, ne_eq, eq_self, if_true, if_false, Nat.reduceEqDiff, hbT, evBuild, evLit, evMake, tab, isShift, thenA, blockA, reduceCtorEq, reduceIte, Nat.reduceBEq, Int.reduceLE, Int.reduceToNat, Nat.reduceAdd, Nat.reduceLT, Nat.reduceLeDiff, plA, plC, Bool.false_eq_true, if_false, Int.reduceBNe])
        | ((with_reducible refine gsel_case (fun hg => ?_) (fun hg => ?_)) <;> (try simp only [Bool.not_eq_true', Bool.not_eq_false'] at hg) <;> simp (maxSteps := 4000000) only [sx, sy, ne_eq, eq_self, if_true, if_false, Nat.reduceEqDiff, hbT, evBuild, evLit, evMake, tab, isShift, thenA, blockA, reduceCtorEq, reduceIte, Nat.reduceBEq, Int.reduceLE, Int.reduceToNat, Nat.reduceAdd, Nat.reduceLT, Nat.reduceLeDiff, hg, plA, plC, Bool.false_eq_true, if_false, Int.reduceBNe])
        | ((with_reducible refine awp_exit ?_); simp only [thenA, blockA, if_true, if_false, reduceIte, Nat.reduceEqDiff])
        | (refine hK _ ?_; clear hK K)
        | refine awp_cond_t rfl ?_
        | refine awp_cond_f rfl ?_
        | refine awp_if rfl (fun hg => ?_) (fun hg => ?_)
        | (refine Or.inl ⟨rfl, ?_⟩; refine le_of_all ?_ ?_ rfl rfl rfl rfl <;> simp only [patch, sl, plA, plC, Bool.false_eq_true, if_false, Int.reduceBNe])
        | clear hK K)
    | true =>
      rw [hmay] at cc
      have h1 := hs.secs
      have h2 := hs.pts
      have h3 := hs.sgs
      have h4 := hs.rts
      refine acall_of 4 Try.func4 rfl fun n out _ _ => ?_
      simp only [Try.ntmps4, List.length_cons, List.length_nil, List.length_map, List.length_replicate, rep_map, Nat.reduceAdd, Nat.reduceSub, List.replicate, List.cons_append, List.nil_append]
      repeat' (first
        | with_reducible refine awp_seq_k fun K hK => ?_
        | ((with_reducible refine awp_ev tab_ok [] ?_); simp (maxSteps := 4000000) only [sx, sy, ne_eq, eq_self, if_true, if_false, Nat.reduceEqDiff, hbT, evBuild, evLit, evMake, tab, isShift, thenA, blockA, reduceCtorEq, reduceIte, Nat.reduceBEq, Int.reduceLE, Int.reduceToNat, Nat.reduceAdd, Nat.reduceLT, Nat.reduceLeDiff, plA, plC, if_true, Int.reduceBNe, List.length_map])
        | ((with_reducible refine awp_ev_quiet tab_ok follows (by kernel_rfl) ?_); simp (maxSteps := 4000000) only [sx, sy, ne_eq, eq_self, if_true, if_false, Nat.reduceEqDiff, hbT, evBuild, evLit, evMake, tab, isShift, thenA, blockA, reduceCtorEq, reduceIte, Nat.reduceBEq, Int.reduceLE, Int.reduceToNat, Nat.reduceAdd, Nat.reduceLT, Nat.reduceLeDiff, plA, plC, if_true, Int.reduceBNe, List.length_map])
        | with_reducible refine awp_block_s ?_
        | with_reducible refine awp_block_c ?_
        | with_reducible refine awp_block_r ?_
        | with_reducible refine awp_skip ?_
        | with_reducible apply And.intro
        | (show Program.eqGuardType _ _ _ = false; kernel_rfl)
        | (show numFieldsB _ _ _ = true; kernel_rfl)
        | (show Program.stoodInHeld _ _ = false; kernel_rfl)
        | (show (_ : Nat) = (_ : Nat); rfl)
        | ((with_reducible refine awp_ret ?_); refine ret_tmp (.inr rfl) rfl rfl rfl (fun _ _ => rfl) ?_ <;> first | rfl | rfl | skip)
        | ((with_reducible refine awp_ret ?_); refine Or.inr ⟨(by intro h; cases h), ?_⟩; refine ret_tmp (.inr rfl) rfl rfl rfl (fun _ _ => rfl) ?_ <;> first | rfl | rfl | skip)
        | (refine call_pure (cg) ?_; simp (maxSteps := 4000000) only [sx, sy, ne_eq, eq_self, if_true, if_false, Nat.reduceEqDiff, hbT, evBuild, evLit, evMake, tab, isShift, thenA, blockA, reduceCtorEq, reduceIte, Nat.reduceBEq, Int.reduceLE, Int.reduceToNat, Nat.reduceAdd, Nat.reduceLT, Nat.reduceLeDiff, plA, plC, if_true, Int.reduceBNe, List.length_map])
        | (refine call_pure (c_alive) ?_; simp (maxSteps := 4000000) only [sx, sy, ne_eq, eq_self, if_true, if_false, Nat.reduceEqDiff, hbT, evBuild, evLit, evMake, tab, isShift, thenA, blockA, reduceCtorEq, reduceIte, Nat.reduceBEq, Int.reduceLE, Int.reduceToNat, Nat.reduceAdd, Nat.reduceLT, Nat.reduceLeDiff, plA, plC, if_true, Int.reduceBNe, List.length_map])
        | (refine call_pure (cc) ?_; simp (maxSteps := 4000000) only [sx, sy, ne_eq, eq_self, if_true, if_false, Nat.reduceEqDiff, hbT, evBuild, evLit, evMake, tab, isShift, thenA, blockA, reduceCtorEq, reduceIte, Nat.reduceBEq, Int.reduceLE, Int.reduceToNat, Nat.reduceAdd, Nat.reduceLT, Nat.reduceLeDiff, plA, plC, if_true, Int.reduceBNe, List.length_map])
        | ((with_reducible refine gsel_case (fun hg => ?_) (fun hg => ?_)) <;> (try simp only [Bool.not_eq_true', Bool.not_eq_false'] at hg) <;> simp (maxSteps := 4000000) only [sx, sy, ne_eq, eq_self, if_true, if_false, Nat.reduceEqDiff, hbT, evBuild, evLit, evMake, tab, isShift, thenA, blockA, reduceCtorEq, reduceIte, Nat.reduceBEq, Int.reduceLE, Int.reduceToNat, Nat.reduceAdd, Nat.reduceLT, Nat.reduceLeDiff, hg, plA, plC, if_true, Int.reduceBNe, List.length_map])
        | ((with_reducible refine awp_exit ?_); simp only [thenA, blockA, if_true, if_false, reduceIte, Nat.reduceEqDiff])
        | (refine hK _ ?_; clear hK K)
        | refine awp_cond_t rfl ?_
        | refine awp_cond_f rfl ?_
        | refine awp_if rfl (fun hg => ?_) (fun hg => ?_)
        | (refine Or.inl ⟨rfl, ?_⟩; refine le_of_all ?_ ?_ rfl rfl rfl rfl <;> simp only [patch, sl, plA, plC, if_true, Int.reduceBNe, List.length_map])
        | clear hK K)
      refine awp_block ?_
      refine awp_for_g (fun i : Nat => [(4, i64 (i : Int)), (1, .ptr (n + 0) 0), (2, .top), (5, .top), (6, .top), (32, .top), (33, .top), (34, .top), (35, .top), (36, .top), (37, .top), (38, .top), (39, .top), (40, .top), (41, .top), (42, .top), (43, .top), (44, .top), (45, .top), (46, .top), (47, .top), (48, .top), (49, .top), (50, .top), (51, .top), (52, .top), (53, .top), (54, .top), (55, .top), (56, .top), (57, .top), (58, .top), (59, .top), (60, .top), (61, .top), (62, .top), (63, .top), (64, .top), (65, .top), (66, .top), (67, .top), (68, .top), (69, .top), (70, .top), (71, .top), (72, .top), (73, .top), (74, .top), (75, .top), (76, .top), (77, .top), (78, .top), (79, .top), (80, .top), (81, .top), (82, .top), (83, .top), (84, .top), (85, .top)]) (fun i => [some (.box 27 (plC p)), none, none, none]) (fun i => out) (fun i => i ≤ p.pts.length) (fun i => p.pts.length - i) 0 (Nat.zero_le _) ?_ fun i hi => ?_
      · refine le_of_all ?_ ?_ (by first | rfl | (simp only [plC, List.length_map, List.take_zero, cnA_nil]; rfl) | simp only [plC, List.length_map, List.take_zero, cnA_nil]) rfl rfl rfl <;> simp only [patch, sl, plC, List.length_map, List.take_zero, cnA_nil]
      simp only [patch, s_0, s_s]
      have hw := addw (n := i) 1 1 rfl (by omega)
      by_cases hlt : i < p.pts.length
      · have gi := getD_map jnC p.pts i [] hlt
        obtain ⟨q1, q2⟩ := pt_at hmay hlt
        repeat' (first
          | with_reducible refine awp_seq_k fun K hK => ?_
          | ((with_reducible refine awp_ev tab_ok [] ?_); simp (maxSteps := 4000000) only [sx, sy, ne_eq, eq_self, if_true, if_false, Nat.reduceEqDiff, hbT, evBuild, evLit, evMake, tab, isShift, thenA, blockA, reduceCtorEq, reduceIte, Nat.reduceBEq, Int.reduceLE, Int.reduceToNat, Nat.reduceAdd, Nat.reduceLT, Nat.reduceLeDiff, plC, List.length_map, hlt, gi, jnC])
          | ((with_reducible refine awp_ev_quiet tab_ok follows (by kernel_rfl) ?_); simp (maxSteps := 4000000) only [sx, sy, ne_eq, eq_self, if_true, if_false, Nat.reduceEqDiff, hbT, evBuild, evLit, evMake, tab, isShift, thenA, blockA, reduceCtorEq, reduceIte, Nat.reduceBEq, Int.reduceLE, Int.reduceToNat, Nat.reduceAdd, Nat.reduceLT, Nat.reduceLeDiff, plC, List.length_map, hlt, gi, jnC])
          | with_reducible refine awp_block_s ?_
          | with_reducible refine awp_block_c ?_
          | with_reducible refine awp_block_r ?_
          | with_reducible refine awp_skip ?_
          | with_reducible apply And.intro
          | (show Program.eqGuardType _ _ _ = false; kernel_rfl)
          | (show numFieldsB _ _ _ = true; kernel_rfl)
          | (show Program.stoodInHeld _ _ = false; kernel_rfl)
          | (show (_ : Nat) = (_ : Nat); rfl)
          | ((with_reducible refine awp_ret ?_); refine ret_tmp (.inr rfl) rfl rfl rfl (fun _ _ => rfl) ?_ <;> first | rfl | rfl | skip)
          | ((with_reducible refine awp_ret ?_); refine Or.inr ⟨(by intro h; cases h), ?_⟩; refine ret_tmp (.inr rfl) rfl rfl rfl (fun _ _ => rfl) ?_ <;> first | rfl | rfl | skip)
          | ((with_reducible refine gsel_case (fun hg => ?_) (fun hg => ?_)) <;> (try simp only [Bool.not_eq_true', Bool.not_eq_false'] at hg) <;> simp (maxSteps := 4000000) only [sx, sy, ne_eq, eq_self, if_true, if_false, Nat.reduceEqDiff, hbT, evBuild, evLit, evMake, tab, isShift, thenA, blockA, reduceCtorEq, reduceIte, Nat.reduceBEq, Int.reduceLE, Int.reduceToNat, Nat.reduceAdd, Nat.reduceLT, Nat.reduceLeDiff, hg, plC, List.length_map, hlt, gi, jnC])
          | ((with_reducible refine awp_exit ?_); simp only [thenA, blockA, if_true, if_false, reduceIte, Nat.reduceEqDiff])
          | (refine hK _ ?_; clear hK K)
          | refine awp_cond_t rfl ?_
          | refine awp_cond_f rfl ?_
          | refine awp_if rfl (fun hg => ?_) (fun hg => ?_)
          | (refine Or.inl ⟨rfl, ?_⟩; refine le_of_all ?_ ?_ rfl rfl rfl rfl <;> simp only [patch, sl, plC, List.length_map, hlt, gi, jnC])
          | clear hK K)
        refine awp_block ?_
        refine awp_for_g (fun k : Nat => [(6, i64 (k : Int)), (5, i64 (cnA (p.secs.take k) p.pts[i].1 : Int)), (1, .ptr (n + 0) 0), (2, .top), (39, .top), (40, .top), (41, .top), (42, .top), (43, .top), (44, .top), (45, .top), (46, .top), (47, .top), (48, .top), (49, .top), (50, .top), (51, .top), (52, .top), (53, .top), (54, .top), (55, .top), (56, .top), (57, .top), (58, .top), (59, .top), (60, .top), (61, .top), (62, .top), (63, .top), (64, .top), (65, .top), (66, .top), (67, .top), (68, .top), (69, .top), (70, .top), (71, .top), (72, .top), (73, .top), (74, .top), (75, .top), (76, .top), (77, .top), (78, .top), (79, .top), (80, .top), (81, .top), (82, .top), (83, .top)]) (fun k => [some (.box 27 (plC p)), none, none, none]) (fun k => out) (fun k => k ≤ p.secs.length) (fun k => p.secs.length - k) 0 (Nat.zero_le _) ?_ fun k hk => ?_
        · refine le_of_all ?_ ?_ (by first | rfl | (simp only [plC, List.length_map, List.take_zero, cnA_nil]; rfl) | simp only [plC, List.length_map, List.take_zero, cnA_nil]) rfl rfl rfl <;> simp only [patch, sl, plC, List.length_map, List.take_zero, cnA_nil]
        simp only [patch, s_0, s_s]
        have hw2 := addw (n := k) 1 1 rfl (by omega)
        by_cases hltk : k < p.secs.length
        · have gk := getD_map secC p.secs k [] hltk
          have hsc := cnA_succ hltk p.pts[i].1
          have hcl := cnA_le (p.secs.take k) p.pts[i].1
          have hcl2 : (p.secs.take k).length ≤ 40 := by rw [List.length_take]; omega
          have hw3 := addw (n := cnA (p.secs.take k) p.pts[i].1) 1 1 rfl (by omega)
          cases hb : (p.secs[k].pt == p.pts[i].1) with
          | false =>
            rw [hb, if_neg (by decide)] at hsc
            replace hsc := hsc.trans (Nat.add_zero _)
            repeat' (first
              | with_reducible refine awp_seq_k fun K hK => ?_
              | ((with_reducible refine awp_ev tab_ok [] ?_); simp (maxSteps := 4000000) only [sx, sy, ne_eq, eq_self, if_true, if_false, Nat.reduceEqDiff, hbT, evBuild, evLit, evMake, tab, isShift, thenA, blockA, reduceCtorEq, reduceIte, Nat.reduceBEq, Int.reduceLE, Int.reduceToNat, Nat.reduceAdd, Nat.reduceLT, Nat.reduceLeDiff, plC, List.length_map, hlt, hltk, gi, gk, jnC, secC, hw2, hb])
              | ((with_reducible refine awp_ev_quiet tab_ok follows (by kernel_rfl) ?_); simp (maxSteps := 4000000) only [sx, sy, ne_eq, eq_self, if_true, if_false, Nat.reduceEqDiff, hbT, evBuild, evLit, evMake, tab, isShift, thenA, blockA, reduceCtorEq, reduceIte, Nat.reduceBEq, Int.reduceLE, Int.reduceToNat, Nat.reduceAdd, Nat.reduceLT, Nat.reduceLeDiff, plC, List.length_map, hlt, hltk, gi, gk, jnC, secC, hw2, hb])
              | with_reducible refine awp_block_s ?_
              | with_reducible refine awp_block_c ?_
              | with_reducible refine awp_block_r ?_
              | with_reducible refine awp_skip ?_
              | with_reducible apply And.intro
              | (show Program.eqGuardType _ _ _ = false; kernel_rfl)
              | (show numFieldsB _ _ _ = true; kernel_rfl)
              | (show Program.stoodInHeld _ _ = false; kernel_rfl)
              | (show (_ : Nat) = (_ : Nat); rfl)
              | ((with_reducible refine awp_ret ?_); refine ret_tmp (.inr rfl) rfl rfl rfl (fun _ _ => rfl) ?_ <;> first | rfl | rfl | skip)
              | ((with_reducible refine awp_ret ?_); refine Or.inr ⟨(by intro h; cases h), ?_⟩; refine ret_tmp (.inr rfl) rfl rfl rfl (fun _ _ => rfl) ?_ <;> first | rfl | rfl | skip)
              | ((with_reducible refine gsel_case (fun hg => ?_) (fun hg => ?_)) <;> (try simp only [Bool.not_eq_true', Bool.not_eq_false'] at hg) <;> simp (maxSteps := 4000000) only [sx, sy, ne_eq, eq_self, if_true, if_false, Nat.reduceEqDiff, hbT, evBuild, evLit, evMake, tab, isShift, thenA, blockA, reduceCtorEq, reduceIte, Nat.reduceBEq, Int.reduceLE, Int.reduceToNat, Nat.reduceAdd, Nat.reduceLT, Nat.reduceLeDiff, hg, plC, List.length_map, hlt, hltk, gi, gk, jnC, secC, hw2, hb])
              | ((with_reducible refine awp_exit ?_); simp only [thenA, blockA, if_true, if_false, reduceIte, Nat.reduceEqDiff])
              | (refine hK _ ?_; clear hK K)
              | refine awp_cond_t rfl ?_
              | refine awp_cond_f rfl ?_
              | refine awp_if rfl (fun hg => ?_) (fun hg => ?_)
              | (refine Or.inl ⟨rfl, ?_⟩; refine le_of_all ?_ ?_ rfl rfl rfl rfl <;> simp only [patch, sl, plC, List.length_map, hlt, hltk, gi, gk, jnC, secC, hw2, hb])
              | clear hK K)
            refine ⟨k + 1, by omega, by omega, ?_⟩
            rw [hsc]
            refine le_of_all ?_ ?_ rfl rfl rfl rfl <;> simp only [patch, sl, hltk, decide_true]
          | true =>
            rw [hb, if_pos rfl] at hsc
            obtain ⟨r1, r2⟩ := q2 k hltk (by simpa using hb)
            have r3 : (p.secs[k].id != p.pts[i].2) = false := by simpa using r1
            have r4 : ((p.secs[k].ends.length : Int) != 3) = false := by simp [r2]
            repeat' (first
              | with_reducible refine awp_seq_k fun K hK => ?_
              | ((with_reducible refine awp_ev tab_ok [] ?_); simp (maxSteps := 4000000) only [sx, sy, ne_eq, eq_self, if_true, if_false, Nat.reduceEqDiff, hbT, evBuild, evLit, evMake, tab, isShift, thenA, blockA, reduceCtorEq, reduceIte, Nat.reduceBEq, Int.reduceLE, Int.reduceToNat, Nat.reduceAdd, Nat.reduceLT, Nat.reduceLeDiff, plC, List.length_map, hlt, hltk, gi, gk, jnC, secC, hw2, hw3, hb, r3, r4])
              | ((with_reducible refine awp_ev_quiet tab_ok follows (by kernel_rfl) ?_); simp (maxSteps := 4000000) only [sx, sy, ne_eq, eq_self, if_true, if_false, Nat.reduceEqDiff, hbT, evBuild, evLit, evMake, tab, isShift, thenA, blockA, reduceCtorEq, reduceIte, Nat.reduceBEq, Int.reduceLE, Int.reduceToNat, Nat.reduceAdd, Nat.reduceLT, Nat.reduceLeDiff, plC, List.length_map, hlt, hltk, gi, gk, jnC, secC, hw2, hw3, hb, r3, r4])
              | with_reducible refine awp_block_s ?_
              | with_reducible refine awp_block_c ?_
              | with_reducible refine awp_block_r ?_
              | with_reducible refine awp_skip ?_
              | with_reducible apply And.intro
              | (show Program.eqGuardType _ _ _ = false; kernel_rfl)
              | (show numFieldsB _ _ _ = true; kernel_rfl)
              | (show Program.stoodInHeld _ _ = false; kernel_rfl)
              | (show (_ : Nat) = (_ : Nat); rfl)
              | ((with_reducible refine awp_ret ?_); refine ret_tmp (.inr rfl) rfl rfl rfl (fun _ _ => rfl) ?_ <;> first | rfl | rfl | skip)
              | ((with_reducible refine awp_ret ?_); refine Or.inr ⟨(by intro h; cases h), ?_⟩; refine ret_tmp (.inr rfl) rfl rfl rfl (fun _ _ => rfl) ?_ <;> first | rfl | rfl | skip)
              | ((with_reducible refine gsel_case (fun hg => ?_) (fun hg => ?_)) <;> (try simp only [Bool.not_eq_true', Bool.not_eq_false'] at hg) <;> simp (maxSteps := 4000000) only [sx, sy, ne_eq, eq_self, if_true, if_false, Nat.reduceEqDiff, hbT, evBuild, evLit, evMake, tab, isShift, thenA, blockA, reduceCtorEq, reduceIte, Nat.reduceBEq, Int.reduceLE, Int.reduceToNat, Nat.reduceAdd, Nat.reduceLT, Nat.reduceLeDiff, hg, plC, List.length_map, hlt, hltk, gi, gk, jnC, secC, hw2, hw3, hb, r3, r4])
              | ((with_reducible refine awp_exit ?_); simp only [thenA, blockA, if_true, if_false, reduceIte, Nat.reduceEqDiff])
              | (refine hK _ ?_; clear hK K)
              | refine awp_cond_t rfl ?_
              | refine awp_cond_f rfl ?_
              | refine awp_if rfl (fun hg => ?_) (fun hg => ?_)
              | (refine Or.inl ⟨rfl, ?_⟩; refine le_of_all ?_ ?_ rfl rfl rfl rfl <;> simp only [patch, sl, plC, List.length_map, hlt, hltk, gi, gk, jnC, secC, hw2, hw3, hb, r3, r4])
              | clear hK K)
            refine ⟨k + 1, by omega, by omega, ?_⟩
            rw [hsc]
            refine le_of_all ?_ ?_ rfl rfl rfl rfl <;> simp only [patch, sl, hltk, decide_true]
        · obtain rfl : k = p.secs.length := by omega
          repeat' (first
            | with_reducible refine awp_seq_k fun K hK => ?_
            | ((with_reducible refine awp_ev tab_ok [] ?_); simp (maxSteps := 4000000) only [sx, sy, ne_eq, eq_self, if_true, if_false, Nat.reduceEqDiff, hbT, evBuild, evLit, evMake, tab, isShift, thenA, blockA, reduceCtorEq, reduceIte, Nat.reduceBEq, Int.reduceLE, Int.reduceToNat, Nat.reduceAdd, Nat.reduceLT, Nat.reduceLeDiff, plC, List.length_map, hltk, List.take_length, q1, Int.reduceBNe, hw])
            | ((with_reducible refine awp_ev_quiet tab_ok follows (by kernel_rfl) ?_); simp (maxSteps := 4000000) only [sx, sy, ne_eq, eq_self, if_true, if_false, Nat.reduceEqDiff, hbT, evBuild, evLit, evMake, tab, isShift, thenA, blockA, reduceCtorEq, reduceIte, Nat.reduceBEq, Int.reduceLE, Int.reduceToNat, Nat.reduceAdd, Nat.reduceLT, Nat.reduceLeDiff, plC, List.length_map, hltk, List.take_length, q1, Int.reduceBNe, hw])
            | with_reducible refine awp_block_s ?_
            | with_reducible refine awp_block_c ?_
            | with_reducible refine awp_block_r ?_
            | with_reducible refine awp_skip ?_
            | with_reducible apply And.intro
            | (show Program.eqGuardType _ _ _ = false; kernel_rfl)
            | (show numFieldsB _ _ _ = true; kernel_rfl)
            | (show Program.stoodInHeld _ _ = false; kernel_rfl)
            | (show (_ : Nat) = (_ : Nat); rfl)
            | ((with_reducible refine awp_ret ?_); refine ret_tmp (.inr rfl) rfl rfl rfl (fun _ _ => rfl) ?_ <;> first | rfl | rfl | skip)
            | ((with_reducible refine awp_ret ?_); refine Or.inr ⟨(by intro h; cases h), ?_⟩; refine ret_tmp (.inr rfl) rfl rfl rfl (fun _ _ => rfl) ?_ <;> first | rfl | rfl | skip)
            | ((with_reducible refine gsel_case (fun hg => ?_) (fun hg => ?_)) <;> (try simp only [Bool.not_eq_true', Bool.not_eq_false'] at hg) <;> simp (maxSteps := 4000000) only [sx, sy, ne_eq, eq_self, if_true, if_false, Nat.reduceEqDiff, hbT, evBuild, evLit, evMake, tab, isShift, thenA, blockA, reduceCtorEq, reduceIte, Nat.reduceBEq, Int.reduceLE, Int.reduceToNat, Nat.reduceAdd, Nat.reduceLT, Nat.reduceLeDiff, hg, plC, List.length_map, hltk, List.take_length, q1, Int.reduceBNe, hw])
            | ((with_reducible refine awp_exit ?_); simp only [thenA, blockA, if_true, if_false, reduceIte, Nat.reduceEqDiff])
            | (refine hK _ ?_; clear hK K)
            | refine awp_cond_t rfl ?_
            | refine awp_cond_f rfl ?_
            | refine awp_if rfl (fun hg => ?_) (fun hg => ?_)
            | (refine Or.inl ⟨rfl, ?_⟩; refine le_of_all ?_ ?_ rfl rfl rfl rfl <;> simp only [patch, sl, plC, List.length_map, hltk, List.take_length, q1, Int.reduceBNe, hw])
            | clear hK K)
          refine ⟨i + 1, by omega, by omega, ?_⟩
          refine le_of_all ?_ ?_ rfl rfl rfl rfl <;> simp only [patch, sl, hlt, decide_true]
      · obtain rfl : i = p.pts.length := by omega
        repeat' (first
          | with_reducible refine awp_seq_k fun K hK => ?_
          | ((with_reducible refine awp_ev tab_ok [] ?_); simp (maxSteps := 4000000) only [sx, sy, ne_eq, eq_self, if_true, if_false, Nat.reduceEqDiff, hbT, evBuild, evLit, evMake, tab, isShift, thenA, blockA, reduceCtorEq, reduceIte, Nat.reduceBEq, Int.reduceLE, Int.reduceToNat, Nat.reduceAdd, Nat.reduceLT, Nat.reduceLeDiff, plC, List.length_map, hlt])
          | ((with_reducible refine awp_ev_quiet tab_ok follows (by kernel_rfl) ?_); simp (maxSteps := 4000000) only [sx, sy, ne_eq, eq_self, if_true, if_false, Nat.reduceEqDiff, hbT, evBuild, evLit, evMake, tab, isShift, thenA, blockA, reduceCtorEq, reduceIte, Nat.reduceBEq, Int.reduceLE, Int.reduceToNat, Nat.reduceAdd, Nat.reduceLT, Nat.reduceLeDiff, plC, List.length_map, hlt])
          | with_reducible refine awp_block_s ?_
          | with_reducible refine awp_block_c ?_
          | with_reducible refine awp_block_r ?_
          | with_reducible refine awp_skip ?_
          | with_reducible apply And.intro
          | (show Program.eqGuardType _ _ _ = false; kernel_rfl)
          | (show numFieldsB _ _ _ = true; kernel_rfl)
          | (show Program.stoodInHeld _ _ = false; kernel_rfl)
          | (show (_ : Nat) = (_ : Nat); rfl)
          | ((with_reducible refine awp_ret ?_); refine ret_tmp (.inr rfl) rfl rfl rfl (fun _ _ => rfl) ?_ <;> first | rfl | rfl | skip)
          | ((with_reducible refine awp_ret ?_); refine Or.inr ⟨(by intro h; cases h), ?_⟩; refine ret_tmp (.inr rfl) rfl rfl rfl (fun _ _ => rfl) ?_ <;> first | rfl | rfl | skip)
          | ((with_reducible refine gsel_case (fun hg => ?_) (fun hg => ?_)) <;> (try simp only [Bool.not_eq_true', Bool.not_eq_false'] at hg) <;> simp (maxSteps := 4000000) only [sx, sy, ne_eq, eq_self, if_true, if_false, Nat.reduceEqDiff, hbT, evBuild, evLit, evMake, tab, isShift, thenA, blockA, reduceCtorEq, reduceIte, Nat.reduceBEq, Int.reduceLE, Int.reduceToNat, Nat.reduceAdd, Nat.reduceLT, Nat.reduceLeDiff, hg, plC, List.length_map, hlt])
          | ((with_reducible refine awp_exit ?_); simp only [thenA, blockA, if_true, if_false, reduceIte, Nat.reduceEqDiff])
          | (refine hK _ ?_; clear hK K)
          | refine awp_cond_t rfl ?_
          | refine awp_cond_f rfl ?_
          | refine awp_if rfl (fun hg => ?_) (fun hg => ?_)
          | (refine Or.inl ⟨rfl, ?_⟩; refine le_of_all ?_ ?_ rfl rfl rfl rfl <;> simp only [patch, sl, plC, List.length_map, hlt])
          | clear hK K)
        refine awp_block ?_
        refine awp_for_g (fun i : Nat => [(7, i64 (i : Int)), (1, .ptr (n + 0) 0), (2, .top), (8, .top), (9, .top), (86, .top), (87, .top), (88, .top), (89, .top), (90, .top), (91, .top), (92, .top), (93, .top), (94, .top), (95, .top), (96, .top), (97, .top), (98, .top), (99, .top), (100, .top), (101, .top), (102, .top), (103, .top), (104, .top), (105, .top), (106, .top), (107, .top), (108, .top), (109, .top), (110, .top), (111, .top), (112, .top), (113, .top), (114, .top), (115, .top), (116, .top), (117, .top), (118, .top), (119, .top), (120, .top), (121, .top)]) (fun i => [some (.box 27 (plC p)), none, none, none]) (fun i => out) (fun i => i ≤ p.sgs.length) (fun i => p.sgs.length - i) 0 (Nat.zero_le _) ?_ fun i hi => ?_
        · refine le_of_all ?_ ?_ (by first | rfl | (simp only [plC, List.length_map, List.take_zero, cnA_nil]; rfl) | simp only [plC, List.length_map, List.take_zero, cnA_nil]) rfl rfl rfl <;> simp only [patch, sl, plC, List.length_map, List.take_zero, cnA_nil]
        simp only [patch, s_0, s_s]
        have hw := addw (n := i) 1 1 rfl (by omega)
        by_cases hlt : i < p.sgs.length
        · have gi := getD_map sgC p.sgs i [] hlt
          obtain ⟨q1, q2⟩ := sg_at hmay hlt
          have c1 := c_pStands p hs p.sgs[i].2.1 p.sgs[i].2.2
          rw [q1, q2] at c1
          simp only [plA, plC] at c1
          have r3 : (p.sgs[i].1 != p.sgs[i].1) = false := by simp
          repeat' (first
            | with_reducible refine awp_seq_k fun K hK => ?_
            | ((with_reducible refine awp_ev tab_ok [] ?_); simp (maxSteps := 4000000) only [sx, sy, ne_eq, eq_self, if_true, if_false, Nat.reduceEqDiff, hbT, evBuild, evLit, evMake, tab, isShift, thenA, blockA, reduceCtorEq, reduceIte, Nat.reduceBEq, Int.reduceLE, Int.reduceToNat, Nat.reduceAdd, Nat.reduceLT, Nat.reduceLeDiff, plC, List.length_map, hlt, gi, sgC, Int.reduceBNe, r3, hw])
            | ((with_reducible refine awp_ev_quiet tab_ok follows (by kernel_rfl) ?_); simp (maxSteps := 4000000) only [sx, sy, ne_eq, eq_self, if_true, if_false, Nat.reduceEqDiff, hbT, evBuild, evLit, evMake, tab, isShift, thenA, blockA, reduceCtorEq, reduceIte, Nat.reduceBEq, Int.reduceLE, Int.reduceToNat, Nat.reduceAdd, Nat.reduceLT, Nat.reduceLeDiff, plC, List.length_map, hlt, gi, sgC, Int.reduceBNe, r3, hw])
            | with_reducible refine awp_block_s ?_
            | with_reducible refine awp_block_c ?_
            | with_reducible refine awp_block_r ?_
            | with_reducible refine awp_skip ?_
            | with_reducible apply And.intro
            | (show Program.eqGuardType _ _ _ = false; kernel_rfl)
            | (show numFieldsB _ _ _ = true; kernel_rfl)
            | (show Program.stoodInHeld _ _ = false; kernel_rfl)
            | (show (_ : Nat) = (_ : Nat); rfl)
            | ((with_reducible refine awp_ret ?_); refine ret_tmp (.inr rfl) rfl rfl rfl (fun _ _ => rfl) ?_ <;> first | rfl | rfl | skip)
            | ((with_reducible refine awp_ret ?_); refine Or.inr ⟨(by intro h; cases h), ?_⟩; refine ret_tmp (.inr rfl) rfl rfl rfl (fun _ _ => rfl) ?_ <;> first | rfl | rfl | skip)
            | (refine call_pure (c1) ?_; simp (maxSteps := 4000000) only [sx, sy, ne_eq, eq_self, if_true, if_false, Nat.reduceEqDiff, hbT, evBuild, evLit, evMake, tab, isShift, thenA, blockA, reduceCtorEq, reduceIte, Nat.reduceBEq, Int.reduceLE, Int.reduceToNat, Nat.reduceAdd, Nat.reduceLT, Nat.reduceLeDiff, plC, List.length_map, hlt, gi, sgC, Int.reduceBNe, r3, hw])
            | ((with_reducible refine gsel_case (fun hg => ?_) (fun hg => ?_)) <;> (try simp only [Bool.not_eq_true', Bool.not_eq_false'] at hg) <;> simp (maxSteps := 4000000) only [sx, sy, ne_eq, eq_self, if_true, if_false, Nat.reduceEqDiff, hbT, evBuild, evLit, evMake, tab, isShift, thenA, blockA, reduceCtorEq, reduceIte, Nat.reduceBEq, Int.reduceLE, Int.reduceToNat, Nat.reduceAdd, Nat.reduceLT, Nat.reduceLeDiff, hg, plC, List.length_map, hlt, gi, sgC, Int.reduceBNe, r3, hw])
            | ((with_reducible refine awp_exit ?_); simp only [thenA, blockA, if_true, if_false, reduceIte, Nat.reduceEqDiff])
            | (refine hK _ ?_; clear hK K)
            | refine awp_cond_t rfl ?_
            | refine awp_cond_f rfl ?_
            | refine awp_if rfl (fun hg => ?_) (fun hg => ?_)
            | (refine Or.inl ⟨rfl, ?_⟩; refine le_of_all ?_ ?_ rfl rfl rfl rfl <;> simp only [patch, sl, plC, List.length_map, hlt, gi, sgC, Int.reduceBNe, r3, hw])
            | clear hK K)
          refine ⟨i + 1, by omega, by omega, ?_⟩
          refine le_of_all ?_ ?_ rfl rfl rfl rfl <;> simp only [patch, sl, hlt, decide_true]
        · obtain rfl : i = p.sgs.length := by omega
          repeat' (first
            | with_reducible refine awp_seq_k fun K hK => ?_
            | ((with_reducible refine awp_ev tab_ok [] ?_); simp (maxSteps := 4000000) only [sx, sy, ne_eq, eq_self, if_true, if_false, Nat.reduceEqDiff, hbT, evBuild, evLit, evMake, tab, isShift, thenA, blockA, reduceCtorEq, reduceIte, Nat.reduceBEq, Int.reduceLE, Int.reduceToNat, Nat.reduceAdd, Nat.reduceLT, Nat.reduceLeDiff, plC, List.length_map, hlt])
            | ((with_reducible refine awp_ev_quiet tab_ok follows (by kernel_rfl) ?_); simp (maxSteps := 4000000) only [sx, sy, ne_eq, eq_self, if_true, if_false, Nat.reduceEqDiff, hbT, evBuild, evLit, evMake, tab, isShift, thenA, blockA, reduceCtorEq, reduceIte, Nat.reduceBEq, Int.reduceLE, Int.reduceToNat, Nat.reduceAdd, Nat.reduceLT, Nat.reduceLeDiff, plC, List.length_map, hlt])
            | with_reducible refine awp_block_s ?_
            | with_reducible refine awp_block_c ?_
            | with_reducible refine awp_block_r ?_
            | with_reducible refine awp_skip ?_
            | with_reducible apply And.intro
            | (show Program.eqGuardType _ _ _ = false; kernel_rfl)
            | (show numFieldsB _ _ _ = true; kernel_rfl)
            | (show Program.stoodInHeld _ _ = false; kernel_rfl)
            | (show (_ : Nat) = (_ : Nat); rfl)
            | ((with_reducible refine awp_ret ?_); refine ret_tmp (.inr rfl) rfl rfl rfl (fun _ _ => rfl) ?_ <;> first | rfl | rfl | skip)
            | ((with_reducible refine awp_ret ?_); refine Or.inr ⟨(by intro h; cases h), ?_⟩; refine ret_tmp (.inr rfl) rfl rfl rfl (fun _ _ => rfl) ?_ <;> first | rfl | rfl | skip)
            | ((with_reducible refine gsel_case (fun hg => ?_) (fun hg => ?_)) <;> (try simp only [Bool.not_eq_true', Bool.not_eq_false'] at hg) <;> simp (maxSteps := 4000000) only [sx, sy, ne_eq, eq_self, if_true, if_false, Nat.reduceEqDiff, hbT, evBuild, evLit, evMake, tab, isShift, thenA, blockA, reduceCtorEq, reduceIte, Nat.reduceBEq, Int.reduceLE, Int.reduceToNat, Nat.reduceAdd, Nat.reduceLT, Nat.reduceLeDiff, hg, plC, List.length_map, hlt])
            | ((with_reducible refine awp_exit ?_); simp only [thenA, blockA, if_true, if_false, reduceIte, Nat.reduceEqDiff])
            | (refine hK _ ?_; clear hK K)
            | refine awp_cond_t rfl ?_
            | refine awp_cond_f rfl ?_
            | refine awp_if rfl (fun hg => ?_) (fun hg => ?_)
            | (refine Or.inl ⟨rfl, ?_⟩; refine le_of_all ?_ ?_ rfl rfl rfl rfl <;> simp only [patch, sl, plC, List.length_map, hlt])
            | clear hK K)
          refine awp_block ?_
          refine awp_for_mv (fun m (i : Nat) => [(10, i64 (i : Int)), (1, .ptr (m + 0) 0), (2, .top), (11, .top), (12, .top), (13, .top), (14, .top), (15, .top), (16, .top), (17, .top), (18, .top), (122, .top), (123, .top), (124, .top), (125, .top), (126, .top), (127, .top), (128, .top), (129, .top), (130, .top), (131, .top), (132, .top), (133, .top), (134, .top), (135, .top), (136, .top), (137, .top), (138, .top), (139, .top), (140, .top), (141, .top), (142, .top), (143, .top), (144, .top), (145, .top), (146, .top), (147, .top), (148, .top), (149, .top), (150, .top), (151, .top), (152, .top), (153, .top), (154, .top), (155, .top), (156, .top), (157, .top), (158, .top), (159, .top), (160, .top), (161, .top), (162, .top), (163, .top), (164, .top), (165, .top), (166, .top), (167, .top), (168, .top), (169, .top), (170, .top), (171, .top), (172, .top), (173, .top), (174, .top), (175, .top), (176, .top), (177, .top), (178, .top), (179, .top), (180, .top), (181, .top), (182, .top)]) (fun m i => [some (.box 27 (plC p)), none, none, none]) (fun i => out) (fun i => i ≤ p.rts.length) (fun i => p.rts.length - i) 0 (Nat.zero_le _) ?_ fun m i hm hi => ?_
          · refine le_of_all ?_ ?_ (by first | rfl | (simp only [plC, List.length_map]; rfl) | simp only [plC, List.length_map]) rfl rfl rfl <;> simp only [patch, sl, plC, List.length_map]
          simp only [patch, s_0, s_s]
          have hw := addw (n := i) 1 1 rfl (by omega)
          by_cases hlt : i < p.rts.length
          · have gi := getD_map rtC p.rts i [] hlt
            obtain ⟨en, z1, z2, z3⟩ := rt_at hmay (List.getElem_mem hlt)
            obtain ⟨hr1, hr2, hr3⟩ := hs.rt _ (List.getElem_mem hlt)
            have c1 := c_pSignal p hs p.rts[i].entry
            rw [hmay, z1] at c1
            simp only [plA, plC, elD, elE, if_true, Option.getD_some, Option.isSome_some, sgA, sgC] at c1
            have hne : (p.rts[i].path.map intC) ≠ [] := by simp; intro h; rw [h] at z2; simp at z2
            obtain ⟨A, hAe⟩ : ∃ A, A = [en.2.1] ++ p.rts[i].path ++ p.rts[i].over := ⟨_, rfl⟩
            have hal : [[i64 en.2.1]] ++ p.rts[i].path.map intC ++ p.rts[i].over.map intC = A.map intC := by subst hAe; simp [intC]
            have hA : A.length ≤ 41 := by subst hAe; simp; omega
            simp only [← hAe] at z3
            have e1 : (1 + p.rts[i].path.length) * 8 ≤ 140737488355328 := by omega
            have e2 : 1 + p.rts[i].path.length ≤ 9223372036854775807 := by omega
            have e3 : ([[i64 en.2.1]] ++ p.rts[i].path.map intC).length = 1 + p.rts[i].path.length := by simp; omega
            have e4 : (1 + p.rts[i].path.length + p.rts[i].over.length) * 8 ≤ 140737488355328 := by omega
            have e5 : 1 + p.rts[i].path.length + p.rts[i].over.length ≤ 9223372036854775807 := by omega
            repeat' (first
              | with_reducible refine awp_seq_k fun K hK => ?_
              | ((with_reducible refine awp_ev tab_ok [(148, none)] ?_); simp (maxSteps := 4000000) only [sx, sy, ne_eq, eq_self, if_true, if_false, Nat.reduceEqDiff, hbT, evBuild, evLit, evMake, tab, isShift, thenA, blockA, reduceCtorEq, reduceIte, Nat.reduceBEq, Int.reduceLE, Int.reduceToNat, Nat.reduceAdd, Nat.reduceLT, Nat.reduceLeDiff, locM hm, plC, List.length_map, hlt, gi, rtC, Int.reduceBNe, splice_all, hne, e1, e2, e3, e4, e5])
              | ((with_reducible refine awp_ev_draw (id := 30) tab_ok [(148, none)] [[], [2], [], [], [1], [3], [], [1], [3], []] [[], [], [], [], [], [3], [], [], [3], []] follows (by kernel_rfl) (by decide) (by decide) (by kernel_rfl) ?_); simp (maxSteps := 4000000) only [sx, sy, ne_eq, eq_self, if_true, if_false, Nat.reduceEqDiff, hbT, evBuild, evLit, evMake, tab, isShift, thenA, blockA, reduceCtorEq, reduceIte, Nat.reduceBEq, Int.reduceLE, Int.reduceToNat, Nat.reduceAdd, Nat.reduceLT, Nat.reduceLeDiff, locM hm, plC, List.length_map, hlt, gi, rtC, Int.reduceBNe, splice_all, hne, e1, e2, e3, e4, e5])
              | ((with_reducible refine awp_ev_quiet tab_ok follows (by kernel_rfl) ?_); simp (maxSteps := 4000000) only [sx, sy, ne_eq, eq_self, if_true, if_false, Nat.reduceEqDiff, hbT, evBuild, evLit, evMake, tab, isShift, thenA, blockA, reduceCtorEq, reduceIte, Nat.reduceBEq, Int.reduceLE, Int.reduceToNat, Nat.reduceAdd, Nat.reduceLT, Nat.reduceLeDiff, locM hm, plC, List.length_map, hlt, gi, rtC, Int.reduceBNe, splice_all, hne, e1, e2, e3, e4, e5])
              | with_reducible refine awp_block_s ?_
              | with_reducible refine awp_block_c ?_
              | with_reducible refine awp_block_r ?_
              | with_reducible refine awp_skip ?_
              | with_reducible apply And.intro
              | (show Program.eqGuardType _ _ _ = false; kernel_rfl)
              | (show numFieldsB _ _ _ = true; kernel_rfl)
              | (show Program.stoodInHeld _ _ = false; kernel_rfl)
              | (show (_ : Nat) = (_ : Nat); rfl)
              | ((with_reducible refine awp_ret ?_); refine ret_tmp (.inr rfl) rfl rfl rfl (fun _ _ => rfl) ?_ <;> first | rfl | rfl | skip)
              | ((with_reducible refine awp_ret ?_); refine Or.inr ⟨(by intro h; cases h), ?_⟩; refine ret_tmp (.inr rfl) rfl rfl rfl (fun _ _ => rfl) ?_ <;> first | rfl | rfl | skip)
              | (refine call_pure (c1) ?_; simp (maxSteps := 4000000) only [sx, sy, ne_eq, eq_self, if_true, if_false, Nat.reduceEqDiff, hbT, evBuild, evLit, evMake, tab, isShift, thenA, blockA, reduceCtorEq, reduceIte, Nat.reduceBEq, Int.reduceLE, Int.reduceToNat, Nat.reduceAdd, Nat.reduceLT, Nat.reduceLeDiff, locM hm, plC, List.length_map, hlt, gi, rtC, Int.reduceBNe, splice_all, hne, e1, e2, e3, e4, e5])
              | ((with_reducible refine gsel_case (fun hg => ?_) (fun hg => ?_)) <;> (try simp only [Bool.not_eq_true', Bool.not_eq_false'] at hg) <;> simp (maxSteps := 4000000) only [sx, sy, ne_eq, eq_self, if_true, if_false, Nat.reduceEqDiff, hbT, evBuild, evLit, evMake, tab, isShift, thenA, blockA, reduceCtorEq, reduceIte, Nat.reduceBEq, Int.reduceLE, Int.reduceToNat, Nat.reduceAdd, Nat.reduceLT, Nat.reduceLeDiff, hg, locM hm, plC, List.length_map, hlt, gi, rtC, Int.reduceBNe, splice_all, hne, e1, e2, e3, e4, e5])
              | ((with_reducible refine awp_exit ?_); simp only [thenA, blockA, if_true, if_false, reduceIte, Nat.reduceEqDiff])
              | (refine hK _ ?_; clear hK K)
              | refine awp_cond_t rfl ?_
              | refine awp_cond_f rfl ?_
              | refine awp_if rfl (fun hg => ?_) (fun hg => ?_)
              | (refine Or.inl ⟨rfl, ?_⟩; refine le_of_all ?_ ?_ rfl rfl rfl rfl <;> simp only [patch, sl, locM hm, plC, List.length_map, hlt, gi, rtC, Int.reduceBNe, splice_all, hne, e1, e2, e3, e4, e5])
              | clear hK K)
            clear e1 e2 e3 e4 e5
            have hlti := hlt
            refine awp_block ?_
            refine awp_for_g (fun k : Nat => [(15, i64 (k : Int)), (14, .sl 1 (A.map intC) .sh), (2, .top), (16, .top), (17, .top), (18, .top), (152, .top), (153, .top), (154, .top), (155, .top), (156, .top), (157, .top), (158, .top), (159, .top), (160, .top), (161, .top), (162, .top), (163, .top), (164, .top), (165, .top), (166, .top), (167, .top), (168, .top), (169, .top), (170, .top), (171, .top), (172, .top), (173, .top), (174, .top), (175, .top), (176, .top), (177, .top), (178, .top), (179, .top), (180, .top), (181, .top), (182, .top)]) (fun k => [some (.box 27 (plC p)), some (.box 34 (rtC p.rts[i])), some (.box 48 (sgC en)), some (.row 3 1 (1 + p.rts[i].path.length + p.rts[i].over.length))]) (fun k => out) (fun k => k ≤ A.length) (fun k => A.length - k) 0 (Nat.zero_le _) ?_ fun k hk => ?_
            · refine le_of_all ?_ ?_ (by first | rfl | (simp only [hal, plC, rtC, sgC, List.length_map]; rfl) | simp only [hal, plC, rtC, sgC, List.length_map]) rfl rfl rfl <;> simp only [patch, sl, hal, plC, rtC, sgC, List.length_map]
            simp only [patch, s_0, s_s]
            have hw2 := addw (n := k) 1 1 rfl (by omega)
            by_cases hltk : k < A.length
            · have gk := getD_map intC A k [] hltk
              obtain ⟨u1, u2⟩ := z3 k hltk
              have c2 := c_pStands p hs A[k] 0
              rw [stE_first hmay u1] at c2
              generalize stL p A[k] 0 = SL at c2
              simp only [plA, plC] at c2
              repeat' (first
                | with_reducible refine awp_seq_k fun K hK => ?_
                | ((with_reducible refine awp_ev tab_ok [] ?_); simp (maxSteps := 4000000) only [sx, sy, ne_eq, eq_self, if_true, if_false, Nat.reduceEqDiff, hbT, evBuild, evLit, evMake, tab, isShift, thenA, blockA, reduceCtorEq, reduceIte, Nat.reduceBEq, Int.reduceLE, Int.reduceToNat, Nat.reduceAdd, Nat.reduceLT, Nat.reduceLeDiff, locM hm, plC, List.length_map, hltk, gk, intC, Int.reduceBNe])
                | ((with_reducible refine awp_ev_quiet tab_ok follows (by kernel_rfl) ?_); simp (maxSteps := 4000000) only [sx, sy, ne_eq, eq_self, if_true, if_false, Nat.reduceEqDiff, hbT, evBuild, evLit, evMake, tab, isShift, thenA, blockA, reduceCtorEq, reduceIte, Nat.reduceBEq, Int.reduceLE, Int.reduceToNat, Nat.reduceAdd, Nat.reduceLT, Nat.reduceLeDiff, locM hm, plC, List.length_map, hltk, gk, intC, Int.reduceBNe])
                | with_reducible refine awp_block_s ?_
                | with_reducible refine awp_block_c ?_
                | with_reducible refine awp_block_r ?_
                | with_reducible refine awp_skip ?_
                | with_reducible apply And.intro
                | (show Program.eqGuardType _ _ _ = false; kernel_rfl)
                | (show numFieldsB _ _ _ = true; kernel_rfl)
                | (show Program.stoodInHeld _ _ = false; kernel_rfl)
                | (show (_ : Nat) = (_ : Nat); rfl)
                | ((with_reducible refine awp_ret ?_); refine ret_tmp (.inr rfl) rfl rfl rfl (fun _ _ => rfl) ?_ <;> first | rfl | rfl | skip)
                | ((with_reducible refine awp_ret ?_); refine Or.inr ⟨(by intro h; cases h), ?_⟩; refine ret_tmp (.inr rfl) rfl rfl rfl (fun _ _ => rfl) ?_ <;> first | rfl | rfl | skip)
                | (refine call_pure (c2) ?_; simp (maxSteps := 4000000) only [sx, sy, ne_eq, eq_self, if_true, if_false, Nat.reduceEqDiff, hbT, evBuild, evLit, evMake, tab, isShift, thenA, blockA, reduceCtorEq, reduceIte, Nat.reduceBEq, Int.reduceLE, Int.reduceToNat, Nat.reduceAdd, Nat.reduceLT, Nat.reduceLeDiff, locM hm, plC, List.length_map, hltk, gk, intC, Int.reduceBNe])
                | ((with_reducible refine gsel_case (fun hg => ?_) (fun hg => ?_)) <;> (try simp only [Bool.not_eq_true', Bool.not_eq_false'] at hg) <;> simp (maxSteps := 4000000) only [sx, sy, ne_eq, eq_self, if_true, if_false, Nat.reduceEqDiff, hbT, evBuild, evLit, evMake, tab, isShift, thenA, blockA, reduceCtorEq, reduceIte, Nat.reduceBEq, Int.reduceLE, Int.reduceToNat, Nat.reduceAdd, Nat.reduceLT, Nat.reduceLeDiff, hg, locM hm, plC, List.length_map, hltk, gk, intC, Int.reduceBNe])
                | ((with_reducible refine awp_exit ?_); simp only [thenA, blockA, if_true, if_false, reduceIte, Nat.reduceEqDiff])
                | (refine hK _ ?_; clear hK K)
                | refine awp_cond_t rfl ?_
                | refine awp_cond_f rfl ?_
                | refine awp_if rfl (fun hg => ?_) (fun hg => ?_)
                | (refine Or.inl ⟨rfl, ?_⟩; refine le_of_all ?_ ?_ rfl rfl rfl rfl <;> simp only [patch, sl, locM hm, plC, List.length_map, hltk, gk, intC, Int.reduceBNe])
                | clear hK K)
              refine awp_block ?_
              refine awp_for_g (fun q : Nat => [(18, i64 (q : Int)), (2, .top), (169, .top), (170, .top), (171, .top), (172, .top), (173, .top), (174, .top), (175, .top), (176, .top), (177, .top), (178, .top), (179, .top), (180, .top), (181, .top), (182, .top)]) (fun q => [some (.box 27 (plC p)), some (.box 34 (rtC p.rts[i])), some (.box 48 (sgC en)), some (.row 3 1 (1 + p.rts[i].path.length + p.rts[i].over.length))]) (fun q => out) (fun q => q ≤ k) (fun q => k - q) 0 (Nat.zero_le _) ?_ fun q hq => ?_
              · refine le_of_all ?_ ?_ (by first | rfl | (simp only [plC, rtC, sgC]; rfl) | simp only [plC, rtC, sgC]) rfl rfl rfl <;> simp only [patch, sl, plC, rtC, sgC]
              simp only [patch, s_0, s_s]
              have hw3 := addw (n := q) 1 1 rfl (by omega)
              by_cases hltq : q < k
              · have gq := getD_map intC A q [] (by omega)
                have hq2 : q < A.length := by omega
                have hb : (A[q] == A[k]) = false := by simpa using u2 q hltq
                repeat' (first
                  | with_reducible refine awp_seq_k fun K hK => ?_
                  | ((with_reducible refine awp_ev tab_ok [] ?_); simp (maxSteps := 4000000) only [sx, sy, ne_eq, eq_self, if_true, if_false, Nat.reduceEqDiff, hbT, evBuild, evLit, evMake, tab, isShift, thenA, blockA, reduceCtorEq, reduceIte, Nat.reduceBEq, Int.reduceLE, Int.reduceToNat, Nat.reduceAdd, Nat.reduceLT, Nat.reduceLeDiff, locM hm, List.length_map, hltk, hltq, hq2, gk, gq, intC, hb, hw3])
                  | ((with_reducible refine awp_ev_quiet tab_ok follows (by kernel_rfl) ?_); simp (maxSteps := 4000000) only [sx, sy, ne_eq, eq_self, if_true, if_false, Nat.reduceEqDiff, hbT, evBuild, evLit, evMake, tab, isShift, thenA, blockA, reduceCtorEq, reduceIte, Nat.reduceBEq, Int.reduceLE, Int.reduceToNat, Nat.reduceAdd, Nat.reduceLT, Nat.reduceLeDiff, locM hm, List.length_map, hltk, hltq, hq2, gk, gq, intC, hb, hw3])
                  | with_reducible refine awp_block_s ?_
                  | with_reducible refine awp_block_c ?_
                  | with_reducible refine awp_block_r ?_
                  | with_reducible refine awp_skip ?_
                  | with_reducible apply And.intro
                  | (show Program.eqGuardType _ _ _ = false; kernel_rfl)
                  | (show numFieldsB _ _ _ = true; kernel_rfl)
                  | (show Program.stoodInHeld _ _ = false; kernel_rfl)
                  | (show (_ : Nat) = (_ : Nat); rfl)
                  | ((with_reducible refine awp_ret ?_); refine ret_tmp (.inr rfl) rfl rfl rfl (fun _ _ => rfl) ?_ <;> first | rfl | rfl | skip)
                  | ((with_reducible refine awp_ret ?_); refine Or.inr ⟨(by intro h; cases h), ?_⟩; refine ret_tmp (.inr rfl) rfl rfl rfl (fun _ _ => rfl) ?_ <;> first | rfl | rfl | skip)
                  | ((with_reducible refine gsel_case (fun hg => ?_) (fun hg => ?_)) <;> (try simp only [Bool.not_eq_true', Bool.not_eq_false'] at hg) <;> simp (maxSteps := 4000000) only [sx, sy, ne_eq, eq_self, if_true, if_false, Nat.reduceEqDiff, hbT, evBuild, evLit, evMake, tab, isShift, thenA, blockA, reduceCtorEq, reduceIte, Nat.reduceBEq, Int.reduceLE, Int.reduceToNat, Nat.reduceAdd, Nat.reduceLT, Nat.reduceLeDiff, hg, locM hm, List.length_map, hltk, hltq, hq2, gk, gq, intC, hb, hw3])
                  | ((with_reducible refine awp_exit ?_); simp only [thenA, blockA, if_true, if_false, reduceIte, Nat.reduceEqDiff])
                  | (refine hK _ ?_; clear hK K)
                  | refine awp_cond_t rfl ?_
                  | refine awp_cond_f rfl ?_
                  | refine awp_if rfl (fun hg => ?_) (fun hg => ?_)
                  | (refine Or.inl ⟨rfl, ?_⟩; refine le_of_all ?_ ?_ rfl rfl rfl rfl <;> simp only [patch, sl, locM hm, List.length_map, hltk, hltq, hq2, gk, gq, intC, hb, hw3])
                  | clear hK K)
                refine ⟨q + 1, by omega, by omega, ?_⟩
                refine le_of_all ?_ ?_ rfl rfl rfl rfl <;> simp only [patch, sl, hltq, decide_true]
              · obtain rfl : q = k := by omega
                repeat' (first
                  | with_reducible refine awp_seq_k fun K hK => ?_
                  | ((with_reducible refine awp_ev tab_ok [] ?_); simp (maxSteps := 4000000) only [sx, sy, ne_eq, eq_self, if_true, if_false, Nat.reduceEqDiff, hbT, evBuild, evLit, evMake, tab, isShift, thenA, blockA, reduceCtorEq, reduceIte, Nat.reduceBEq, Int.reduceLE, Int.reduceToNat, Nat.reduceAdd, Nat.reduceLT, Nat.reduceLeDiff, locM hm, List.length_map, hltq, hw2])
                  | ((with_reducible refine awp_ev_quiet tab_ok follows (by kernel_rfl) ?_); simp (maxSteps := 4000000) only [sx, sy, ne_eq, eq_self, if_true, if_false, Nat.reduceEqDiff, hbT, evBuild, evLit, evMake, tab, isShift, thenA, blockA, reduceCtorEq, reduceIte, Nat.reduceBEq, Int.reduceLE, Int.reduceToNat, Nat.reduceAdd, Nat.reduceLT, Nat.reduceLeDiff, locM hm, List.length_map, hltq, hw2])
                  | with_reducible refine awp_block_s ?_
                  | with_reducible refine awp_block_c ?_
                  | with_reducible refine awp_block_r ?_
                  | with_reducible refine awp_skip ?_
                  | with_reducible apply And.intro
                  | (show Program.eqGuardType _ _ _ = false; kernel_rfl)
                  | (show numFieldsB _ _ _ = true; kernel_rfl)
                  | (show Program.stoodInHeld _ _ = false; kernel_rfl)
                  | (show (_ : Nat) = (_ : Nat); rfl)
                  | ((with_reducible refine awp_ret ?_); refine ret_tmp (.inr rfl) rfl rfl rfl (fun _ _ => rfl) ?_ <;> first | rfl | rfl | skip)
                  | ((with_reducible refine awp_ret ?_); refine Or.inr ⟨(by intro h; cases h), ?_⟩; refine ret_tmp (.inr rfl) rfl rfl rfl (fun _ _ => rfl) ?_ <;> first | rfl | rfl | skip)
                  | ((with_reducible refine gsel_case (fun hg => ?_) (fun hg => ?_)) <;> (try simp only [Bool.not_eq_true', Bool.not_eq_false'] at hg) <;> simp (maxSteps := 4000000) only [sx, sy, ne_eq, eq_self, if_true, if_false, Nat.reduceEqDiff, hbT, evBuild, evLit, evMake, tab, isShift, thenA, blockA, reduceCtorEq, reduceIte, Nat.reduceBEq, Int.reduceLE, Int.reduceToNat, Nat.reduceAdd, Nat.reduceLT, Nat.reduceLeDiff, hg, locM hm, List.length_map, hltq, hw2])
                  | ((with_reducible refine awp_exit ?_); simp only [thenA, blockA, if_true, if_false, reduceIte, Nat.reduceEqDiff])
                  | (refine hK _ ?_; clear hK K)
                  | refine awp_cond_t rfl ?_
                  | refine awp_cond_f rfl ?_
                  | refine awp_if rfl (fun hg => ?_) (fun hg => ?_)
                  | (refine Or.inl ⟨rfl, ?_⟩; refine le_of_all ?_ ?_ rfl rfl rfl rfl <;> simp only [patch, sl, locM hm, List.length_map, hltq, hw2])
                  | clear hK K)
                refine ⟨q + 1, by omega, by omega, ?_⟩
                refine le_of_all ?_ ?_ rfl rfl rfl rfl <;> simp only [patch, sl, hltk, decide_true]
            · obtain rfl : k = A.length := by omega
              repeat' (first
                | with_reducible refine awp_seq_k fun K hK => ?_
                | ((with_reducible refine awp_ev tab_ok [] ?_); simp (maxSteps := 4000000) only [sx, sy, ne_eq, eq_self, if_true, if_false, Nat.reduceEqDiff, hbT, evBuild, evLit, evMake, tab, isShift, thenA, blockA, reduceCtorEq, reduceIte, Nat.reduceBEq, Int.reduceLE, Int.reduceToNat, Nat.reduceAdd, Nat.reduceLT, Nat.reduceLeDiff, locM hm, List.length_map, hltk, hw])
                | ((with_reducible refine awp_ev_quiet tab_ok follows (by kernel_rfl) ?_); simp (maxSteps := 4000000) only [sx, sy, ne_eq, eq_self, if_true, if_false, Nat.reduceEqDiff, hbT, evBuild, evLit, evMake, tab, isShift, thenA, blockA, reduceCtorEq, reduceIte, Nat.reduceBEq, Int.reduceLE, Int.reduceToNat, Nat.reduceAdd, Nat.reduceLT, Nat.reduceLeDiff, locM hm, List.length_map, hltk, hw])
                | with_reducible refine awp_block_s ?_
                | with_reducible refine awp_block_c ?_
                | with_reducible refine awp_block_r ?_
                | with_reducible refine awp_skip ?_
                | with_reducible apply And.intro
                | (show Program.eqGuardType _ _ _ = false; kernel_rfl)
                | (show numFieldsB _ _ _ = true; kernel_rfl)
                | (show Program.stoodInHeld _ _ = false; kernel_rfl)
                | (show (_ : Nat) = (_ : Nat); rfl)
                | ((with_reducible refine awp_ret ?_); refine ret_tmp (.inr rfl) rfl rfl rfl (fun _ _ => rfl) ?_ <;> first | rfl | rfl | skip)
                | ((with_reducible refine awp_ret ?_); refine Or.inr ⟨(by intro h; cases h), ?_⟩; refine ret_tmp (.inr rfl) rfl rfl rfl (fun _ _ => rfl) ?_ <;> first | rfl | rfl | skip)
                | ((with_reducible refine gsel_case (fun hg => ?_) (fun hg => ?_)) <;> (try simp only [Bool.not_eq_true', Bool.not_eq_false'] at hg) <;> simp (maxSteps := 4000000) only [sx, sy, ne_eq, eq_self, if_true, if_false, Nat.reduceEqDiff, hbT, evBuild, evLit, evMake, tab, isShift, thenA, blockA, reduceCtorEq, reduceIte, Nat.reduceBEq, Int.reduceLE, Int.reduceToNat, Nat.reduceAdd, Nat.reduceLT, Nat.reduceLeDiff, hg, locM hm, List.length_map, hltk, hw])
                | ((with_reducible refine awp_exit ?_); simp only [thenA, blockA, if_true, if_false, reduceIte, Nat.reduceEqDiff])
                | (refine hK _ ?_; clear hK K)
                | refine awp_cond_t rfl ?_
                | refine awp_cond_f rfl ?_
                | refine awp_if rfl (fun hg => ?_) (fun hg => ?_)
                | (refine Or.inl ⟨rfl, ?_⟩; refine le_of_all ?_ ?_ rfl rfl rfl rfl <;> simp only [patch, sl, locM hm, List.length_map, hltk, hw])
                | clear hK K)
              refine ⟨i + 1, by omega, by omega, ?_⟩
              refine le_move [true, false, false, false] (fun n_ => ?_) (fun n_ => ?_) <;> simp only [patch, sm, plC, hlti, decide_true]
          · obtain rfl : i = p.rts.length := by omega
            repeat' (first
              | with_reducible refine awp_seq_k fun K hK => ?_
              | ((with_reducible refine awp_ev tab_ok [] ?_); simp (maxSteps := 4000000) only [sx, sy, ne_eq, eq_self, if_true, if_false, Nat.reduceEqDiff, hbT, evBuild, evLit, evMake, tab, isShift, thenA, blockA, reduceCtorEq, reduceIte, Nat.reduceBEq, Int.reduceLE, Int.reduceToNat, Nat.reduceAdd, Nat.reduceLT, Nat.reduceLeDiff, locM hm, plC, List.length_map, hlt])
              | ((with_reducible refine awp_ev_quiet tab_ok follows (by kernel_rfl) ?_); simp (maxSteps := 4000000) only [sx, sy, ne_eq, eq_self, if_true, if_false, Nat.reduceEqDiff, hbT, evBuild, evLit, evMake, tab, isShift, thenA, blockA, reduceCtorEq, reduceIte, Nat.reduceBEq, Int.reduceLE, Int.reduceToNat, Nat.reduceAdd, Nat.reduceLT, Nat.reduceLeDiff, locM hm, plC, List.length_map, hlt])
              | with_reducible refine awp_block_s ?_
              | with_reducible refine awp_block_c ?_
              | with_reducible refine awp_block_r ?_
              | with_reducible refine awp_skip ?_
              | with_reducible apply And.intro
              | (show Program.eqGuardType _ _ _ = false; kernel_rfl)
              | (show numFieldsB _ _ _ = true; kernel_rfl)
              | (show Program.stoodInHeld _ _ = false; kernel_rfl)
              | (show (_ : Nat) = (_ : Nat); rfl)
              | ((with_reducible refine awp_ret ?_); refine ret_tmp (.inr rfl) rfl rfl rfl (fun _ _ => rfl) ?_ <;> first | rfl | rfl | skip)
              | ((with_reducible refine awp_ret ?_); refine Or.inr ⟨(by intro h; cases h), ?_⟩; refine ret_tmp (.inr rfl) rfl rfl rfl (fun _ _ => rfl) ?_ <;> first | rfl | rfl | skip)
              | ((with_reducible refine gsel_case (fun hg => ?_) (fun hg => ?_)) <;> (try simp only [Bool.not_eq_true', Bool.not_eq_false'] at hg) <;> simp (maxSteps := 4000000) only [sx, sy, ne_eq, eq_self, if_true, if_false, Nat.reduceEqDiff, hbT, evBuild, evLit, evMake, tab, isShift, thenA, blockA, reduceCtorEq, reduceIte, Nat.reduceBEq, Int.reduceLE, Int.reduceToNat, Nat.reduceAdd, Nat.reduceLT, Nat.reduceLeDiff, hg, locM hm, plC, List.length_map, hlt])
              | ((with_reducible refine awp_exit ?_); simp only [thenA, blockA, if_true, if_false, reduceIte, Nat.reduceEqDiff])
              | (refine hK _ ?_; clear hK K)
              | refine awp_cond_t rfl ?_
              | refine awp_cond_f rfl ?_
              | refine awp_if rfl (fun hg => ?_) (fun hg => ?_)
              | (refine Or.inl ⟨rfl, ?_⟩; refine le_of_all ?_ ?_ rfl rfl rfl rfl <;> simp only [patch, sl, locM hm, plC, List.length_map, hlt])
              | clear hK K)
end Go.Proofs.Ytdkiciofkifpdaa.Pln
