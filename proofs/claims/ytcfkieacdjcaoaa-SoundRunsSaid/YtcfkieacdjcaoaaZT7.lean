/-
  The law SoundRuns.
-/
import Derived.Test.YtcfkieacdjcaoaaZG0
import Derived.Test.YtcfkieacdjcaoaaZT6
namespace Go.Proofs.Ytcfkieacdjcaoaa.Pln
set_option linter.unusedVariables false
set_option linter.unusedSimpArgs false
open Go Go.VS Tab
set_option maxHeartbeats 16000000
set_option maxRecDepth 8000
theorem rzR : repZero [Value.int IntKind.i64 0] 100 = List.replicate 100 (i64 0) := by rfl
theorem c_lawRuns (p : Pl) (id : Int) : ACall Try.prog 11 [plA p, i64 id] [] (bool true) [] := by
  have cg := c_rgreat p
  simp only [plA, plC] at cg
  cases hG : greatP p with
  | true =>
    rw [hG] at cg
    refine acall_of 7 Try.func11 rfl fun n out _ _ => ?_
    simp only [Try.ntmps11, List.length_cons, List.length_nil, List.length_map, List.length_replicate, rep_map, Nat.reduceAdd, Nat.reduceSub, List.replicate, List.cons_append, List.nil_append]
    repeat' (first | (with_reducible first | refine awp_seq_k fun K hK => ?_ | refine awp_ev tab_ok [] ?_ | refine awp_block_s ?_ | refine awp_block_c ?_ | refine awp_block_r ?_ | refine awp_skip ?_ | apply And.intro) | (with_reducible refine awp_ev_quiet tab_ok follows (by kernel_rfl) ?_) | ((with_reducible first | refine gE ?_ | refine gR ?_); simp (maxSteps := 4000000) only [su, evLit, hbT, tab, thenA, blockA, reduceCtorEq, reduceIte, Nat.reduceEqDiff, Nat.reduceBEq, Int.reduceLE, Int.reduceToNat, Nat.reduceAdd, Nat.reduceLT, Nat.reduceLeDiff, plA, plC]) | (show (_ : Nat) = (_ : Nat); rfl) | ((with_reducible refine awp_ret ?_); (try refine Or.inr ⟨(by intro h; cases h), ?_⟩); refine ret_tmp (.inr rfl) rfl rfl rfl (fun _ _ => rfl) ?_ <;> first | rfl | skip) | (refine call_pure (cg) ?_) | (refine call_pure (c_salive) ?_) | ((with_reducible refine gsel_case (fun hg => ?_) (fun hg => ?_)) <;> (try simp only [nb] at hg) <;> simp (maxSteps := 4000000) only [su, evLit, hbT, tab, thenA, blockA, reduceCtorEq, reduceIte, Nat.reduceEqDiff, Nat.reduceBEq, Int.reduceLE, Int.reduceToNat, Nat.reduceAdd, Nat.reduceLT, Nat.reduceLeDiff, hg, plA, plC]) | ((with_reducible refine awp_exit ?_); simp only [thenA, blockA, if_true, if_false, reduceIte, Nat.reduceEqDiff]) | (refine hK _ ?_; clear hK K) | refine awp_cond_t rfl ?_ | refine awp_cond_f rfl ?_ | refine awp_if rfl (fun hg => ?_) (fun hg => ?_) | ((first | show Program.eqGuardType _ _ _ = false | show numFieldsB _ _ _ = true | show Program.stoodInHeld _ _ = false); kernel_rfl) | clear hK K)
  | false =>
    rw [hG] at cg
    have hs := small_of hG
    have c1 := c_soundC p hs
    have c2 : ACall Try.prog 22 [plA p, i64 id] [] (.tup [rtA (rtO p id), i64 (rtE p id)]) [] := c_pRoute p hs id
    by_cases hR : rtE p id = 0
    · by_cases hE : soundE p = 0
      · obtain ⟨hmy, hr⟩ := rtE_zero hR
        obtain ⟨_, hS⟩ := sound_zero hE
        obtain ⟨f1, f2⟩ := hS _ hr
        have e1 : ofE p id = 0 := by unfold ofE; rw [if_pos hR]; exact f1
        have e2 : ofW p id = folW p (rtO p id) := by unfold ofW; rw [if_pos hR]
        have c3 := c_of p hs id
        rw [e1, e2] at c3
        have g := gone_fol hmy hr f1
        unfold soundR at f2
        rw [Bool.and_eq_true] at f2
        obtain ⟨ho, hc⟩ := f2
        obtain ⟨_, en, z1, z2, z3, z4⟩ := entry_of hmy hr
        obtain ⟨b1, b2, b3⟩ := hs.rt _ hr
        have cG := c_pSignal p hs (rtO p id).entry
        rw [hmy, z1] at cG
        simp only [plA, plC, elD, elE, if_true, Option.getD_some, Option.isSome_some, sgA, sgC] at cG
        obtain ⟨q1, q2, q3⟩ := sgs_sec (may_parts hmy).2.1 (may_parts hmy).2.2.2.1 z3
        obtain ⟨s0, hs0⟩ := Option.isSome_iff_exists.1 q3
        obtain ⟨m0, i0⟩ := getS_some hs0
        obtain ⟨u1, u2⟩ := z4 s0 m0 (by simp [i0])
        obtain ⟨n1, n2⟩ := next_of hmy hs0 u1 u2
        have hin0 : (runW p (rtO p id) 0).inn = nextD p.secs en.2.1 en.2.2 := by
          rw [n1]
          show inAt p.secs (lastG p.sgs (rtO p id).entry) = _
          rw [z2]
          exact inAt_of (may_parts hmy).2.1 m0 i0
        have cN := fun (a b : Int) => c_tnext p.secs a b (by have := hs.secs; omega) fun s h => by have := hs.ends s h; omega
        have cF := fun (a : Int) => c_tfind p.secs a (by have := hs.secs; omega) fun s h => by have := hs.ends s h; omega
        have cS := fun (a b : Int) => c_pStands p hs a b
        obtain ⟨t1, t2, t3⟩ := fol_tiny hs hr
        have c4 := cN en.2.1 en.2.2
        rw [n2, ← hin0] at c4
        rw [hE] at c1
        rw [hR] at c2
        have hone := g.one
        have hpth := g.path
        have hrun := fun {i : Nat} (hi : i < (rtO p id).path.length) => round_run g ho hc hi
        have hask := gone_ask g
        have hfree := fun {k : Nat} (hk : k < (folW p (rtO p id)).asks.length) => look_free ho hk
        clear hS f1 e1 e2 hc z4 n1 hin0 hr z1 z2 hR g
        generalize rtO p id = r at *
        generalize folW p r = W at *
        obtain ⟨J, hJ⟩ : ∃ J : Nat → Int × Int, J = fun i => (runW p r i).inn := ⟨_, rfl⟩
        have hJi : ∀ i, (runW p r i).inn = J i := fun i => by rw [hJ]
        simp only [hJi] at hrun c4
        clear hJ hJi
        obtain ⟨AL, hAL⟩ : ∃ AL, AL = askL W.asks := ⟨_, rfl⟩
        have hA0 : askL (W.asks.take 0) = [] := rfl
        have hA1 : askL [] = [] := rfl
        have hAs : ∀ k (h : k < W.asks.length), askL (W.asks.take (k + 1)) = askL (W.asks.take k) ++ [(W.asks[k].1, W.asks[k].2.1)] := fun k h => by unfold askL; rw [List.take_succ_eq_append_getElem h, List.map_append]; rfl
        simp only [plA, plC, wyA, wyC, rtA, rtC, jnA, jnC, hpth] at c1 c2 c3 c4
        refine acall_of 7 Try.func11 rfl fun n out _ _ => ?_
        simp only [Try.ntmps11, List.length_cons, List.length_nil, List.length_map, List.length_replicate, rep_map, Nat.reduceAdd, Nat.reduceSub, List.replicate, List.cons_append, List.nil_append]
        repeat' (first | (with_reducible first | refine awp_seq_k fun K hK => ?_ | refine awp_ev tab_ok [(64, none)] ?_ | refine awp_block_s ?_ | refine awp_block_c ?_ | refine awp_block_r ?_ | refine awp_skip ?_ | apply And.intro) | (with_reducible refine awp_ev_quiet tab_ok follows (by kernel_rfl) ?_) | ((with_reducible first | refine gE ?_ | refine gR ?_); simp (maxSteps := 4000000) only [su, evLit, hbT, tab, thenA, blockA, reduceCtorEq, reduceIte, Nat.reduceEqDiff, Nat.reduceBEq, Int.reduceLE, Int.reduceToNat, Nat.reduceAdd, Nat.reduceLT, Nat.reduceLeDiff, plA, plC, rtC, wyC, sgC, splice_all, Int.reduceBNe, List.length_map, Int.cast_ofNat_Int, Int.reduceMul]) | (show (_ : Nat) = (_ : Nat); rfl) | ((with_reducible refine awp_ret ?_); (try refine Or.inr ⟨(by intro h; cases h), ?_⟩); refine ret_tmp (.inr rfl) rfl rfl rfl (fun _ _ => rfl) ?_ <;> first | rfl | skip) | (refine call_pure (cg) ?_) | (refine call_pure (c_salive) ?_) | (refine call_pure (c1) ?_) | (refine call_pure (c2) ?_) | (refine call_pure (c3) ?_) | (refine call_pure (cG) ?_) | ((with_reducible refine gsel_case (fun hg => ?_) (fun hg => ?_)) <;> (try simp only [nb] at hg) <;> simp (maxSteps := 4000000) only [su, evLit, hbT, tab, thenA, blockA, reduceCtorEq, reduceIte, Nat.reduceEqDiff, Nat.reduceBEq, Int.reduceLE, Int.reduceToNat, Nat.reduceAdd, Nat.reduceLT, Nat.reduceLeDiff, hg, plA, plC, rtC, wyC, sgC, splice_all, Int.reduceBNe, List.length_map, Int.cast_ofNat_Int, Int.reduceMul]) | ((with_reducible refine awp_exit ?_); simp only [thenA, blockA, if_true, if_false, reduceIte, Nat.reduceEqDiff]) | (refine hK _ ?_; clear hK K) | refine awp_cond_t rfl ?_ | refine awp_cond_f rfl ?_ | refine awp_if rfl (fun hg => ?_) (fun hg => ?_) | ((first | show Program.eqGuardType _ _ _ = false | show numFieldsB _ _ _ = true | show Program.stoodInHeld _ _ = false); kernel_rfl) | clear hK K)
        refine awp_block ?_
        refine awp_for_mv (fun m (k : Nat) => [(13, i64 (k : Int)), (2, .ptr (m + 0) 0), (6, .ptr (m + 1) 0), (8, .ptr (m + 2) 0), (10, .ptr (m + 3) 0), (12, .bsl (m + 4) 0 100 true), (4, .top), (65, .top), (66, .top), (67, .top), (68, .top), (69, .top), (70, .top), (71, .top), (72, .top), (73, .top), (74, .top), (75, .top), (76, .top), (77, .top), (78, .top), (79, .top), (80, .top), (81, .top), (82, .top), (83, .top), (84, .top), (85, .top), (86, .top), (87, .top), (88, .top), (89, .top), (90, .top), (91, .top), (92, .top), (93, .top), (94, .top), (95, .top)]) (fun m k => [some (.box 27 (plC p)), some (.box 34 (rtC r)), some (.box 59 [.sl 1 (r.path.map intC) .sh, .sl 1 (W.over.map intC) .sh, .sl 3 (W.asks.map sgC) .sh, i64 W.near]), some (.box 36 (sgC en)), some (.box 3 (lookA (askL (W.asks.take k)))), none, none]) (fun k => out) (fun k => k ≤ W.asks.length) (fun k => W.asks.length - k) 0 (Nat.zero_le _) ?_ fun m k hm hk => ?_
        · refine le_of_all ?_ ?_ (by first | rfl | (simp only [plC, rtC, wyC, sgC, hA0, hA1, lookA_nil, rzR]; rfl) | simp only [plC, rtC, wyC, sgC, hA0, hA1, lookA_nil, rzR]) rfl rfl rfl <;> simp only [patch, sl, plC, rtC, wyC, sgC, hA0, hA1, lookA_nil, rzR]
        simp only [patch, s_0, s_s]
        have hw2 := addw (n := k) 1 1 rfl (by omega)
        by_cases hlt : k < W.asks.length
        · have gk := getD_map sgC W.asks k [] hlt
          obtain ⟨x1, x2, _⟩ := hask _ (List.getElem_mem hlt)
          obtain ⟨np, hpt⟩ := Int.eq_ofNat_of_zero_le (Int.le_of_lt x1)
          have hnp : np < 100 := by omega
          have hnp' : (np : Int) < 100 := by omega
          have hnp9 : np ≤ 99 := by omega
          have hz := hfree hlt
          have hak := hAs k hlt
          rw [hpt] at hz hak
          have hst := lookA_set (askL (W.asks.take k)) np hnp W.asks[k].2.1
          rw [← hak] at hst
          clear hfree hask hrun hAs
          repeat' (first | (with_reducible first | refine awp_seq_k fun K hK => ?_ | refine awp_ev tab_ok [] ?_ | refine awp_block_s ?_ | refine awp_block_c ?_ | refine awp_block_r ?_ | refine awp_skip ?_ | apply And.intro) | (with_reducible refine awp_ev_draw (id := 17) tab_ok [] [[], [], [2], [], [], [], [], [], [2], [], [], [], [], [], [4]] [[], [], [], [], [], [], [], [], [], [], [], [], [], [], [4]] follows (by kernel_rfl) (by decide) (by decide) (by kernel_rfl) ?_) | (with_reducible refine awp_ev_quiet tab_ok follows (by kernel_rfl) ?_) | ((with_reducible first | refine gE ?_ | refine gR ?_ | refine gD ?_ | refine gF ?_); simp (maxSteps := 4000000) only [su, evLit, hbT, tab, thenA, blockA, reduceCtorEq, reduceIte, Nat.reduceEqDiff, Nat.reduceBEq, Int.reduceLE, Int.reduceToNat, Nat.reduceAdd, Nat.reduceLT, Nat.reduceLeDiff, locM hm, wyC, sgC, List.length_map, hlt, gk, splice_all, hpt, hnp, hnp', hnp9, lookA_len, lookA_pick _ np 1 hnp, hz, hst, hw2, Int.reduceBNe]) | (show (_ : Nat) = (_ : Nat); rfl) | ((with_reducible refine awp_ret ?_); (try refine Or.inr ⟨(by intro h; cases h), ?_⟩); refine ret_tmp (.inr rfl) rfl rfl rfl (fun _ _ => rfl) ?_ <;> first | rfl | skip) | ((with_reducible refine gsel_case (fun hg => ?_) (fun hg => ?_)) <;> (try simp only [nb] at hg) <;> simp (maxSteps := 4000000) only [su, evLit, hbT, tab, thenA, blockA, reduceCtorEq, reduceIte, Nat.reduceEqDiff, Nat.reduceBEq, Int.reduceLE, Int.reduceToNat, Nat.reduceAdd, Nat.reduceLT, Nat.reduceLeDiff, hg, locM hm, wyC, sgC, List.length_map, hlt, gk, splice_all, hpt, hnp, hnp', hnp9, lookA_len, lookA_pick _ np 1 hnp, hz, hst, hw2, Int.reduceBNe]) | ((with_reducible refine awp_exit ?_); simp only [thenA, blockA, if_true, if_false, reduceIte, Nat.reduceEqDiff]) | (refine hK _ ?_; clear hK K) | refine awp_cond_t rfl ?_ | refine awp_cond_f rfl ?_ | refine awp_if rfl (fun hg => ?_) (fun hg => ?_) | ((first | show Program.eqGuardType _ _ _ = false | show numFieldsB _ _ _ = true | show Program.stoodInHeld _ _ = false); kernel_rfl) | clear hK K)
          refine ⟨k + 1, by omega, by omega, ?_⟩
          refine le_move [true, true, true, true, true, false, false] (fun n_ => ?_) (fun n_ => ?_) <;> simp only [patch, sm, plC, rtC, wyC, sgC, hlt, decide_true]
        · obtain rfl : k = W.asks.length := by omega
          rw [List.take_length, ← hAL]
          clear hfree hask hAs
          repeat' (first | (with_reducible first | refine awp_seq_k fun K hK => ?_ | refine awp_ev tab_ok [] ?_ | refine awp_block_s ?_ | refine awp_block_c ?_ | refine awp_block_r ?_ | refine awp_skip ?_ | apply And.intro) | (with_reducible refine awp_ev_quiet tab_ok follows (by kernel_rfl) ?_) | ((with_reducible first | refine gE ?_ | refine gR ?_); simp (maxSteps := 4000000) only [su, evLit, hbT, tab, thenA, blockA, reduceCtorEq, reduceIte, Nat.reduceEqDiff, Nat.reduceBEq, Int.reduceLE, Int.reduceToNat, Nat.reduceAdd, Nat.reduceLT, Nat.reduceLeDiff, locM hm, plC, rtC, wyC, sgC, splice_all, List.length_map, hlt]) | (show (_ : Nat) = (_ : Nat); rfl) | ((with_reducible refine awp_ret ?_); (try refine Or.inr ⟨(by intro h; cases h), ?_⟩); refine ret_tmp (.inr rfl) rfl rfl rfl (fun _ _ => rfl) ?_ <;> first | rfl | skip) | (refine call_pure (c4) ?_) | ((with_reducible refine gsel_case (fun hg => ?_) (fun hg => ?_)) <;> (try simp only [nb] at hg) <;> simp (maxSteps := 4000000) only [su, evLit, hbT, tab, thenA, blockA, reduceCtorEq, reduceIte, Nat.reduceEqDiff, Nat.reduceBEq, Int.reduceLE, Int.reduceToNat, Nat.reduceAdd, Nat.reduceLT, Nat.reduceLeDiff, hg, locM hm, plC, rtC, wyC, sgC, splice_all, List.length_map, hlt]) | ((with_reducible refine awp_exit ?_); simp only [thenA, blockA, if_true, if_false, reduceIte, Nat.reduceEqDiff]) | (refine hK _ ?_; clear hK K) | refine awp_cond_t rfl ?_ | refine awp_cond_f rfl ?_ | refine awp_if rfl (fun hg => ?_) (fun hg => ?_) | ((first | show Program.eqGuardType _ _ _ = false | show numFieldsB _ _ _ = true | show Program.stoodInHeld _ _ = false); kernel_rfl) | clear hK K)
          have ez : evEq [i64 0, i64 0] [i64 0, i64 0] = some true := evEq_jj (0, 0) (0, 0)
          have cOut := fun (s : Sec) (a c : Int) => c_out s a c
          simp only [secA, secC] at cOut cF
          simp only [jnA, jnC] at cN
          simp only [plA, plC] at cS
          have hwp := subw (n := r.path.length) 1 1 rfl (by omega) (by omega)
          refine awp_block ?_
          refine awp_for_mv (fun m (i : Nat) => [(16, i64 (i : Int)), (15, i64 0), (14, .ptr (m + 5) 0), (2, .ptr (m + 0) 0), (6, .ptr (m + 1) 0), (8, .ptr (m + 2) 0), (10, .ptr (m + 3) 0), (12, .bsl (m + 4) 0 100 true), (4, .top), (17, .top), (18, .top), (19, .top), (20, .top), (21, .top), (22, .top), (23, .top), (106, .top), (107, .top), (108, .top), (109, .top), (110, .top), (111, .top), (112, .top), (113, .top), (114, .top), (115, .top), (116, .top), (117, .top), (118, .top), (119, .top), (120, .top), (121, .top), (122, .top), (123, .top), (124, .top), (125, .top), (126, .top), (127, .top), (128, .top), (129, .top), (130, .top), (131, .top), (132, .top), (133, .top), (134, .top), (135, .top), (136, .top), (137, .top), (138, .top), (139, .top), (140, .top), (141, .top), (142, .top), (143, .top), (144, .top), (145, .top), (146, .top), (147, .top), (148, .top), (149, .top), (150, .top), (151, .top), (152, .top), (153, .top), (154, .top), (155, .top), (156, .top), (157, .top), (158, .top), (159, .top), (160, .top), (161, .top), (162, .top), (163, .top), (164, .top), (165, .top), (166, .top), (167, .top), (168, .top), (169, .top), (170, .top), (171, .top), (172, .top), (173, .top), (174, .top), (175, .top), (176, .top), (177, .top), (178, .top), (179, .top), (180, .top), (181, .top), (182, .top), (183, .top), (184, .top), (185, .top), (186, .top), (187, .top), (188, .top), (189, .top), (190, .top), (191, .top), (192, .top), (193, .top), (194, .top), (195, .top), (196, .top), (197, .top), (198, .top), (199, .top), (200, .top), (201, .top), (202, .top)]) (fun m i => [some (.box 27 (plC p)), some (.box 34 (rtC r)), some (.box 59 [.sl 1 (r.path.map intC) .sh, .sl 1 (W.over.map intC) .sh, .sl 3 (W.asks.map sgC) .sh, i64 W.near]), some (.box 36 (sgC en)), some (.box 3 (lookA AL)), some (.box 68 (jnC (J i))), none]) (fun i => out) (fun i => i ≤ r.path.length ∧ (i = r.path.length → r.ex = 0 → J i = (0, 0))) (fun i => r.path.length - i) 0 ⟨Nat.zero_le _, by intros; omega⟩ ?_ fun m i hm hi => ?_
          · refine le_of_all ?_ ?_ (by first | rfl | (simp only [plC, rtC, wyC, sgC, jnC]; rfl) | simp only [plC, rtC, wyC, sgC, jnC]) rfl rfl rfl <;> simp only [patch, sl, plC, rtC, wyC, sgC, jnC]
          obtain ⟨hi, hq⟩ := hi
          simp only [patch, s_0, s_s]
          have hw := addw (n := i) 1 1 rfl (by omega)
          by_cases hlt : i < r.path.length
          · have gi := getD_map intC r.path i [] hlt
            obtain ⟨s, e, a, b, pt0, pt1, hsid, o1, o2, n1, n2, st, sA, sB⟩ := hrun hlt
            obtain ⟨fE, fD⟩ := findE_some (may_parts hmy).2.1 a
            have cf := cF r.path[i]
            rw [fE, fD] at cf
            have co := cOut s (J i).2 (lieX W.asks s)
            rw [o1, o2] at co
            have cn := cN r.path[i] e
            rw [n1, n2] at cn
            have cst := cS r.path[i] e
            rw [st] at cst
            have f1 : ((J i).1 != r.path[i]) = false := by simp [b]
            have nq : i + 1 = r.path.length → r.ex = 0 → J (i + 1) = (0, 0) := fun h => (sB h).2
            obtain ⟨np, hpt⟩ := Int.eq_ofNat_of_zero_le pt0
            have hnp : np < 100 := by omega
            have hnp' : (np : Int) < 100 := by omega
            have hnp9 : np ≤ 99 := by omega
            have hlx : lieX W.asks s = if np > 0 then lookF AL (np : Int) else 0 := by
              unfold lieX
              rw [hpt, hAL]
              by_cases h : np > 0
              · rw [if_pos h, if_pos (by omega)]
              · rw [if_neg h, if_neg (by omega)]
            have hgp : decide ((np : Int) > 0) = decide (np > 0) := decide_eq_decide.2 (by omega)
            rw [← hsid] at cn cst sA sB
            have hstv : stL p s.id e = if i + 1 = r.path.length then r.ex else 0 := by
              by_cases h : i + 1 = r.path.length
              · rw [if_pos h]; exact (sB h).1
              · rw [if_neg h]; exact sA (by omega)
            rw [hlx, hpt] at co
            rw [hpt] at cf
            clear hrun cF cN cS cOut fE fD a b o1 o2 n1 n2 st sA sB hAL hlx
            generalize stL p s.id e = SL at *
            have bx3 : (r.ex != r.ex) = false := by simp
            by_cases hp : i + 1 = r.path.length
            · rw [if_pos hp] at hstv
              subst hstv
              have d1 : decide (i < r.path.length - 1) = false := decide_eq_false (by omega)
              have d2 : ((i : Int) == ((r.path.length - 1 : Nat) : Int)) = true := by simp; omega
              cases hgq : decide (np > 0) with
              | true =>
                rw [if_pos (of_decide_eq_true hgq)] at co
                repeat' (first | (with_reducible first | refine awp_seq_k fun K hK => ?_ | refine awp_ev tab_ok [] ?_ | refine awp_block_s ?_ | refine awp_block_c ?_ | refine awp_block_r ?_ | refine awp_skip ?_ | apply And.intro) | (with_reducible refine awp_ev_draw (id := 22) tab_ok [] [[], [0], [], [2], [], [], [], [], [], [], [], [6], [6], []] [[], [], [], [], [], [], [], [], [], [], [], [6], [6], []] follows (by kernel_rfl) (by decide) (by decide) (by kernel_rfl) ?_) | (with_reducible refine awp_ev_quiet tab_ok follows (by kernel_rfl) ?_) | ((with_reducible first | refine gE ?_ | refine gR ?_ | refine gD ?_ | refine gF ?_); simp (maxSteps := 4000000) only [su, evLit, hbT, tab, thenA, blockA, reduceCtorEq, reduceIte, Nat.reduceEqDiff, Nat.reduceBEq, Int.reduceLE, Int.reduceToNat, Nat.reduceAdd, Nat.reduceLT, Nat.reduceLeDiff, sg, locM hm, plC, rtC, wyC, sgC, jnC, intC, splice_all, Int.reduceBNe, List.length_map, hlt, gi, f1, hpt, hnp, hnp', hnp9, hgp, hgq, lookA_len, lookA_pick _ np 1 hnp, hwp, hw, d1, d2, bx3]) | (show (_ : Nat) = (_ : Nat); rfl) | ((with_reducible refine awp_ret ?_); (try refine Or.inr ⟨(by intro h; cases h), ?_⟩); refine ret_tmp (.inr rfl) rfl rfl rfl (fun _ _ => rfl) ?_ <;> first | rfl | skip) | (refine call_pure (cf) ?_) | (refine call_pure (co) ?_) | (refine call_pure (cst) ?_) | (refine call_pure (cn) ?_) | ((with_reducible first | refine gsel_case (fun hg => ?_) (fun hg => ?_) | refine gselD_case (fun hg => ?_) (fun hg => ?_)) <;> (try simp only [nb] at hg) <;> simp (maxSteps := 4000000) only [su, evLit, hbT, tab, thenA, blockA, reduceCtorEq, reduceIte, Nat.reduceEqDiff, Nat.reduceBEq, Int.reduceLE, Int.reduceToNat, Nat.reduceAdd, Nat.reduceLT, Nat.reduceLeDiff, hg, sg, locM hm, plC, rtC, wyC, sgC, jnC, intC, splice_all, Int.reduceBNe, List.length_map, hlt, gi, f1, hpt, hnp, hnp', hnp9, hgp, hgq, lookA_len, lookA_pick _ np 1 hnp, hwp, hw, d1, d2, bx3]) | ((with_reducible refine awp_exit ?_); simp only [thenA, blockA, if_true, if_false, reduceIte, Nat.reduceEqDiff]) | (refine hK _ ?_; clear hK K) | refine awp_cond_t rfl ?_ | refine awp_cond_f rfl ?_ | refine awp_if rfl (fun hg => ?_) (fun hg => ?_) | ((first | show Program.eqGuardType _ _ _ = false | show numFieldsB _ _ _ = true | show Program.stoodInHeld _ _ = false); kernel_rfl) | clear hK K)
                refine ⟨i + 1, ⟨by omega, nq⟩, by omega, ?_⟩
                refine le_move [true, true, true, true, true, true, false] (fun n_ => ?_) (fun n_ => ?_) <;> simp only [patch, sm, plC, rtC, wyC, sgC, jnC, hlt, decide_true]
              | false =>
                rw [if_neg (of_decide_eq_false hgq)] at co
                repeat' (first | (with_reducible first | refine awp_seq_k fun K hK => ?_ | refine awp_ev tab_ok [] ?_ | refine awp_block_s ?_ | refine awp_block_c ?_ | refine awp_block_r ?_ | refine awp_skip ?_ | apply And.intro) | (with_reducible refine awp_ev_draw (id := 22) tab_ok [] [[], [0], [], [2], [], [], [], [], [], [], [], [6], [6], []] [[], [], [], [], [], [], [], [], [], [], [], [6], [6], []] follows (by kernel_rfl) (by decide) (by decide) (by kernel_rfl) ?_) | (with_reducible refine awp_ev_quiet tab_ok follows (by kernel_rfl) ?_) | ((with_reducible first | refine gE ?_ | refine gR ?_ | refine gD ?_ | refine gF ?_); simp (maxSteps := 4000000) only [su, evLit, hbT, tab, thenA, blockA, reduceCtorEq, reduceIte, Nat.reduceEqDiff, Nat.reduceBEq, Int.reduceLE, Int.reduceToNat, Nat.reduceAdd, Nat.reduceLT, Nat.reduceLeDiff, sg, locM hm, plC, rtC, wyC, sgC, jnC, intC, splice_all, Int.reduceBNe, List.length_map, hlt, gi, f1, hpt, hgp, hgq, hwp, hw, d1, d2, bx3]) | (show (_ : Nat) = (_ : Nat); rfl) | ((with_reducible refine awp_ret ?_); (try refine Or.inr ⟨(by intro h; cases h), ?_⟩); refine ret_tmp (.inr rfl) rfl rfl rfl (fun _ _ => rfl) ?_ <;> first | rfl | skip) | (refine call_pure (cf) ?_) | (refine call_pure (co) ?_) | (refine call_pure (cst) ?_) | (refine call_pure (cn) ?_) | ((with_reducible first | refine gsel_case (fun hg => ?_) (fun hg => ?_) | refine gselD_case (fun hg => ?_) (fun hg => ?_)) <;> (try simp only [nb] at hg) <;> simp (maxSteps := 4000000) only [su, evLit, hbT, tab, thenA, blockA, reduceCtorEq, reduceIte, Nat.reduceEqDiff, Nat.reduceBEq, Int.reduceLE, Int.reduceToNat, Nat.reduceAdd, Nat.reduceLT, Nat.reduceLeDiff, hg, sg, locM hm, plC, rtC, wyC, sgC, jnC, intC, splice_all, Int.reduceBNe, List.length_map, hlt, gi, f1, hpt, hgp, hgq, hwp, hw, d1, d2, bx3]) | ((with_reducible refine awp_exit ?_); simp only [thenA, blockA, if_true, if_false, reduceIte, Nat.reduceEqDiff]) | (refine hK _ ?_; clear hK K) | refine awp_cond_t rfl ?_ | refine awp_cond_f rfl ?_ | refine awp_if rfl (fun hg => ?_) (fun hg => ?_) | ((first | show Program.eqGuardType _ _ _ = false | show numFieldsB _ _ _ = true | show Program.stoodInHeld _ _ = false); kernel_rfl) | clear hK K)
                refine ⟨i + 1, ⟨by omega, nq⟩, by omega, ?_⟩
                refine le_move [true, true, true, true, true, true, false] (fun n_ => ?_) (fun n_ => ?_) <;> simp only [patch, sm, plC, rtC, wyC, sgC, jnC, hlt, decide_true]
            · rw [if_neg hp] at hstv
              subst hstv
              have d1 : decide (i < r.path.length - 1) = true := decide_eq_true (by omega)
              have d2 : ((i : Int) == ((r.path.length - 1 : Nat) : Int)) = false := by simp; omega
              cases hgq : decide (np > 0) with
              | true =>
                rw [if_pos (of_decide_eq_true hgq)] at co
                repeat' (first | (with_reducible first | refine awp_seq_k fun K hK => ?_ | refine awp_ev tab_ok [] ?_ | refine awp_block_s ?_ | refine awp_block_c ?_ | refine awp_block_r ?_ | refine awp_skip ?_ | apply And.intro) | (with_reducible refine awp_ev_draw (id := 22) tab_ok [] [[], [0], [], [2], [], [], [], [], [], [], [], [6], [6], []] [[], [], [], [], [], [], [], [], [], [], [], [6], [6], []] follows (by kernel_rfl) (by decide) (by decide) (by kernel_rfl) ?_) | (with_reducible refine awp_ev_quiet tab_ok follows (by kernel_rfl) ?_) | ((with_reducible first | refine gE ?_ | refine gR ?_ | refine gD ?_ | refine gF ?_); simp (maxSteps := 4000000) only [su, evLit, hbT, tab, thenA, blockA, reduceCtorEq, reduceIte, Nat.reduceEqDiff, Nat.reduceBEq, Int.reduceLE, Int.reduceToNat, Nat.reduceAdd, Nat.reduceLT, Nat.reduceLeDiff, sg, locM hm, plC, rtC, wyC, sgC, jnC, intC, splice_all, Int.reduceBNe, List.length_map, hlt, gi, f1, hpt, hnp, hnp', hnp9, hgp, hgq, lookA_len, lookA_pick _ np 1 hnp, hwp, hw, d1, d2]) | (show (_ : Nat) = (_ : Nat); rfl) | ((with_reducible refine awp_ret ?_); (try refine Or.inr ⟨(by intro h; cases h), ?_⟩); refine ret_tmp (.inr rfl) rfl rfl rfl (fun _ _ => rfl) ?_ <;> first | rfl | skip) | (refine call_pure (cf) ?_) | (refine call_pure (co) ?_) | (refine call_pure (cst) ?_) | (refine call_pure (cn) ?_) | ((with_reducible first | refine gsel_case (fun hg => ?_) (fun hg => ?_) | refine gselD_case (fun hg => ?_) (fun hg => ?_)) <;> (try simp only [nb] at hg) <;> simp (maxSteps := 4000000) only [su, evLit, hbT, tab, thenA, blockA, reduceCtorEq, reduceIte, Nat.reduceEqDiff, Nat.reduceBEq, Int.reduceLE, Int.reduceToNat, Nat.reduceAdd, Nat.reduceLT, Nat.reduceLeDiff, hg, sg, locM hm, plC, rtC, wyC, sgC, jnC, intC, splice_all, Int.reduceBNe, List.length_map, hlt, gi, f1, hpt, hnp, hnp', hnp9, hgp, hgq, lookA_len, lookA_pick _ np 1 hnp, hwp, hw, d1, d2]) | ((with_reducible refine awp_exit ?_); simp only [thenA, blockA, if_true, if_false, reduceIte, Nat.reduceEqDiff]) | (refine hK _ ?_; clear hK K) | refine awp_cond_t rfl ?_ | refine awp_cond_f rfl ?_ | refine awp_if rfl (fun hg => ?_) (fun hg => ?_) | ((first | show Program.eqGuardType _ _ _ = false | show numFieldsB _ _ _ = true | show Program.stoodInHeld _ _ = false); kernel_rfl) | clear hK K)
                refine ⟨i + 1, ⟨by omega, nq⟩, by omega, ?_⟩
                refine le_move [true, true, true, true, true, true, false] (fun n_ => ?_) (fun n_ => ?_) <;> simp only [patch, sm, plC, rtC, wyC, sgC, jnC, hlt, decide_true]
              | false =>
                rw [if_neg (of_decide_eq_false hgq)] at co
                repeat' (first | (with_reducible first | refine awp_seq_k fun K hK => ?_ | refine awp_ev tab_ok [] ?_ | refine awp_block_s ?_ | refine awp_block_c ?_ | refine awp_block_r ?_ | refine awp_skip ?_ | apply And.intro) | (with_reducible refine awp_ev_draw (id := 22) tab_ok [] [[], [0], [], [2], [], [], [], [], [], [], [], [6], [6], []] [[], [], [], [], [], [], [], [], [], [], [], [6], [6], []] follows (by kernel_rfl) (by decide) (by decide) (by kernel_rfl) ?_) | (with_reducible refine awp_ev_quiet tab_ok follows (by kernel_rfl) ?_) | ((with_reducible first | refine gE ?_ | refine gR ?_ | refine gD ?_ | refine gF ?_); simp (maxSteps := 4000000) only [su, evLit, hbT, tab, thenA, blockA, reduceCtorEq, reduceIte, Nat.reduceEqDiff, Nat.reduceBEq, Int.reduceLE, Int.reduceToNat, Nat.reduceAdd, Nat.reduceLT, Nat.reduceLeDiff, sg, locM hm, plC, rtC, wyC, sgC, jnC, intC, splice_all, Int.reduceBNe, List.length_map, hlt, gi, f1, hpt, hgp, hgq, hwp, hw, d1, d2]) | (show (_ : Nat) = (_ : Nat); rfl) | ((with_reducible refine awp_ret ?_); (try refine Or.inr ⟨(by intro h; cases h), ?_⟩); refine ret_tmp (.inr rfl) rfl rfl rfl (fun _ _ => rfl) ?_ <;> first | rfl | skip) | (refine call_pure (cf) ?_) | (refine call_pure (co) ?_) | (refine call_pure (cst) ?_) | (refine call_pure (cn) ?_) | ((with_reducible first | refine gsel_case (fun hg => ?_) (fun hg => ?_) | refine gselD_case (fun hg => ?_) (fun hg => ?_)) <;> (try simp only [nb] at hg) <;> simp (maxSteps := 4000000) only [su, evLit, hbT, tab, thenA, blockA, reduceCtorEq, reduceIte, Nat.reduceEqDiff, Nat.reduceBEq, Int.reduceLE, Int.reduceToNat, Nat.reduceAdd, Nat.reduceLT, Nat.reduceLeDiff, hg, sg, locM hm, plC, rtC, wyC, sgC, jnC, intC, splice_all, Int.reduceBNe, List.length_map, hlt, gi, f1, hpt, hgp, hgq, hwp, hw, d1, d2]) | ((with_reducible refine awp_exit ?_); simp only [thenA, blockA, if_true, if_false, reduceIte, Nat.reduceEqDiff]) | (refine hK _ ?_; clear hK K) | refine awp_cond_t rfl ?_ | refine awp_cond_f rfl ?_ | refine awp_if rfl (fun hg => ?_) (fun hg => ?_) | ((first | show Program.eqGuardType _ _ _ = false | show numFieldsB _ _ _ = true | show Program.stoodInHeld _ _ = false); kernel_rfl) | clear hK K)
                refine ⟨i + 1, ⟨by omega, nq⟩, by omega, ?_⟩
                refine le_move [true, true, true, true, true, true, false] (fun n_ => ?_) (fun n_ => ?_) <;> simp only [patch, sm, plC, rtC, wyC, sgC, jnC, hlt, decide_true]
          · obtain rfl : i = r.path.length := by omega
            by_cases hx : r.ex = 0
            · have jz := hq rfl hx
              have bx1 : (r.ex != 0) = false := by simp [hx]
              simp only [jz]
              repeat' (first | (with_reducible first | refine awp_seq_k fun K hK => ?_ | refine awp_ev tab_ok [] ?_ | refine awp_block_s ?_ | refine awp_block_c ?_ | refine awp_block_r ?_ | refine awp_skip ?_ | apply And.intro) | (with_reducible refine awp_ev_quiet tab_ok follows (by kernel_rfl) ?_) | ((with_reducible first | refine gE ?_ | refine gR ?_); simp (maxSteps := 4000000) only [su, evLit, hbT, tab, thenA, blockA, reduceCtorEq, reduceIte, Nat.reduceEqDiff, Nat.reduceBEq, Int.reduceLE, Int.reduceToNat, Nat.reduceAdd, Nat.reduceLT, Nat.reduceLeDiff, locM hm, rtC, wyC, jnC, splice_all, List.length_map, hlt, bx1, ez]) | (show (_ : Nat) = (_ : Nat); rfl) | ((with_reducible refine awp_ret ?_); (try refine Or.inr ⟨(by intro h; cases h), ?_⟩); refine ret_tmp (.inr rfl) rfl rfl rfl (fun _ _ => rfl) ?_ <;> first | rfl | skip) | ((with_reducible refine gsel_case (fun hg => ?_) (fun hg => ?_)) <;> (try simp only [nb] at hg) <;> simp (maxSteps := 4000000) only [su, evLit, hbT, tab, thenA, blockA, reduceCtorEq, reduceIte, Nat.reduceEqDiff, Nat.reduceBEq, Int.reduceLE, Int.reduceToNat, Nat.reduceAdd, Nat.reduceLT, Nat.reduceLeDiff, hg, locM hm, rtC, wyC, jnC, splice_all, List.length_map, hlt, bx1, ez]) | ((with_reducible refine awp_exit ?_); simp only [thenA, blockA, if_true, if_false, reduceIte, Nat.reduceEqDiff]) | (refine hK _ ?_; clear hK K) | refine awp_cond_t rfl ?_ | refine awp_cond_f rfl ?_ | refine awp_if rfl (fun hg => ?_) (fun hg => ?_) | ((first | show Program.eqGuardType _ _ _ = false | show numFieldsB _ _ _ = true | show Program.stoodInHeld _ _ = false); kernel_rfl) | clear hK K)
            · have bx1 : (r.ex != 0) = true := by simpa using hx
              repeat' (first | (with_reducible first | refine awp_seq_k fun K hK => ?_ | refine awp_ev tab_ok [] ?_ | refine awp_block_s ?_ | refine awp_block_c ?_ | refine awp_block_r ?_ | refine awp_skip ?_ | apply And.intro) | (with_reducible refine awp_ev_quiet tab_ok follows (by kernel_rfl) ?_) | ((with_reducible first | refine gE ?_ | refine gR ?_); simp (maxSteps := 4000000) only [su, evLit, hbT, tab, thenA, blockA, reduceCtorEq, reduceIte, Nat.reduceEqDiff, Nat.reduceBEq, Int.reduceLE, Int.reduceToNat, Nat.reduceAdd, Nat.reduceLT, Nat.reduceLeDiff, locM hm, rtC, wyC, jnC, splice_all, List.length_map, hlt, bx1]) | (show (_ : Nat) = (_ : Nat); rfl) | ((with_reducible refine awp_ret ?_); (try refine Or.inr ⟨(by intro h; cases h), ?_⟩); refine ret_tmp (.inr rfl) rfl rfl rfl (fun _ _ => rfl) ?_ <;> first | rfl | skip) | ((with_reducible refine gsel_case (fun hg => ?_) (fun hg => ?_)) <;> (try simp only [nb] at hg) <;> simp (maxSteps := 4000000) only [su, evLit, hbT, tab, thenA, blockA, reduceCtorEq, reduceIte, Nat.reduceEqDiff, Nat.reduceBEq, Int.reduceLE, Int.reduceToNat, Nat.reduceAdd, Nat.reduceLT, Nat.reduceLeDiff, hg, locM hm, rtC, wyC, jnC, splice_all, List.length_map, hlt, bx1]) | ((with_reducible refine awp_exit ?_); simp only [thenA, blockA, if_true, if_false, reduceIte, Nat.reduceEqDiff]) | (refine hK _ ?_; clear hK K) | refine awp_cond_t rfl ?_ | refine awp_cond_f rfl ?_ | refine awp_if rfl (fun hg => ?_) (fun hg => ?_) | ((first | show Program.eqGuardType _ _ _ = false | show numFieldsB _ _ _ = true | show Program.stoodInHeld _ _ = false); kernel_rfl) | clear hK K)
      · have hE' : (soundE p != 0) = true := by simpa using hE
        rw [hR] at c2
        simp only [plA, plC, rtA, rtC] at c1 c2
        refine acall_of 7 Try.func11 rfl fun n out _ _ => ?_
        simp only [Try.ntmps11, List.length_cons, List.length_nil, List.length_map, List.length_replicate, rep_map, Nat.reduceAdd, Nat.reduceSub, List.replicate, List.cons_append, List.nil_append]
        repeat' (first | (with_reducible first | refine awp_seq_k fun K hK => ?_ | refine awp_ev tab_ok [] ?_ | refine awp_block_s ?_ | refine awp_block_c ?_ | refine awp_block_r ?_ | refine awp_skip ?_ | apply And.intro) | (with_reducible refine awp_ev_quiet tab_ok follows (by kernel_rfl) ?_) | ((with_reducible first | refine gE ?_ | refine gR ?_); simp (maxSteps := 4000000) only [su, evLit, hbT, tab, thenA, blockA, reduceCtorEq, reduceIte, Nat.reduceEqDiff, Nat.reduceBEq, Int.reduceLE, Int.reduceToNat, Nat.reduceAdd, Nat.reduceLT, Nat.reduceLeDiff, plA, plC, splice_all, hE', Int.reduceBNe]) | (show (_ : Nat) = (_ : Nat); rfl) | ((with_reducible refine awp_ret ?_); (try refine Or.inr ⟨(by intro h; cases h), ?_⟩); refine ret_tmp (.inr rfl) rfl rfl rfl (fun _ _ => rfl) ?_ <;> first | rfl | skip) | (refine call_pure (cg) ?_) | (refine call_pure (c_salive) ?_) | (refine call_pure (c1) ?_) | (refine call_pure (c2) ?_) | ((with_reducible refine gsel_case (fun hg => ?_) (fun hg => ?_)) <;> (try simp only [nb] at hg) <;> simp (maxSteps := 4000000) only [su, evLit, hbT, tab, thenA, blockA, reduceCtorEq, reduceIte, Nat.reduceEqDiff, Nat.reduceBEq, Int.reduceLE, Int.reduceToNat, Nat.reduceAdd, Nat.reduceLT, Nat.reduceLeDiff, hg, plA, plC, splice_all, hE', Int.reduceBNe]) | ((with_reducible refine awp_exit ?_); simp only [thenA, blockA, if_true, if_false, reduceIte, Nat.reduceEqDiff]) | (refine hK _ ?_; clear hK K) | refine awp_cond_t rfl ?_ | refine awp_cond_f rfl ?_ | refine awp_if rfl (fun hg => ?_) (fun hg => ?_) | ((first | show Program.eqGuardType _ _ _ = false | show numFieldsB _ _ _ = true | show Program.stoodInHeld _ _ = false); kernel_rfl) | clear hK K)
    · have hR' : (rtE p id != 0) = true := by simpa using hR
      simp only [plA, plC, rtA, rtC] at c2
      refine acall_of 7 Try.func11 rfl fun n out _ _ => ?_
      simp only [Try.ntmps11, List.length_cons, List.length_nil, List.length_map, List.length_replicate, rep_map, Nat.reduceAdd, Nat.reduceSub, List.replicate, List.cons_append, List.nil_append]
      repeat' (first | (with_reducible first | refine awp_seq_k fun K hK => ?_ | refine awp_ev tab_ok [] ?_ | refine awp_block_s ?_ | refine awp_block_c ?_ | refine awp_block_r ?_ | refine awp_skip ?_ | apply And.intro) | (with_reducible refine awp_ev_quiet tab_ok follows (by kernel_rfl) ?_) | ((with_reducible first | refine gE ?_ | refine gR ?_); simp (maxSteps := 4000000) only [su, evLit, hbT, tab, thenA, blockA, reduceCtorEq, reduceIte, Nat.reduceEqDiff, Nat.reduceBEq, Int.reduceLE, Int.reduceToNat, Nat.reduceAdd, Nat.reduceLT, Nat.reduceLeDiff, plA, plC, splice_all, hR']) | (show (_ : Nat) = (_ : Nat); rfl) | ((with_reducible refine awp_ret ?_); (try refine Or.inr ⟨(by intro h; cases h), ?_⟩); refine ret_tmp (.inr rfl) rfl rfl rfl (fun _ _ => rfl) ?_ <;> first | rfl | skip) | (refine call_pure (cg) ?_) | (refine call_pure (c_salive) ?_) | (refine call_pure (c2) ?_) | ((with_reducible refine gsel_case (fun hg => ?_) (fun hg => ?_)) <;> (try simp only [nb] at hg) <;> simp (maxSteps := 4000000) only [su, evLit, hbT, tab, thenA, blockA, reduceCtorEq, reduceIte, Nat.reduceEqDiff, Nat.reduceBEq, Int.reduceLE, Int.reduceToNat, Nat.reduceAdd, Nat.reduceLT, Nat.reduceLeDiff, hg, plA, plC, splice_all, hR']) | ((with_reducible refine awp_exit ?_); simp only [thenA, blockA, if_true, if_false, reduceIte, Nat.reduceEqDiff]) | (refine hK _ ?_; clear hK K) | refine awp_cond_t rfl ?_ | refine awp_cond_f rfl ?_ | refine awp_if rfl (fun hg => ?_) (fun hg => ?_) | ((first | show Program.eqGuardType _ _ _ = false | show numFieldsB _ _ _ = true | show Program.stoodInHeld _ _ = false); kernel_rfl) | clear hK K)
end Go.Proofs.Ytcfkieacdjcaoaa.Pln
