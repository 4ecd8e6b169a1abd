/-
  The law WayGoes.
-/
import Derived.Test.YtdkiciofkifpdaaZG0
import Derived.Test.YtdkiciofkifpdaaZW7
import Derived.Test.YtdkiciofkifpdaaZW17
import Derived.Test.YtdkiciofkifpdaaZW11
import Derived.Test.YtdkiciofkifpdaaZPF3
namespace Go.Proofs.Ytdkiciofkifpdaa.Pln
set_option linter.unusedVariables false
set_option linter.unusedSimpArgs false
open Go Go.VS Tab
set_option maxHeartbeats 16000000
set_option maxRecDepth 8000
theorem c_lawWGoes (p : Pl) (id : Int) : ACall Try.prog 13 [plA p, i64 id] [] (bool true) [] := by
  have cg := c_rgreat p
  simp only [plA, plC] at cg
  cases hG : greatP p with
  | true =>
    rw [hG] at cg
    refine acall_of 9 Try.func13 rfl fun n out _ _ => ?_
    simp only [Try.ntmps13, List.length_cons, List.length_nil, List.length_map, List.length_replicate, rep_map, Nat.reduceAdd, Nat.reduceSub, List.replicate, List.cons_append, List.nil_append]
    repeat' (first | (with_reducible first | refine awp_seq_k fun K hK => ?_ | refine awp_ev tab_ok [] ?_ | refine awp_block_s ?_ | refine awp_block_c ?_ | refine awp_block_r ?_ | refine awp_skip ?_ | apply And.intro) | (with_reducible refine awp_ev_quiet tab_ok follows (by kernel_rfl) ?_) | ((with_reducible first | refine gE ?_ | refine gR ?_ | refine gD ?_ | refine gF ?_); simp (maxSteps := 4000000) only [su, evLit, hbT, tab, thenA, blockA, reduceCtorEq, reduceIte, Nat.reduceEqDiff, Nat.reduceBEq, Int.reduceLE, Int.reduceToNat, Nat.reduceAdd, Nat.reduceLT, Nat.reduceLeDiff, plA, plC]) | (show (_ : Nat) = (_ : Nat); rfl) | ((with_reducible refine awp_ret ?_); (try refine Or.inr ⟨(by intro h; cases h), ?_⟩); refine ret_tmp (.inr rfl) rfl rfl rfl (fun _ _ => rfl) ?_ <;> first | rfl | skip) | (refine call_pure (cg) ?_) | (refine call_pure (c_walive) ?_) | ((with_reducible refine gsel_case (fun hg => ?_) (fun hg => ?_)) <;> (try simp only [nb] at hg) <;> simp (maxSteps := 4000000) only [su, evLit, hbT, tab, thenA, blockA, reduceCtorEq, reduceIte, Nat.reduceEqDiff, Nat.reduceBEq, Int.reduceLE, Int.reduceToNat, Nat.reduceAdd, Nat.reduceLT, Nat.reduceLeDiff, hg, plA, plC]) | ((with_reducible refine awp_exit ?_); simp only [thenA, blockA, if_true, if_false, reduceIte, Nat.reduceEqDiff]) | (refine hK _ ?_; clear hK K) | refine awp_cond_t rfl ?_ | refine awp_cond_f rfl ?_ | refine awp_if rfl (fun hg => ?_) (fun hg => ?_) | (refine Or.inl ⟨rfl, ?_⟩; refine le_of_all ?_ ?_ rfl rfl rfl rfl <;> simp only [patch, sl, plA, plC]) | ((first | show Program.eqGuardType _ _ _ = false | show numFieldsB _ _ _ = true | show Program.stoodInHeld _ _ = false); kernel_rfl) | clear hK K)
  | false =>
    rw [hG] at cg
    have hs := small_of hG
    have c1 := c_of p hs id
    have cO := c_outs p hs id
    have c2 : ACall Try.prog 24 [plA p, i64 id] [] (.tup [rtA (rtO p id), i64 (rtE p id)]) [] := c_pRoute p hs id
    by_cases hE : ofE p id = 0
    · obtain ⟨g, hE2⟩ := gone_of hE
      obtain ⟨_, en, z1, z2, z3, z4⟩ := entry_of g.may g.mem
      obtain ⟨b1, b2, b3⟩ := hs.rt _ g.mem
      have c3 := c_pSignal p hs (rtO p id).entry
      rw [g.may, z1] at c3
      simp only [plA, plC, elD, elE, if_true, Option.getD_some, Option.isSome_some, sgA, sgC] at c3
      obtain ⟨q1, q2, q3⟩ := sgs_sec (may_parts g.may).2.1 (may_parts g.may).2.2.2.1 z3
      obtain ⟨s0, hs0⟩ := Option.isSome_iff_exists.1 q3
      obtain ⟨m0, i0⟩ := getS_some hs0
      obtain ⟨u1, u2⟩ := z4 s0 m0 (by simp [i0])
      obtain ⟨n1, n2⟩ := next_of g.may hs0 u1 u2
      have hin0 : (runW p (rtO p id) 0).inn = nextD p.secs en.2.1 en.2.2 := by
        rw [n1]
        show inAt p.secs (lastG p.sgs (rtO p id).entry) = _
        rw [z2]
        exact inAt_of (may_parts g.may).2.1 m0 i0
      have cN := fun (a b : Int) => c_tnext p.secs a b (by have := hs.secs; omega) fun s h => by have := hs.ends s h; omega
      have cF := fun (a : Int) => c_tfind p.secs a (by have := hs.secs; omega) fun s h => by have := hs.ends s h; omega
      have cS := fun (a b : Int) => c_pStands p hs a b
      obtain ⟨s1, s2, s3⟩ := ofW_small hs id
      have c4 := cN en.2.1 en.2.2
      rw [n2, ← hin0] at c4
      rw [hE] at c1 cO
      rw [hE2] at c2
      have hnear := g.near
      rw [z2] at hnear
      have hpth := g.path
      have hovr := g.over
      have hone := g.one
      have hend := fun h => outs_all g h
      have hthr := fun {i : Nat} (hi : i < (allL (rtO p id)).length) hk => round_thr g hi hk
      have hstay := fun {i : Nat} (hi : i + 1 = (allL (rtO p id)).length) hk => round_stay g hi hk
      have hL := fun (pt at' : Int) => c_llie (ofW p id) pt at' s3
      have hmay := g.may
      clear g hE hE2 z4 n1 hin0
      generalize rtO p id = r at *
      generalize ofW p id = W at *
      generalize ofO p id = O at *
      obtain ⟨A, hA⟩ : ∃ A, A = allL r := ⟨_, rfl⟩
      obtain ⟨J, hJ⟩ : ∃ J : Nat → Int × Int, J = fun i => (runW p r i).inn := ⟨_, rfl⟩
      have hJi : ∀ i, (runW p r i).inn = J i := fun i => by rw [hJ]
      simp only [hJi, ← hA] at hthr hstay hend c4
      clear hJ hJi
      have hAl : A.length = r.path.length + r.over.length := by rw [hA]; exact List.length_append
      have hAm : A.map intC = r.path.map intC ++ r.over.map intC := by rw [hA]; exact List.map_append
      have hne : ¬ (r.path.map intC = []) := by intro h; rw [List.map_eq_nil_iff] at h; rw [h] at hone; simp at hone
      have y1 : r.path.length * 8 ≤ 140737488355328 := by omega
      have y2 : r.path.length ≤ 9223372036854775807 := by omega
      have y3 : (r.path.length + r.over.length) * 8 ≤ 140737488355328 := by omega
      have y4 : r.path.length + r.over.length ≤ 9223372036854775807 := by omega
      have hnr : (en.2.1 != en.2.1) = false := by simp
      simp only [plA, plC, wyA, wyC, rtA, rtC, jnA, jnC, hpth, hovr, hnear] at c1 c2 cO c4
      refine acall_of 9 Try.func13 rfl fun n out _ _ => ?_
      simp only [Try.ntmps13, List.length_cons, List.length_nil, List.length_map, List.length_replicate, rep_map, Nat.reduceAdd, Nat.reduceSub, List.replicate, List.cons_append, List.nil_append]
      repeat' (first | (with_reducible first | refine awp_seq_k fun K hK => ?_ | refine awp_ev tab_ok [(109, none)] ?_ | refine awp_block_s ?_ | refine awp_block_c ?_ | refine awp_block_r ?_ | refine awp_skip ?_ | apply And.intro) | (with_reducible refine awp_ev_draw (id := 13) tab_ok [(109, none)] [[], [], [1], [5], [], [1], [5], []] [[], [], [], [5], [], [], [5], []] follows (by kernel_rfl) (by decide) (by decide) (by kernel_rfl) ?_) | (with_reducible refine awp_ev_quiet tab_ok follows (by kernel_rfl) ?_) | ((with_reducible first | refine gE ?_ | refine gR ?_ | refine gD ?_ | refine gF ?_); simp (maxSteps := 4000000) only [su, evLit, hbT, tab, thenA, blockA, reduceCtorEq, reduceIte, Nat.reduceEqDiff, Nat.reduceBEq, Int.reduceLE, Int.reduceToNat, Nat.reduceAdd, Nat.reduceLT, Nat.reduceLeDiff, plA, plC, rtC, wyC, sgC, splice_all, Int.reduceBNe, hnr, List.length_map, hne, y1, y2, y3, y4]) | (show (_ : Nat) = (_ : Nat); rfl) | ((with_reducible refine awp_ret ?_); (try refine Or.inr ⟨(by intro h; cases h), ?_⟩); refine ret_tmp (.inr rfl) rfl rfl rfl (fun _ _ => rfl) ?_ <;> first | rfl | skip) | (refine call_pure (cg) ?_) | (refine call_pure (c_walive) ?_) | (refine call_pure (c1) ?_) | (refine call_pure (cO) ?_) | (refine call_pure (c2) ?_) | (refine call_pure (c3) ?_) | (refine call_pure (c4) ?_) | ((with_reducible refine gsel_case (fun hg => ?_) (fun hg => ?_)) <;> (try simp only [nb] at hg) <;> simp (maxSteps := 4000000) only [su, evLit, hbT, tab, thenA, blockA, reduceCtorEq, reduceIte, Nat.reduceEqDiff, Nat.reduceBEq, Int.reduceLE, Int.reduceToNat, Nat.reduceAdd, Nat.reduceLT, Nat.reduceLeDiff, hg, plA, plC, rtC, wyC, sgC, splice_all, Int.reduceBNe, hnr, List.length_map, hne, y1, y2, y3, y4]) | ((with_reducible refine awp_exit ?_); simp only [thenA, blockA, if_true, if_false, reduceIte, Nat.reduceEqDiff]) | (refine hK _ ?_; clear hK K) | refine awp_cond_t rfl ?_ | refine awp_cond_f rfl ?_ | refine awp_if rfl (fun hg => ?_) (fun hg => ?_) | (refine Or.inl ⟨rfl, ?_⟩; refine le_of_all ?_ ?_ rfl rfl rfl rfl <;> simp only [patch, sl, plA, plC, rtC, wyC, sgC, splice_all, Int.reduceBNe, hnr, List.length_map, hne, y1, y2, y3, y4]) | ((first | show Program.eqGuardType _ _ _ = false | show numFieldsB _ _ _ = true | show Program.stoodInHeld _ _ = false); kernel_rfl) | clear hK K)
      simp only [wyA, wyC, hpth, hovr, hnear] at hL
      have cOut := fun (s : Sec) (a c : Int) => c_out s a c
      simp only [secA, secC] at cOut cF
      simp only [jnA, jnC] at cN
      simp only [plA, plC] at cS
      have hwp := subw (n := r.path.length) 1 1 rfl (by omega) (by omega)
      have hwl := subw (n := A.length) 1 1 rfl (by omega) (by omega)
      refine awp_block ?_
      refine awp_for_mv (fun m (i : Nat) => [(17, i64 (i : Int)), (16, .sl 1 (A.map intC) .sh), (2, .ptr (m + 0) 0), (6, .ptr (m + 1) 0), (10, .ptr (m + 2) 0), (12, .ptr (m + 3) 0), (14, .ptr (m + 4) 0), (4, .top), (18, .top), (19, .top), (20, .top), (21, .top), (22, .top), (23, .top), (24, .top), (25, .top), (113, .top), (114, .top), (115, .top), (116, .top), (117, .top), (118, .top), (119, .top), (120, .top), (121, .top), (122, .top), (123, .top), (124, .top), (125, .top), (126, .top), (127, .top), (128, .top), (129, .top), (130, .top), (131, .top), (132, .top), (133, .top), (134, .top), (135, .top), (136, .top), (137, .top), (138, .top), (139, .top), (140, .top), (141, .top), (142, .top), (143, .top), (144, .top), (145, .top), (146, .top), (147, .top), (148, .top), (149, .top), (150, .top), (151, .top), (152, .top), (153, .top), (154, .top), (155, .top), (156, .top), (157, .top), (158, .top), (159, .top), (160, .top), (161, .top), (162, .top), (163, .top), (164, .top), (165, .top), (166, .top), (167, .top), (168, .top), (169, .top), (170, .top), (171, .top), (172, .top), (173, .top), (174, .top), (175, .top), (176, .top), (177, .top), (178, .top), (179, .top), (180, .top), (181, .top), (182, .top), (183, .top), (184, .top), (185, .top), (186, .top), (187, .top), (188, .top), (189, .top), (190, .top), (191, .top), (192, .top), (193, .top), (194, .top), (195, .top), (196, .top), (197, .top), (198, .top), (199, .top), (200, .top), (201, .top), (202, .top), (203, .top), (204, .top), (205, .top), (206, .top), (207, .top), (208, .top), (209, .top), (210, .top), (211, .top), (212, .top), (213, .top), (214, .top), (215, .top), (216, .top), (217, .top), (218, .top), (219, .top), (220, .top), (221, .top), (222, .top), (223, .top), (224, .top), (225, .top), (226, .top), (227, .top), (228, .top), (229, .top), (230, .top), (231, .top), (232, .top), (233, .top), (234, .top), (235, .top), (236, .top), (237, .top), (238, .top), (239, .top), (240, .top), (241, .top), (242, .top), (243, .top), (244, .top), (245, .top), (246, .top), (247, .top), (248, .top), (249, .top), (250, .top), (251, .top), (252, .top), (253, .top)]) (fun m i => [some (.box 27 (plC p)), some (.box 77 [.sl 1 (r.path.map intC) .sh, .sl 1 (r.over.map intC) .sh, .sl 3 (W.asks.map sgC) .sh, i64 en.2.1]), some (.box 34 (rtC r)), some (.box 48 (sgC en)), some (.box 39 (jnC (J i))), some (.row 3 1 (r.path.length + r.over.length)), none, none, none]) (fun i => out) (fun i => i ≤ A.length ∧ (i = A.length → r.over = [])) (fun i => A.length - i) 0 ⟨Nat.zero_le _, by intros; omega⟩ ?_ fun m i hm hi => ?_
      · refine le_of_all ?_ ?_ (by first | rfl | (simp only [plC, rtC, sgC, jnC, hAm, List.length_map]; rfl) | simp only [plC, rtC, sgC, jnC, hAm, List.length_map]) rfl rfl rfl <;> simp only [patch, sl, plC, rtC, sgC, jnC, hAm, List.length_map]
      obtain ⟨hi, hq⟩ := hi
      simp only [patch, s_0, s_s]
      have hw := addw (n := i) 1 1 rfl (by omega)
      by_cases hlt : i < A.length
      · have gi := getD_map intC A i [] hlt
        by_cases hk : i + 1 = r.path.length ∨ i + 1 ≠ A.length
        · have hov : i + 1 = A.length → r.over = [] := fun h => List.eq_nil_of_length_eq_zero (by omega)
          obtain ⟨s, e, a, b, o1, o2, ⟨hO1, hO2⟩, n1', n2', st, x⟩ := hthr hlt hk
          obtain ⟨fE, fD⟩ := findE_some (may_parts hmay).2.1 a
          have cf := cF A[i]
          rw [fE, fD] at cf
          have cl := hL s.pt i
          have co := cOut s (J i).2 (lieL W.asks s.pt i)
          rw [o1, o2] at co
          have cn := cN A[i] e
          rw [n1', n2'] at cn
          have cst := cS A[i] e
          rw [st] at cst
          have gO := getD_map jnC O i [] hO1
          rw [hO2] at gO
          have e0 : evEq [i64 A[i], i64 (e : Int)] [i64 A[i], i64 (e : Int)] = some true := by
            have := evEq_jj (A[i], (e : Int)) (A[i], (e : Int))
            simpa using this
          have f1 : ((J i).1 != A[i]) = false := by simp [b]
          have f2 : decide ((i : Int) ≥ (O.length : Int)) = false := decide_eq_false (by omega)
          have bo : ((i : Int) == ((A.length - 1 : Nat) : Int)) = true → decide ((r.over.length : Int) > 0) = false := fun h => by
            simp at h
            exact decide_eq_false (by omega)
          clear hthr hstay hend hL cOut cF cN cS fE fD a b o1 o2 n1' n2' st
          generalize lieL W.asks s.pt i = LL at *
          by_cases hp : i + 1 = r.path.length
          · have bp : ((i : Int) == ((r.path.length - 1 : Nat) : Int)) = true := by simp; omega
            obtain ⟨x1, x2⟩ := x hp
            by_cases hx : r.ex = 0
            · have jz := x1 hx
              have bx1 : (r.ex != 0) = false := by simp [hx]
              have bx2 : (r.ex == 0) = true := by simp [hx]
              have ez : evEq [i64 0, i64 0] [i64 0, i64 0] = some true := evEq_jj (0, 0) (0, 0)
              generalize stL p A[i] e = SL at *
              simp only [jz] at cn ⊢
              cases hbl : ((i : Int) == ((A.length - 1 : Nat) : Int)) with
              | true =>
                have hbo := bo hbl
                repeat' (first | (with_reducible first | refine awp_seq_k fun K hK => ?_ | refine awp_ev tab_ok [] ?_ | refine awp_block_s ?_ | refine awp_block_c ?_ | refine awp_block_r ?_ | refine awp_skip ?_ | apply And.intro) | (with_reducible refine awp_ev_draw (id := 17) tab_ok [] [[], [4], [], [], [], [], []] [[], [], [], [], [], [], []] follows (by kernel_rfl) (by decide) (by decide) (by kernel_rfl) ?_) | (with_reducible refine awp_ev_draw (id := 19) tab_ok [] [[], [0], [], [], [], [], [], [], [], [], [6], [6], []] [[], [], [], [], [], [], [], [], [], [], [6], [6], []] follows (by kernel_rfl) (by decide) (by decide) (by kernel_rfl) ?_) | (with_reducible refine awp_ev_draw (id := 24) tab_ok [] [[6], [], [4], [1], [], [6], [], [], [], [], [], [], [], []] [[], [], [], [], [], [], [], [], [], [], [], [], [], []] follows (by kernel_rfl) (by decide) (by decide) (by kernel_rfl) ?_) | (with_reducible refine awp_ev_draw (id := 27) tab_ok [] [[], [0], [], [], [], [], [], [], [], [], [], [7], [7], []] [[], [], [], [], [], [], [], [], [], [], [], [7], [7], []] follows (by kernel_rfl) (by decide) (by decide) (by kernel_rfl) ?_) | (with_reducible refine awp_ev_draw (id := 31) tab_ok [] [[0], [], [], [], [], [], [], [], [], [], [], []] [[], [], [], [], [], [], [], [], [], [], [], []] follows (by kernel_rfl) (by decide) (by decide) (by kernel_rfl) ?_) | (with_reducible refine awp_ev_quiet tab_ok follows (by kernel_rfl) ?_) | ((with_reducible first | refine gE ?_ | refine gR ?_ | refine gD ?_ | refine gF ?_); simp (maxSteps := 4000000) only [su, evLit, hbT, tab, thenA, blockA, reduceCtorEq, reduceIte, Nat.reduceEqDiff, Nat.reduceBEq, Int.reduceLE, Int.reduceToNat, Nat.reduceAdd, Nat.reduceLT, Nat.reduceLeDiff, sg, locM hm, plC, rtC, sgC, jnC, intC, splice_all, Int.reduceBNe, List.length_map, hlt, gi, f1, f2, hO1, gO, e0, hwp, hwl, hbl, hw, bp, hbo, bx1, bx2, ez]) | (show (_ : Nat) = (_ : Nat); rfl) | ((with_reducible refine awp_ret ?_); (try refine Or.inr ⟨(by intro h; cases h), ?_⟩); refine ret_tmp (.inr rfl) rfl rfl rfl (fun _ _ => rfl) ?_ <;> first | rfl | skip) | (refine call_pure (cf) ?_) | (refine call_pure (cl) ?_) | (refine call_pure (co) ?_) | (refine call_pure (cn) ?_) | (refine call_pure (cst) ?_) | ((with_reducible first | refine gsel_case (fun hg => ?_) (fun hg => ?_) | refine gselD_case (fun hg => ?_) (fun hg => ?_)) <;> (try simp only [nb] at hg) <;> simp (maxSteps := 4000000) only [su, evLit, hbT, tab, thenA, blockA, reduceCtorEq, reduceIte, Nat.reduceEqDiff, Nat.reduceBEq, Int.reduceLE, Int.reduceToNat, Nat.reduceAdd, Nat.reduceLT, Nat.reduceLeDiff, hg, sg, locM hm, plC, rtC, sgC, jnC, intC, splice_all, Int.reduceBNe, List.length_map, hlt, gi, f1, f2, hO1, gO, e0, hwp, hwl, hbl, hw, bp, hbo, bx1, bx2, ez]) | ((with_reducible refine awp_exit ?_); simp only [thenA, blockA, if_true, if_false, reduceIte, Nat.reduceEqDiff]) | (refine hK _ ?_; clear hK K) | refine awp_cond_t rfl ?_ | refine awp_cond_f rfl ?_ | refine awp_if rfl (fun hg => ?_) (fun hg => ?_) | (refine Or.inl ⟨rfl, ?_⟩; refine le_of_all ?_ ?_ rfl rfl rfl rfl <;> simp only [patch, sl, sg, locM hm, plC, rtC, sgC, jnC, intC, splice_all, Int.reduceBNe, List.length_map, hlt, gi, f1, f2, hO1, gO, e0, hwp, hwl, hbl, hw, bp, hbo, bx1, bx2, ez]) | ((first | show Program.eqGuardType _ _ _ = false | show numFieldsB _ _ _ = true | show Program.stoodInHeld _ _ = false); kernel_rfl) | clear hK K)
                refine ⟨i + 1, ⟨by omega, hov⟩, by omega, ?_⟩
                refine le_move [true, true, true, true, true, true, false, false, false] (fun n_ => ?_) (fun n_ => ?_) <;> simp only [patch, sm, plC, rtC, sgC, jnC, hlt, decide_true, jz]
              | false =>
                repeat' (first | (with_reducible first | refine awp_seq_k fun K hK => ?_ | refine awp_ev tab_ok [] ?_ | refine awp_block_s ?_ | refine awp_block_c ?_ | refine awp_block_r ?_ | refine awp_skip ?_ | apply And.intro) | (with_reducible refine awp_ev_draw (id := 17) tab_ok [] [[], [4], [], [], [], [], []] [[], [], [], [], [], [], []] follows (by kernel_rfl) (by decide) (by decide) (by kernel_rfl) ?_) | (with_reducible refine awp_ev_draw (id := 19) tab_ok [] [[], [0], [], [], [], [], [], [], [], [], [6], [6], []] [[], [], [], [], [], [], [], [], [], [], [6], [6], []] follows (by kernel_rfl) (by decide) (by decide) (by kernel_rfl) ?_) | (with_reducible refine awp_ev_draw (id := 24) tab_ok [] [[6], [], [4], [1], [], [6], [], [], [], [], [], [], [], []] [[], [], [], [], [], [], [], [], [], [], [], [], [], []] follows (by kernel_rfl) (by decide) (by decide) (by kernel_rfl) ?_) | (with_reducible refine awp_ev_draw (id := 27) tab_ok [] [[], [0], [], [], [], [], [], [], [], [], [], [7], [7], []] [[], [], [], [], [], [], [], [], [], [], [], [7], [7], []] follows (by kernel_rfl) (by decide) (by decide) (by kernel_rfl) ?_) | (with_reducible refine awp_ev_draw (id := 31) tab_ok [] [[0], [], [], [], [], [], [], [], [], [], [], []] [[], [], [], [], [], [], [], [], [], [], [], []] follows (by kernel_rfl) (by decide) (by decide) (by kernel_rfl) ?_) | (with_reducible refine awp_ev_quiet tab_ok follows (by kernel_rfl) ?_) | ((with_reducible first | refine gE ?_ | refine gR ?_ | refine gD ?_ | refine gF ?_); simp (maxSteps := 4000000) only [su, evLit, hbT, tab, thenA, blockA, reduceCtorEq, reduceIte, Nat.reduceEqDiff, Nat.reduceBEq, Int.reduceLE, Int.reduceToNat, Nat.reduceAdd, Nat.reduceLT, Nat.reduceLeDiff, sg, locM hm, plC, rtC, sgC, jnC, intC, splice_all, Int.reduceBNe, List.length_map, hlt, gi, f1, f2, hO1, gO, e0, hwp, hwl, hbl, hw, bp, bx1, bx2, ez]) | (show (_ : Nat) = (_ : Nat); rfl) | ((with_reducible refine awp_ret ?_); (try refine Or.inr ⟨(by intro h; cases h), ?_⟩); refine ret_tmp (.inr rfl) rfl rfl rfl (fun _ _ => rfl) ?_ <;> first | rfl | skip) | (refine call_pure (cf) ?_) | (refine call_pure (cl) ?_) | (refine call_pure (co) ?_) | (refine call_pure (cn) ?_) | (refine call_pure (cst) ?_) | ((with_reducible first | refine gsel_case (fun hg => ?_) (fun hg => ?_) | refine gselD_case (fun hg => ?_) (fun hg => ?_)) <;> (try simp only [nb] at hg) <;> simp (maxSteps := 4000000) only [su, evLit, hbT, tab, thenA, blockA, reduceCtorEq, reduceIte, Nat.reduceEqDiff, Nat.reduceBEq, Int.reduceLE, Int.reduceToNat, Nat.reduceAdd, Nat.reduceLT, Nat.reduceLeDiff, hg, sg, locM hm, plC, rtC, sgC, jnC, intC, splice_all, Int.reduceBNe, List.length_map, hlt, gi, f1, f2, hO1, gO, e0, hwp, hwl, hbl, hw, bp, bx1, bx2, ez]) | ((with_reducible refine awp_exit ?_); simp only [thenA, blockA, if_true, if_false, reduceIte, Nat.reduceEqDiff]) | (refine hK _ ?_; clear hK K) | refine awp_cond_t rfl ?_ | refine awp_cond_f rfl ?_ | refine awp_if rfl (fun hg => ?_) (fun hg => ?_) | (refine Or.inl ⟨rfl, ?_⟩; refine le_of_all ?_ ?_ rfl rfl rfl rfl <;> simp only [patch, sl, sg, locM hm, plC, rtC, sgC, jnC, intC, splice_all, Int.reduceBNe, List.length_map, hlt, gi, f1, f2, hO1, gO, e0, hwp, hwl, hbl, hw, bp, bx1, bx2, ez]) | ((first | show Program.eqGuardType _ _ _ = false | show numFieldsB _ _ _ = true | show Program.stoodInHeld _ _ = false); kernel_rfl) | clear hK K)
                refine ⟨i + 1, ⟨by omega, hov⟩, by omega, ?_⟩
                refine le_move [true, true, true, true, true, true, false, false, false] (fun n_ => ?_) (fun n_ => ?_) <;> simp only [patch, sm, plC, rtC, sgC, jnC, hlt, decide_true, jz]
            · have bx1 : (r.ex != 0) = true := by simpa using hx
              have bx2 : (r.ex == 0) = false := by simpa using hx
              have hsl := x2 hx
              rw [hsl] at cst
              have bx3 : (r.ex != r.ex) = false := by simp
              cases hbl : ((i : Int) == ((A.length - 1 : Nat) : Int)) with
              | true =>
                have hbo := bo hbl
                repeat' (first | (with_reducible first | refine awp_seq_k fun K hK => ?_ | refine awp_ev tab_ok [] ?_ | refine awp_block_s ?_ | refine awp_block_c ?_ | refine awp_block_r ?_ | refine awp_skip ?_ | apply And.intro) | (with_reducible refine awp_ev_draw (id := 17) tab_ok [] [[], [4], [], [], [], [], []] [[], [], [], [], [], [], []] follows (by kernel_rfl) (by decide) (by decide) (by kernel_rfl) ?_) | (with_reducible refine awp_ev_draw (id := 19) tab_ok [] [[], [0], [], [], [], [], [], [], [], [], [6], [6], []] [[], [], [], [], [], [], [], [], [], [], [6], [6], []] follows (by kernel_rfl) (by decide) (by decide) (by kernel_rfl) ?_) | (with_reducible refine awp_ev_draw (id := 24) tab_ok [] [[6], [], [4], [1], [], [6], [], [], [], [], [], [], [], []] [[], [], [], [], [], [], [], [], [], [], [], [], [], []] follows (by kernel_rfl) (by decide) (by decide) (by kernel_rfl) ?_) | (with_reducible refine awp_ev_draw (id := 27) tab_ok [] [[], [0], [], [], [], [], [], [], [], [], [], [7], [7], []] [[], [], [], [], [], [], [], [], [], [], [], [7], [7], []] follows (by kernel_rfl) (by decide) (by decide) (by kernel_rfl) ?_) | (with_reducible refine awp_ev_draw (id := 31) tab_ok [] [[0], [], [], [], [], [], [], [], [], [], [], []] [[], [], [], [], [], [], [], [], [], [], [], []] follows (by kernel_rfl) (by decide) (by decide) (by kernel_rfl) ?_) | (with_reducible refine awp_ev_quiet tab_ok follows (by kernel_rfl) ?_) | ((with_reducible first | refine gE ?_ | refine gR ?_ | refine gD ?_ | refine gF ?_); simp (maxSteps := 4000000) only [su, evLit, hbT, tab, thenA, blockA, reduceCtorEq, reduceIte, Nat.reduceEqDiff, Nat.reduceBEq, Int.reduceLE, Int.reduceToNat, Nat.reduceAdd, Nat.reduceLT, Nat.reduceLeDiff, sg, locM hm, plC, rtC, sgC, jnC, intC, splice_all, Int.reduceBNe, List.length_map, hlt, gi, f1, f2, hO1, gO, e0, hwp, hwl, hbl, hw, bp, hbo, bx1, bx2, bx3]) | (show (_ : Nat) = (_ : Nat); rfl) | ((with_reducible refine awp_ret ?_); (try refine Or.inr ⟨(by intro h; cases h), ?_⟩); refine ret_tmp (.inr rfl) rfl rfl rfl (fun _ _ => rfl) ?_ <;> first | rfl | skip) | (refine call_pure (cf) ?_) | (refine call_pure (cl) ?_) | (refine call_pure (co) ?_) | (refine call_pure (cn) ?_) | (refine call_pure (cst) ?_) | ((with_reducible first | refine gsel_case (fun hg => ?_) (fun hg => ?_) | refine gselD_case (fun hg => ?_) (fun hg => ?_)) <;> (try simp only [nb] at hg) <;> simp (maxSteps := 4000000) only [su, evLit, hbT, tab, thenA, blockA, reduceCtorEq, reduceIte, Nat.reduceEqDiff, Nat.reduceBEq, Int.reduceLE, Int.reduceToNat, Nat.reduceAdd, Nat.reduceLT, Nat.reduceLeDiff, hg, sg, locM hm, plC, rtC, sgC, jnC, intC, splice_all, Int.reduceBNe, List.length_map, hlt, gi, f1, f2, hO1, gO, e0, hwp, hwl, hbl, hw, bp, hbo, bx1, bx2, bx3]) | ((with_reducible refine awp_exit ?_); simp only [thenA, blockA, if_true, if_false, reduceIte, Nat.reduceEqDiff]) | (refine hK _ ?_; clear hK K) | refine awp_cond_t rfl ?_ | refine awp_cond_f rfl ?_ | refine awp_if rfl (fun hg => ?_) (fun hg => ?_) | (refine Or.inl ⟨rfl, ?_⟩; refine le_of_all ?_ ?_ rfl rfl rfl rfl <;> simp only [patch, sl, sg, locM hm, plC, rtC, sgC, jnC, intC, splice_all, Int.reduceBNe, List.length_map, hlt, gi, f1, f2, hO1, gO, e0, hwp, hwl, hbl, hw, bp, hbo, bx1, bx2, bx3]) | ((first | show Program.eqGuardType _ _ _ = false | show numFieldsB _ _ _ = true | show Program.stoodInHeld _ _ = false); kernel_rfl) | clear hK K)
                refine ⟨i + 1, ⟨by omega, hov⟩, by omega, ?_⟩
                refine le_move [true, true, true, true, true, true, false, false, false] (fun n_ => ?_) (fun n_ => ?_) <;> simp only [patch, sm, plC, rtC, sgC, jnC, hlt, decide_true]
              | false =>
                repeat' (first | (with_reducible first | refine awp_seq_k fun K hK => ?_ | refine awp_ev tab_ok [] ?_ | refine awp_block_s ?_ | refine awp_block_c ?_ | refine awp_block_r ?_ | refine awp_skip ?_ | apply And.intro) | (with_reducible refine awp_ev_draw (id := 17) tab_ok [] [[], [4], [], [], [], [], []] [[], [], [], [], [], [], []] follows (by kernel_rfl) (by decide) (by decide) (by kernel_rfl) ?_) | (with_reducible refine awp_ev_draw (id := 19) tab_ok [] [[], [0], [], [], [], [], [], [], [], [], [6], [6], []] [[], [], [], [], [], [], [], [], [], [], [6], [6], []] follows (by kernel_rfl) (by decide) (by decide) (by kernel_rfl) ?_) | (with_reducible refine awp_ev_draw (id := 24) tab_ok [] [[6], [], [4], [1], [], [6], [], [], [], [], [], [], [], []] [[], [], [], [], [], [], [], [], [], [], [], [], [], []] follows (by kernel_rfl) (by decide) (by decide) (by kernel_rfl) ?_) | (with_reducible refine awp_ev_draw (id := 27) tab_ok [] [[], [0], [], [], [], [], [], [], [], [], [], [7], [7], []] [[], [], [], [], [], [], [], [], [], [], [], [7], [7], []] follows (by kernel_rfl) (by decide) (by decide) (by kernel_rfl) ?_) | (with_reducible refine awp_ev_draw (id := 31) tab_ok [] [[0], [], [], [], [], [], [], [], [], [], [], []] [[], [], [], [], [], [], [], [], [], [], [], []] follows (by kernel_rfl) (by decide) (by decide) (by kernel_rfl) ?_) | (with_reducible refine awp_ev_quiet tab_ok follows (by kernel_rfl) ?_) | ((with_reducible first | refine gE ?_ | refine gR ?_ | refine gD ?_ | refine gF ?_); simp (maxSteps := 4000000) only [su, evLit, hbT, tab, thenA, blockA, reduceCtorEq, reduceIte, Nat.reduceEqDiff, Nat.reduceBEq, Int.reduceLE, Int.reduceToNat, Nat.reduceAdd, Nat.reduceLT, Nat.reduceLeDiff, sg, locM hm, plC, rtC, sgC, jnC, intC, splice_all, Int.reduceBNe, List.length_map, hlt, gi, f1, f2, hO1, gO, e0, hwp, hwl, hbl, hw, bp, bx1, bx2, bx3]) | (show (_ : Nat) = (_ : Nat); rfl) | ((with_reducible refine awp_ret ?_); (try refine Or.inr ⟨(by intro h; cases h), ?_⟩); refine ret_tmp (.inr rfl) rfl rfl rfl (fun _ _ => rfl) ?_ <;> first | rfl | skip) | (refine call_pure (cf) ?_) | (refine call_pure (cl) ?_) | (refine call_pure (co) ?_) | (refine call_pure (cn) ?_) | (refine call_pure (cst) ?_) | ((with_reducible first | refine gsel_case (fun hg => ?_) (fun hg => ?_) | refine gselD_case (fun hg => ?_) (fun hg => ?_)) <;> (try simp only [nb] at hg) <;> simp (maxSteps := 4000000) only [su, evLit, hbT, tab, thenA, blockA, reduceCtorEq, reduceIte, Nat.reduceEqDiff, Nat.reduceBEq, Int.reduceLE, Int.reduceToNat, Nat.reduceAdd, Nat.reduceLT, Nat.reduceLeDiff, hg, sg, locM hm, plC, rtC, sgC, jnC, intC, splice_all, Int.reduceBNe, List.length_map, hlt, gi, f1, f2, hO1, gO, e0, hwp, hwl, hbl, hw, bp, bx1, bx2, bx3]) | ((with_reducible refine awp_exit ?_); simp only [thenA, blockA, if_true, if_false, reduceIte, Nat.reduceEqDiff]) | (refine hK _ ?_; clear hK K) | refine awp_cond_t rfl ?_ | refine awp_cond_f rfl ?_ | refine awp_if rfl (fun hg => ?_) (fun hg => ?_) | (refine Or.inl ⟨rfl, ?_⟩; refine le_of_all ?_ ?_ rfl rfl rfl rfl <;> simp only [patch, sl, sg, locM hm, plC, rtC, sgC, jnC, intC, splice_all, Int.reduceBNe, List.length_map, hlt, gi, f1, f2, hO1, gO, e0, hwp, hwl, hbl, hw, bp, bx1, bx2, bx3]) | ((first | show Program.eqGuardType _ _ _ = false | show numFieldsB _ _ _ = true | show Program.stoodInHeld _ _ = false); kernel_rfl) | clear hK K)
                refine ⟨i + 1, ⟨by omega, hov⟩, by omega, ?_⟩
                refine le_move [true, true, true, true, true, true, false, false, false] (fun n_ => ?_) (fun n_ => ?_) <;> simp only [patch, sm, plC, rtC, sgC, jnC, hlt, decide_true]
          · have bp : ((i : Int) == ((r.path.length - 1 : Nat) : Int)) = false := by simp; omega
            have hbl : ((i : Int) == ((A.length - 1 : Nat) : Int)) = false := by
              have : i + 1 ≠ A.length := by
                rcases hk with h | h
                · exact absurd h hp
                · exact h
              simp; omega
            repeat' (first | (with_reducible first | refine awp_seq_k fun K hK => ?_ | refine awp_ev tab_ok [] ?_ | refine awp_block_s ?_ | refine awp_block_c ?_ | refine awp_block_r ?_ | refine awp_skip ?_ | apply And.intro) | (with_reducible refine awp_ev_draw (id := 17) tab_ok [] [[], [4], [], [], [], [], []] [[], [], [], [], [], [], []] follows (by kernel_rfl) (by decide) (by decide) (by kernel_rfl) ?_) | (with_reducible refine awp_ev_draw (id := 19) tab_ok [] [[], [0], [], [], [], [], [], [], [], [], [6], [6], []] [[], [], [], [], [], [], [], [], [], [], [6], [6], []] follows (by kernel_rfl) (by decide) (by decide) (by kernel_rfl) ?_) | (with_reducible refine awp_ev_draw (id := 24) tab_ok [] [[6], [], [4], [1], [], [6], [], [], [], [], [], [], [], []] [[], [], [], [], [], [], [], [], [], [], [], [], [], []] follows (by kernel_rfl) (by decide) (by decide) (by kernel_rfl) ?_) | (with_reducible refine awp_ev_draw (id := 27) tab_ok [] [[], [0], [], [], [], [], [], [], [], [], [], [7], [7], []] [[], [], [], [], [], [], [], [], [], [], [], [7], [7], []] follows (by kernel_rfl) (by decide) (by decide) (by kernel_rfl) ?_) | (with_reducible refine awp_ev_draw (id := 31) tab_ok [] [[0], [], [], [], [], [], [], [], [], [], [], []] [[], [], [], [], [], [], [], [], [], [], [], []] follows (by kernel_rfl) (by decide) (by decide) (by kernel_rfl) ?_) | (with_reducible refine awp_ev_quiet tab_ok follows (by kernel_rfl) ?_) | ((with_reducible first | refine gE ?_ | refine gR ?_ | refine gD ?_ | refine gF ?_); simp (maxSteps := 4000000) only [su, evLit, hbT, tab, thenA, blockA, reduceCtorEq, reduceIte, Nat.reduceEqDiff, Nat.reduceBEq, Int.reduceLE, Int.reduceToNat, Nat.reduceAdd, Nat.reduceLT, Nat.reduceLeDiff, sg, locM hm, plC, rtC, sgC, jnC, intC, splice_all, Int.reduceBNe, List.length_map, hlt, gi, f1, f2, hO1, gO, e0, hwp, hwl, hbl, hw, bp]) | (show (_ : Nat) = (_ : Nat); rfl) | ((with_reducible refine awp_ret ?_); (try refine Or.inr ⟨(by intro h; cases h), ?_⟩); refine ret_tmp (.inr rfl) rfl rfl rfl (fun _ _ => rfl) ?_ <;> first | rfl | skip) | (refine call_pure (cf) ?_) | (refine call_pure (cl) ?_) | (refine call_pure (co) ?_) | (refine call_pure (cn) ?_) | (refine call_pure (cst) ?_) | ((with_reducible first | refine gsel_case (fun hg => ?_) (fun hg => ?_) | refine gselD_case (fun hg => ?_) (fun hg => ?_)) <;> (try simp only [nb] at hg) <;> simp (maxSteps := 4000000) only [su, evLit, hbT, tab, thenA, blockA, reduceCtorEq, reduceIte, Nat.reduceEqDiff, Nat.reduceBEq, Int.reduceLE, Int.reduceToNat, Nat.reduceAdd, Nat.reduceLT, Nat.reduceLeDiff, hg, sg, locM hm, plC, rtC, sgC, jnC, intC, splice_all, Int.reduceBNe, List.length_map, hlt, gi, f1, f2, hO1, gO, e0, hwp, hwl, hbl, hw, bp]) | ((with_reducible refine awp_exit ?_); simp only [thenA, blockA, if_true, if_false, reduceIte, Nat.reduceEqDiff]) | (refine hK _ ?_; clear hK K) | refine awp_cond_t rfl ?_ | refine awp_cond_f rfl ?_ | refine awp_if rfl (fun hg => ?_) (fun hg => ?_) | (refine Or.inl ⟨rfl, ?_⟩; refine le_of_all ?_ ?_ rfl rfl rfl rfl <;> simp only [patch, sl, sg, locM hm, plC, rtC, sgC, jnC, intC, splice_all, Int.reduceBNe, List.length_map, hlt, gi, f1, f2, hO1, gO, e0, hwp, hwl, hbl, hw, bp]) | ((first | show Program.eqGuardType _ _ _ = false | show numFieldsB _ _ _ = true | show Program.stoodInHeld _ _ = false); kernel_rfl) | clear hK K)
            refine ⟨i + 1, ⟨by omega, hov⟩, by omega, ?_⟩
            refine le_move [true, true, true, true, true, true, false, false, false] (fun n_ => ?_) (fun n_ => ?_) <;> simp only [patch, sm, plC, rtC, sgC, jnC, hlt, decide_true]
        · have hk1 : i + 1 ≠ r.path.length := fun h => hk (.inl h)
          have hk2 : i + 1 = A.length := Classical.byContradiction fun h => hk (.inr h)
          obtain ⟨s, a, b, o1, o2⟩ := hstay hk2 hk1
          obtain ⟨fE, fD⟩ := findE_some (may_parts hmay).2.1 a
          have cf := cF A[i]
          rw [fE, fD] at cf
          have cl := hL s.pt i
          have f1 : ((J i).1 != A[i]) = false := by simp [b]
          have hbl : ((i : Int) == ((A.length - 1 : Nat) : Int)) = true := by simp; omega
          have hbo : decide ((r.over.length : Int) > 0) = true := decide_eq_true (by omega)
          have f3 : ((O.length : Int) == (i : Int)) = true := by simp [o1]
          rcases o2 with o2 | o2
          · have f4 : (s.pt == 0) = true := by simp [o2]
            repeat' (first | (with_reducible first | refine awp_seq_k fun K hK => ?_ | refine awp_ev tab_ok [] ?_ | refine awp_block_s ?_ | refine awp_block_c ?_ | refine awp_block_r ?_ | refine awp_skip ?_ | apply And.intro) | (with_reducible refine awp_ev_draw (id := 17) tab_ok [] [[], [4], [], [], [], [], []] [[], [], [], [], [], [], []] follows (by kernel_rfl) (by decide) (by decide) (by kernel_rfl) ?_) | (with_reducible refine awp_ev_draw (id := 19) tab_ok [] [[], [0], [], [], [], [], [], [], [], [], [6], [6], []] [[], [], [], [], [], [], [], [], [], [], [6], [6], []] follows (by kernel_rfl) (by decide) (by decide) (by kernel_rfl) ?_) | (with_reducible refine awp_ev_draw (id := 23) tab_ok [] [[], [], [], [], [], [], [6], [], [], [1], [], [6], [], [], [], [4], [], [], [], []] [[], [], [], [], [], [], [], [], [], [], [], [], [], [], [], [], [], [], [], []] follows (by kernel_rfl) (by decide) (by decide) (by kernel_rfl) ?_) | (with_reducible refine awp_ev_quiet tab_ok follows (by kernel_rfl) ?_) | ((with_reducible first | refine gE ?_ | refine gR ?_ | refine gD ?_ | refine gF ?_); simp (maxSteps := 4000000) only [su, evLit, hbT, tab, thenA, blockA, reduceCtorEq, reduceIte, Nat.reduceEqDiff, Nat.reduceBEq, Int.reduceLE, Int.reduceToNat, Nat.reduceAdd, Nat.reduceLT, Nat.reduceLeDiff, sg, locM hm, plC, rtC, sgC, jnC, intC, splice_all, Int.reduceBNe, List.length_map, hlt, gi, f1, f3, f4, hwl, hbl, hbo]) | (show (_ : Nat) = (_ : Nat); rfl) | ((with_reducible refine awp_ret ?_); (try refine Or.inr ⟨(by intro h; cases h), ?_⟩); refine ret_tmp (.inr rfl) rfl rfl rfl (fun _ _ => rfl) ?_ <;> first | rfl | skip) | (refine call_pure (cf) ?_) | (refine call_pure (cl) ?_) | ((with_reducible first | refine gsel_case (fun hg => ?_) (fun hg => ?_) | refine gselD_case (fun hg => ?_) (fun hg => ?_)) <;> (try simp only [nb] at hg) <;> simp (maxSteps := 4000000) only [su, evLit, hbT, tab, thenA, blockA, reduceCtorEq, reduceIte, Nat.reduceEqDiff, Nat.reduceBEq, Int.reduceLE, Int.reduceToNat, Nat.reduceAdd, Nat.reduceLT, Nat.reduceLeDiff, hg, sg, locM hm, plC, rtC, sgC, jnC, intC, splice_all, Int.reduceBNe, List.length_map, hlt, gi, f1, f3, f4, hwl, hbl, hbo]) | ((with_reducible refine awp_exit ?_); simp only [thenA, blockA, if_true, if_false, reduceIte, Nat.reduceEqDiff]) | (refine hK _ ?_; clear hK K) | refine awp_cond_t rfl ?_ | refine awp_cond_f rfl ?_ | refine awp_if rfl (fun hg => ?_) (fun hg => ?_) | (refine Or.inl ⟨rfl, ?_⟩; refine le_of_all ?_ ?_ rfl rfl rfl rfl <;> simp only [patch, sl, sg, locM hm, plC, rtC, sgC, jnC, intC, splice_all, Int.reduceBNe, List.length_map, hlt, gi, f1, f3, f4, hwl, hbl, hbo]) | ((first | show Program.eqGuardType _ _ _ = false | show numFieldsB _ _ _ = true | show Program.stoodInHeld _ _ = false); kernel_rfl) | clear hK K)
          · rw [o2] at cl
            have f5 : ((J i).2 == (J i).2) = true := by simp
            repeat' (first | (with_reducible first | refine awp_seq_k fun K hK => ?_ | refine awp_ev tab_ok [] ?_ | refine awp_block_s ?_ | refine awp_block_c ?_ | refine awp_block_r ?_ | refine awp_skip ?_ | apply And.intro) | (with_reducible refine awp_ev_draw (id := 17) tab_ok [] [[], [4], [], [], [], [], []] [[], [], [], [], [], [], []] follows (by kernel_rfl) (by decide) (by decide) (by kernel_rfl) ?_) | (with_reducible refine awp_ev_draw (id := 19) tab_ok [] [[], [0], [], [], [], [], [], [], [], [], [6], [6], []] [[], [], [], [], [], [], [], [], [], [], [6], [6], []] follows (by kernel_rfl) (by decide) (by decide) (by kernel_rfl) ?_) | (with_reducible refine awp_ev_draw (id := 23) tab_ok [] [[], [], [], [], [], [], [6], [], [], [1], [], [6], [], [], [], [4], [], [], [], []] [[], [], [], [], [], [], [], [], [], [], [], [], [], [], [], [], [], [], [], []] follows (by kernel_rfl) (by decide) (by decide) (by kernel_rfl) ?_) | (with_reducible refine awp_ev_quiet tab_ok follows (by kernel_rfl) ?_) | ((with_reducible first | refine gE ?_ | refine gR ?_ | refine gD ?_ | refine gF ?_); simp (maxSteps := 4000000) only [su, evLit, hbT, tab, thenA, blockA, reduceCtorEq, reduceIte, Nat.reduceEqDiff, Nat.reduceBEq, Int.reduceLE, Int.reduceToNat, Nat.reduceAdd, Nat.reduceLT, Nat.reduceLeDiff, sg, locM hm, plC, rtC, sgC, jnC, intC, splice_all, Int.reduceBNe, List.length_map, hlt, gi, f1, f3, f5, hwl, hbl, hbo]) | (show (_ : Nat) = (_ : Nat); rfl) | ((with_reducible refine awp_ret ?_); (try refine Or.inr ⟨(by intro h; cases h), ?_⟩); refine ret_tmp (.inr rfl) rfl rfl rfl (fun _ _ => rfl) ?_ <;> first | rfl | skip) | (refine call_pure (cf) ?_) | (refine call_pure (cl) ?_) | ((with_reducible first | refine gsel_case (fun hg => ?_) (fun hg => ?_) | refine gselD_case (fun hg => ?_) (fun hg => ?_)) <;> (try simp only [nb] at hg) <;> simp (maxSteps := 4000000) only [su, evLit, hbT, tab, thenA, blockA, reduceCtorEq, reduceIte, Nat.reduceEqDiff, Nat.reduceBEq, Int.reduceLE, Int.reduceToNat, Nat.reduceAdd, Nat.reduceLT, Nat.reduceLeDiff, hg, sg, locM hm, plC, rtC, sgC, jnC, intC, splice_all, Int.reduceBNe, List.length_map, hlt, gi, f1, f3, f5, hwl, hbl, hbo]) | ((with_reducible refine awp_exit ?_); simp only [thenA, blockA, if_true, if_false, reduceIte, Nat.reduceEqDiff]) | (refine hK _ ?_; clear hK K) | refine awp_cond_t rfl ?_ | refine awp_cond_f rfl ?_ | refine awp_if rfl (fun hg => ?_) (fun hg => ?_) | (refine Or.inl ⟨rfl, ?_⟩; refine le_of_all ?_ ?_ rfl rfl rfl rfl <;> simp only [patch, sl, sg, locM hm, plC, rtC, sgC, jnC, intC, splice_all, Int.reduceBNe, List.length_map, hlt, gi, f1, f3, f5, hwl, hbl, hbo]) | ((first | show Program.eqGuardType _ _ _ = false | show numFieldsB _ _ _ = true | show Program.stoodInHeld _ _ = false); kernel_rfl) | clear hK K)
      · have hov := hq (by omega)
        have f9 : ((O.length : Int) == (A.length : Int)) = true := by simp [hend hov]
        obtain rfl : i = A.length := by omega
        repeat' (first | (with_reducible first | refine awp_seq_k fun K hK => ?_ | refine awp_ev tab_ok [] ?_ | refine awp_block_s ?_ | refine awp_block_c ?_ | refine awp_block_r ?_ | refine awp_skip ?_ | apply And.intro) | (with_reducible refine awp_ev_quiet tab_ok follows (by kernel_rfl) ?_) | ((with_reducible first | refine gE ?_ | refine gR ?_ | refine gD ?_ | refine gF ?_); simp (maxSteps := 4000000) only [su, evLit, hbT, tab, thenA, blockA, reduceCtorEq, reduceIte, Nat.reduceEqDiff, Nat.reduceBEq, Int.reduceLE, Int.reduceToNat, Nat.reduceAdd, Nat.reduceLT, Nat.reduceLeDiff, locM hm, List.length_map, hlt, f9]) | (show (_ : Nat) = (_ : Nat); rfl) | ((with_reducible refine awp_ret ?_); (try refine Or.inr ⟨(by intro h; cases h), ?_⟩); refine ret_tmp (.inr rfl) rfl rfl rfl (fun _ _ => rfl) ?_ <;> first | rfl | skip) | ((with_reducible refine gsel_case (fun hg => ?_) (fun hg => ?_)) <;> (try simp only [nb] at hg) <;> simp (maxSteps := 4000000) only [su, evLit, hbT, tab, thenA, blockA, reduceCtorEq, reduceIte, Nat.reduceEqDiff, Nat.reduceBEq, Int.reduceLE, Int.reduceToNat, Nat.reduceAdd, Nat.reduceLT, Nat.reduceLeDiff, hg, locM hm, List.length_map, hlt, f9]) | ((with_reducible refine awp_exit ?_); simp only [thenA, blockA, if_true, if_false, reduceIte, Nat.reduceEqDiff]) | (refine hK _ ?_; clear hK K) | refine awp_cond_t rfl ?_ | refine awp_cond_f rfl ?_ | refine awp_if rfl (fun hg => ?_) (fun hg => ?_) | (refine Or.inl ⟨rfl, ?_⟩; refine le_of_all ?_ ?_ rfl rfl rfl rfl <;> simp only [patch, sl, locM hm, List.length_map, hlt, f9]) | ((first | show Program.eqGuardType _ _ _ = false | show numFieldsB _ _ _ = true | show Program.stoodInHeld _ _ = false); kernel_rfl) | clear hK K)
    · have hb : (ofE p id != 0) = true := by simpa using hE
      have hself : (ofE p id == ofE p id) = true := by simp
      have hw0 : (ofW p id).path = [] := by
        unfold ofE at hE; unfold ofW
        by_cases h : rtE p id = 0
        · rw [if_pos h] at hE ⊢
          unfold folE at hE; unfold folW
          cases hl : (endW p (rtO p id)).lost with
          | true => rfl
          | false => rw [hl] at hE; simp at hE
        · rw [if_neg h]; rfl
      have ho0 : ofO p id = [] := by
        unfold ofE at hE; unfold ofO
        by_cases h : rtE p id = 0
        · rw [if_pos h] at hE ⊢
          unfold folE at hE; unfold folO
          cases hl : (endW p (rtO p id)).lost with
          | true => rfl
          | false => rw [hl] at hE; simp at hE
        · rw [if_neg h]
      rw [ho0] at cO
      generalize rtO p id = r at *
      generalize ofW p id = W at *
      generalize rtE p id = E2 at *
      generalize ofE p id = E1 at *
      simp only [plA, plC, wyA, wyC, rtA, rtC, hw0, List.map_nil] at c1 c2 cO
      refine acall_of 9 Try.func13 rfl fun n out _ _ => ?_
      simp only [Try.ntmps13, List.length_cons, List.length_nil, List.length_map, List.length_replicate, rep_map, Nat.reduceAdd, Nat.reduceSub, List.replicate, List.cons_append, List.nil_append]
      repeat' (first | (with_reducible first | refine awp_seq_k fun K hK => ?_ | refine awp_ev tab_ok [] ?_ | refine awp_block_s ?_ | refine awp_block_c ?_ | refine awp_block_r ?_ | refine awp_skip ?_ | apply And.intro) | (with_reducible refine awp_ev_quiet tab_ok follows (by kernel_rfl) ?_) | ((with_reducible first | refine gE ?_ | refine gR ?_ | refine gD ?_ | refine gF ?_); simp (maxSteps := 4000000) only [su, evLit, hbT, tab, thenA, blockA, reduceCtorEq, reduceIte, Nat.reduceEqDiff, Nat.reduceBEq, Int.reduceLE, Int.reduceToNat, Nat.reduceAdd, Nat.reduceLT, Nat.reduceLeDiff, plA, plC, splice_all, hb, hself, List.length_nil]) | (show (_ : Nat) = (_ : Nat); rfl) | ((with_reducible refine awp_ret ?_); (try refine Or.inr ⟨(by intro h; cases h), ?_⟩); refine ret_tmp (.inr rfl) rfl rfl rfl (fun _ _ => rfl) ?_ <;> first | rfl | skip) | (refine call_pure (cg) ?_) | (refine call_pure (c_walive) ?_) | (refine call_pure (c1) ?_) | (refine call_pure (cO) ?_) | (refine call_pure (c2) ?_) | ((with_reducible refine gsel_case (fun hg => ?_) (fun hg => ?_)) <;> (try simp only [nb] at hg) <;> simp (maxSteps := 4000000) only [su, evLit, hbT, tab, thenA, blockA, reduceCtorEq, reduceIte, Nat.reduceEqDiff, Nat.reduceBEq, Int.reduceLE, Int.reduceToNat, Nat.reduceAdd, Nat.reduceLT, Nat.reduceLeDiff, hg, plA, plC, splice_all, hb, hself, List.length_nil]) | ((with_reducible refine awp_exit ?_); simp only [thenA, blockA, if_true, if_false, reduceIte, Nat.reduceEqDiff]) | (refine hK _ ?_; clear hK K) | refine awp_cond_t rfl ?_ | refine awp_cond_f rfl ?_ | refine awp_if rfl (fun hg => ?_) (fun hg => ?_) | (refine Or.inl ⟨rfl, ?_⟩; refine le_of_all ?_ ?_ rfl rfl rfl rfl <;> simp only [patch, sl, plA, plC, splice_all, hb, hself, List.length_nil]) | ((first | show Program.eqGuardType _ _ _ = false | show numFieldsB _ _ _ = true | show Program.stoodInHeld _ _ = false); kernel_rfl) | clear hK K)
      all_goals (exfalso; simp at *; done)
end Go.Proofs.Ytdkiciofkifpdaa.Pln
