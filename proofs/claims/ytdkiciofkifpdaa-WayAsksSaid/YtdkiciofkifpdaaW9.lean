/-
  The law WayAsks.
-/
import Derived.Test.YtdkiciofkifpdaaW7
import Derived.Test.YtdkiciofkifpdaaW8
import Derived.Test.YtdkiciofkifpdaaPF3
namespace Go.Proofs.Ytdkiciofkifpdaa.Pln
set_option linter.unusedVariables false
set_option linter.unusedSimpArgs false
open Go Go.VS Tab
set_option maxHeartbeats 8000000
set_option maxRecDepth 8000

theorem c_lawWAsks (p : Pl) (id : Int) : ACall Try.prog 10 [plA p, i64 id] [] (bool true) [] := by
  have cg := c_rgreat p
  simp only [plA, plC] at cg
  cases hG : greatP p with
  | true =>
    rw [hG] at cg
    refine acall_of 6 Try.func10 rfl fun n out _ _ => ?_
    simp only [Try.ntmps10, List.length_cons, List.length_nil, List.length_map, List.length_replicate, rep_map, Nat.reduceAdd, Nat.reduceSub, List.replicate, List.cons_append, List.nil_append]
    repeat' (first | (with_reducible first | refine awp_seq_k fun K hK => ?_ | refine awp_ev tab_ok [] ?_ | refine awp_block_s ?_ | refine awp_block_c ?_ | refine awp_block_r ?_ | refine awp_skip ?_ | apply And.intro) | (with_reducible refine awp_ev_quiet tab_ok follows (by kernel_rfl) ?_) | ((with_reducible first | refine gE ?_ | refine gR ?_ | refine gD ?_ | refine gF ?_); simp (maxSteps := 4000000) only [sx, sy, ne_eq, eq_self, if_true, if_false, Nat.reduceEqDiff, hbT, evBuild, evLit, evMake, tab, isShift, thenA, blockA, reduceCtorEq, reduceIte, Nat.reduceBEq, Int.reduceLE, Int.reduceToNat, Nat.reduceAdd, Nat.reduceLT, Nat.reduceLeDiff, plA, plC]) | (show (_ : Nat) = (_ : Nat); rfl) | ((with_reducible refine awp_ret ?_); (first | refine ret_tmp (.inr rfl) rfl rfl rfl (fun _ _ => rfl) ?_) <;> first | rfl | rfl | skip) | ((with_reducible refine awp_ret ?_); refine Or.inr ⟨(by intro h; cases h), ?_⟩; refine ret_tmp (.inr rfl) rfl rfl rfl (fun _ _ => rfl) ?_ <;> first | rfl | rfl | skip) | (refine call_pure (cg) ?_) | (refine call_pure (c_walive) ?_) | ((with_reducible refine gsel_case (fun hg => ?_) (fun hg => ?_)) <;> (try simp only [Bool.not_eq_true', Bool.not_eq_false'] at hg) <;> simp (maxSteps := 4000000) only [sx, sy, ne_eq, eq_self, if_true, if_false, Nat.reduceEqDiff, hbT, evBuild, evLit, evMake, tab, isShift, thenA, blockA, reduceCtorEq, reduceIte, Nat.reduceBEq, Int.reduceLE, Int.reduceToNat, Nat.reduceAdd, Nat.reduceLT, Nat.reduceLeDiff, hg, plA, plC]) | ((with_reducible refine awp_exit ?_); simp only [thenA, blockA, if_true, if_false, reduceIte, Nat.reduceEqDiff]) | (refine hK _ ?_; clear hK K) | refine awp_cond_t rfl ?_ | refine awp_cond_f rfl ?_ | refine awp_if rfl (fun hg => ?_) (fun hg => ?_) | (refine Or.inl ⟨rfl, ?_⟩; refine le_of_all ?_ ?_ rfl rfl rfl rfl <;> simp only [patch, sl, plA, plC]) | ((first | show Program.eqGuardType _ _ _ = false | show numFieldsB _ _ _ = true | show Program.stoodInHeld _ _ = false); kernel_rfl) | clear hK K)
  | false =>
    rw [hG] at cg
    have hs := small_of hG
    have c1 := c_of p hs id
    have c2 : ACall Try.prog 24 [plA p, i64 id] [] (.tup [rtA (rtO p id), i64 (rtE p id)]) [] := c_pRoute p hs id
    by_cases hE : ofE p id = 0
    · obtain ⟨l, hm, hr0, hr, w1, w2, w3, hok⟩ := ofW_asks hE
      obtain ⟨hp1, _⟩ := entry_of hm hr
      obtain ⟨b1, b2, b3⟩ := hs.rt _ hr
      rw [hE] at c1
      have hwl : (ofW p id).asks.length = l.length + (rtO p id).flanks.length := by rw [w3]; simp
      have hll : l.length ≤ 40 := by
        have : ∀ i (hi : i < l.length), ∃ j : Nat, l[i].2.2 = (j : Int) ∧ i ≤ j := by
          intro i
          induction i with
          | zero => intro hi; obtain ⟨j, _, _, a, _⟩ := hok.each 0 hi; exact ⟨j, a, Nat.zero_le _⟩
          | succ i ih =>
            intro hi
            obtain ⟨j, a, b⟩ := ih (by omega)
            obtain ⟨j', _, _, a', _⟩ := hok.each (i + 1) hi
            have := hok.rise i hi
            exact ⟨j', a', by omega⟩
        by_cases h0 : l.length = 0
        · omega
        · obtain ⟨j, a, b⟩ := this (l.length - 1) (by omega)
          obtain ⟨j', _, q, a', _⟩ := hok.each (l.length - 1) (by omega)
          simp only [List.length_append] at q
          omega
      have cP := fun n => c_pPoint p hs n
      rw [hm] at cP
      simp only [plA, plC, jnA, jnC] at cP
      have hpt := fun {s : Sec} (h1 : s ∈ p.secs) (h2 : s.pt ≠ 0) => pt_of hm h1 h2
      generalize rtO p id = r at *
      generalize ofW p id = W at *
      obtain ⟨A, hA⟩ : ∃ A, A = r.path ++ r.over := ⟨_, rfl⟩
      rw [← hA] at hok
      have hAl : A.length = r.path.length + r.over.length := by rw [hA, List.length_append]
      have hAm : A.map intC = r.path.map intC ++ r.over.map intC := by rw [hA, List.map_append]
      have hne : ¬ (r.path.map intC = []) := by intro h; rw [List.map_eq_nil_iff] at h; rw [h] at hp1; simp at hp1
      have hsub : IntKind.i64.wrap ((W.asks.length : Int) - (r.flanks.length : Int)) = (l.length : Int) := by
        rw [hwl]
        have e : (((l.length + r.flanks.length : Nat)) : Int) - (r.flanks.length : Int) = (l.length : Int) := by omega
        rw [e]
        exact wrap_i64 (by omega) (by omega)
      have hl0 : decide ((l.length : Int) < 0) = false := decide_eq_false (by omega)
      have z1 : r.path.length * 8 ≤ 140737488355328 := by omega
      have z2 : r.path.length ≤ 9223372036854775807 := by omega
      have z3 : (r.path.length + r.over.length) * 8 ≤ 140737488355328 := by omega
      have z4 : r.path.length + r.over.length ≤ 9223372036854775807 := by omega
      simp only [plA, plC, wyA, wyC, rtA, rtC, w1, w2] at c1 c2
      refine acall_of 6 Try.func10 rfl fun n out _ _ => ?_
      simp only [Try.ntmps10, List.length_cons, List.length_nil, List.length_map, List.length_replicate, rep_map, Nat.reduceAdd, Nat.reduceSub, List.replicate, List.cons_append, List.nil_append]
      repeat' (first | (with_reducible first | refine awp_seq_k fun K hK => ?_ | refine awp_ev tab_ok [(47, none)] ?_ | refine awp_block_s ?_ | refine awp_block_c ?_ | refine awp_block_r ?_ | refine awp_skip ?_ | apply And.intro) | (with_reducible refine awp_ev_draw (id := 8) tab_ok [(47, none)] [[], [], [1], [3], [], [1], [3], []] [[], [], [], [3], [], [], [3], []] follows (by kernel_rfl) (by decide) (by decide) (by kernel_rfl) ?_) | (with_reducible refine awp_ev_quiet tab_ok follows (by kernel_rfl) ?_) | ((with_reducible first | refine gE ?_ | refine gR ?_ | refine gD ?_ | refine gF ?_); simp (maxSteps := 4000000) only [sx, sy, ne_eq, eq_self, if_true, if_false, Nat.reduceEqDiff, hbT, evBuild, evLit, evMake, tab, isShift, thenA, blockA, reduceCtorEq, reduceIte, Nat.reduceBEq, Int.reduceLE, Int.reduceToNat, Nat.reduceAdd, Nat.reduceLT, Nat.reduceLeDiff, plA, plC, rtC, wyC, splice_all, Int.reduceBNe, List.length_map, hsub, hl0, hne, z1, z2, z3, z4]) | (show (_ : Nat) = (_ : Nat); rfl) | ((with_reducible refine awp_ret ?_); (first | refine ret_tmp (.inr rfl) rfl rfl rfl (fun _ _ => rfl) ?_) <;> first | rfl | rfl | skip) | ((with_reducible refine awp_ret ?_); refine Or.inr ⟨(by intro h; cases h), ?_⟩; refine ret_tmp (.inr rfl) rfl rfl rfl (fun _ _ => rfl) ?_ <;> first | rfl | rfl | skip) | (refine call_pure (cg) ?_) | (refine call_pure (c_walive) ?_) | (refine call_pure (c1) ?_) | (refine call_pure (c2) ?_) | ((with_reducible refine gsel_case (fun hg => ?_) (fun hg => ?_)) <;> (try simp only [Bool.not_eq_true', Bool.not_eq_false'] at hg) <;> simp (maxSteps := 4000000) only [sx, sy, ne_eq, eq_self, if_true, if_false, Nat.reduceEqDiff, hbT, evBuild, evLit, evMake, tab, isShift, thenA, blockA, reduceCtorEq, reduceIte, Nat.reduceBEq, Int.reduceLE, Int.reduceToNat, Nat.reduceAdd, Nat.reduceLT, Nat.reduceLeDiff, hg, plA, plC, rtC, wyC, splice_all, Int.reduceBNe, List.length_map, hsub, hl0, hne, z1, z2, z3, z4]) | ((with_reducible refine awp_exit ?_); simp only [thenA, blockA, if_true, if_false, reduceIte, Nat.reduceEqDiff]) | (refine hK _ ?_; clear hK K) | refine awp_cond_t rfl ?_ | refine awp_cond_f rfl ?_ | refine awp_if rfl (fun hg => ?_) (fun hg => ?_) | (refine Or.inl ⟨rfl, ?_⟩; refine le_of_all ?_ ?_ rfl rfl rfl rfl <;> simp only [patch, sl, plA, plC, rtC, wyC, splice_all, Int.reduceBNe, List.length_map, hsub, hl0, hne, z1, z2, z3, z4]) | ((first | show Program.eqGuardType _ _ _ = false | show numFieldsB _ _ _ = true | show Program.stoodInHeld _ _ = false); kernel_rfl) | clear hK K)
      obtain ⟨la, hla⟩ : ∃ la : Nat → Int, la = fun i => if i = 0 then -1 else (l.getD (i - 1) (0, 0, 0)).2.2 := ⟨_, rfl⟩
      have la0 : la 0 = -1 := by rw [hla]; rfl
      have laS : ∀ i (hi : i < l.length), la (i + 1) = l[i].2.2 := fun i hi => by rw [hla]; simp [List.getD_eq_getElem?_getD, hi]
      clear hla
      refine awp_block ?_
      refine awp_for_mv (fun m (i : Nat) => [(13, i64 (i : Int)), (12, i64 (la i)), (10, .sl 1 (A.map intC) .sh), (2, .ptr (m + 0) 0), (6, .ptr (m + 1) 0), (8, .ptr (m + 2) 0), (4, .top), (14, .top), (15, .top), (16, .top), (60, .top), (61, .top), (62, .top), (63, .top), (64, .top), (65, .top), (66, .top), (67, .top), (68, .top), (69, .top), (70, .top), (71, .top), (72, .top), (73, .top), (74, .top), (75, .top), (76, .top), (77, .top), (78, .top), (79, .top), (80, .top), (81, .top), (82, .top), (83, .top), (84, .top), (85, .top), (86, .top), (87, .top), (88, .top), (89, .top), (90, .top), (91, .top), (92, .top), (93, .top), (94, .top), (95, .top), (96, .top), (97, .top), (98, .top), (99, .top), (100, .top), (101, .top), (102, .top), (103, .top), (104, .top), (105, .top), (106, .top), (107, .top), (108, .top), (109, .top), (110, .top), (111, .top), (112, .top), (113, .top)]) (fun m i => [some (.box 27 (plC p)), some (.box 77 [ints r.path, ints r.over, .sl 3 (W.asks.map sgC) .sh, i64 W.near]), some (.box 34 (rtC r)), some (.row 3 1 (r.path.length + r.over.length)), none, none]) (fun i => out) (fun i => i ≤ l.length ∧ (i = 0 ∨ ∃ h : i - 1 < l.length, la i = l[i - 1].2.2)) (fun i => l.length - i) 0 ⟨Nat.zero_le _, by intros; omega⟩ ?_ fun m i hm hi => ?_
      · refine le_of_all ?_ ?_ (by first | rfl | (simp only [plC, rtC, la0, hAm, List.length_map]; rfl) | simp only [plC, rtC, la0, hAm, List.length_map]) rfl rfl rfl <;> simp only [patch, sl, plC, rtC, la0, hAm, List.length_map]
      obtain ⟨hi, hq⟩ := hi
      simp only [patch, s_0, s_s]
      have hw := addw (n := i) 1 1 rfl (by omega)
      by_cases hlt : i < l.length
      · have hiw : i < W.asks.length := by omega
        have ei : W.asks[i] = l[i] := by simp only [w3]; rw [List.getElem_append_left hlt]
        have gi := getD_map sgC W.asks i [] hiw
        rw [ei] at gi
        obtain ⟨j, s, q1, q2, q3, q4, q5, q6, q7, q8⟩ := hok.each i hlt
        obtain ⟨x, x1, x2⟩ := hpt q3 q6
        have cp := cP l[i].1
        rw [← q5, x1] at cp
        simp only [elD, elE, if_true, Option.getD_some, Option.isSome_some] at cp
        have gj := getD_map intC A j [] q1
        have eA : A[j] = x.2 := by rw [x2, q4]; simp [List.getD_eq_getElem?_getD, q1]
        have f0 : la i < (j : Int) := by
          rcases hq with h | ⟨h, h'⟩
          · subst h; omega
          · rw [h', ← q2]
            by_cases h0 : i = 0
            · subst h0; omega
            · have := hok.rise (i - 1) (by omega)
              have e : i - 1 + 1 = i := by omega
              simp only [e] at this
              exact this
        have f1 : decide ((j : Int) ≤ la i) = false := decide_eq_false (by omega)
        have f2 : decide ((j : Int) ≥ (A.length : Int)) = false := decide_eq_false (by omega)
        have f3 : (A[j] != x.2) = false := by simp [eA]
        have f4 : decide (l[i].2.1 < 1) = false := decide_eq_false (by omega)
        have f5 : decide (l[i].2.1 > 2) = false := decide_eq_false (by omega)
        have hls := laS i hlt
        rw [q2] at hls
        repeat' (first | (with_reducible first | refine awp_seq_k fun K hK => ?_ | refine awp_ev tab_ok [] ?_ | refine awp_block_s ?_ | refine awp_block_c ?_ | refine awp_block_r ?_ | refine awp_skip ?_ | apply And.intro) | (with_reducible refine awp_ev_draw (id := 18) tab_ok [] [[], [], [], [], [4], [], [], [], [], [], [4], [], [], [], [], [], [], [], [4], [], [], [], [5], [], [], [], [], [4], [], [], [], [], [4], [], []] [[], [], [], [], [], [], [], [], [], [], [], [], [], [], [], [], [], [], [], [], [], [], [], [], [], [], [], [], [], [], [], [], [], [], []] follows (by kernel_rfl) (by decide) (by decide) (by kernel_rfl) ?_) | (with_reducible refine awp_ev_quiet tab_ok follows (by kernel_rfl) ?_) | ((with_reducible first | refine gE ?_ | refine gR ?_ | refine gD ?_ | refine gF ?_); simp (maxSteps := 4000000) only [sx, sy, ne_eq, eq_self, if_true, if_false, Nat.reduceEqDiff, hbT, evBuild, evLit, evMake, tab, isShift, thenA, blockA, reduceCtorEq, reduceIte, Nat.reduceBEq, Int.reduceLE, Int.reduceToNat, Nat.reduceAdd, Nat.reduceLT, Nat.reduceLeDiff, sg, locM hm, plC, sgC, intC, splice_all, Int.reduceBNe, List.length_map, hlt, hiw, gi, ← q5, q1, q2, gj, f1, f2, f3, f4, f5, hw]) | (show (_ : Nat) = (_ : Nat); rfl) | ((with_reducible refine awp_ret ?_); (first | refine ret_tmp (.inr rfl) rfl rfl rfl (fun _ _ => rfl) ?_) <;> first | rfl | rfl | skip) | ((with_reducible refine awp_ret ?_); refine Or.inr ⟨(by intro h; cases h), ?_⟩; refine ret_tmp (.inr rfl) rfl rfl rfl (fun _ _ => rfl) ?_ <;> first | rfl | rfl | skip) | (refine call_pure (cp) ?_) | ((with_reducible refine gsel_case (fun hg => ?_) (fun hg => ?_)) <;> (try simp only [Bool.not_eq_true', Bool.not_eq_false'] at hg) <;> simp (maxSteps := 4000000) only [sx, sy, ne_eq, eq_self, if_true, if_false, Nat.reduceEqDiff, hbT, evBuild, evLit, evMake, tab, isShift, thenA, blockA, reduceCtorEq, reduceIte, Nat.reduceBEq, Int.reduceLE, Int.reduceToNat, Nat.reduceAdd, Nat.reduceLT, Nat.reduceLeDiff, hg, sg, locM hm, plC, sgC, intC, splice_all, Int.reduceBNe, List.length_map, hlt, hiw, gi, ← q5, q1, q2, gj, f1, f2, f3, f4, f5, hw]) | ((with_reducible refine gselD_case (fun hg => ?_) (fun hg => ?_)) <;> (try simp only [Bool.not_eq_true', Bool.not_eq_false'] at hg) <;> simp (maxSteps := 4000000) only [sx, sy, ne_eq, eq_self, if_true, if_false, Nat.reduceEqDiff, hbT, evBuild, evLit, evMake, tab, isShift, thenA, blockA, reduceCtorEq, reduceIte, Nat.reduceBEq, Int.reduceLE, Int.reduceToNat, Nat.reduceAdd, Nat.reduceLT, Nat.reduceLeDiff, hg, sg, locM hm, plC, sgC, intC, splice_all, Int.reduceBNe, List.length_map, hlt, hiw, gi, ← q5, q1, q2, gj, f1, f2, f3, f4, f5, hw]) | ((with_reducible refine awp_exit ?_); simp only [thenA, blockA, if_true, if_false, reduceIte, Nat.reduceEqDiff]) | (refine hK _ ?_; clear hK K) | refine awp_cond_t rfl ?_ | refine awp_cond_f rfl ?_ | refine awp_if rfl (fun hg => ?_) (fun hg => ?_) | (refine Or.inl ⟨rfl, ?_⟩; refine le_of_all ?_ ?_ rfl rfl rfl rfl <;> simp only [patch, sl, sg, locM hm, plC, sgC, intC, splice_all, Int.reduceBNe, List.length_map, hlt, hiw, gi, ← q5, q1, q2, gj, f1, f2, f3, f4, f5, hw]) | ((first | show Program.eqGuardType _ _ _ = false | show numFieldsB _ _ _ = true | show Program.stoodInHeld _ _ = false); kernel_rfl) | clear hK K)
        refine ⟨i + 1, ⟨by omega, .inr ⟨by omega, laS i hlt⟩⟩, by omega, ?_⟩
        rw [hls]
        refine le_move [true, true, true, true, false, false] (fun n_ => ?_) (fun n_ => ?_) <;> simp only [patch, sm, plC, rtC, q2, hlt, decide_true]
      · obtain rfl : i = l.length := by omega
        clear hq
        repeat' (first | (with_reducible first | refine awp_seq_k fun K hK => ?_ | refine awp_ev tab_ok [] ?_ | refine awp_block_s ?_ | refine awp_block_c ?_ | refine awp_block_r ?_ | refine awp_skip ?_ | apply And.intro) | (with_reducible refine awp_ev_quiet tab_ok follows (by kernel_rfl) ?_) | ((with_reducible first | refine gE ?_ | refine gR ?_ | refine gD ?_ | refine gF ?_); simp (maxSteps := 4000000) only [sx, sy, ne_eq, eq_self, if_true, if_false, Nat.reduceEqDiff, hbT, evBuild, evLit, evMake, tab, isShift, thenA, blockA, reduceCtorEq, reduceIte, Nat.reduceBEq, Int.reduceLE, Int.reduceToNat, Nat.reduceAdd, Nat.reduceLT, Nat.reduceLeDiff, locM hm, List.length_map, hlt]) | (show (_ : Nat) = (_ : Nat); rfl) | ((with_reducible refine awp_ret ?_); (first | refine ret_tmp (.inr rfl) rfl rfl rfl (fun _ _ => rfl) ?_) <;> first | rfl | rfl | skip) | ((with_reducible refine awp_ret ?_); refine Or.inr ⟨(by intro h; cases h), ?_⟩; refine ret_tmp (.inr rfl) rfl rfl rfl (fun _ _ => rfl) ?_ <;> first | rfl | rfl | skip) | ((with_reducible refine gsel_case (fun hg => ?_) (fun hg => ?_)) <;> (try simp only [Bool.not_eq_true', Bool.not_eq_false'] at hg) <;> simp (maxSteps := 4000000) only [sx, sy, ne_eq, eq_self, if_true, if_false, Nat.reduceEqDiff, hbT, evBuild, evLit, evMake, tab, isShift, thenA, blockA, reduceCtorEq, reduceIte, Nat.reduceBEq, Int.reduceLE, Int.reduceToNat, Nat.reduceAdd, Nat.reduceLT, Nat.reduceLeDiff, hg, locM hm, List.length_map, hlt]) | ((with_reducible refine awp_exit ?_); simp only [thenA, blockA, if_true, if_false, reduceIte, Nat.reduceEqDiff]) | (refine hK _ ?_; clear hK K) | refine awp_cond_t rfl ?_ | refine awp_cond_f rfl ?_ | refine awp_if rfl (fun hg => ?_) (fun hg => ?_) | (refine Or.inl ⟨rfl, ?_⟩; refine le_of_all ?_ ?_ rfl rfl rfl rfl <;> simp only [patch, sl, locM hm, List.length_map, hlt]) | ((first | show Program.eqGuardType _ _ _ = false | show numFieldsB _ _ _ = true | show Program.stoodInHeld _ _ = false); kernel_rfl) | clear hK K)
        refine awp_block ?_
        refine awp_for_g (fun k : Nat => [(17, i64 (k : Int)), (4, .top), (114, .top), (115, .top), (116, .top), (117, .top), (118, .top), (119, .top), (120, .top), (121, .top), (122, .top), (123, .top), (124, .top), (125, .top), (126, .top), (127, .top), (128, .top), (129, .top), (130, .top), (131, .top), (132, .top), (133, .top), (134, .top), (135, .top), (136, .top), (137, .top), (138, .top), (139, .top), (140, .top), (141, .top)]) (fun k => [some (.box 27 (plC p)), some (.box 77 [ints r.path, ints r.over, .sl 3 (W.asks.map sgC) .sh, i64 W.near]), some (.box 34 (rtC r)), some (.row 3 1 (r.path.length + r.over.length)), none, none]) (fun k => out) (fun k => k ≤ r.flanks.length) (fun k => r.flanks.length - k) 0 (Nat.zero_le _) ?_ fun k hk => ?_
        · refine le_of_all ?_ ?_ (by first | rfl | (simp only [plC, rtC, List.length_map]; rfl) | simp only [plC, rtC, List.length_map]) rfl rfl rfl <;> simp only [patch, sl, plC, rtC, List.length_map]
        simp only [patch, s_0, s_s]
        have hw := addw (n := k) 1 1 rfl (by omega)
        by_cases hltk : k < r.flanks.length
        · have hkw : l.length + k < W.asks.length := by omega
          have ek : W.asks[l.length + k] = (r.flanks[k].1, r.flanks[k].2, -1) := by simp only [w3]; rw [List.getElem_append_right (by omega)]; simp
          have gk := getD_map sgC W.asks (l.length + k) [] hkw
          rw [ek] at gk
          have gf := getD_map jnC r.flanks k [] hltk
          have hadd : IntKind.i64.wrap ((l.length : Int) + (k : Int)) = ((l.length + k : Nat) : Int) := by
            have e : (l.length : Int) + (k : Int) = ((l.length + k : Nat) : Int) := by omega
            rw [e]; exact wrap_i64 (by omega) (by omega)
          have e0 : evEq [i64 r.flanks[k].1, i64 r.flanks[k].2, i64 (-1)] [i64 r.flanks[k].1, i64 r.flanks[k].2, i64 (-1)] = some true := by
            have := evEq_gg (r.flanks[k].1, r.flanks[k].2, -1) (r.flanks[k].1, r.flanks[k].2, -1)
            simpa using this
          repeat' (first | (with_reducible first | refine awp_seq_k fun K hK => ?_ | refine awp_ev tab_ok [] ?_ | refine awp_block_s ?_ | refine awp_block_c ?_ | refine awp_block_r ?_ | refine awp_skip ?_ | apply And.intro) | (with_reducible refine awp_ev_draw (id := 24) tab_ok [] [[], [1], [], [], [], [], [], [], [2], [], [], [], [], [], [2], [], [], [], [], [], []] [[], [], [], [], [], [], [], [], [], [], [], [], [], [], [], [], [], [], [], [], []] follows (by kernel_rfl) (by decide) (by decide) (by kernel_rfl) ?_) | (with_reducible refine awp_ev_quiet tab_ok follows (by kernel_rfl) ?_) | ((with_reducible first | refine gE ?_ | refine gR ?_ | refine gD ?_ | refine gF ?_); simp (maxSteps := 4000000) only [sx, sy, ne_eq, eq_self, if_true, if_false, Nat.reduceEqDiff, hbT, evBuild, evLit, evMake, tab, isShift, thenA, blockA, reduceCtorEq, reduceIte, Nat.reduceBEq, Int.reduceLE, Int.reduceToNat, Nat.reduceAdd, Nat.reduceLT, Nat.reduceLeDiff, locM hm, rtC, sgC, jnC, splice_all, List.length_map, hltk, hkw, gk, gf, hadd, e0, hw]) | (show (_ : Nat) = (_ : Nat); rfl) | ((with_reducible refine awp_ret ?_); (first | refine ret_tmp (.inr rfl) rfl rfl rfl (fun _ _ => rfl) ?_) <;> first | rfl | rfl | skip) | ((with_reducible refine awp_ret ?_); refine Or.inr ⟨(by intro h; cases h), ?_⟩; refine ret_tmp (.inr rfl) rfl rfl rfl (fun _ _ => rfl) ?_ <;> first | rfl | rfl | skip) | ((with_reducible refine gsel_case (fun hg => ?_) (fun hg => ?_)) <;> (try simp only [Bool.not_eq_true', Bool.not_eq_false'] at hg) <;> simp (maxSteps := 4000000) only [sx, sy, ne_eq, eq_self, if_true, if_false, Nat.reduceEqDiff, hbT, evBuild, evLit, evMake, tab, isShift, thenA, blockA, reduceCtorEq, reduceIte, Nat.reduceBEq, Int.reduceLE, Int.reduceToNat, Nat.reduceAdd, Nat.reduceLT, Nat.reduceLeDiff, hg, locM hm, rtC, sgC, jnC, splice_all, List.length_map, hltk, hkw, gk, gf, hadd, e0, hw]) | ((with_reducible refine awp_exit ?_); simp only [thenA, blockA, if_true, if_false, reduceIte, Nat.reduceEqDiff]) | (refine hK _ ?_; clear hK K) | refine awp_cond_t rfl ?_ | refine awp_cond_f rfl ?_ | refine awp_if rfl (fun hg => ?_) (fun hg => ?_) | (refine Or.inl ⟨rfl, ?_⟩; refine le_of_all ?_ ?_ rfl rfl rfl rfl <;> simp only [patch, sl, locM hm, rtC, sgC, jnC, splice_all, List.length_map, hltk, hkw, gk, gf, hadd, e0, hw]) | ((first | show Program.eqGuardType _ _ _ = false | show numFieldsB _ _ _ = true | show Program.stoodInHeld _ _ = false); kernel_rfl) | clear hK K)
          refine ⟨k + 1, by omega, by omega, ?_⟩
          refine le_of_all ?_ ?_ rfl rfl rfl rfl <;> simp only [patch, sl, hltk, decide_true]
        · obtain rfl : k = r.flanks.length := by omega
          repeat' (first | (with_reducible first | refine awp_seq_k fun K hK => ?_ | refine awp_ev tab_ok [] ?_ | refine awp_block_s ?_ | refine awp_block_c ?_ | refine awp_block_r ?_ | refine awp_skip ?_ | apply And.intro) | (with_reducible refine awp_ev_quiet tab_ok follows (by kernel_rfl) ?_) | ((with_reducible first | refine gE ?_ | refine gR ?_ | refine gD ?_ | refine gF ?_); simp (maxSteps := 4000000) only [sx, sy, ne_eq, eq_self, if_true, if_false, Nat.reduceEqDiff, hbT, evBuild, evLit, evMake, tab, isShift, thenA, blockA, reduceCtorEq, reduceIte, Nat.reduceBEq, Int.reduceLE, Int.reduceToNat, Nat.reduceAdd, Nat.reduceLT, Nat.reduceLeDiff, locM hm, rtC, List.length_map, hltk]) | (show (_ : Nat) = (_ : Nat); rfl) | ((with_reducible refine awp_ret ?_); (first | refine ret_tmp (.inr rfl) rfl rfl rfl (fun _ _ => rfl) ?_) <;> first | rfl | rfl | skip) | ((with_reducible refine awp_ret ?_); refine Or.inr ⟨(by intro h; cases h), ?_⟩; refine ret_tmp (.inr rfl) rfl rfl rfl (fun _ _ => rfl) ?_ <;> first | rfl | rfl | skip) | ((with_reducible refine gsel_case (fun hg => ?_) (fun hg => ?_)) <;> (try simp only [Bool.not_eq_true', Bool.not_eq_false'] at hg) <;> simp (maxSteps := 4000000) only [sx, sy, ne_eq, eq_self, if_true, if_false, Nat.reduceEqDiff, hbT, evBuild, evLit, evMake, tab, isShift, thenA, blockA, reduceCtorEq, reduceIte, Nat.reduceBEq, Int.reduceLE, Int.reduceToNat, Nat.reduceAdd, Nat.reduceLT, Nat.reduceLeDiff, hg, locM hm, rtC, List.length_map, hltk]) | ((with_reducible refine awp_exit ?_); simp only [thenA, blockA, if_true, if_false, reduceIte, Nat.reduceEqDiff]) | (refine hK _ ?_; clear hK K) | refine awp_cond_t rfl ?_ | refine awp_cond_f rfl ?_ | refine awp_if rfl (fun hg => ?_) (fun hg => ?_) | (refine Or.inl ⟨rfl, ?_⟩; refine le_of_all ?_ ?_ rfl rfl rfl rfl <;> simp only [patch, sl, locM hm, rtC, List.length_map, hltk]) | ((first | show Program.eqGuardType _ _ _ = false | show numFieldsB _ _ _ = true | show Program.stoodInHeld _ _ = false); kernel_rfl) | clear hK K)
    · have hb : (ofE p id != 0) = true := by simpa using hE
      have hn := ofW_none hE
      generalize rtO p id = r at *
      generalize ofW p id = W at *
      generalize rtE p id = E2 at *
      generalize ofE p id = E1 at *
      simp only [plA, plC, wyA, wyC, rtA, rtC, hn, List.map_nil] at c1 c2
      refine acall_of 6 Try.func10 rfl fun n out _ _ => ?_
      simp only [Try.ntmps10, List.length_cons, List.length_nil, List.length_map, List.length_replicate, rep_map, Nat.reduceAdd, Nat.reduceSub, List.replicate, List.cons_append, List.nil_append]
      repeat' (first | (with_reducible first | refine awp_seq_k fun K hK => ?_ | refine awp_ev tab_ok [] ?_ | refine awp_block_s ?_ | refine awp_block_c ?_ | refine awp_block_r ?_ | refine awp_skip ?_ | apply And.intro) | (with_reducible refine awp_ev_quiet tab_ok follows (by kernel_rfl) ?_) | ((with_reducible first | refine gE ?_ | refine gR ?_ | refine gD ?_ | refine gF ?_); simp (maxSteps := 4000000) only [sx, sy, ne_eq, eq_self, if_true, if_false, Nat.reduceEqDiff, hbT, evBuild, evLit, evMake, tab, isShift, thenA, blockA, reduceCtorEq, reduceIte, Nat.reduceBEq, Int.reduceLE, Int.reduceToNat, Nat.reduceAdd, Nat.reduceLT, Nat.reduceLeDiff, plA, plC, splice_all, hb, List.length_nil]) | (show (_ : Nat) = (_ : Nat); rfl) | ((with_reducible refine awp_ret ?_); (first | refine ret_tmp (.inr rfl) rfl rfl rfl (fun _ _ => rfl) ?_) <;> first | rfl | rfl | skip) | ((with_reducible refine awp_ret ?_); refine Or.inr ⟨(by intro h; cases h), ?_⟩; refine ret_tmp (.inr rfl) rfl rfl rfl (fun _ _ => rfl) ?_ <;> first | rfl | rfl | skip) | (refine call_pure (cg) ?_) | (refine call_pure (c_walive) ?_) | (refine call_pure (c1) ?_) | (refine call_pure (c2) ?_) | ((with_reducible refine gsel_case (fun hg => ?_) (fun hg => ?_)) <;> (try simp only [Bool.not_eq_true', Bool.not_eq_false'] at hg) <;> simp (maxSteps := 4000000) only [sx, sy, ne_eq, eq_self, if_true, if_false, Nat.reduceEqDiff, hbT, evBuild, evLit, evMake, tab, isShift, thenA, blockA, reduceCtorEq, reduceIte, Nat.reduceBEq, Int.reduceLE, Int.reduceToNat, Nat.reduceAdd, Nat.reduceLT, Nat.reduceLeDiff, hg, plA, plC, splice_all, hb, List.length_nil]) | ((with_reducible refine awp_exit ?_); simp only [thenA, blockA, if_true, if_false, reduceIte, Nat.reduceEqDiff]) | (refine hK _ ?_; clear hK K) | refine awp_cond_t rfl ?_ | refine awp_cond_f rfl ?_ | refine awp_if rfl (fun hg => ?_) (fun hg => ?_) | (refine Or.inl ⟨rfl, ?_⟩; refine le_of_all ?_ ?_ rfl rfl rfl rfl <;> simp only [patch, sl, plA, plC, splice_all, hb, List.length_nil]) | ((first | show Program.eqGuardType _ _ _ = false | show numFieldsB _ _ _ = true | show Program.stoodInHeld _ _ = false); kernel_rfl) | clear hK K)
end Go.Proofs.Ytdkiciofkifpdaa.Pln
