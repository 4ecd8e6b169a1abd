/-
  The document's answer: ways and outs, of one route and of all.
-/
import Derived.Test.YtdkiciofkifpdaaZG0
import Derived.Test.YtdkiciofkifpdaaZR4
import Derived.Test.YtdkiciofkifpdaaZR5
import Derived.Test.YtdkiciofkifpdaaZTA
namespace Go.Proofs.Ytdkiciofkifpdaa.Pln
set_option linter.unusedVariables false
set_option linter.unusedSimpArgs false
open Go Go.VS Tab
set_option maxHeartbeats 16000000
set_option maxRecDepth 4000
theorem of_not {p : Pl} {id : Int} (h : ofE p id ≠ 0) : ofW p id = noWy ∧ ofO p id = [] := by
  unfold ofE at h
  unfold ofW ofO
  by_cases hE : rtE p id = 0
  · rw [if_pos hE] at h
    rw [if_pos hE, if_pos hE]
    exact fol_lost h
  · rw [if_neg hE, if_neg hE]; exact ⟨rfl, rfl⟩
theorem c_rasked (p : Pl) (hs : Sm p) (id : Int) : ∃ k : Int, ACall Try.prog 84 [plA p, i64 id] [] (.tup [i64 k, i64 (ofE p id)]) [] ∧ (ofE p id = 0 → ∃ (kn : Nat) (h : kn < p.rts.length), k = kn ∧ p.rts[kn] = rtO p id ∧ Gone p (rtO p id) (folW p (rtO p id)) (folO p (rtO p id))) := by
  have cm := c_rmay p hs
  simp only [plA, plC] at cm
  cases hmy : mayP p with
  | false =>
    have e1 : rtE p id = 8 := by unfold rtE elE; rw [hmy]; rfl
    have e2 : ofE p id = 8 := by unfold ofE; rw [e1, if_neg (by decide)]
    rw [e2]
    rw [hmy] at cm
    refine ⟨0, ?_, fun h => absurd h (by decide)⟩
    refine acall_of 1 Try.func84 rfl fun n out _ _ => ?_
    simp only [Try.ntmps84, List.length_cons, List.length_nil, List.length_map, List.length_replicate, rep_map, Nat.reduceAdd, Nat.reduceSub, List.replicate, List.cons_append, List.nil_append]
    repeat' (first | (with_reducible first | refine awp_seq_k fun K hK => ?_ | refine awp_ev tab_ok [] ?_ | refine awp_skip ?_ | apply And.intro) | (with_reducible refine awp_ev_quiet tab_ok follows (by kernel_rfl) ?_) | ((with_reducible first | refine gE ?_ | refine gR ?_); simp (maxSteps := 4000000) only [su, evLit, hbT, tab, thenA, blockA, reduceCtorEq, reduceIte, Nat.reduceEqDiff, Nat.reduceBEq, Int.reduceLE, Int.reduceToNat, Nat.reduceAdd, Nat.reduceLT, Nat.reduceLeDiff, plA, plC, Bool.not_false]) | (show (_ : Nat) = (_ : Nat); rfl) | ((with_reducible refine awp_ret ?_); (try refine Or.inr ⟨(by intro h; cases h), ?_⟩); refine ret_tmp2 (.inr rfl) rfl rfl rfl (fun _ _ => rfl) ?_ ?_ <;> first | rfl | skip) | (refine call_pure (cm) ?_) | (refine hK _ ?_; clear hK K) | refine awp_cond_t rfl ?_ | refine awp_cond_f rfl ?_ | refine awp_if rfl (fun hg => ?_) (fun hg => ?_) | ((first | show Program.eqGuardType _ _ _ = false | show numFieldsB _ _ _ = true | show Program.stoodInHeld _ _ = false); kernel_rfl) | clear hK K)
  | true =>
    rw [hmy] at cm
    have cR := c_rRouteAt p.rts id (by have := hs.rts; omega)
    cases hg : getR p.rts id with
    | none =>
      have e1 : rtE p id = 6 := by unfold rtE elE; rw [hmy, hg]; rfl
      have e2 : ofE p id = 6 := by unfold ofE; rw [e1, if_neg (by decide)]
      rw [e2]
      rcases idx_cases (fun x : Rt => x.id == id) p.rts with ⟨z1, z2, z3⟩ | ⟨k, hk, z1, z2, z3, z4⟩
      · rw [z1] at cR
        refine ⟨0, ?_, fun h => absurd h (by decide)⟩
        refine acall_of 1 Try.func84 rfl fun n out _ _ => ?_
        simp only [Try.ntmps84, List.length_cons, List.length_nil, List.length_map, List.length_replicate, rep_map, Nat.reduceAdd, Nat.reduceSub, List.replicate, List.cons_append, List.nil_append]
        repeat' (first | (with_reducible first | refine awp_seq_k fun K hK => ?_ | refine awp_ev tab_ok [] ?_ | refine awp_skip ?_ | apply And.intro) | (with_reducible refine awp_ev_quiet tab_ok follows (by kernel_rfl) ?_) | ((with_reducible first | refine gE ?_ | refine gR ?_); simp (maxSteps := 4000000) only [su, evLit, hbT, tab, thenA, blockA, reduceCtorEq, reduceIte, Nat.reduceEqDiff, Nat.reduceBEq, Int.reduceLE, Int.reduceToNat, Nat.reduceAdd, Nat.reduceLT, Nat.reduceLeDiff, plA, plC, Bool.not_true, Int.reduceNeg, Int.reduceLT]) | (show (_ : Nat) = (_ : Nat); rfl) | ((with_reducible refine awp_ret ?_); (try refine Or.inr ⟨(by intro h; cases h), ?_⟩); refine ret_tmp2 (.inr rfl) rfl rfl rfl (fun _ _ => rfl) ?_ ?_ <;> first | rfl | skip) | (refine call_pure (cm) ?_) | (refine call_pure (cR) ?_) | (refine hK _ ?_; clear hK K) | refine awp_cond_t rfl ?_ | refine awp_cond_f rfl ?_ | refine awp_if rfl (fun hg => ?_) (fun hg => ?_) | ((first | show Program.eqGuardType _ _ _ = false | show numFieldsB _ _ _ = true | show Program.stoodInHeld _ _ = false); kernel_rfl) | clear hK K)
      · unfold getR at hg; rw [z2] at hg; cases hg
    | some r =>
      obtain ⟨k, hk, z1, z2⟩ := idx_rt hg
      rw [z1] at cR
      have e1 : rtE p id = 0 := by unfold rtE elE; rw [hmy, hg]; rfl
      have e3 : rtO p id = r := by unfold rtO elD; rw [hmy, hg]; rfl
      have e2 : ofE p id = folE p r := by unfold ofE; rw [e1, if_pos rfl, e3]
      have hr : r ∈ p.rts := by rw [← z2]; exact List.getElem_mem hk
      have gk := getD_map rtC p.rts k [] hk
      rw [z2] at gk
      have cE := c_rends p hs hmy r hr
      simp only [plA, plC, rtA, rtC] at cE
      have hk0 : decide ((k : Int) < 0) = false := decide_eq_false (by omega)
      rw [e2, e3]
      cases hl : (endW p r).lost with
      | true =>
        have e4 : folE p r = 90 := by unfold folE; rw [hl]; rfl
        rw [hl] at cE
        rw [e4]
        refine ⟨0, ?_, fun h => absurd h (by decide)⟩
        refine acall_of 1 Try.func84 rfl fun n out _ _ => ?_
        simp only [Try.ntmps84, List.length_cons, List.length_nil, List.length_map, List.length_replicate, rep_map, Nat.reduceAdd, Nat.reduceSub, List.replicate, List.cons_append, List.nil_append]
        repeat' (first | (with_reducible first | refine awp_seq_k fun K hK => ?_ | refine awp_ev tab_ok [] ?_ | refine awp_skip ?_ | apply And.intro) | (with_reducible refine awp_ev_quiet tab_ok follows (by kernel_rfl) ?_) | ((with_reducible first | refine gE ?_ | refine gR ?_); simp (maxSteps := 4000000) only [su, evLit, hbT, tab, thenA, blockA, reduceCtorEq, reduceIte, Nat.reduceEqDiff, Nat.reduceBEq, Int.reduceLE, Int.reduceToNat, Nat.reduceAdd, Nat.reduceLT, Nat.reduceLeDiff, plA, plC, rtC, splice_all, List.length_map, Bool.not_true, Bool.not_false, hk0, hk, gk]) | (show (_ : Nat) = (_ : Nat); rfl) | ((with_reducible refine awp_ret ?_); (try refine Or.inr ⟨(by intro h; cases h), ?_⟩); refine ret_tmp2 (.inr rfl) rfl rfl rfl (fun _ _ => rfl) ?_ ?_ <;> first | rfl | skip) | (refine call_pure (cm) ?_) | (refine call_pure (cR) ?_) | (refine call_pure (cE) ?_) | (refine hK _ ?_; clear hK K) | refine awp_cond_t rfl ?_ | refine awp_cond_f rfl ?_ | refine awp_if rfl (fun hg => ?_) (fun hg => ?_) | ((first | show Program.eqGuardType _ _ _ = false | show numFieldsB _ _ _ = true | show Program.stoodInHeld _ _ = false); kernel_rfl) | clear hK K)
      | false =>
        have e4 : folE p r = 0 := by unfold folE; rw [hl]; rfl
        rw [hl] at cE
        rw [e4]
        refine ⟨(k : Int), ?_, fun _ => ⟨k, hk, rfl, z2, gone_fol hmy hr e4⟩⟩
        refine acall_of 1 Try.func84 rfl fun n out _ _ => ?_
        simp only [Try.ntmps84, List.length_cons, List.length_nil, List.length_map, List.length_replicate, rep_map, Nat.reduceAdd, Nat.reduceSub, List.replicate, List.cons_append, List.nil_append]
        repeat' (first | (with_reducible first | refine awp_seq_k fun K hK => ?_ | refine awp_ev tab_ok [] ?_ | refine awp_skip ?_ | apply And.intro) | (with_reducible refine awp_ev_quiet tab_ok follows (by kernel_rfl) ?_) | ((with_reducible first | refine gE ?_ | refine gR ?_); simp (maxSteps := 4000000) only [su, evLit, hbT, tab, thenA, blockA, reduceCtorEq, reduceIte, Nat.reduceEqDiff, Nat.reduceBEq, Int.reduceLE, Int.reduceToNat, Nat.reduceAdd, Nat.reduceLT, Nat.reduceLeDiff, plA, plC, rtC, splice_all, List.length_map, Bool.not_true, Bool.not_false, hk0, hk, gk]) | (show (_ : Nat) = (_ : Nat); rfl) | ((with_reducible refine awp_ret ?_); (try refine Or.inr ⟨(by intro h; cases h), ?_⟩); refine ret_tmp2 (.inr rfl) rfl rfl rfl (fun _ _ => rfl) ?_ ?_ <;> first | rfl | skip) | (refine call_pure (cm) ?_) | (refine call_pure (cR) ?_) | (refine call_pure (cE) ?_) | (refine hK _ ?_; clear hK K) | refine awp_cond_t rfl ?_ | refine awp_cond_f rfl ?_ | refine awp_if rfl (fun hg => ?_) (fun hg => ?_) | ((first | show Program.eqGuardType _ _ _ = false | show numFieldsB _ _ _ = true | show Program.stoodInHeld _ _ = false); kernel_rfl) | clear hK K)
theorem c_rOf (p : Pl) (hs : Sm p) (id : Int) : ACall Try.prog 41 [plA p, i64 id] [] (.tup [wyA (ofW p id), i64 (ofE p id)]) [] := by
  obtain ⟨k, ca, hk⟩ := c_rasked p hs id
  simp only [plA, plC] at ca
  by_cases hE : ofE p id = 0
  · obtain ⟨kn, hkn, rfl, hkr, g⟩ := hk hE
    have cM := c_rmade p hs g kn hkn hkr
    obtain ⟨_, hR⟩ := gone_of hE
    have eW : ofW p id = folW p (rtO p id) := by unfold ofW; rw [if_pos hR]
    rw [hE] at ca
    rw [hE, eW]
    generalize folW p (rtO p id) = W at *
    simp only [plA, plC, wyA, wyC] at cM ⊢
    refine acall_of 2 Try.func41 rfl fun n out _ _ => ?_
    simp only [Try.ntmps41, List.length_cons, List.length_nil, List.length_map, List.length_replicate, rep_map, Nat.reduceAdd, Nat.reduceSub, List.replicate, List.cons_append, List.nil_append]
    repeat' (first | (with_reducible first | refine awp_seq_k fun K hK => ?_ | refine awp_ev tab_ok [] ?_ | refine awp_skip ?_ | apply And.intro) | ((with_reducible first | refine gE ?_ | refine gR ?_); simp (maxSteps := 4000000) only [su, evLit, hbT, tab, thenA, blockA, reduceCtorEq, reduceIte, Nat.reduceEqDiff, Nat.reduceBEq, Int.reduceLE, Int.reduceToNat, Nat.reduceAdd, Nat.reduceLT, Nat.reduceLeDiff, plA, plC, splice_all, Int.reduceBNe]) | (show (_ : Nat) = (_ : Nat); rfl) | ((with_reducible refine awp_ret ?_); (try refine Or.inr ⟨(by intro h; cases h), ?_⟩); (first | refine ret_ct (.inr rfl) rfl rfl rfl (fun _ _ => rfl) ok77 (k := n + 1) (off := 0) rfl (dom_loc _ (by simp)) (look_loc _ (Nat.le_refl _) 1) rfl rfl ?_ | refine ret_ct (.inr rfl) rfl rfl rfl (fun _ _ => rfl) ok77 (k := m + 1) (off := 0) rfl (dom_loc _ (by simp)) (look_loc _ hm 1) rfl rfl ?_) <;> first | rfl | exact AV.le.rfl _ | (simp only [patch, sl, ti77, List.map_nil, plA, plC, splice_all, Int.reduceBNe]; done) | rfl | skip) | (refine call_pure (ca) ?_) | (refine call_pure (cM) ?_) | (refine hK _ ?_; clear hK K) | refine awp_cond_t rfl ?_ | refine awp_cond_f rfl ?_ | refine awp_if rfl (fun hg => ?_) (fun hg => ?_) | ((first | show Program.eqGuardType _ _ _ = false | show numFieldsB _ _ _ = true | show Program.stoodInHeld _ _ = false); kernel_rfl) | clear hK K)
  · have hE' : (ofE p id != 0) = true := by simpa using hE
    rw [(of_not hE).1]
    generalize ofE p id = E at *
    refine acall_of 2 Try.func41 rfl fun n out _ _ => ?_
    simp only [Try.ntmps41, List.length_cons, List.length_nil, List.length_map, List.length_replicate, rep_map, Nat.reduceAdd, Nat.reduceSub, List.replicate, List.cons_append, List.nil_append]
    repeat' (first | (with_reducible first | refine awp_seq_k fun K hK => ?_ | refine awp_ev tab_ok [] ?_ | refine awp_skip ?_ | apply And.intro) | ((with_reducible first | refine gE ?_ | refine gR ?_); simp (maxSteps := 4000000) only [su, evLit, hbT, tab, thenA, blockA, reduceCtorEq, reduceIte, Nat.reduceEqDiff, Nat.reduceBEq, Int.reduceLE, Int.reduceToNat, Nat.reduceAdd, Nat.reduceLT, Nat.reduceLeDiff, plA, plC, splice_all, hE', wyA, wyC, noWy, List.map_nil]) | (show (_ : Nat) = (_ : Nat); rfl) | ((with_reducible refine awp_ret ?_); (try refine Or.inr ⟨(by intro h; cases h), ?_⟩); (first | refine ret_ct (.inr rfl) rfl rfl rfl (fun _ _ => rfl) ok77 (k := n + 1) (off := 0) rfl (dom_loc _ (by simp)) (look_loc _ (Nat.le_refl _) 1) rfl rfl ?_ | refine ret_ct (.inr rfl) rfl rfl rfl (fun _ _ => rfl) ok77 (k := m + 1) (off := 0) rfl (dom_loc _ (by simp)) (look_loc _ hm 1) rfl rfl ?_) <;> first | rfl | exact AV.le.rfl _ | (simp only [patch, sl, ti77, List.map_nil, plA, plC, splice_all, hE', wyA, wyC, noWy, List.map_nil]; done) | rfl | skip) | (refine call_pure (ca) ?_) | (refine hK _ ?_; clear hK K) | refine awp_cond_t rfl ?_ | refine awp_cond_f rfl ?_ | refine awp_if rfl (fun hg => ?_) (fun hg => ?_) | ((first | show Program.eqGuardType _ _ _ = false | show numFieldsB _ _ _ = true | show Program.stoodInHeld _ _ = false); kernel_rfl) | clear hK K)
theorem c_rOuts (p : Pl) (hs : Sm p) (id : Int) : ACall Try.prog 42 [plA p, i64 id] [] (.tup [.sl 2 ((ofO p id).map jnC) .sh, i64 (ofE p id)]) [] := by
  obtain ⟨k, ca, hk⟩ := c_rasked p hs id
  simp only [plA, plC] at ca
  by_cases hE : ofE p id = 0
  · obtain ⟨kn, hkn, rfl, hkr, g⟩ := hk hE
    obtain ⟨_, hR⟩ := gone_of hE
    have eO : ofO p id = folO p (rtO p id) := by unfold ofO; rw [if_pos hR]
    rw [hE] at ca
    rw [hE, eO]
    generalize rtO p id = r at *
    obtain ⟨b1, b2, b3⟩ := hs.rt _ g.mem
    have gRt := getD_map rtC p.rts kn [] hkn
    rw [hkr] at gRt
    have cE := c_rends p hs g.may r g.mem
    rw [show (endW p r).lost = false from g.not, Bool.not_false] at cE
    have hone := g.one
    have hpne : r.path ≠ [] := by intro h; rw [h] at hone; simp at hone
    have cS := c_rsections r hpne (by omega) (by omega)
    have hAll : r.path ++ r.over = allL r := rfl
    rw [hAll] at cS
    have hsecs := fun {i : Nat} (hi : i < (allL r).length) => sec_of g.may g.mem hi
    have hat := fun {i : Nat} (hi : i < (allL r).length) {s : Sec} hsc => ends_at g hi (s := s) hsc
    have hou := g.outs
    have hal : (allL r).length = r.path.length + r.over.length := by unfold allL; exact List.length_append
    have hAl := fun i => (runW_len p r i).2
    obtain ⟨OS, hOS⟩ : ∃ OS : Nat → List (Int × Int), OS = fun i => (runW p r i).outs := ⟨_, rfl⟩
    have hOSe : ∀ i, (runW p r i).outs = OS i := fun i => by rw [hOS]
    have hO0 : OS 0 = [] := by rw [hOS]; rfl
    simp only [hOSe] at hat hou hAl
    clear hOS hOSe
    generalize folO p r = O at *
    obtain ⟨L, hL⟩ : ∃ L, L = allL r := ⟨_, rfl⟩
    rw [← hL] at cS hal hou
    simp only [← hL] at hsecs hat
    generalize endsI p r = EI at *
    generalize endsO p r = EO at *
    clear g hk
    subst hou
    simp only [plA, plC, rtA, rtC] at cE cS
    refine acall_of 2 Try.func42 rfl fun n out _ _ => ?_
    simp only [Try.ntmps42, List.length_cons, List.length_nil, List.length_map, List.length_replicate, rep_map, Nat.reduceAdd, Nat.reduceSub, List.replicate, List.cons_append, List.nil_append]
    repeat' (first | (with_reducible first | refine awp_seq_k fun K hK => ?_ | refine awp_ev tab_ok [] ?_ | refine awp_block_s ?_ | refine awp_block_c ?_ | refine awp_block_r ?_ | refine awp_skip ?_ | apply And.intro) | (with_reducible refine awp_ev_quiet tab_ok follows (by kernel_rfl) ?_) | ((with_reducible first | refine gE ?_ | refine gR ?_); simp (maxSteps := 4000000) only [su, evLit, hbT, tab, thenA, blockA, reduceCtorEq, reduceIte, Nat.reduceEqDiff, Nat.reduceBEq, Int.reduceLE, Int.reduceToNat, Nat.reduceAdd, Nat.reduceLT, Nat.reduceLeDiff, plA, plC, rtC, splice_all, Int.reduceBNe, List.length_map, gRt, hkn]) | (show (_ : Nat) = (_ : Nat); rfl) | ((with_reducible refine awp_ret ?_); (try refine Or.inr ⟨(by intro h; cases h), ?_⟩); refine ret_tmp2 (.inr rfl) rfl rfl rfl (fun _ _ => rfl) ?_ ?_ <;> first | rfl | skip) | (refine call_pure (ca) ?_) | (refine call_pure (cE) ?_) | (refine call_pure (cS) ?_) | ((with_reducible refine awp_exit ?_); simp only [thenA, blockA, if_true, if_false, reduceIte, Nat.reduceEqDiff]) | (refine hK _ ?_; clear hK K) | refine awp_cond_t rfl ?_ | refine awp_cond_f rfl ?_ | refine awp_if rfl (fun hg => ?_) (fun hg => ?_) | ((first | show Program.eqGuardType _ _ _ = false | show numFieldsB _ _ _ = true | show Program.stoodInHeld _ _ = false); kernel_rfl) | clear hK K)
    refine awp_le (le_row (i := 1) 39 2 rfl) ?_
    simp only [s_0, s_s]
    refine awp_block ?_
    refine awp_for_mv (fun m (i : Nat) => [(13, i64 (i : Int)), (2, .ptr (m + 0) 0), (12, .sl 2 ((OS i).map jnC) (.own (m + 1))), (40, .top), (41, .top), (42, .top), (43, .top), (44, .top), (45, .top), (46, .top), (47, .top), (48, .top), (49, .top), (50, .top), (51, .top), (52, .top), (53, .top), (54, .top), (55, .top), (56, .top), (57, .top), (58, .top), (59, .top), (60, .top), (61, .top), (62, .top)]) (fun m i => [some (.box 27 (plC p)), some (.row 39 2 (OS i).length)]) (fun i => out) (fun i => i ≤ L.length) (fun i => L.length - i) 0 (Nat.zero_le _) ?_ fun m i hm hi => ?_
    · refine le_of_all ?_ ?_ (by first | rfl | (simp only [plC, hO0, List.map_nil, List.length_nil]; rfl) | simp only [plC, hO0, List.map_nil, List.length_nil]) rfl rfl rfl <;> simp only [patch, sl, plC, hO0, List.map_nil, List.length_nil]
    simp only [patch, s_0, s_s]
    have hw := addw (n := i) 1 1 rfl (by omega)
    by_cases hlt : i < L.length
    · have gi := getD_map intC L i [] hlt
      obtain ⟨s, hsec⟩ := hsecs hlt
      obtain ⟨_, h2, lie, hc, _⟩ := hat hlt hsec
      have gO := getD_map intC EO i [] h2
      have hOi := hAl i
      have y1 : ((OS i).length + 1) * 16 ≤ 140737488355328 := by omega
      have y2 : (OS i).length ≤ 9223372036854775806 := by omega
      have lit : ∀ (a : Int) (σ : AState) (K : AV → List (Nat × Res) → Prop), evLit tab σ K none 35 1 [(0, .agg [i64 L[i], i64 a])] = K (.sl 2 [[i64 L[i], i64 a]] .full) [] := fun a σ K => evLit_one (T := tab) (ti := ti35) (te := ti39) rfl rfl rfl (by decide) (by decide) rfl rfl
      clear hat hsecs
      rcases hc with ⟨ho, _, ha⟩ | ⟨ho, _, ha⟩
      · have ho' : decide (EO[i] ≥ 0) = false := decide_eq_false (by omega)
        repeat' (first | (with_reducible first | refine awp_seq_k fun K hK => ?_ | refine awp_ev tab_ok [] ?_ | refine awp_block_s ?_ | refine awp_block_c ?_ | refine awp_block_r ?_ | refine awp_skip ?_ | apply And.intro) | (with_reducible refine awp_ev_quiet tab_ok follows (by kernel_rfl) ?_) | ((with_reducible first | refine gE ?_ | refine gR ?_); simp (maxSteps := 4000000) only [su, evLit, hbT, tab, thenA, blockA, reduceCtorEq, reduceIte, Nat.reduceEqDiff, Nat.reduceBEq, Int.reduceLE, Int.reduceToNat, Nat.reduceAdd, Nat.reduceLT, Nat.reduceLeDiff, locM hm, plC, intC, List.length_map, hlt, gi, h2, gO, splice_all, ho', hw]) | (show (_ : Nat) = (_ : Nat); rfl) | ((with_reducible refine awp_ret ?_); (try refine Or.inr ⟨(by intro h; cases h), ?_⟩); refine ret_tmp2 (.inr rfl) rfl rfl rfl (fun _ _ => rfl) ?_ ?_ <;> first | rfl | skip) | ((with_reducible refine awp_exit ?_); simp only [thenA, blockA, if_true, if_false, reduceIte, Nat.reduceEqDiff]) | (refine hK _ ?_; clear hK K) | refine awp_cond_t rfl ?_ | refine awp_cond_f rfl ?_ | refine awp_if rfl (fun hg => ?_) (fun hg => ?_) | ((first | show Program.eqGuardType _ _ _ = false | show numFieldsB _ _ _ = true | show Program.stoodInHeld _ _ = false); kernel_rfl) | clear hK K)
        refine ⟨i + 1, by omega, by omega, ?_⟩
        rw [ha]
        refine le_move [true, true] (fun n_ => ?_) (fun n_ => ?_) <;> simp only [patch, sm, plC, hlt, decide_true]
      · have ho' : decide (EO[i] ≥ 0) = true := decide_eq_true ho
        repeat' (first | (with_reducible first | refine awp_seq_k fun K hK => ?_ | refine awp_ev tab_ok [] ?_ | refine awp_block_s ?_ | refine awp_block_c ?_ | refine awp_block_r ?_ | refine awp_skip ?_ | apply And.intro) | (with_reducible refine awp_ev_draw (id := 11) tab_ok [] [[], [], [], [], [], [], [], [], [], [], [], [1], []] [[], [], [], [], [], [], [], [], [], [], [], [1], []] follows (by kernel_rfl) (by decide) (by decide) (by kernel_rfl) ?_) | (with_reducible refine awp_ev_quiet tab_ok follows (by kernel_rfl) ?_) | ((with_reducible first | refine gE ?_ | refine gR ?_ | refine gD ?_ | refine gF ?_); simp (maxSteps := 4000000) only [su, hbT, tab, thenA, blockA, reduceCtorEq, reduceIte, Nat.reduceEqDiff, Nat.reduceBEq, Int.reduceLE, Int.reduceToNat, Nat.reduceAdd, Nat.reduceLT, Nat.reduceLeDiff, lit, locM hm, plC, intC, List.length_map, hlt, gi, h2, gO, splice_all, ho', hw, y1, y2]) | (show (_ : Nat) = (_ : Nat); rfl) | ((with_reducible refine awp_ret ?_); (try refine Or.inr ⟨(by intro h; cases h), ?_⟩); refine ret_tmp2 (.inr rfl) rfl rfl rfl (fun _ _ => rfl) ?_ ?_ <;> first | rfl | skip) | ((with_reducible refine awp_exit ?_); simp only [thenA, blockA, if_true, if_false, reduceIte, Nat.reduceEqDiff]) | (refine hK _ ?_; clear hK K) | refine awp_cond_t rfl ?_ | refine awp_cond_f rfl ?_ | refine awp_if rfl (fun hg => ?_) (fun hg => ?_) | ((first | show Program.eqGuardType _ _ _ = false | show numFieldsB _ _ _ = true | show Program.stoodInHeld _ _ = false); kernel_rfl) | clear hK K)
        refine ⟨i + 1, by omega, by omega, ?_⟩
        simp only [ha, List.map_append, List.length_append]
        refine le_move [true, true] (fun n_ => ?_) (fun n_ => ?_) <;> simp only [patch, sm, plC, jnC, hlt, decide_true, List.map_cons, List.map_nil, List.length_cons, List.length_nil, Nat.zero_add]
    · obtain rfl : i = L.length := by omega
      repeat' (first | (with_reducible first | refine awp_seq_k fun K hK => ?_ | refine awp_ev tab_ok [] ?_ | refine awp_block_s ?_ | refine awp_block_c ?_ | refine awp_block_r ?_ | refine awp_skip ?_ | apply And.intro) | (with_reducible refine awp_ev_quiet tab_ok follows (by kernel_rfl) ?_) | ((with_reducible first | refine gE ?_ | refine gR ?_); simp (maxSteps := 4000000) only [su, evLit, hbT, tab, thenA, blockA, reduceCtorEq, reduceIte, Nat.reduceEqDiff, Nat.reduceBEq, Int.reduceLE, Int.reduceToNat, Nat.reduceAdd, Nat.reduceLT, Nat.reduceLeDiff, locM hm, plC, List.length_map, hlt]) | (show (_ : Nat) = (_ : Nat); rfl) | ((with_reducible refine awp_ret ?_); (try refine Or.inr ⟨(by intro h; cases h), ?_⟩); refine ret_tmps_le (.inr rfl) rfl rfl rfl (fun _ _ => rfl) rfl rfl ?_ ?_ <;> first | rfl | (exact AV.le.rfl _) | (simp only [patch, sl, locM hm, plC, List.length_map, hlt]; done) | rfl | skip) | ((with_reducible refine awp_exit ?_); simp only [thenA, blockA, if_true, if_false, reduceIte, Nat.reduceEqDiff]) | (refine hK _ ?_; clear hK K) | refine awp_cond_t rfl ?_ | refine awp_cond_f rfl ?_ | refine awp_if rfl (fun hg => ?_) (fun hg => ?_) | ((first | show Program.eqGuardType _ _ _ = false | show numFieldsB _ _ _ = true | show Program.stoodInHeld _ _ = false); kernel_rfl) | clear hK K)
  · have hE' : (ofE p id != 0) = true := by simpa using hE
    rw [(of_not hE).2]
    generalize ofE p id = E at *
    refine acall_of 2 Try.func42 rfl fun n out _ _ => ?_
    simp only [Try.ntmps42, List.length_cons, List.length_nil, List.length_map, List.length_replicate, rep_map, Nat.reduceAdd, Nat.reduceSub, List.replicate, List.cons_append, List.nil_append]
    repeat' (first | (with_reducible first | refine awp_seq_k fun K hK => ?_ | refine awp_ev tab_ok [] ?_ | refine awp_block_s ?_ | refine awp_block_c ?_ | refine awp_block_r ?_ | refine awp_skip ?_ | apply And.intro) | (with_reducible refine awp_ev_quiet tab_ok follows (by kernel_rfl) ?_) | ((with_reducible first | refine gE ?_ | refine gR ?_); simp (maxSteps := 4000000) only [su, evLit, hbT, tab, thenA, blockA, reduceCtorEq, reduceIte, Nat.reduceEqDiff, Nat.reduceBEq, Int.reduceLE, Int.reduceToNat, Nat.reduceAdd, Nat.reduceLT, Nat.reduceLeDiff, plA, plC, splice_all, hE', List.map_nil]) | (show (_ : Nat) = (_ : Nat); rfl) | ((with_reducible refine awp_ret ?_); (try refine Or.inr ⟨(by intro h; cases h), ?_⟩); refine ret_tmps_le (.inr rfl) rfl rfl rfl (fun _ _ => rfl) rfl rfl ?_ ?_ <;> first | rfl | (exact AV.le.rfl _) | (simp only [patch, sl, plA, plC, splice_all, hE', List.map_nil]; done) | rfl | skip) | (refine call_pure (ca) ?_) | ((with_reducible refine awp_exit ?_); simp only [thenA, blockA, if_true, if_false, reduceIte, Nat.reduceEqDiff]) | (refine hK _ ?_; clear hK K) | refine awp_cond_t rfl ?_ | refine awp_cond_f rfl ?_ | refine awp_if rfl (fun hg => ?_) (fun hg => ?_) | ((first | show Program.eqGuardType _ _ _ = false | show numFieldsB _ _ _ = true | show Program.stoodInHeld _ _ = false); kernel_rfl) | clear hK K)
theorem c_rAll (p : Pl) (hs : Sm p) : ACall Try.prog 33 [plA p] [] (.tup [.sl 4 ((allW p).map wyC) .sh, .sl 1 ((allO p).map joC) .sh, i64 (allE p)]) [] := by
  have cc := c_rmay p hs
  have hrl := hs.rts
  simp only [plA, plC] at cc
  cases hmy : mayP p with
  | false =>
    have e1 : allE p = 8 := by unfold allE; rw [hmy]; rfl
    have e2 : allW p = [] := by unfold allW; rw [e1]; rfl
    have e3 : allO p = [] := by unfold allO; rw [e1]; rfl
    rw [e1, e2, e3]
    rw [hmy] at cc
    refine acall_of 4 Try.func33 rfl fun n out _ _ => ?_
    simp only [Try.ntmps33, List.length_cons, List.length_nil, List.length_map, List.length_replicate, rep_map, Nat.reduceAdd, Nat.reduceSub, List.replicate, List.cons_append, List.nil_append]
    repeat' (first | (with_reducible first | refine awp_seq_k fun K hK => ?_ | refine awp_ev tab_ok [] ?_ | refine awp_block_s ?_ | refine awp_block_c ?_ | refine awp_block_r ?_ | refine awp_skip ?_ | apply And.intro) | (with_reducible refine awp_ev_quiet tab_ok follows (by kernel_rfl) ?_) | ((with_reducible first | refine gE ?_ | refine gR ?_); simp (maxSteps := 4000000) only [su, evLit, hbT, tab, thenA, blockA, reduceCtorEq, reduceIte, Nat.reduceEqDiff, Nat.reduceBEq, Int.reduceLE, Int.reduceToNat, Nat.reduceAdd, Nat.reduceLT, Nat.reduceLeDiff, plA, plC, Bool.not_false, List.map_nil]) | (show (_ : Nat) = (_ : Nat); rfl) | ((with_reducible refine awp_ret ?_); (try refine Or.inr ⟨(by intro h; cases h), ?_⟩); refine ret_ttt (.inr rfl) rfl rfl rfl (fun _ _ => rfl) rfl rfl rfl ?_ ?_ ?_ <;> first | rfl | (exact AV.le.rfl _) | (simp only [patch, sl, plA, plC, Bool.not_false, List.map_nil]; done) | rfl | skip) | (refine call_pure (cc) ?_) | ((with_reducible refine awp_exit ?_); simp only [thenA, blockA, if_true, if_false, reduceIte, Nat.reduceEqDiff]) | (refine hK _ ?_; clear hK K) | refine awp_cond_t rfl ?_ | refine awp_cond_f rfl ?_ | refine awp_if rfl (fun hg => ?_) (fun hg => ?_) | ((first | show Program.eqGuardType _ _ _ = false | show numFieldsB _ _ _ = true | show Program.stoodInHeld _ _ = false); kernel_rfl) | clear hK K)
  | true =>
    rw [hmy] at cc
    have hof : ∀ (i : Nat) (hi : i < p.rts.length), ofE p p.rts[i].id = folE p p.rts[i] ∧ ofW p p.rts[i].id = folW p p.rts[i] ∧ ofO p p.rts[i].id = folO p p.rts[i] := fun i hi => by
      have hr := List.getElem_mem hi
      have e1 : rtE p p.rts[i].id = 0 ∧ rtO p p.rts[i].id = p.rts[i] := by
        have hg : getR p.rts p.rts[i].id = some p.rts[i] := by
          unfold getR
          refine find_first (f := fun x => x.id == p.rts[i].id) hi (by simp) fun j hj hji => ?_
          obtain ⟨_, _, _, _, h5, _, _⟩ := may_parts hmy
          have := allP_iff.1 h5 i (by simpa using hi)
          simp only [rises, Bool.and_eq_true, List.all_eq_true, decide_eq_true_eq, List.getElem_map] at this
          have h3 := this.2 _ (by have := mem_take_of (l := p.rts.map Rt.id) hji (by simpa using hj); simpa using this)
          simp; omega
        unfold rtE rtO elE elD
        rw [hmy, hg]; exact ⟨rfl, rfl⟩
      unfold ofE ofW ofO
      rw [e1.1, e1.2]
      exact ⟨if_pos rfl, if_pos rfl, if_pos rfl⟩
    have cf := fun (i : Nat) (hi : i < p.rts.length) => c_rOf p hs p.rts[i].id
    have cg := fun (i : Nat) (hi : i < p.rts.length) => c_rOuts p hs p.rts[i].id
    obtain ⟨RW, hRW⟩ : ∃ RW, RW = allW p := ⟨_, rfl⟩
    obtain ⟨RO, hRO⟩ : ∃ RO, RO = allO p := ⟨_, rfl⟩
    obtain ⟨RE, hRE⟩ : ∃ RE, RE = allE p := ⟨_, rfl⟩
    rw [← hRW, ← hRO, ← hRE]
    refine acall_of 4 Try.func33 rfl fun n out _ _ => ?_
    simp only [Try.ntmps33, List.length_cons, List.length_nil, List.length_map, List.length_replicate, rep_map, Nat.reduceAdd, Nat.reduceSub, List.replicate, List.cons_append, List.nil_append]
    repeat' (first | (with_reducible first | refine awp_seq_k fun K hK => ?_ | refine awp_ev tab_ok [] ?_ | refine awp_block_s ?_ | refine awp_block_c ?_ | refine awp_block_r ?_ | refine awp_skip ?_ | apply And.intro) | (with_reducible refine awp_ev_quiet tab_ok follows (by kernel_rfl) ?_) | ((with_reducible first | refine gE ?_ | refine gR ?_); simp (maxSteps := 4000000) only [su, evLit, hbT, tab, thenA, blockA, reduceCtorEq, reduceIte, Nat.reduceEqDiff, Nat.reduceBEq, Int.reduceLE, Int.reduceToNat, Nat.reduceAdd, Nat.reduceLT, Nat.reduceLeDiff, plA, plC, List.length_map, Bool.not_true]) | (show (_ : Nat) = (_ : Nat); rfl) | (refine call_pure (cc) ?_) | ((with_reducible refine awp_exit ?_); simp only [thenA, blockA, if_true, if_false, reduceIte, Nat.reduceEqDiff]) | (refine hK _ ?_; clear hK K) | refine awp_cond_t rfl ?_ | refine awp_cond_f rfl ?_ | refine awp_if rfl (fun hg => ?_) (fun hg => ?_) | ((first | show Program.eqGuardType _ _ _ = false | show numFieldsB _ _ _ = true | show Program.stoodInHeld _ _ = false); kernel_rfl) | clear hK K)
    refine awp_le (le_row (i := 1) 77 4 rfl) ?_
    refine awp_le (le_row (i := 2) 35 1 rfl) ?_
    simp only [s_0, s_s]
    refine awp_block ?_
    refine awp_for_mv (fun m (i : Nat) => [(7, i64 (i : Int)), (1, .ptr (m + 0) 0), (5, .sl 4 ((p.rts.take i).map fun r => wyC (folW p r)) (.own (m + 1))), (6, .sl 1 ((p.rts.take i).map fun r => joC (folO p r)) (.own (m + 2))), (2, .top), (3, .top), (4, .top), (8, .top), (9, .top), (10, .top), (11, .top), (15, .top), (16, .top), (17, .top), (18, .top), (19, .top), (20, .top), (21, .top), (22, .top), (23, .top), (24, .top), (25, .top), (26, .top), (27, .top), (28, .top), (29, .top), (30, .top), (31, .top), (32, .top), (33, .top), (34, .top), (35, .top), (36, .top), (37, .top), (38, .top), (39, .top), (40, .top), (41, .top), (42, .top), (43, .top), (44, .top), (45, .top), (46, .top), (47, .top), (48, .top), (49, .top), (50, .top), (51, .top), (52, .top), (53, .top), (54, .top)]) (fun m i => [some (.box 27 (plC p)), some (.row 77 4 i), some (.row 35 1 i), none]) (fun i => out) (fun i => i ≤ p.rts.length ∧ (∀ j (hj : j < p.rts.length), j < i → (folE p p.rts[j] != 0) = false)) (fun i => p.rts.length - i) 0 ⟨Nat.zero_le _, by intros; omega⟩ ?_ fun m i hm hi => ?_
    · refine le_of_all ?_ ?_ (by first | rfl | (simp only [plC, List.take_zero, List.map_nil, List.length_map]; rfl) | simp only [plC, List.take_zero, List.map_nil, List.length_map]) rfl rfl rfl <;> simp only [patch, sl, plC, List.take_zero, List.map_nil, List.length_map]
    obtain ⟨hi, hq⟩ := hi
    simp only [patch, s_0, s_s]
    have hw := addw (n := i) 1 1 rfl (by omega)
    by_cases hlt : i < p.rts.length
    · have gi := getD_map rtC p.rts i [] hlt
      have cF := cf i hlt
      have cG := cg i hlt
      obtain ⟨o1, o2, o3⟩ := hof i hlt
      rw [o1, o2] at cF
      rw [o1, o3] at cG
      have next : (folE p p.rts[i] != 0) = false → ∀ j (hj : j < p.rts.length), j < i + 1 → (folE p p.rts[j] != 0) = false := fun h j hj hji => by
        by_cases h' : j = i
        · subst h'; exact h
        · exact hq j hj (by omega)
      have bad : (folE p p.rts[i] != 0) = true → allE p = folE p p.rts[i] ∧ allW p = [] ∧ allO p = [] := fun h => by
        have e1 : allE p = folE p p.rts[i] := by
          unfold allE; rw [hmy, find_first (f := fun r => folE p r != 0) hlt h hq]; rfl
        have hn : ¬ allE p = 0 := by rw [e1]; simpa using h
        exact ⟨e1, by unfold allW; rw [if_neg hn], by unfold allO; rw [if_neg hn]⟩
      have hsw := map_snoc (fun r => wyC (folW p r)) p.rts i hlt
      have hso := map_snoc (fun r => joC (folO p r)) p.rts i hlt
      clear hq cf cg hof
      simp only [plA, plC, wyA, wyC] at cF cG
      cases hb : (folE p p.rts[i] != 0) with
      | true =>
        obtain ⟨e1, e2, e3⟩ := bad hb
        rw [e1] at hRE
        rw [e2] at hRW
        rw [e3] at hRO
        subst hRE hRW hRO
        repeat' (first | (with_reducible first | refine awp_seq_k fun K hK => ?_ | refine awp_ev tab_ok [] ?_ | refine awp_block_s ?_ | refine awp_block_c ?_ | refine awp_block_r ?_ | refine awp_skip ?_ | apply And.intro) | (with_reducible refine awp_ev_draw (id := 8) tab_ok [] [[0], [], [0], [], [], [], [], [], [], [], [], [3], [3], []] [[], [], [], [], [], [], [], [], [], [], [], [3], [3], []] follows (by kernel_rfl) (by decide) (by decide) (by kernel_rfl) ?_) | (with_reducible refine awp_ev_quiet tab_ok follows (by kernel_rfl) ?_) | ((with_reducible first | refine gE ?_ | refine gR ?_ | refine gD ?_ | refine gF ?_); simp (maxSteps := 4000000) only [su, evLit, hbT, tab, thenA, blockA, reduceCtorEq, reduceIte, Nat.reduceEqDiff, Nat.reduceBEq, Int.reduceLE, Int.reduceToNat, Nat.reduceAdd, Nat.reduceLT, Nat.reduceLeDiff, locM hm, plC, rtC, List.length_map, hlt, gi, splice_all, hb, List.map_nil]) | (show (_ : Nat) = (_ : Nat); rfl) | ((with_reducible refine awp_ret ?_); (try refine Or.inr ⟨(by intro h; cases h), ?_⟩); refine ret_ttt (.inr rfl) rfl rfl rfl (fun _ _ => rfl) rfl rfl rfl ?_ ?_ ?_ <;> first | rfl | (exact AV.le.rfl _) | (simp only [patch, sl, locM hm, plC, rtC, List.length_map, hlt, gi, splice_all, hb, List.map_nil]; done) | rfl | skip) | (refine call_pure (cF) ?_) | ((with_reducible refine awp_exit ?_); simp only [thenA, blockA, if_true, if_false, reduceIte, Nat.reduceEqDiff]) | (refine hK _ ?_; clear hK K) | refine awp_cond_t rfl ?_ | refine awp_cond_f rfl ?_ | refine awp_if rfl (fun hg => ?_) (fun hg => ?_) | ((first | show Program.eqGuardType _ _ _ = false | show numFieldsB _ _ _ = true | show Program.stoodInHeld _ _ = false); kernel_rfl) | clear hK K)
      | false =>
        have nx := next hb
        clear next bad
        have lw : ∀ (σ : AState) (K : AV → List (Nat × Res) → Prop), evLit tab σ K none 68 1 [(0, .agg [.sl 1 ((folW p p.rts[i]).path.map intC) .sh, .sl 1 ((folW p p.rts[i]).over.map intC) .sh, .sl 3 ((folW p p.rts[i]).asks.map sgC) .sh, i64 (folW p p.rts[i]).near])] = K (.sl 4 [[.sl 1 ((folW p p.rts[i]).path.map intC) .sh, .sl 1 ((folW p p.rts[i]).over.map intC) .sh, .sl 3 ((folW p p.rts[i]).asks.map sgC) .sh, i64 (folW p p.rts[i]).near]] .full) [] := fun σ K => evLit_one (T := tab) (ti := ti68) (te := ti77) rfl rfl rfl (by decide) (by decide) rfl rfl
        have lo' : ∀ (σ : AState) (K : AV → List (Nat × Res) → Prop), evLit tab σ K none 69 1 [(0, .sl 2 ((folO p p.rts[i]).map jnC) .sh)] = K (.sl 1 [[.sl 2 ((folO p p.rts[i]).map jnC) .sh]] .full) [] := fun σ K => evLit_one (T := tab) (ti := ti69) (te := ti35) rfl rfl rfl (by decide) (by decide) rfl rfl
        have hsw' : (p.rts.take i).map (fun r => wyC (folW p r)) ++ [[.sl 1 ((folW p p.rts[i]).path.map intC) .sh, .sl 1 ((folW p p.rts[i]).over.map intC) .sh, .sl 3 ((folW p p.rts[i]).asks.map sgC) .sh, i64 (folW p p.rts[i]).near]] = (p.rts.take (i + 1)).map fun r => wyC (folW p r) := hsw
        have hso' : (p.rts.take i).map (fun r => joC (folO p r)) ++ [[.sl 2 ((folO p p.rts[i]).map jnC) .sh]] = (p.rts.take (i + 1)).map fun r => joC (folO p r) := hso
        have z1 : (i + 1) * 80 ≤ 140737488355328 := by omega
        have z2 : (i + 1) * 24 ≤ 140737488355328 := by omega
        have z3 : i ≤ 9223372036854775806 := by omega
        repeat' (first | (with_reducible first | refine awp_seq_k fun K hK => ?_ | refine awp_ev tab_ok [] ?_ | refine awp_block_s ?_ | refine awp_block_c ?_ | refine awp_block_r ?_ | refine awp_skip ?_ | apply And.intro) | (with_reducible refine awp_ev_draw (id := 8) tab_ok [] [[0], [], [0], [], [], [], [], [], [], [], [], [3], [3], []] [[], [], [], [], [], [], [], [], [], [], [], [3], [3], []] follows (by kernel_rfl) (by decide) (by decide) (by kernel_rfl) ?_) | (with_reducible refine awp_ev_quiet tab_ok follows (by kernel_rfl) ?_) | ((with_reducible first | refine gE ?_ | refine gR ?_ | refine gD ?_ | refine gF ?_); simp (maxSteps := 4000000) only [su, hbT, tab, thenA, blockA, reduceCtorEq, reduceIte, Nat.reduceEqDiff, Nat.reduceBEq, Int.reduceLE, Int.reduceToNat, Nat.reduceAdd, Nat.reduceLT, Nat.reduceLeDiff, lw, lo', locM hm, plC, rtC, List.length_map, List.length_take, Nat.min_eq_left hi, hlt, gi, splice_all, hb, hw, z1, z2, z3]) | (show (_ : Nat) = (_ : Nat); rfl) | (refine call_pure (cF) ?_) | (refine call_pure (cG) ?_) | ((with_reducible refine awp_exit ?_); simp only [thenA, blockA, if_true, if_false, reduceIte, Nat.reduceEqDiff]) | (refine hK _ ?_; clear hK K) | refine awp_cond_t rfl ?_ | refine awp_cond_f rfl ?_ | refine awp_if rfl (fun hg => ?_) (fun hg => ?_) | ((first | show Program.eqGuardType _ _ _ = false | show numFieldsB _ _ _ = true | show Program.stoodInHeld _ _ = false); kernel_rfl) | clear hK K)
        rw [hsw', hso']
        refine ⟨i + 1, ⟨by omega, nx⟩, by omega, ?_⟩
        refine le_move [true, true, true, false] (fun n_ => ?_) (fun n_ => ?_) <;> simp only [patch, sm, plC, hlt, decide_true]
    · have e1 : allE p = 0 := by
        unfold allE; rw [hmy, find_none' (f := fun r => folE p r != 0) fun j hj => hq j hj (by omega)]; rfl
      have e2 : allW p = p.rts.map (folW p) := by unfold allW; rw [if_pos e1]
      have e3 : allO p = p.rts.map (folO p) := by unfold allO; rw [if_pos e1]
      rw [e1] at hRE
      rw [e2] at hRW
      rw [e3] at hRO
      subst hRE hRW hRO
      obtain rfl : i = p.rts.length := by omega
      clear hq
      have hm1 : (p.rts.map (folW p)).map wyC = p.rts.map fun r => wyC (folW p r) := by rw [List.map_map]; rfl
      have hm2 : (p.rts.map (folO p)).map joC = p.rts.map fun r => joC (folO p r) := by rw [List.map_map]; rfl
      repeat' (first | (with_reducible first | refine awp_seq_k fun K hK => ?_ | refine awp_ev tab_ok [] ?_ | refine awp_block_s ?_ | refine awp_block_c ?_ | refine awp_block_r ?_ | refine awp_skip ?_ | apply And.intro) | (with_reducible refine awp_ev_quiet tab_ok follows (by kernel_rfl) ?_) | ((with_reducible first | refine gE ?_ | refine gR ?_); simp (maxSteps := 4000000) only [su, evLit, hbT, tab, thenA, blockA, reduceCtorEq, reduceIte, Nat.reduceEqDiff, Nat.reduceBEq, Int.reduceLE, Int.reduceToNat, Nat.reduceAdd, Nat.reduceLT, Nat.reduceLeDiff, locM hm, plC, splice_all, List.length_map, hlt, List.take_length, hm1, hm2]) | (show (_ : Nat) = (_ : Nat); rfl) | ((with_reducible refine awp_ret ?_); (try refine Or.inr ⟨(by intro h; cases h), ?_⟩); refine ret_ttt (.inr rfl) rfl rfl rfl (fun _ _ => rfl) rfl rfl rfl ?_ ?_ ?_ <;> first | rfl | (exact AV.le.rfl _) | (simp only [patch, sl, locM hm, plC, splice_all, List.length_map, hlt, List.take_length, hm1, hm2]; done) | rfl | skip) | ((with_reducible refine awp_exit ?_); simp only [thenA, blockA, if_true, if_false, reduceIte, Nat.reduceEqDiff]) | (refine hK _ ?_; clear hK K) | refine awp_cond_t rfl ?_ | refine awp_cond_f rfl ?_ | refine awp_if rfl (fun hg => ?_) (fun hg => ?_) | ((first | show Program.eqGuardType _ _ _ = false | show numFieldsB _ _ _ = true | show Program.stoodInHeld _ _ = false); kernel_rfl) | clear hK K)
end Go.Proofs.Ytdkiciofkifpdaa.Pln
