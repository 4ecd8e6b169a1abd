/-
  The law ConflictOwn.
-/
import Derived.Test.YtcfkieacdjcaoaaZG0
import Derived.Test.YtcfkieacdjcaoaaZU3
import Derived.Test.YtcfkieacdjcaoaaZW12
import Derived.Test.YtcfkieacdjcaoaaZW11
namespace Go.Proofs.Ytcfkieacdjcaoaa.Pln
set_option linter.unusedVariables false
set_option linter.unusedSimpArgs false
open Go Go.VS Tab
set_option maxHeartbeats 8000000
set_option maxRecDepth 4000
def keepR (a b : Int) (r : Rt) : Bool := r.id == a || r.id == b
def uP (p : Pl) (a b : Int) : Pl := ⟨1, 0, p.secs, p.pts, p.sgs, p.rts.filter (keepR a b)⟩
theorem may_u {p : Pl} (h : mayP p = true) (a b : Int) : mayP (uP p a b) = true := by
  obtain ⟨_, h2, h3, h4, h5, h6, h7⟩ := may_parts h
  unfold mayP
  have e1 : headOk (uP p a b) = true := rfl
  have e2 : mayS (uP p a b).secs = true := h2
  have e3 : ptsOk (uP p a b) = true := h3
  have e4 : sgsOk (uP p a b) = true := h4
  have e5 : allP rises ((uP p a b).rts.map Rt.id) = true := by
    rw [rises_eq, allP_pair] at h5 ⊢
    refine ⟨fun x hx => ?_, ?_⟩
    · obtain ⟨g, hg, rfl⟩ := List.mem_map.1 hx
      exact h5.1 _ (List.mem_map.2 ⟨g, (List.mem_filter.1 hg).1, rfl⟩)
    · rw [List.pairwise_map] at h5 ⊢
      exact h5.2.filter _
  have e6 : decide ((uP p a b).rts.length ≤ 16) = true := by
    have := List.length_filter_le (keepR a b) p.rts
    exact decide_eq_true (show (p.rts.filter (keepR a b)).length ≤ 16 by omega)
  have e7 : (uP p a b).rts.all (okR (uP p a b)) = true := by
    rw [List.all_eq_true]
    intro r hr
    exact h7 r (List.mem_filter.1 hr).1
  rw [e1, e2, e3, e4, e5, e6, e7]; rfl
theorem sm_u {p : Pl} (hs : Sm p) (a b : Int) : Sm (uP p a b) :=
  ⟨hs.secs, hs.ends, hs.pts, hs.sgs, by have := hs.rts; have h2 := List.length_filter_le (keepR a b) p.rts; show (p.rts.filter (keepR a b)).length ≤ 40; omega, fun r h => hs.rt r (List.mem_filter.1 h).1⟩
theorem step_u (p : Pl) (a b : Int) (r : Rt) (w : Wk) (i : Nat) : stepW (uP p a b) r w i = stepW p r w i := rfl
theorem run_u (p : Pl) (a b : Int) (r : Rt) : ∀ i, runW (uP p a b) r i = runW p r i
  | 0 => rfl
  | i + 1 => by
    show stepW (uP p a b) r (runW (uP p a b) r i) i = stepW p r (runW p r i) i
    rw [run_u p a b r i, step_u]
theorem fol_u (p : Pl) (a b : Int) (r : Rt) : folW (uP p a b) r = folW p r ∧ folO (uP p a b) r = folO p r ∧ folE (uP p a b) r = folE p r := by
  have e : endW (uP p a b) r = endW p r := run_u p a b r _
  unfold folW folO folE
  rw [e]
  exact ⟨rfl, rfl, rfl⟩
theorem sound_u {p : Pl} (h : soundE p = 0) (a b : Int) : soundE (uP p a b) = 0 := by
  obtain ⟨hm, hs⟩ := sound_zero h
  have hm' := may_u hm a b
  have hE : allE (uP p a b) = 0 := by
    unfold allE
    rw [hm', if_pos rfl]
    rw [show (uP p a b).rts.find? (fun r => folE (uP p a b) r != 0) = none from by
      rw [List.find?_eq_none]
      intro r hr
      rw [(fol_u p a b r).2.2, (hs r (List.mem_filter.1 hr).1).1]; decide]
  have hA : (uP p a b).rts.all (soundR (uP p a b)) = true := by
    rw [List.all_eq_true]
    intro r hr
    have h2 := (hs r (List.mem_filter.1 hr).1).2
    unfold soundR at h2 ⊢
    rw [(fol_u p a b r).1, (fol_u p a b r).2.1]
    exact h2
  unfold soundE
  rw [if_pos ⟨hE, hA⟩]
theorem two_zero {p : Pl} {a b : Int} (h : twoE p a b = 0) : soundE p = 0 ∧ ofE p a = 0 ∧ ofE p b = 0 ∧ a ≠ b := by
  unfold twoE at h
  by_cases h1 : soundE p = 0
  · rw [if_neg (by simp [h1])] at h
    by_cases h2 : ofE p a = 0
    · rw [if_neg (by simp [h2])] at h
      by_cases h3 : ofE p b = 0
      · rw [if_neg (by simp [h3])] at h
        by_cases h4 : a = b
        · rw [if_pos h4] at h; exact absurd h (by decide)
        · exact ⟨h1, h2, h3, h4⟩
      · rw [if_pos h3] at h; exact absurd h h3
    · rw [if_pos h2] at h; exact absurd h h2
  · rw [if_pos h1] at h; exact absurd h h1
theorem of_mem {p : Pl} {a : Int} (h : ofE p a = 0) : ∃ r, r ∈ p.rts ∧ r.id = a := by
  obtain ⟨g, hE⟩ := gone_of h
  exact ⟨rtO p a, g.mem, rtO_id hE⟩
theorem own_two {p : Pl} {a b : Int} (h : twoE p a b = 0) : twoE (uP p a b) a b = 0 ∧ twoB (uP p a b) a b = twoB p a b ∧ (tabL (uP p a b)).length = if twoB p a b = true then 1 else 0 := by
  obtain ⟨h1, h2, h3, hne⟩ := two_zero h
  obtain ⟨ra, ha, rfl⟩ := of_mem h2
  obtain ⟨rb, hb, rfl⟩ := of_mem h3
  obtain ⟨x1, x2⟩ := two_of h1 ha hb hne
  have hu := sound_u h1 ra.id rb.id
  have ma : ra ∈ (uP p ra.id rb.id).rts := List.mem_filter.2 ⟨ha, by unfold keepR; simp⟩
  have mb : rb ∈ (uP p ra.id rb.id).rts := List.mem_filter.2 ⟨hb, by unfold keepR; simp⟩
  obtain ⟨y1, y2⟩ := two_of hu ma mb hne
  rw [(fol_u p _ _ ra).1, (fol_u p _ _ rb).1] at y2
  refine ⟨y1, by rw [y2, x2], ?_⟩
  have hm := may_u (sound_zero h1).1 ra.id rb.id
  have hrise := rts_rise hm
  obtain ⟨Q, hQ⟩ : ∃ Q, Q = uP p ra.id rb.id := ⟨_, rfl⟩
  have hkeep : ∀ r, r ∈ Q.rts → r.id = ra.id ∨ r.id = rb.id := fun r hr => by
    rw [hQ] at hr
    have := (List.mem_filter.1 hr).2
    unfold keepR at this
    simpa using this
  rw [← hQ] at ma mb hrise hu hm ⊢
  have hfol : ∀ r, folW Q r = folW p r := fun r => by rw [hQ]; exact (fol_u p _ _ r).1
  have hnd : (Q.rts.map Rt.id).Nodup := by
    rw [List.nodup_iff_pairwise_ne, List.pairwise_map, List.pairwise_iff_getElem]
    intro i j hi hj hij
    have := hrise j hj i hij
    omega
  have l1 : (Q.rts.map Rt.id).length ≤ 2 := sub_len (A := [ra.id, rb.id]) hnd fun x hx => by
    obtain ⟨r, hr, rfl⟩ := List.mem_map.1 hx
    rcases hkeep r hr with e | e <;> simp [e]
  have l2 : [ra.id, rb.id].length ≤ (Q.rts.map Rt.id).length := sub_len (by simp [hne]) fun x hx => by
    simp at hx
    rcases hx with rfl | rfl
    · exact List.mem_map.2 ⟨ra, ma, rfl⟩
    · exact List.mem_map.2 ⟨rb, mb, rfl⟩
  rw [List.length_map] at l1 l2
  have l3 : Q.rts.length = 2 := by simp at l2; omega
  obtain ⟨x, y, hxy⟩ : ∃ x y, Q.rts = [x, y] := by
    match hq : Q.rts, l3 with
    | [x, y], _ => exact ⟨x, y, rfl⟩
  have hx : x ∈ Q.rts := by rw [hxy]; simp
  have hy : y ∈ Q.rts := by rw [hxy]; simp
  have hlt : x.id < y.id := by
    have := hrise 1 (by omega) 0 (by omega)
    simpa [hxy] using this
  obtain ⟨z1, z2⟩ := two_of hu hx hy (by omega)
  rw [hfol, hfol] at z2
  have hC : confW (folW p x) (folW p y) = twoB p ra.id rb.id := by
    rw [x2]
    have ex : ∀ r r', r ∈ Q.rts → r' ∈ Q.rts → r.id = r'.id → r = r' := fun r r' hr hr' e => by
      have e1 := (rtO_of hm hr).1
      have e2 := (rtO_of hm hr').1
      rw [← e1, ← e2, e]
    rcases hkeep x hx with e | e
    · rw [ex x ra hx ma e]
      rcases hkeep y hy with e' | e'
      · omega
      · rw [ex y rb hy mb e']
    · rw [ex x rb hx mb e]
      rcases hkeep y hy with e' | e'
      · rw [ex y ra hy ma e', confW_symm]
      · omega
  have hT : tabL Q = tabIn Q x [y] ++ [] := by
    unfold tabL
    rw [if_pos hu, l3]
    rw [tabPre_succ Q 1 (by omega), tabPre_succ Q 0 (by omega)]
    have e0 : tabPre Q 0 = [] := rfl
    have e1 : Q.rts.drop 2 = [] := by rw [hxy]; rfl
    have e2 : Q.rts.drop 1 = [y] := by rw [hxy]; rfl
    rw [e0, List.nil_append]
    have e3 : (Q.rts[0]'(by omega)) = x := by simp [hxy]
    rw [e1, e2, e3, tabIn_nil]
  rw [hT, List.append_nil]
  unfold tabIn
  rw [List.length_map, List.filter_cons, z1, z2, hC]
  cases twoB p ra.id rb.id <;> simp
theorem c_lawCOwn (p : Pl) (a b : Int) : ACall Try.prog 10 [plA p, i64 a, i64 b] [] (bool true) [] := by
  have cg := c_rgreat p
  simp only [plA, plC] at cg
  cases hG : greatP p with
  | true =>
    rw [hG] at cg
    refine acall_of 4 Try.func10 rfl fun n out _ _ => ?_
    simp only [Try.ntmps10, List.length_cons, List.length_nil, List.length_map, List.length_replicate, rep_map, Nat.reduceAdd, Nat.reduceSub, List.replicate, List.cons_append, List.nil_append]
    repeat' (first | (with_reducible first | refine awp_seq_k fun K hK => ?_ | refine awp_ev tab_ok [] ?_ | refine awp_block_s ?_ | refine awp_block_c ?_ | refine awp_block_r ?_ | refine awp_skip ?_ | apply And.intro) | (with_reducible refine awp_ev_quiet tab_ok follows (by kernel_rfl) ?_) | ((with_reducible first | refine gE ?_ | refine gR ?_); simp (maxSteps := 4000000) only [su, evLit, hbT, tab, thenA, blockA, reduceCtorEq, reduceIte, Nat.reduceEqDiff, Nat.reduceBEq, Int.reduceLE, Int.reduceToNat, Nat.reduceAdd, Nat.reduceLT, Nat.reduceLeDiff, plA, plC]) | (show (_ : Nat) = (_ : Nat); rfl) | ((with_reducible refine awp_ret ?_); (try refine Or.inr ⟨(by intro h; cases h), ?_⟩); refine ret_tmp (.inr rfl) rfl rfl rfl (fun _ _ => rfl) ?_ <;> first | rfl | skip) | (refine call_pure (cg) ?_) | (refine call_pure (c_calive) ?_) | ((with_reducible refine gsel_case (fun hg => ?_) (fun hg => ?_)) <;> (try simp only [nb] at hg) <;> simp (maxSteps := 4000000) only [su, evLit, hbT, tab, thenA, blockA, reduceCtorEq, reduceIte, Nat.reduceEqDiff, Nat.reduceBEq, Int.reduceLE, Int.reduceToNat, Nat.reduceAdd, Nat.reduceLT, Nat.reduceLeDiff, hg, plA, plC]) | ((with_reducible refine awp_exit ?_); simp only [thenA, blockA, if_true, if_false, reduceIte, Nat.reduceEqDiff]) | (refine hK _ ?_; clear hK K) | refine awp_cond_t rfl ?_ | refine awp_cond_f rfl ?_ | refine awp_if rfl (fun hg => ?_) (fun hg => ?_) | ((first | show Program.eqGuardType _ _ _ = false | show numFieldsB _ _ _ = true | show Program.stoodInHeld _ _ = false); kernel_rfl) | clear hK K)
  | false =>
    rw [hG] at cg
    have hs := small_of hG
    have c1 := c_two p hs a b
    have hrl := hs.rts
    by_cases hE : twoE p a b = 0
    · have c3 := c_rtwinP p hs
      obtain ⟨o1, o2, o3⟩ := own_two hE
      have c4 := c_two (uP p a b) (sm_u hs a b) a b
      have c5 := c_table (uP p a b) (sm_u hs a b)
      rw [sound_u (two_zero hE).1] at c5
      rw [o1, o2] at c4
      rw [hE] at c1
      clear o1 o2 hE
      generalize twoB p a b = B at *
      generalize tabL (uP p a b) = TL at *
      simp only [plA, plC] at c1 c3
      obtain ⟨kf, hkf⟩ : ∃ kf : Nat → List Rt, kf = fun i => (p.rts.take i).filter (keepR a b) := ⟨_, rfl⟩
      have kf0 : kf 0 = [] := by rw [hkf]; rfl
      have kfS : ∀ i (hi : i < p.rts.length), kf (i + 1) = kf i ++ if keepR a b p.rts[i] then [p.rts[i]] else [] := fun i hi => by
        rw [hkf]; dsimp only
        rw [List.take_succ_eq_append_getElem hi, List.filter_append]
        congr 1
        cases h : keepR a b p.rts[i] <;> simp [h]
      have kfl : ∀ i, i ≤ p.rts.length → (kf i).length ≤ i := fun i hi => by
        rw [hkf]; dsimp only
        have := List.length_filter_le (keepR a b) (p.rts.take i)
        rw [List.length_take] at this
        omega
      have kfe : kf p.rts.length = p.rts.filter (keepR a b) := by rw [hkf]; dsimp only; rw [List.take_length]
      clear hkf
      refine acall_of 4 Try.func10 rfl fun n out _ _ => ?_
      simp only [Try.ntmps10, List.length_cons, List.length_nil, List.length_map, List.length_replicate, rep_map, Nat.reduceAdd, Nat.reduceSub, List.replicate, List.cons_append, List.nil_append]
      repeat' (first | (with_reducible first | refine awp_seq_k fun K hK => ?_ | refine awp_ev tab_ok [] ?_ | refine awp_block_s ?_ | refine awp_block_c ?_ | refine awp_block_r ?_ | refine awp_skip ?_ | apply And.intro) | (with_reducible refine awp_ev_quiet tab_ok follows (by kernel_rfl) ?_) | ((with_reducible first | refine gE ?_ | refine gR ?_); simp (maxSteps := 4000000) only [su, evLit, hbT, tab, thenA, blockA, reduceCtorEq, reduceIte, Nat.reduceEqDiff, Nat.reduceBEq, Int.reduceLE, Int.reduceToNat, Nat.reduceAdd, Nat.reduceLT, Nat.reduceLeDiff, plA, plC, splice_all, Int.reduceBNe, List.length_map]) | (show (_ : Nat) = (_ : Nat); rfl) | ((with_reducible refine awp_ret ?_); (try refine Or.inr ⟨(by intro h; cases h), ?_⟩); refine ret_tmp (.inr rfl) rfl rfl rfl (fun _ _ => rfl) ?_ <;> first | rfl | skip) | (refine call_pure (cg) ?_) | (refine call_pure (c_calive) ?_) | (refine call_pure (c1) ?_) | (refine call_pure (c3) ?_) | ((with_reducible refine gsel_case (fun hg => ?_) (fun hg => ?_)) <;> (try simp only [nb] at hg) <;> simp (maxSteps := 4000000) only [su, evLit, hbT, tab, thenA, blockA, reduceCtorEq, reduceIte, Nat.reduceEqDiff, Nat.reduceBEq, Int.reduceLE, Int.reduceToNat, Nat.reduceAdd, Nat.reduceLT, Nat.reduceLeDiff, hg, plA, plC, splice_all, Int.reduceBNe, List.length_map]) | ((with_reducible refine awp_exit ?_); simp only [thenA, blockA, if_true, if_false, reduceIte, Nat.reduceEqDiff]) | (refine hK _ ?_; clear hK K) | refine awp_cond_t rfl ?_ | refine awp_cond_f rfl ?_ | refine awp_if rfl (fun hg => ?_) (fun hg => ?_) | ((first | show Program.eqGuardType _ _ _ = false | show numFieldsB _ _ _ = true | show Program.stoodInHeld _ _ = false); kernel_rfl) | clear hK K)
      refine awp_le (le_row (i := 2) 34 7 rfl) ?_
      simp only [s_0, s_s]
      refine awp_block ?_
      refine awp_for_g (fun i : Nat => [(11, i64 (i : Int)), (40, .top), (41, .top), (42, .top), (43, .top), (44, .top), (45, .top), (46, .top), (47, .top), (48, .top), (49, .top), (50, .top), (51, .top), (52, .top), (53, .top), (54, .top), (55, .top), (56, .top), (57, .top), (58, .top), (59, .top), (60, .top), (61, .top), (62, .top), (63, .top), (64, .top), (65, .top), (66, .top), (67, .top), (68, .top), (69, .top), (70, .top), (71, .top), (72, .top), (73, .top), (74, .top)]) (fun i => [some (.box 27 (plC p)), some (.box 27 [i64 1, i64 0, .sl 3 (p.secs.map secC) .sh, .sl 2 (p.pts.map jnC) .sh, .sl 3 (p.sgs.map sgC) .sh, .sl 7 ((kf i).map rtC) (.own (n + 2))]), some (.row 34 7 (kf i).length), none]) (fun i => out) (fun i => i ≤ p.rts.length) (fun i => p.rts.length - i) 0 (Nat.zero_le _) ?_ fun i hi => ?_
      · refine le_of_all ?_ ?_ (by first | rfl | (simp only [plC, kf0, List.map_nil, List.length_nil, List.length_map]; rfl) | simp only [plC, kf0, List.map_nil, List.length_nil, List.length_map]) rfl rfl rfl <;> simp only [patch, sl, plC, kf0, List.map_nil, List.length_nil, List.length_map]
      simp only [patch, s_0, s_s]
      have hw := addw (n := i) 1 1 rfl (by omega)
      by_cases hlt : i < p.rts.length
      · have gi := getD_map rtC p.rts i [] hlt
        have hks := kfS i hlt
        have hkl := kfl i (by omega)
        have hkg : keepR a b p.rts[i] = (p.rts[i].id == a || p.rts[i].id == b) := rfl
        have z1 : ((kf i).length + 1) * 104 ≤ 140737488355328 := by omega
        have z2 : (kf i).length ≤ 9223372036854775806 := by omega
        have lit2 : ∀ (σ : AState) (K : AV → List (Nat × Res) → Prop), evLit tab σ K none 25 1 [(0, .agg [i64 p.rts[i].id, i64 p.rts[i].entry, i64 p.rts[i].ex, .sl 1 (p.rts[i].path.map intC) .sh, .sl 1 (p.rts[i].over.map intC) .sh, .sl 2 (p.rts[i].flanks.map jnC) .sh, i64 p.rts[i].timer])] = K (.sl 7 [[i64 p.rts[i].id, i64 p.rts[i].entry, i64 p.rts[i].ex, .sl 1 (p.rts[i].path.map intC) .sh, .sl 1 (p.rts[i].over.map intC) .sh, .sl 2 (p.rts[i].flanks.map jnC) .sh, i64 p.rts[i].timer]] .full) [] := fun σ K => evLit_one (T := tab) (ti := ti25) (te := ti34) rfl rfl rfl (by decide) (by decide) rfl rfl
        cases hb : keepR a b p.rts[i] with
        | true =>
          rw [hb, if_pos rfl] at hks
          have hkm : (kf i).map rtC ++ [[i64 p.rts[i].id, i64 p.rts[i].entry, i64 p.rts[i].ex, .sl 1 (p.rts[i].path.map intC) .sh, .sl 1 (p.rts[i].over.map intC) .sh, .sl 2 (p.rts[i].flanks.map jnC) .sh, i64 p.rts[i].timer]] = (kf (i + 1)).map rtC := by rw [hks, List.map_append]; rfl
          have hkn : (kf i).length + 1 = (kf (i + 1)).length := by rw [hks, List.length_append]; rfl
          cases hb1 : (p.rts[i].id == a) with
          | true =>
            repeat' (first | (with_reducible first | refine awp_seq_k fun K hK => ?_ | refine awp_ev tab_ok [] ?_ | refine awp_block_s ?_ | refine awp_block_c ?_ | refine awp_block_r ?_ | refine awp_skip ?_ | apply And.intro) | (with_reducible refine awp_ev_draw (id := 15) tab_ok [] [[], [1], [], [0], [], [], [], [], [2], [], [1]] [[], [], [], [], [], [], [], [], [2], [], [1]] follows (by kernel_rfl) (by decide) (by decide) (by kernel_rfl) ?_) | (with_reducible refine awp_ev_quiet tab_ok follows (by kernel_rfl) ?_) | ((with_reducible first | refine gE ?_ | refine gR ?_ | refine gD ?_ | refine gF ?_); simp (maxSteps := 4000000) only [su, hbT, tab, thenA, blockA, reduceCtorEq, reduceIte, Nat.reduceEqDiff, Nat.reduceBEq, Int.reduceLE, Int.reduceToNat, Nat.reduceAdd, Nat.reduceLT, Nat.reduceLeDiff, lit2, plC, rtC, splice_all, List.length_map, hlt, gi, hb1, hw, z1, z2]) | (show (_ : Nat) = (_ : Nat); rfl) | ((with_reducible refine awp_ret ?_); (try refine Or.inr ⟨(by intro h; cases h), ?_⟩); refine ret_tmp (.inr rfl) rfl rfl rfl (fun _ _ => rfl) ?_ <;> first | rfl | skip) | ((with_reducible refine gsel_case (fun hg => ?_) (fun hg => ?_)) <;> (try simp only [nb] at hg) <;> simp (maxSteps := 4000000) only [su, hbT, tab, thenA, blockA, reduceCtorEq, reduceIte, Nat.reduceEqDiff, Nat.reduceBEq, Int.reduceLE, Int.reduceToNat, Nat.reduceAdd, Nat.reduceLT, Nat.reduceLeDiff, hg, lit2, plC, rtC, splice_all, List.length_map, hlt, gi, hb1, hw, z1, z2]) | ((with_reducible refine awp_exit ?_); simp only [thenA, blockA, if_true, if_false, reduceIte, Nat.reduceEqDiff]) | (refine hK _ ?_; clear hK K) | refine awp_cond_t rfl ?_ | refine awp_cond_f rfl ?_ | refine awp_if rfl (fun hg => ?_) (fun hg => ?_) | ((first | show Program.eqGuardType _ _ _ = false | show numFieldsB _ _ _ = true | show Program.stoodInHeld _ _ = false); kernel_rfl) | clear hK K)
            refine ⟨i + 1, by omega, by omega, ?_⟩
            rw [hkm, hkn]
            refine le_of_all ?_ ?_ rfl rfl rfl rfl <;> simp only [patch, sl, plC, hlt, decide_true]
          | false =>
            have hb2 : (p.rts[i].id == b) = true := by rw [hkg, hb1, Bool.false_or] at hb; exact hb
            repeat' (first | (with_reducible first | refine awp_seq_k fun K hK => ?_ | refine awp_ev tab_ok [] ?_ | refine awp_block_s ?_ | refine awp_block_c ?_ | refine awp_block_r ?_ | refine awp_skip ?_ | apply And.intro) | (with_reducible refine awp_ev_draw (id := 15) tab_ok [] [[], [1], [], [0], [], [], [], [], [2], [], [1]] [[], [], [], [], [], [], [], [], [2], [], [1]] follows (by kernel_rfl) (by decide) (by decide) (by kernel_rfl) ?_) | (with_reducible refine awp_ev_quiet tab_ok follows (by kernel_rfl) ?_) | ((with_reducible first | refine gE ?_ | refine gR ?_ | refine gD ?_ | refine gF ?_); simp (maxSteps := 4000000) only [su, hbT, tab, thenA, blockA, reduceCtorEq, reduceIte, Nat.reduceEqDiff, Nat.reduceBEq, Int.reduceLE, Int.reduceToNat, Nat.reduceAdd, Nat.reduceLT, Nat.reduceLeDiff, lit2, plC, rtC, splice_all, List.length_map, hlt, gi, hb1, hb2, hw, z1, z2]) | (show (_ : Nat) = (_ : Nat); rfl) | ((with_reducible refine awp_ret ?_); (try refine Or.inr ⟨(by intro h; cases h), ?_⟩); refine ret_tmp (.inr rfl) rfl rfl rfl (fun _ _ => rfl) ?_ <;> first | rfl | skip) | ((with_reducible refine gsel_case (fun hg => ?_) (fun hg => ?_)) <;> (try simp only [nb] at hg) <;> simp (maxSteps := 4000000) only [su, hbT, tab, thenA, blockA, reduceCtorEq, reduceIte, Nat.reduceEqDiff, Nat.reduceBEq, Int.reduceLE, Int.reduceToNat, Nat.reduceAdd, Nat.reduceLT, Nat.reduceLeDiff, hg, lit2, plC, rtC, splice_all, List.length_map, hlt, gi, hb1, hb2, hw, z1, z2]) | ((with_reducible refine awp_exit ?_); simp only [thenA, blockA, if_true, if_false, reduceIte, Nat.reduceEqDiff]) | (refine hK _ ?_; clear hK K) | refine awp_cond_t rfl ?_ | refine awp_cond_f rfl ?_ | refine awp_if rfl (fun hg => ?_) (fun hg => ?_) | ((first | show Program.eqGuardType _ _ _ = false | show numFieldsB _ _ _ = true | show Program.stoodInHeld _ _ = false); kernel_rfl) | clear hK K)
            refine ⟨i + 1, by omega, by omega, ?_⟩
            rw [hkm, hkn]
            refine le_of_all ?_ ?_ rfl rfl rfl rfl <;> simp only [patch, sl, plC, hlt, decide_true]
        | false =>
          rw [hb, if_neg (by decide), List.append_nil] at hks
          rw [hkg, Bool.or_eq_false_iff] at hb
          obtain ⟨hb1, hb2⟩ := hb
          repeat' (first | (with_reducible first | refine awp_seq_k fun K hK => ?_ | refine awp_ev tab_ok [] ?_ | refine awp_block_s ?_ | refine awp_block_c ?_ | refine awp_block_r ?_ | refine awp_skip ?_ | apply And.intro) | (with_reducible refine awp_ev_quiet tab_ok follows (by kernel_rfl) ?_) | ((with_reducible first | refine gE ?_ | refine gR ?_); simp (maxSteps := 4000000) only [su, evLit, hbT, tab, thenA, blockA, reduceCtorEq, reduceIte, Nat.reduceEqDiff, Nat.reduceBEq, Int.reduceLE, Int.reduceToNat, Nat.reduceAdd, Nat.reduceLT, Nat.reduceLeDiff, plC, rtC, splice_all, List.length_map, hlt, gi, hb1, hb2, hw]) | (show (_ : Nat) = (_ : Nat); rfl) | ((with_reducible refine awp_ret ?_); (try refine Or.inr ⟨(by intro h; cases h), ?_⟩); refine ret_tmp (.inr rfl) rfl rfl rfl (fun _ _ => rfl) ?_ <;> first | rfl | skip) | ((with_reducible refine gsel_case (fun hg => ?_) (fun hg => ?_)) <;> (try simp only [nb] at hg) <;> simp (maxSteps := 4000000) only [su, evLit, hbT, tab, thenA, blockA, reduceCtorEq, reduceIte, Nat.reduceEqDiff, Nat.reduceBEq, Int.reduceLE, Int.reduceToNat, Nat.reduceAdd, Nat.reduceLT, Nat.reduceLeDiff, hg, plC, rtC, splice_all, List.length_map, hlt, gi, hb1, hb2, hw]) | ((with_reducible refine awp_exit ?_); simp only [thenA, blockA, if_true, if_false, reduceIte, Nat.reduceEqDiff]) | (refine hK _ ?_; clear hK K) | refine awp_cond_t rfl ?_ | refine awp_cond_f rfl ?_ | refine awp_if rfl (fun hg => ?_) (fun hg => ?_) | ((first | show Program.eqGuardType _ _ _ = false | show numFieldsB _ _ _ = true | show Program.stoodInHeld _ _ = false); kernel_rfl) | clear hK K)
          refine ⟨i + 1, by omega, by omega, ?_⟩
          rw [hks]
          refine le_of_all ?_ ?_ rfl rfl rfl rfl <;> simp only [patch, sl, plC, hlt, decide_true]
      · obtain rfl : i = p.rts.length := by omega
        rw [kfe]
        have cq : ACall Try.prog 23 [.agg [i64 1, i64 0, .sl 3 (p.secs.map secC) .sh, .sl 2 (p.pts.map jnC) .sh, .sl 3 (p.sgs.map sgC) .sh, .sl 7 ((p.rts.filter (keepR a b)).map rtC) (.own (n + 2))], i64 a, i64 b] [] (.tup [bool B, i64 0]) [] := by
          refine acall_le c4 ?_
          simp only [plA, plC, uP, patch, sl]
        have ct : ACall Try.prog 25 [.agg [i64 1, i64 0, .sl 3 (p.secs.map secC) .sh, .sl 2 (p.pts.map jnC) .sh, .sl 3 (p.sgs.map sgC) .sh, .sl 7 ((p.rts.filter (keepR a b)).map rtC) (.own (n + 2))]] [] (.tup [.sl 2 (TL.map jnC) .sh, i64 0]) [] := by
          refine acall_le c5 ?_
          simp only [plA, plC, uP, patch, sl]
        have t1 : ((TL.length : Int) == 1) = B := by rw [o3]; cases B <;> rfl
        have t2 : decide ((TL.length : Int) ≤ 1) = true := by rw [o3]; cases B <;> rfl
        clear o3
        have t3 : (B == B) = true := by simp
        repeat' (first | (with_reducible first | refine awp_seq_k fun K hK => ?_ | refine awp_ev tab_ok [] ?_ | refine awp_block_s ?_ | refine awp_block_c ?_ | refine awp_block_r ?_ | refine awp_skip ?_ | apply And.intro) | (with_reducible refine awp_ev_quiet tab_ok follows (by kernel_rfl) ?_) | ((with_reducible first | refine gE ?_ | refine gR ?_); simp (maxSteps := 4000000) only [su, evLit, hbT, tab, thenA, blockA, reduceCtorEq, reduceIte, Nat.reduceEqDiff, Nat.reduceBEq, Int.reduceLE, Int.reduceToNat, Nat.reduceAdd, Nat.reduceLT, Nat.reduceLeDiff, List.length_map, hlt, splice_all, plC, Int.reduceBEq, t1, t2, t3, Bool.and_self]) | (show (_ : Nat) = (_ : Nat); rfl) | ((with_reducible refine awp_ret ?_); (try refine Or.inr ⟨(by intro h; cases h), ?_⟩); refine ret_tmp (.inr rfl) rfl rfl rfl (fun _ _ => rfl) ?_ <;> first | rfl | skip) | (refine call_pure (cq) ?_) | (refine call_pure (ct) ?_) | ((with_reducible refine gsel_case (fun hg => ?_) (fun hg => ?_)) <;> (try simp only [nb] at hg) <;> simp (maxSteps := 4000000) only [su, evLit, hbT, tab, thenA, blockA, reduceCtorEq, reduceIte, Nat.reduceEqDiff, Nat.reduceBEq, Int.reduceLE, Int.reduceToNat, Nat.reduceAdd, Nat.reduceLT, Nat.reduceLeDiff, hg, List.length_map, hlt, splice_all, plC, Int.reduceBEq, t1, t2, t3, Bool.and_self]) | ((with_reducible refine awp_exit ?_); simp only [thenA, blockA, if_true, if_false, reduceIte, Nat.reduceEqDiff]) | (refine hK _ ?_; clear hK K) | refine awp_cond_t rfl ?_ | refine awp_cond_f rfl ?_ | refine awp_if rfl (fun hg => ?_) (fun hg => ?_) | ((first | show Program.eqGuardType _ _ _ = false | show numFieldsB _ _ _ = true | show Program.stoodInHeld _ _ = false); kernel_rfl) | clear hK K)
    · have hE' : (twoE p a b != 0) = true := by simpa using hE
      have e1 : twoB p a b = false := by unfold twoB; rw [if_neg hE]
      rw [e1] at c1
      simp only [plA, plC] at c1
      refine acall_of 4 Try.func10 rfl fun n out _ _ => ?_
      simp only [Try.ntmps10, List.length_cons, List.length_nil, List.length_map, List.length_replicate, rep_map, Nat.reduceAdd, Nat.reduceSub, List.replicate, List.cons_append, List.nil_append]
      repeat' (first | (with_reducible first | refine awp_seq_k fun K hK => ?_ | refine awp_ev tab_ok [] ?_ | refine awp_block_s ?_ | refine awp_block_c ?_ | refine awp_block_r ?_ | refine awp_skip ?_ | apply And.intro) | (with_reducible refine awp_ev_quiet tab_ok follows (by kernel_rfl) ?_) | ((with_reducible first | refine gE ?_ | refine gR ?_); simp (maxSteps := 4000000) only [su, evLit, hbT, tab, thenA, blockA, reduceCtorEq, reduceIte, Nat.reduceEqDiff, Nat.reduceBEq, Int.reduceLE, Int.reduceToNat, Nat.reduceAdd, Nat.reduceLT, Nat.reduceLeDiff, plA, plC, splice_all, hE', Bool.not_false]) | (show (_ : Nat) = (_ : Nat); rfl) | ((with_reducible refine awp_ret ?_); (try refine Or.inr ⟨(by intro h; cases h), ?_⟩); refine ret_tmp (.inr rfl) rfl rfl rfl (fun _ _ => rfl) ?_ <;> first | rfl | skip) | (refine call_pure (cg) ?_) | (refine call_pure (c_calive) ?_) | (refine call_pure (c1) ?_) | ((with_reducible refine gsel_case (fun hg => ?_) (fun hg => ?_)) <;> (try simp only [nb] at hg) <;> simp (maxSteps := 4000000) only [su, evLit, hbT, tab, thenA, blockA, reduceCtorEq, reduceIte, Nat.reduceEqDiff, Nat.reduceBEq, Int.reduceLE, Int.reduceToNat, Nat.reduceAdd, Nat.reduceLT, Nat.reduceLeDiff, hg, plA, plC, splice_all, hE', Bool.not_false]) | ((with_reducible refine awp_exit ?_); simp only [thenA, blockA, if_true, if_false, reduceIte, Nat.reduceEqDiff]) | (refine hK _ ?_; clear hK K) | refine awp_cond_t rfl ?_ | refine awp_cond_f rfl ?_ | refine awp_if rfl (fun hg => ?_) (fun hg => ?_) | ((first | show Program.eqGuardType _ _ _ = false | show numFieldsB _ _ _ = true | show Program.stoodInHeld _ _ = false); kernel_rfl) | clear hK K)
end Go.Proofs.Ytcfkieacdjcaoaa.Pln
