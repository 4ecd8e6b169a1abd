/- The layer of abstract values, joined: RB. -/
import Derived.Test.YtdkiciofkifpdaaZGA
import Derived.Test.YtdkiciofkifpdaaZR3
import Derived.Test.YtdkiciofkifpdaaZPL
import Derived.Test.YtdkiciofkifpdaaZWZ
section
namespace Go.Proofs.Ytdkiciofkifpdaa.Pln
set_option linter.unusedVariables false
set_option linter.unusedSimpArgs false
open Go Go.VS Tab
set_option maxHeartbeats 16000000
set_option maxRecDepth 4000
theorem idx_rt {l : List Rt} {n : Int} {s : Rt} (h : getR l n = some s) : ∃ (k : Nat) (hk : k < l.length), idx (fun x => x.id == n) l = k ∧ l[k] = s := by
  rcases idx_cases (fun x : Rt => x.id == n) l with ⟨z1, z2, z3⟩ | ⟨k, hk, z1, z2, z3, z4⟩
  · unfold getR at h; rw [z2] at h; cases h
  · refine ⟨k, hk, z1, ?_⟩
    unfold getR at h; rw [z2] at h; simpa using h
theorem ends_at {p : Pl} {r : Rt} {W : Wy} {O : List (Int × Int)} (g : Gone p r W O) {i : Nat} (hi : i < (allL r).length) {s : Sec} (hs : getS p.secs (allL r)[i] = some s) :
    (∃ h1 : i < (endsI p r).length, (endsI p r)[i] = (runW p r i).inn.2) ∧ ∃ (h2 : i < (endsO p r).length) (lie : Int), (((endsO p r)[i] < 0 ∧ lie = (runW p r i).inn.2 ∧ (runW p r (i + 1)).outs = (runW p r i).outs) ∨ (0 ≤ (endsO p r)[i] ∧ lie = lieF s (runW p r i).inn.2 (endsO p r)[i] ∧ (runW p r (i + 1)).outs = (runW p r i).outs ++ [((allL r)[i], (endsO p r)[i])])) ∧
      (runW p r (i + 1)).asks = (runW p r i).asks ++ if s.pt ≠ 0 ∧ 0 < lie then [(s.pt, lie, (i : Int))] else [] := by
  have hE : (endW p r).lost = false := g.not
  have eI : endsI p r = insX p r (allL r).length := by unfold endsI; rw [hE, if_neg (by decide)]
  have eO : endsO p r = (runW p r (allL r).length).outs.map (fun o => o.2) ++ if r.over = [] then [] else [-1] := by unfold endsO; rw [hE, if_neg (by decide)]; rfl
  have hal : (allL r).length = r.path.length + r.over.length := by unfold allL; exact List.length_append
  have hpt : 0 ≤ s.pt := by
    have := shaped_iff.1 (mayS_sec (may_parts g.may).2.1 (getS_some hs).1).2
    omega
  have asks : ∀ (w : Wk) (lie : Int), (askW w s.pt lie i).asks = w.asks ++ if s.pt ≠ 0 ∧ 0 < lie then [(s.pt, lie, (i : Int))] else [] := fun w lie => by
    unfold askW
    by_cases h : s.pt ≠ 0 ∧ 0 < lie
    · rw [if_pos h, if_pos (by simp; omega)]
    · rw [if_neg h, if_neg (by simp; omega), List.append_nil]
  have h0 := run_keep g.not i (by omega)
  have h1 := run_keep g.not (i + 1) (by omega)
  refine ⟨⟨by rw [eI, insX_len]; exact hi, by simp only [eI]; unfold insX; simp⟩, ?_⟩
  by_cases hk : i + 1 = r.path.length ∨ i + 1 ≠ (allL r).length
  · obtain ⟨s', e, a, b, c, d, q, _⟩ := step_thr h1 hk
    rw [allL_getD hi] at a b q
    obtain rfl : s = s' := by rw [hs] at a; simpa using a
    obtain ⟨t, ht⟩ := outs_app (p := p) (r := r) (i := i + 1) (allL r).length (by omega) g.not
    have hlen := outs_len i h0 fun j hj => by
      by_cases h : j + 1 = (allL r).length
      · omega
      · exact .inr h
    obtain ⟨l, hkp⟩ := askW_keeps (runW p r i) s.pt (thruL s (runW p r i).inn.2 e) i
    have hou : (runW p r (i + 1)).outs = (runW p r i).outs ++ [((allL r)[i], (e : Int))] := by rw [q, hkp]; rfl
    have has : (runW p r (i + 1)).asks = (askW (runW p r i) s.pt (thruL s (runW p r i).inn.2 e) i).asks := by rw [q]; rfl
    have eO2 : endsO p r = ((runW p r i).outs.map fun o => o.2) ++ ((e : Int) :: (t.map (fun o => o.2) ++ if r.over = [] then [] else [-1])) := by rw [eO, ht, hou]; simp
    have hl2 : i < (endsO p r).length := by rw [eO2]; simp; omega
    have hoe : (endsO p r)[i] = (e : Int) := by
      simp only [eO2]
      rw [List.getElem_append_right (by simp; omega)]
      simp [hlen]
    have hlie : thruL s (runW p r i).inn.2 e = lieF s (runW p r i).inn.2 e := by
      unfold thruE at d
      unfold thruL
      by_cases hsh : shaped s
      · rw [if_pos hsh] at d
        by_cases hl : lieF s (runW p r i).inn.2 e < 0
        · rw [if_pos hl] at d; exact absurd d (by decide)
        · rw [if_pos ⟨hsh, by omega⟩]
      · rw [if_neg hsh] at d; exact absurd d (by decide)
    exact ⟨hl2, lieF s (runW p r i).inn.2 e, .inr ⟨by rw [hoe]; omega, by rw [hoe], by rw [hoe]; exact hou⟩, by rw [has, hlie]; exact asks _ _⟩
  · have k1 : i + 1 ≠ r.path.length := fun e => hk (.inl e)
    have k2 : i + 1 = (allL r).length := Classical.byContradiction fun e => hk (.inr e)
    obtain ⟨s', a, b, q⟩ := step_stay h1 k1 k2
    rw [allL_getD hi] at a b
    obtain rfl : s = s' := by rw [hs] at a; simpa using a
    have hov : r.over ≠ [] := fun h => by
      have : r.over.length = 0 := by rw [h]; rfl
      omega
    have hlen := outs_len i h0 fun j hj => by
      by_cases h : j + 1 = (allL r).length
      · omega
      · exact .inr h
    have hou : (runW p r (i + 1)).outs = (runW p r i).outs := by
      rw [q]; split
      · obtain ⟨l, hkp⟩ := askW_keeps (runW p r i) s.pt (runW p r i).inn.2 i
        rw [hkp]
      · rfl
    have eO2 : endsO p r = ((runW p r i).outs.map fun o => o.2) ++ [-1] := by rw [eO, ← k2, hou, if_neg hov]
    have hl2 : i < (endsO p r).length := by rw [eO2]; simp; omega
    have hoe : (endsO p r)[i] = -1 := by
      simp only [eO2]
      rw [List.getElem_append_right (by simp; omega)]
      simp [hlen]
    refine ⟨hl2, (runW p r i).inn.2, .inl ⟨by rw [hoe]; decide, rfl, hou⟩, ?_⟩
    rw [q]
    by_cases hp : 0 < (runW p r i).inn.2
    · rw [if_pos hp]; exact asks _ _
    · rw [if_neg hp, if_neg (by omega), List.append_nil]
theorem c_rmade (p : Pl) (hs : Sm p) {r : Rt} (g : Gone p r (folW p r) (folO p r)) (k : Nat) (hk : k < p.rts.length) (hkr : p.rts[k] = r) : ACall Try.prog 85 [plA p, i64 (k : Int)] [] (wyA (folW p r)) [] := by
  obtain ⟨b1, b2, b3⟩ := hs.rt _ g.mem
  obtain ⟨hone, en, z1, z2, z3, z4⟩ := entry_of g.may g.mem
  obtain ⟨kE, hkE, cE1, cE2⟩ := idx_sg z1
  have cSA := c_rSignalAt p.sgs r.entry (by have := hs.sgs; omega)
  rw [cE1] at cSA
  have gSg := getD_map sgC p.sgs kE [] hkE
  rw [cE2] at gSg
  have gRt := getD_map rtC p.rts k [] hk
  rw [hkr] at gRt
  have cT := c_rtwinR r ⟨b1, b2, b3⟩
  have cE := c_rends p hs g.may r g.mem
  rw [show (endW p r).lost = false from g.not, Bool.not_false] at cE
  have hpne : r.path ≠ [] := by intro h; rw [h] at hone; simp at hone
  have cS := c_rsections r hpne (by omega) (by omega)
  have hAll : r.path ++ r.over = allL r := rfl
  rw [hAll] at cS
  have hsecs := fun {i : Nat} (hi : i < (allL r).length) => sec_of g.may g.mem hi
  have hat := fun {i : Nat} (hi : i < (allL r).length) {s : Sec} hsc => ends_at g hi (s := s) hsc
  have hfl := g.asks
  have hpos := flank_pos g.may g.mem
  have hnear : (folW p r).near = en.2.1 := by rw [g.near, z2]
  have hpth := g.path
  have hovr := g.over
  have hal : (allL r).length = r.path.length + r.over.length := by unfold allL; exact List.length_append
  have hAl := fun i => (runW_len p r i).1
  obtain ⟨AS, hAS⟩ : ∃ AS : Nat → List (Int × Int × Int), AS = fun i => (runW p r i).asks := ⟨_, rfl⟩
  have hASe : ∀ i, (runW p r i).asks = AS i := fun i => by rw [hAS]
  have hA0 : AS 0 = [] := by rw [hAS]; rfl
  simp only [hASe] at hat hfl hAl
  clear hAS hASe
  generalize folW p r = W at *
  generalize folO p r = O at *
  obtain ⟨L, hL⟩ : ∃ L, L = allL r := ⟨_, rfl⟩
  rw [← hL] at cS hal hfl
  simp only [← hL] at hsecs hat
  generalize endsI p r = EI at *
  generalize endsO p r = EO at *
  clear g
  simp only [plA, plC, rtA, rtC] at cT cE cS
  simp only [wyA, wyC, hpth, hovr, hnear]
  refine acall_of 6 Try.func85 rfl fun n out _ _ => ?_
  simp only [Try.ntmps85, List.length_cons, List.length_nil, List.length_map, List.length_replicate, rep_map, Nat.reduceAdd, Nat.reduceSub, List.replicate, List.cons_append, List.nil_append]
  repeat' (first | (with_reducible first | refine Vk fun K hK => ?_ | refine V0 ?_ | refine Vb ?_ | refine Vc ?_ | refine Vr ?_ | refine Vs ?_ | apply And.intro | refine Vd 4 [] [[],[2],[],[2],[],[0],[],[0],[],[2],[],[],[],[],[],[3],[3]] [[],[],[],[],[],[],[],[],[],[],[],[],[],[],[],[3],[3]] (by kernel_rfl) (by decide) (by decide) (by kernel_rfl) ?_ | refine Vq (by kernel_rfl) ?_) | ((with_reducible first | refine gE ?_ | refine gR ?_ | refine gD ?_ | refine gF ?_); simp (maxSteps:=9^7) only [ss, evLit, tab, reduceCtorEq, reduceIte, Nat.reduceEqDiff, Nat.reduceBEq, Int.reduceLE, Int.reduceToNat, Nat.reduceAdd, Nat.reduceLT, Nat.reduceLeDiff, plA, plC, rtA, rtC, sgC, splice_all, List.length_map, gSg, hkE, gRt, hk]) | exact Vn | ((with_reducible refine Vz ?_); (first | refine ret_cell_le (.inr rfl) rfl rfl rfl (fun _ _ => rfl) ok77 (k := n + 1) (off := 0) rfl (dom_loc _ (by simp)) (look_loc _ (Nat.le_refl _) 1) rfl ?_ | refine ret_cell_le (.inr rfl) rfl rfl rfl (fun _ _ => rfl) ok77 (k := m + 1) (off := 0) rfl (dom_loc _ (by simp)) (look_loc _ hm 1) rfl ?_) <;> first | rfl | exact AV.le.rfl _ | (simp only [patch, sl, ti77, List.map_nil, plA, plC, rtA, rtC, sgC, splice_all, List.length_map, gSg, hkE, gRt, hk]; done) | rfl | skip) | (refine call_pure (cT) ?_) | (refine call_pure (cE) ?_) | (refine call_pure (cS) ?_) | (refine call_pure (cSA) ?_) | ((with_reducible refine Vx ?_); simp only [sb, reduceIte, Nat.reduceEqDiff]) | (refine hK _ ?_; clear hK K) | refine Vt rfl ?_ | refine Vf rfl ?_ | refine Vi rfl (fun hg => ?_) (fun hg => ?_) | clear hK K)
  refine awp_le (le_row (i := 4) 83 3 rfl) ?_
  simp only [s_0, s_s]
  refine awp_block ?_
  refine awp_for_mv (fun m (i : Nat) => [(11, i64 (i : Int)), (2, .ptr (m + 0) 0), (4, .ptr (m + 1) 0), (5, .ptr (m + 2) 0), (10, .ptr (m + 3) 0), (12, .top), (13, .top), (45, .top), (46, .top), (47, .top), (48, .top), (49, .top), (50, .top), (51, .top), (52, .top), (53, .top), (54, .top), (55, .top), (56, .top), (57, .top), (58, .top), (59, .top), (60, .top), (61, .top), (62, .top), (63, .top), (64, .top), (65, .top), (66, .top), (67, .top), (68, .top), (69, .top), (70, .top), (71, .top), (72, .top), (73, .top), (74, .top), (75, .top), (76, .top), (77, .top), (78, .top), (79, .top), (80, .top), (81, .top), (82, .top), (83, .top), (84, .top), (85, .top), (86, .top), (87, .top), (88, .top), (89, .top), (90, .top), (91, .top), (92, .top), (93, .top), (94, .top), (95, .top)]) (fun m i => [some (.box 27 (plC p)), some (.box 77 [.sl 0 [] .nil, .sl 0 [] .nil, .sl 0 [] .nil, i64 0]), some (.box 34 (rtC r)), some (.box 77 [.sl 1 (r.path.map intC) .sh, .sl 1 (r.over.map intC) .sh, .sl 3 ((AS i).map sgC) (.own (m + 4)), i64 en.2.1]), some (.row 83 3 (AS i).length), none]) (fun i => out) (fun i => i ≤ L.length) (fun i => L.length - i) 0 (Nat.zero_le _) ?_ fun m i hm hi => ?_
  · refine le_of_all ?_ ?_ (by first | rfl | (simp only [plC, rtC, hA0, List.map_nil, List.length_nil]; rfl) | simp only [plC, rtC, hA0, List.map_nil, List.length_nil]) rfl rfl rfl <;> simp only [patch, sl, plC, rtC, hA0, List.map_nil, List.length_nil]
  simp only [patch, s_0, s_s]
  have hw := addw (n := i) 1 1 rfl (by omega)
  by_cases hlt : i < L.length
  · have gi := getD_map intC L i [] hlt
    obtain ⟨s, hsec⟩ := hsecs hlt
    obtain ⟨k0, hk0, cB1, cB2⟩ := at_of hsec
    have cAi := c_at p.secs L[i] (by have := hs.secs; omega)
    rw [cB1] at cAi
    have gk0 := getD_map secC p.secs k0 [] hk0
    rw [cB2] at gk0
    obtain ⟨⟨h1, e1⟩, h2, lie, hc, ha⟩ := hat hlt hsec
    have gI := getD_map intC EI i [] h1
    rw [e1] at gI
    have gO := getD_map intC EO i [] h2
    have cL := c_rlie s (runW p r i).inn.2 EO[i]
    have hAi := hAl i
    have y1 : ((AS i).length + 1) * 24 ≤ 140737488355328 := by omega
    have y2 : (AS i).length ≤ 9223372036854775806 := by omega
    have lit : ∀ (σ : AState) (K : AV → List (Nat × Res) → Prop), evLit tab σ K none 75 1 [(0, .agg [i64 s.pt, i64 lie, i64 (i : Int)])] = K (.sl 3 [[i64 s.pt, i64 lie, i64 (i : Int)]] .full) [] := fun σ K => evLit_one (T := tab) (ti := ti75) (te := ti83) rfl rfl rfl (by decide) (by decide) rfl rfl
    simp only [secA, secC] at cL
    clear hat hsecs
    generalize EO[i] = oi at *
    generalize (runW p r i).inn.2 = ii at *
    by_cases hp : s.pt = 0
    · have hp' : (s.pt == 0) = true := by simp [hp]
      rw [if_neg (by simp [hp]), List.append_nil] at ha
      repeat' (first | (with_reducible first | refine Vk fun K hK => ?_ | refine V0 ?_ | refine Vb ?_ | refine Vc ?_ | refine Vr ?_ | refine Vs ?_ | apply And.intro | refine Vd 8 [] [[],[0],[],[0],[],[],[],[],[],[],[],[5],[5]] [[],[],[],[],[],[],[],[],[],[],[],[5],[5]] (by kernel_rfl) (by decide) (by decide) (by kernel_rfl) ?_ | refine Vq (by kernel_rfl) ?_) | ((with_reducible first | refine gE ?_ | refine gR ?_ | refine gD ?_ | refine gF ?_); simp (maxSteps:=9^7) only [ss, evLit, tab, reduceCtorEq, reduceIte, Nat.reduceEqDiff, Nat.reduceBEq, Int.reduceLE, Int.reduceToNat, Nat.reduceAdd, Nat.reduceLT, Nat.reduceLeDiff, locM hm, plC, rtC, secC, intC, List.length_map, hlt, gi, hk0, gk0, splice_all, hp', hw]) | exact Vn | ((with_reducible refine Vz ?_); (first | refine ret_cell_le (.inr rfl) rfl rfl rfl (fun _ _ => rfl) ok77 (k := n + 1) (off := 0) rfl (dom_loc _ (by simp)) (look_loc _ (Nat.le_refl _) 1) rfl ?_ | refine ret_cell_le (.inr rfl) rfl rfl rfl (fun _ _ => rfl) ok77 (k := m + 1) (off := 0) rfl (dom_loc _ (by simp)) (look_loc _ hm 1) rfl ?_) <;> first | rfl | exact AV.le.rfl _ | (simp only [patch, sl, ti77, List.map_nil, locM hm, plC, rtC, secC, intC, List.length_map, hlt, gi, hk0, gk0, splice_all, hp', hw]; done) | rfl | skip) | (refine call_pure (cAi) ?_) | ((with_reducible refine Vx ?_); simp only [sb, reduceIte, Nat.reduceEqDiff]) | (refine hK _ ?_; clear hK K) | refine Vt rfl ?_ | refine Vf rfl ?_ | refine Vi rfl (fun hg => ?_) (fun hg => ?_) | clear hK K)
      refine ⟨i + 1, by omega, by omega, ?_⟩
      rw [ha]
      refine le_move [true, true, true, true, true, false] (fun n_ => ?_) (fun n_ => ?_) <;> simp only [patch, sm, plC, rtC, hlt, decide_true]
    · have hp' : (s.pt == 0) = false := by simp [hp]
      by_cases hl : 0 < lie
      · have hl' : decide (lie > 0) = true := decide_eq_true hl
        rw [if_pos ⟨hp, hl⟩] at ha
        rcases hc with ⟨ho, hc, _⟩ | ⟨ho, hc, _⟩
        · have ho' : decide (oi ≥ 0) = false := decide_eq_false (by omega)
          subst hc
          repeat' (first | (with_reducible first | refine Vk fun K hK => ?_ | refine V0 ?_ | refine Vb ?_ | refine Vc ?_ | refine Vr ?_ | refine Vs ?_ | apply And.intro | refine Vd 8 [] [[],[0],[],[0],[],[],[],[],[],[],[],[5],[5]] [[],[],[],[],[],[],[],[],[],[],[],[5],[5]] (by kernel_rfl) (by decide) (by decide) (by kernel_rfl) ?_ | refine Vq (by kernel_rfl) ?_) | ((with_reducible first | refine gE ?_ | refine gR ?_ | refine gD ?_ | refine gF ?_); simp (maxSteps:=9^7) only [ss, tab, reduceCtorEq, reduceIte, Nat.reduceEqDiff, Nat.reduceBEq, Int.reduceLE, Int.reduceToNat, Nat.reduceAdd, Nat.reduceLT, Nat.reduceLeDiff, lit, locM hm, plC, rtC, secC, intC, List.length_map, hlt, gi, hk0, gk0, h1, gI, h2, gO, splice_all, hp', ho', hl', hw, y1, y2]) | exact Vn | ((with_reducible refine Vz ?_); (first | refine ret_cell_le (.inr rfl) rfl rfl rfl (fun _ _ => rfl) ok77 (k := n + 1) (off := 0) rfl (dom_loc _ (by simp)) (look_loc _ (Nat.le_refl _) 1) rfl ?_ | refine ret_cell_le (.inr rfl) rfl rfl rfl (fun _ _ => rfl) ok77 (k := m + 1) (off := 0) rfl (dom_loc _ (by simp)) (look_loc _ hm 1) rfl ?_) <;> first | rfl | exact AV.le.rfl _ | (simp only [patch, sl, ti77, List.map_nil, lit, locM hm, plC, rtC, secC, intC, List.length_map, hlt, gi, hk0, gk0, h1, gI, h2, gO, splice_all, hp', ho', hl', hw, y1, y2]; done) | rfl | skip) | (refine call_pure (cAi) ?_) | (refine call_pure (cL) ?_) | ((with_reducible refine Vx ?_); simp only [sb, reduceIte, Nat.reduceEqDiff]) | (refine hK _ ?_; clear hK K) | refine Vt rfl ?_ | refine Vf rfl ?_ | refine Vi rfl (fun hg => ?_) (fun hg => ?_) | clear hK K)
          refine ⟨i + 1, by omega, by omega, ?_⟩
          rw [ha, List.map_append, List.length_append]
          refine le_move [true, true, true, true, true, false] (fun n_ => ?_) (fun n_ => ?_) <;> simp only [patch, sm, plC, rtC, sgC, hlt, decide_true, List.map_cons, List.map_nil, List.length_cons, List.length_nil, Nat.zero_add]
        · have ho' : decide (oi ≥ 0) = true := decide_eq_true ho
          rw [← hc] at cL
          repeat' (first | (with_reducible first | refine Vk fun K hK => ?_ | refine V0 ?_ | refine Vb ?_ | refine Vc ?_ | refine Vr ?_ | refine Vs ?_ | apply And.intro | refine Vd 8 [] [[],[0],[],[0],[],[],[],[],[],[],[],[5],[5]] [[],[],[],[],[],[],[],[],[],[],[],[5],[5]] (by kernel_rfl) (by decide) (by decide) (by kernel_rfl) ?_ | refine Vq (by kernel_rfl) ?_) | ((with_reducible first | refine gE ?_ | refine gR ?_ | refine gD ?_ | refine gF ?_); simp (maxSteps:=9^7) only [ss, tab, reduceCtorEq, reduceIte, Nat.reduceEqDiff, Nat.reduceBEq, Int.reduceLE, Int.reduceToNat, Nat.reduceAdd, Nat.reduceLT, Nat.reduceLeDiff, lit, locM hm, plC, rtC, secC, intC, List.length_map, hlt, gi, hk0, gk0, h1, gI, h2, gO, splice_all, hp', ho', hl', hw, y1, y2]) | exact Vn | ((with_reducible refine Vz ?_); (first | refine ret_cell_le (.inr rfl) rfl rfl rfl (fun _ _ => rfl) ok77 (k := n + 1) (off := 0) rfl (dom_loc _ (by simp)) (look_loc _ (Nat.le_refl _) 1) rfl ?_ | refine ret_cell_le (.inr rfl) rfl rfl rfl (fun _ _ => rfl) ok77 (k := m + 1) (off := 0) rfl (dom_loc _ (by simp)) (look_loc _ hm 1) rfl ?_) <;> first | rfl | exact AV.le.rfl _ | (simp only [patch, sl, ti77, List.map_nil, lit, locM hm, plC, rtC, secC, intC, List.length_map, hlt, gi, hk0, gk0, h1, gI, h2, gO, splice_all, hp', ho', hl', hw, y1, y2]; done) | rfl | skip) | (refine call_pure (cAi) ?_) | (refine call_pure (cL) ?_) | ((with_reducible refine Vx ?_); simp only [sb, reduceIte, Nat.reduceEqDiff]) | (refine hK _ ?_; clear hK K) | refine Vt rfl ?_ | refine Vf rfl ?_ | refine Vi rfl (fun hg => ?_) (fun hg => ?_) | clear hK K)
          refine ⟨i + 1, by omega, by omega, ?_⟩
          rw [ha, List.map_append, List.length_append]
          refine le_move [true, true, true, true, true, false] (fun n_ => ?_) (fun n_ => ?_) <;> simp only [patch, sm, plC, rtC, sgC, hlt, decide_true, List.map_cons, List.map_nil, List.length_cons, List.length_nil, Nat.zero_add]
      · have hl' : decide (lie > 0) = false := decide_eq_false hl
        rw [if_neg (by simp [hl]), List.append_nil] at ha
        rcases hc with ⟨ho, hc, _⟩ | ⟨ho, hc, _⟩
        · have ho' : decide (oi ≥ 0) = false := decide_eq_false (by omega)
          subst hc
          repeat' (first | (with_reducible first | refine Vk fun K hK => ?_ | refine V0 ?_ | refine Vb ?_ | refine Vc ?_ | refine Vr ?_ | refine Vs ?_ | apply And.intro | refine Vd 8 [] [[],[0],[],[0],[],[],[],[],[],[],[],[5],[5]] [[],[],[],[],[],[],[],[],[],[],[],[5],[5]] (by kernel_rfl) (by decide) (by decide) (by kernel_rfl) ?_ | refine Vq (by kernel_rfl) ?_) | ((with_reducible first | refine gE ?_ | refine gR ?_ | refine gD ?_ | refine gF ?_); simp (maxSteps:=9^7) only [ss, evLit, tab, reduceCtorEq, reduceIte, Nat.reduceEqDiff, Nat.reduceBEq, Int.reduceLE, Int.reduceToNat, Nat.reduceAdd, Nat.reduceLT, Nat.reduceLeDiff, locM hm, plC, rtC, secC, intC, List.length_map, hlt, gi, hk0, gk0, h1, gI, h2, gO, splice_all, hp', ho', hl', hw]) | exact Vn | ((with_reducible refine Vz ?_); (first | refine ret_cell_le (.inr rfl) rfl rfl rfl (fun _ _ => rfl) ok77 (k := n + 1) (off := 0) rfl (dom_loc _ (by simp)) (look_loc _ (Nat.le_refl _) 1) rfl ?_ | refine ret_cell_le (.inr rfl) rfl rfl rfl (fun _ _ => rfl) ok77 (k := m + 1) (off := 0) rfl (dom_loc _ (by simp)) (look_loc _ hm 1) rfl ?_) <;> first | rfl | exact AV.le.rfl _ | (simp only [patch, sl, ti77, List.map_nil, locM hm, plC, rtC, secC, intC, List.length_map, hlt, gi, hk0, gk0, h1, gI, h2, gO, splice_all, hp', ho', hl', hw]; done) | rfl | skip) | (refine call_pure (cAi) ?_) | (refine call_pure (cL) ?_) | ((with_reducible refine Vx ?_); simp only [sb, reduceIte, Nat.reduceEqDiff]) | (refine hK _ ?_; clear hK K) | refine Vt rfl ?_ | refine Vf rfl ?_ | refine Vi rfl (fun hg => ?_) (fun hg => ?_) | clear hK K)
          refine ⟨i + 1, by omega, by omega, ?_⟩
          rw [ha]
          refine le_move [true, true, true, true, true, false] (fun n_ => ?_) (fun n_ => ?_) <;> simp only [patch, sm, plC, rtC, hlt, decide_true]
        · have ho' : decide (oi ≥ 0) = true := decide_eq_true ho
          rw [← hc] at cL
          repeat' (first | (with_reducible first | refine Vk fun K hK => ?_ | refine V0 ?_ | refine Vb ?_ | refine Vc ?_ | refine Vr ?_ | refine Vs ?_ | apply And.intro | refine Vd 8 [] [[],[0],[],[0],[],[],[],[],[],[],[],[5],[5]] [[],[],[],[],[],[],[],[],[],[],[],[5],[5]] (by kernel_rfl) (by decide) (by decide) (by kernel_rfl) ?_ | refine Vq (by kernel_rfl) ?_) | ((with_reducible first | refine gE ?_ | refine gR ?_ | refine gD ?_ | refine gF ?_); simp (maxSteps:=9^7) only [ss, evLit, tab, reduceCtorEq, reduceIte, Nat.reduceEqDiff, Nat.reduceBEq, Int.reduceLE, Int.reduceToNat, Nat.reduceAdd, Nat.reduceLT, Nat.reduceLeDiff, locM hm, plC, rtC, secC, intC, List.length_map, hlt, gi, hk0, gk0, h1, gI, h2, gO, splice_all, hp', ho', hl', hw]) | exact Vn | ((with_reducible refine Vz ?_); (first | refine ret_cell_le (.inr rfl) rfl rfl rfl (fun _ _ => rfl) ok77 (k := n + 1) (off := 0) rfl (dom_loc _ (by simp)) (look_loc _ (Nat.le_refl _) 1) rfl ?_ | refine ret_cell_le (.inr rfl) rfl rfl rfl (fun _ _ => rfl) ok77 (k := m + 1) (off := 0) rfl (dom_loc _ (by simp)) (look_loc _ hm 1) rfl ?_) <;> first | rfl | exact AV.le.rfl _ | (simp only [patch, sl, ti77, List.map_nil, locM hm, plC, rtC, secC, intC, List.length_map, hlt, gi, hk0, gk0, h1, gI, h2, gO, splice_all, hp', ho', hl', hw]; done) | rfl | skip) | (refine call_pure (cAi) ?_) | (refine call_pure (cL) ?_) | ((with_reducible refine Vx ?_); simp only [sb, reduceIte, Nat.reduceEqDiff]) | (refine hK _ ?_; clear hK K) | refine Vt rfl ?_ | refine Vf rfl ?_ | refine Vi rfl (fun hg => ?_) (fun hg => ?_) | clear hK K)
          refine ⟨i + 1, by omega, by omega, ?_⟩
          rw [ha]
          refine le_move [true, true, true, true, true, false] (fun n_ => ?_) (fun n_ => ?_) <;> simp only [patch, sm, plC, rtC, hlt, decide_true]
  · obtain rfl : i = L.length := by omega
    clear hat hsecs
    have hAi := hAl L.length
    generalize AS L.length = A1 at *
    repeat' (first | (with_reducible first | refine Vk fun K hK => ?_ | refine V0 ?_ | refine Vb ?_ | refine Vc ?_ | refine Vr ?_ | refine Vs ?_ | apply And.intro | refine Vq (by kernel_rfl) ?_) | ((with_reducible first | refine gE ?_ | refine gR ?_); simp (maxSteps:=9^7) only [ss, evLit, tab, reduceCtorEq, reduceIte, Nat.reduceEqDiff, Nat.reduceBEq, Int.reduceLE, Int.reduceToNat, Nat.reduceAdd, Nat.reduceLT, Nat.reduceLeDiff, locM hm, plC, rtC, List.length_map, hlt]) | exact Vn | ((with_reducible refine Vz ?_); (first | refine ret_cell_le (.inr rfl) rfl rfl rfl (fun _ _ => rfl) ok77 (k := n + 1) (off := 0) rfl (dom_loc _ (by simp)) (look_loc _ (Nat.le_refl _) 1) rfl ?_ | refine ret_cell_le (.inr rfl) rfl rfl rfl (fun _ _ => rfl) ok77 (k := m + 1) (off := 0) rfl (dom_loc _ (by simp)) (look_loc _ hm 1) rfl ?_) <;> first | rfl | exact AV.le.rfl _ | (simp only [patch, sl, ti77, List.map_nil, locM hm, plC, rtC, List.length_map, hlt]; done) | rfl | skip) | ((with_reducible refine Vx ?_); simp only [sb, reduceIte, Nat.reduceEqDiff]) | (refine hK _ ?_; clear hK K) | refine Vt rfl ?_ | refine Vf rfl ?_ | refine Vi rfl (fun hg => ?_) (fun hg => ?_) | clear hK K)
    obtain ⟨X, hX⟩ : ∃ X : Nat → List (Int × Int × Int), X = fun k => A1 ++ (r.flanks.take k).map fun f => (f.1, f.2, -1) := ⟨_, rfl⟩
    have hX0 : X 0 = A1 := by rw [hX]; simp
    have hXs : ∀ k (h : k < r.flanks.length), X (k + 1) = X k ++ [(r.flanks[k].1, r.flanks[k].2, -1)] := fun k h => by rw [hX]; simp only [List.take_succ_eq_append_getElem h, List.map_append, List.append_assoc]; rfl
    have hXe : X r.flanks.length = W.asks := by rw [hX, hfl]; simp
    have hXl : ∀ k, (X k).length ≤ A1.length + k := fun k => by rw [hX]; simp only [List.length_append, List.length_map, List.length_take]; omega
    clear hX hfl hAl
    refine awp_block ?_
    refine awp_for_mv (fun m (k : Nat) => [(14, i64 (k : Int)), (2, .ptr (m + 0) 0), (4, .ptr (m + 1) 0), (5, .ptr (m + 2) 0), (10, .ptr (m + 3) 0), (96, .top), (97, .top), (98, .top), (99, .top), (100, .top), (101, .top), (102, .top), (103, .top), (104, .top), (105, .top), (106, .top), (107, .top), (108, .top), (109, .top), (110, .top), (111, .top), (112, .top), (113, .top), (114, .top), (115, .top), (116, .top), (117, .top), (118, .top), (119, .top), (120, .top)]) (fun m k => [some (.box 27 (plC p)), some (.box 77 [.sl 0 [] .nil, .sl 0 [] .nil, .sl 0 [] .nil, i64 0]), some (.box 34 (rtC r)), some (.box 77 [.sl 1 (r.path.map intC) .sh, .sl 1 (r.over.map intC) .sh, .sl 3 ((X k).map sgC) (.own (m + 4)), i64 en.2.1]), some (.row 83 3 (X k).length), none]) (fun k => out) (fun k => k ≤ r.flanks.length) (fun k => r.flanks.length - k) 0 (Nat.zero_le _) ?_ fun m k hm hk => ?_
    · refine le_of_all ?_ ?_ (by first | rfl | (simp only [plC, rtC, hX0]; rfl) | simp only [plC, rtC, hX0]) rfl rfl rfl <;> simp only [patch, sl, plC, rtC, hX0]
    simp only [patch, s_0, s_s]
    have hw2 := addw (n := k) 1 1 rfl (by omega)
    by_cases hlt : k < r.flanks.length
    · have gf := getD_map jnC r.flanks k [] hlt
      have hXk := hXs k hlt
      have hXb := hXl k
      have y1 : ((X k).length + 1) * 24 ≤ 140737488355328 := by omega
      have y2 : (X k).length ≤ 9223372036854775806 := by omega
      have lit : ∀ (σ : AState) (K : AV → List (Nat × Res) → Prop), evLit tab σ K none 75 1 [(0, .agg [i64 r.flanks[k].1, i64 r.flanks[k].2, i64 (-1)])] = K (.sl 3 [[i64 r.flanks[k].1, i64 r.flanks[k].2, i64 (-1)]] .full) [] := fun σ K => evLit_one (T := tab) (ti := ti75) (te := ti83) rfl rfl rfl (by decide) (by decide) rfl rfl
      repeat' (first | (with_reducible first | refine Vk fun K hK => ?_ | refine V0 ?_ | refine Vb ?_ | refine Vc ?_ | refine Vr ?_ | refine Vs ?_ | apply And.intro | refine Vd 18 [] [[],[3],[],[2],[],[],[],[],[],[2],[],[],[],[],[],[],[4],[],[3]] [[],[],[],[],[],[],[],[],[],[],[],[],[],[],[],[],[4],[],[3]] (by kernel_rfl) (by decide) (by decide) (by kernel_rfl) ?_ | refine Vq (by kernel_rfl) ?_) | ((with_reducible first | refine gE ?_ | refine gR ?_ | refine gD ?_ | refine gF ?_); simp (maxSteps:=9^7) only [ss, tab, reduceCtorEq, reduceIte, Nat.reduceEqDiff, Nat.reduceBEq, Int.reduceLE, Int.reduceToNat, Nat.reduceAdd, Nat.reduceLT, Nat.reduceLeDiff, lit, locM hm, plC, rtC, jnC, List.length_map, hlt, gf, splice_all, hw2, y1, y2]) | exact Vn | ((with_reducible refine Vz ?_); (first | refine ret_cell_le (.inr rfl) rfl rfl rfl (fun _ _ => rfl) ok77 (k := n + 1) (off := 0) rfl (dom_loc _ (by simp)) (look_loc _ (Nat.le_refl _) 1) rfl ?_ | refine ret_cell_le (.inr rfl) rfl rfl rfl (fun _ _ => rfl) ok77 (k := m + 1) (off := 0) rfl (dom_loc _ (by simp)) (look_loc _ hm 1) rfl ?_) <;> first | rfl | exact AV.le.rfl _ | (simp only [patch, sl, ti77, List.map_nil, lit, locM hm, plC, rtC, jnC, List.length_map, hlt, gf, splice_all, hw2, y1, y2]; done) | rfl | skip) | ((with_reducible refine Vx ?_); simp only [sb, reduceIte, Nat.reduceEqDiff]) | (refine hK _ ?_; clear hK K) | refine Vt rfl ?_ | refine Vf rfl ?_ | refine Vi rfl (fun hg => ?_) (fun hg => ?_) | clear hK K)
      refine ⟨k + 1, by omega, by omega, ?_⟩
      rw [hXk, List.map_append, List.length_append]
      refine le_move [true, true, true, true, true, false] (fun n_ => ?_) (fun n_ => ?_) <;> simp only [patch, sm, plC, rtC, sgC, hlt, decide_true, List.map_cons, List.map_nil, List.length_cons, List.length_nil, Nat.zero_add]
    · obtain rfl : k = r.flanks.length := by omega
      rw [hXe]
      repeat' (first | (with_reducible first | refine Vk fun K hK => ?_ | refine V0 ?_ | refine Vb ?_ | refine Vc ?_ | refine Vr ?_ | refine Vs ?_ | apply And.intro | refine Vq (by kernel_rfl) ?_) | ((with_reducible first | refine gE ?_ | refine gR ?_); simp (maxSteps:=9^7) only [ss, evLit, tab, reduceCtorEq, reduceIte, Nat.reduceEqDiff, Nat.reduceBEq, Int.reduceLE, Int.reduceToNat, Nat.reduceAdd, Nat.reduceLT, Nat.reduceLeDiff, locM hm, plC, rtC, List.length_map, hlt, splice_all]) | exact Vn | ((with_reducible refine Vz ?_); (first | refine ret_cell_le (.inr rfl) rfl rfl rfl (fun _ _ => rfl) ok77 (k := n + 1) (off := 0) rfl (dom_loc _ (by simp)) (look_loc _ (Nat.le_refl _) 1) rfl ?_ | refine ret_cell_le (.inr rfl) rfl rfl rfl (fun _ _ => rfl) ok77 (k := m + 1) (off := 0) rfl (dom_loc _ (by simp)) (look_loc _ hm 1) rfl ?_) <;> first | rfl | exact AV.le.rfl _ | (simp only [patch, sl, ti77, List.map_nil, locM hm, plC, rtC, List.length_map, hlt, splice_all]; done) | rfl | skip) | ((with_reducible refine Vx ?_); simp only [sb, reduceIte, Nat.reduceEqDiff]) | (refine hK _ ?_; clear hK K) | refine Vt rfl ?_ | refine Vf rfl ?_ | refine Vi rfl (fun hg => ?_) (fun hg => ?_) | clear hK K)
end Go.Proofs.Ytdkiciofkifpdaa.Pln
end
