/-
  The document's answer: ways and outs, of one route and of all.
-/
import Derived.Test.YtdkiciofkifpdaaZGA
import Derived.Test.YtdkiciofkifpdaaZRB
import Derived.Test.YtdkiciofkifpdaaZR5
import Derived.Test.YtdkiciofkifpdaaZTA
namespace Go.Proofs.Ytdkiciofkifpdaa.Pln
set_option linter.unusedVariables false
set_option linter.unusedSimpArgs false
open Go Go.VS Tab
set_option maxHeartbeats 16000000
set_option maxRecDepth 4000
theorem of_not {p : Pl} {id : Int} (h : ofE p id ≠ 0) : ofW p id = noWy ∧ ofO p id = [] := by
  unfold ofE at h
  unfold ofW ofO
  by_cases hE : rtE p id = 0
  · rw [if_pos hE] at h
    rw [if_pos hE, if_pos hE]
    exact fol_lost h
  · rw [if_neg hE, if_neg hE]; exact ⟨rfl, rfl⟩
theorem c_rasked (p : Pl) (hs : Sm p) (id : Int) : ∃ k : Int, ACall Try.prog 84 [plA p, i64 id] [] (.tup [i64 k, i64 (ofE p id)]) [] ∧ (ofE p id = 0 → ∃ (kn : Nat) (h : kn < p.rts.length), k = kn ∧ p.rts[kn] = rtO p id ∧ Gone p (rtO p id) (folW p (rtO p id)) (folO p (rtO p id))) := by
  have cm := c_rmay p hs
  simp only [plA, plC] at cm
  cases hmy : mayP p with
  | false =>
    have e1 : rtE p id = 8 := by unfold rtE elE; rw [hmy]; rfl
    have e2 : ofE p id = 8 := by unfold ofE; rw [e1, if_neg (by decide)]
    rw [e2]
    rw [hmy] at cm
    refine ⟨0, ?_, fun h => absurd h (by decide)⟩
    refine acall_of 1 Try.func84 rfl fun n out _ _ => ?_
    simp only [Try.ntmps84, List.length_cons, List.length_nil, List.length_map, List.length_replicate, rep_map, Nat.reduceAdd, Nat.reduceSub, List.replicate, List.cons_append, List.nil_append]
    repeat' (first | (with_reducible first | refine Vk fun K hK => ?_ | refine V0 ?_ | refine Vs ?_ | apply And.intro | refine Vq (by kernel_rfl) ?_) | ((with_reducible first | refine gE ?_ | refine gR ?_); simp (maxSteps:=9^7) only [ss, evLit, tab, reduceCtorEq, reduceIte, Nat.reduceEqDiff, Nat.reduceBEq, Int.reduceLE, Int.reduceToNat, Nat.reduceAdd, Nat.reduceLT, Nat.reduceLeDiff, plA, plC, Bool.not_false]) | exact Vn | ((with_reducible refine Vz ?_); refine Vp rfl rfl rfl (fun _ _ => rfl) ?_ ?_ <;> first | rfl | skip) | (refine call_pure (cm) ?_) | (refine hK _ ?_; clear hK K) | refine Vt rfl ?_ | refine Vf rfl ?_ | refine Vi rfl (fun hg => ?_) (fun hg => ?_) | clear hK K)
  | true =>
    rw [hmy] at cm
    have cR := c_rRouteAt p.rts id (by have := hs.rts; omega)
    cases hg : getR p.rts id with
    | none =>
      have e1 : rtE p id = 6 := by unfold rtE elE; rw [hmy, hg]; rfl
      have e2 : ofE p id = 6 := by unfold ofE; rw [e1, if_neg (by decide)]
      rw [e2]
      rcases idx_cases (fun x : Rt => x.id == id) p.rts with ⟨z1, z2, z3⟩ | ⟨k, hk, z1, z2, z3, z4⟩
      · rw [z1] at cR
        refine ⟨0, ?_, fun h => absurd h (by decide)⟩
        refine acall_of 1 Try.func84 rfl fun n out _ _ => ?_
        simp only [Try.ntmps84, List.length_cons, List.length_nil, List.length_map, List.length_replicate, rep_map, Nat.reduceAdd, Nat.reduceSub, List.replicate, List.cons_append, List.nil_append]
        repeat' (first | (with_reducible first | refine Vk fun K hK => ?_ | refine V0 ?_ | refine Vs ?_ | apply And.intro | refine Vq (by kernel_rfl) ?_) | ((with_reducible first | refine gE ?_ | refine gR ?_); simp (maxSteps:=9^7) only [ss, evLit, tab, reduceCtorEq, reduceIte, Nat.reduceEqDiff, Nat.reduceBEq, Int.reduceLE, Int.reduceToNat, Nat.reduceAdd, Nat.reduceLT, Nat.reduceLeDiff, plA, plC, Bool.not_true, Int.reduceNeg, Int.reduceLT]) | exact Vn | ((with_reducible refine Vz ?_); refine Vp rfl rfl rfl (fun _ _ => rfl) ?_ ?_ <;> first | rfl | skip) | (refine call_pure (cm) ?_) | (refine call_pure (cR) ?_) | (refine hK _ ?_; clear hK K) | refine Vt rfl ?_ | refine Vf rfl ?_ | refine Vi rfl (fun hg => ?_) (fun hg => ?_) | clear hK K)
      · unfold getR at hg; rw [z2] at hg; cases hg
    | some r =>
      obtain ⟨k, hk, z1, z2⟩ := idx_rt hg
      rw [z1] at cR
      have e1 : rtE p id = 0 := by unfold rtE elE; rw [hmy, hg]; rfl
      have e3 : rtO p id = r := by unfold rtO elD; rw [hmy, hg]; rfl
      have e2 : ofE p id = folE p r := by unfold ofE; rw [e1, if_pos rfl, e3]
      have hr : r ∈ p.rts := by rw [← z2]; exact List.getElem_mem hk
      have gk := getD_map rtC p.rts k [] hk
      rw [z2] at gk
      have cE := c_rends p hs hmy r hr
      simp only [plA, plC, rtA, rtC] at cE
      have hk0 : decide ((k : Int) < 0) = false := decide_eq_false (by omega)
      rw [e2, e3]
      cases hl : (endW p r).lost with
      | true =>
        have e4 : folE p r = 90 := by unfold folE; rw [hl]; rfl
        rw [hl] at cE
        rw [e4]
        refine ⟨0, ?_, fun h => absurd h (by decide)⟩
        refine acall_of 1 Try.func84 rfl fun n out _ _ => ?_
        simp only [Try.ntmps84, List.length_cons, List.length_nil, List.length_map, List.length_replicate, rep_map, Nat.reduceAdd, Nat.reduceSub, List.replicate, List.cons_append, List.nil_append]
        repeat' (first | (with_reducible first | refine Vk fun K hK => ?_ | refine V0 ?_ | refine Vs ?_ | apply And.intro | refine Vq (by kernel_rfl) ?_) | ((with_reducible first | refine gE ?_ | refine gR ?_); simp (maxSteps:=9^7) only [ss, evLit, tab, reduceCtorEq, reduceIte, Nat.reduceEqDiff, Nat.reduceBEq, Int.reduceLE, Int.reduceToNat, Nat.reduceAdd, Nat.reduceLT, Nat.reduceLeDiff, plA, plC, rtC, splice_all, List.length_map, Bool.not_true, Bool.not_false, hk0, hk, gk]) | exact Vn | ((with_reducible refine Vz ?_); refine Vp rfl rfl rfl (fun _ _ => rfl) ?_ ?_ <;> first | rfl | skip) | (refine call_pure (cm) ?_) | (refine call_pure (cR) ?_) | (refine call_pure (cE) ?_) | (refine hK _ ?_; clear hK K) | refine Vt rfl ?_ | refine Vf rfl ?_ | refine Vi rfl (fun hg => ?_) (fun hg => ?_) | clear hK K)
      | false =>
        have e4 : folE p r = 0 := by unfold folE; rw [hl]; rfl
        rw [hl] at cE
        rw [e4]
        refine ⟨(k : Int), ?_, fun _ => ⟨k, hk, rfl, z2, gone_fol hmy hr e4⟩⟩
        refine acall_of 1 Try.func84 rfl fun n out _ _ => ?_
        simp only [Try.ntmps84, List.length_cons, List.length_nil, List.length_map, List.length_replicate, rep_map, Nat.reduceAdd, Nat.reduceSub, List.replicate, List.cons_append, List.nil_append]
        repeat' (first | (with_reducible first | refine Vk fun K hK => ?_ | refine V0 ?_ | refine Vs ?_ | apply And.intro | refine Vq (by kernel_rfl) ?_) | ((with_reducible first | refine gE ?_ | refine gR ?_); simp (maxSteps:=9^7) only [ss, evLit, tab, reduceCtorEq, reduceIte, Nat.reduceEqDiff, Nat.reduceBEq, Int.reduceLE, Int.reduceToNat, Nat.reduceAdd, Nat.reduceLT, Nat.reduceLeDiff, plA, plC, rtC, splice_all, List.length_map, Bool.not_true, Bool.not_false, hk0, hk, gk]) | exact Vn | ((with_reducible refine Vz ?_); refine Vp rfl rfl rfl (fun _ _ => rfl) ?_ ?_ <;> first | rfl | skip) | (refine call_pure (cm) ?_) | (refine call_pure (cR) ?_) | (refine call_pure (cE) ?_) | (refine hK _ ?_; clear hK K) | refine Vt rfl ?_ | refine Vf rfl ?_ | refine Vi rfl (fun hg => ?_) (fun hg => ?_) | clear hK K)
theorem c_rOf (p : Pl) (hs : Sm p) (id : Int) : ACall Try.prog 41 [plA p, i64 id] [] (.tup [wyA (ofW p id), i64 (ofE p id)]) [] := by
  obtain ⟨k, ca, hk⟩ := c_rasked p hs id
  simp only [plA, plC] at ca
  by_cases hE : ofE p id = 0
  · obtain ⟨kn, hkn, rfl, hkr, g⟩ := hk hE
    have cM := c_rmade p hs g kn hkn hkr
    obtain ⟨_, hR⟩ := gone_of hE
    have eW : ofW p id = folW p (rtO p id) := by unfold ofW; rw [if_pos hR]
    rw [hE] at ca
    rw [hE, eW]
    generalize folW p (rtO p id) = W at *
    simp only [plA, plC, wyA, wyC] at cM ⊢
    refine acall_of 2 Try.func41 rfl fun n out _ _ => ?_
    simp only [Try.ntmps41, List.length_cons, List.length_nil, List.length_map, List.length_replicate, rep_map, Nat.reduceAdd, Nat.reduceSub, List.replicate, List.cons_append, List.nil_append]
    repeat' (first | (with_reducible first | refine Vk fun K hK => ?_ | refine V0 ?_ | refine Vs ?_ | apply And.intro) | ((with_reducible first | refine gE ?_ | refine gR ?_); simp (maxSteps:=9^7) only [ss, evLit, tab, reduceCtorEq, reduceIte, Nat.reduceEqDiff, Nat.reduceBEq, Int.reduceLE, Int.reduceToNat, Nat.reduceAdd, Nat.reduceLT, Nat.reduceLeDiff, plA, plC, splice_all, Int.reduceBNe]) | exact Vn | ((with_reducible refine Vz ?_); (first | refine ret_ct (.inr rfl) rfl rfl rfl (fun _ _ => rfl) ok77 (k := n + 1) (off := 0) rfl (dom_loc _ (by simp)) (look_loc _ (Nat.le_refl _) 1) rfl rfl ?_ | refine ret_ct (.inr rfl) rfl rfl rfl (fun _ _ => rfl) ok77 (k := m + 1) (off := 0) rfl (dom_loc _ (by simp)) (look_loc _ hm 1) rfl rfl ?_) <;> first | rfl | exact AV.le.rfl _ | (simp only [patch, sl, ti77, List.map_nil, plA, plC, splice_all, Int.reduceBNe]; done) | rfl | skip) | (refine call_pure (ca) ?_) | (refine call_pure (cM) ?_) | (refine hK _ ?_; clear hK K) | refine Vt rfl ?_ | refine Vf rfl ?_ | refine Vi rfl (fun hg => ?_) (fun hg => ?_) | clear hK K)
  · have hE' : (ofE p id != 0) = true := by simpa using hE
    rw [(of_not hE).1]
    generalize ofE p id = E at *
    refine acall_of 2 Try.func41 rfl fun n out _ _ => ?_
    simp only [Try.ntmps41, List.length_cons, List.length_nil, List.length_map, List.length_replicate, rep_map, Nat.reduceAdd, Nat.reduceSub, List.replicate, List.cons_append, List.nil_append]
    repeat' (first | (with_reducible first | refine Vk fun K hK => ?_ | refine V0 ?_ | refine Vs ?_ | apply And.intro) | ((with_reducible first | refine gE ?_ | refine gR ?_); simp (maxSteps:=9^7) only [ss, evLit, tab, reduceCtorEq, reduceIte, Nat.reduceEqDiff, Nat.reduceBEq, Int.reduceLE, Int.reduceToNat, Nat.reduceAdd, Nat.reduceLT, Nat.reduceLeDiff, plA, plC, splice_all, hE', wyA, wyC, noWy, List.map_nil]) | exact Vn | ((with_reducible refine Vz ?_); (first | refine ret_ct (.inr rfl) rfl rfl rfl (fun _ _ => rfl) ok77 (k := n + 1) (off := 0) rfl (dom_loc _ (by simp)) (look_loc _ (Nat.le_refl _) 1) rfl rfl ?_ | refine ret_ct (.inr rfl) rfl rfl rfl (fun _ _ => rfl) ok77 (k := m + 1) (off := 0) rfl (dom_loc _ (by simp)) (look_loc _ hm 1) rfl rfl ?_) <;> first | rfl | exact AV.le.rfl _ | (simp only [patch, sl, ti77, List.map_nil, plA, plC, splice_all, hE', wyA, wyC, noWy, List.map_nil]; done) | rfl | skip) | (refine call_pure (ca) ?_) | (refine hK _ ?_; clear hK K) | refine Vt rfl ?_ | refine Vf rfl ?_ | refine Vi rfl (fun hg => ?_) (fun hg => ?_) | clear hK K)
theorem c_rOuts (p : Pl) (hs : Sm p) (id : Int) : ACall Try.prog 42 [plA p, i64 id] [] (.tup [.sl 2 ((ofO p id).map jnC) .sh, i64 (ofE p id)]) [] := by
  obtain ⟨k, ca, hk⟩ := c_rasked p hs id
  simp only [plA, plC] at ca
  by_cases hE : ofE p id = 0
  · obtain ⟨kn, hkn, rfl, hkr, g⟩ := hk hE
    obtain ⟨_, hR⟩ := gone_of hE
    have eO : ofO p id = folO p (rtO p id) := by unfold ofO; rw [if_pos hR]
    rw [hE] at ca
    rw [hE, eO]
    generalize rtO p id = r at *
    obtain ⟨b1, b2, b3⟩ := hs.rt _ g.mem
    have gRt := getD_map rtC p.rts kn [] hkn
    rw [hkr] at gRt
    have cE := c_rends p hs g.may r g.mem
    rw [show (endW p r).lost = false from g.not, Bool.not_false] at cE
    have hone := g.one
    have hpne : r.path ≠ [] := by intro h; rw [h] at hone; simp at hone
    have cS := c_rsections r hpne (by omega) (by omega)
    have hAll : r.path ++ r.over = allL r := rfl
    rw [hAll] at cS
    have hsecs := fun {i : Nat} (hi : i < (allL r).length) => sec_of g.may g.mem hi
    have hat := fun {i : Nat} (hi : i < (allL r).length) {s : Sec} hsc => ends_at g hi (s := s) hsc
    have hou := g.outs
    have hal : (allL r).length = r.path.length + r.over.length := by unfold allL; exact List.length_append
    have hAl := fun i => (runW_len p r i).2
    obtain ⟨OS, hOS⟩ : ∃ OS : Nat → List (Int × Int), OS = fun i => (runW p r i).outs := ⟨_, rfl⟩
    have hOSe : ∀ i, (runW p r i).outs = OS i := fun i => by rw [hOS]
    have hO0 : OS 0 = [] := by rw [hOS]; rfl
    simp only [hOSe] at hat hou hAl
    clear hOS hOSe
    generalize folO p r = O at *
    obtain ⟨L, hL⟩ : ∃ L, L = allL r := ⟨_, rfl⟩
    rw [← hL] at cS hal hou
    simp only [← hL] at hsecs hat
    generalize endsI p r = EI at *
    generalize endsO p r = EO at *
    clear g hk
    subst hou
    simp only [plA, plC, rtA, rtC] at cE cS
    refine acall_of 2 Try.func42 rfl fun n out _ _ => ?_
    simp only [Try.ntmps42, List.length_cons, List.length_nil, List.length_map, List.length_replicate, rep_map, Nat.reduceAdd, Nat.reduceSub, List.replicate, List.cons_append, List.nil_append]
    repeat' (first | (with_reducible first | refine Vk fun K hK => ?_ | refine V0 ?_ | refine Vb ?_ | refine Vc ?_ | refine Vr ?_ | refine Vs ?_ | apply And.intro | refine Vq (by kernel_rfl) ?_) | ((with_reducible first | refine gE ?_ | refine gR ?_); simp (maxSteps:=9^7) only [ss, evLit, tab, reduceCtorEq, reduceIte, Nat.reduceEqDiff, Nat.reduceBEq, Int.reduceLE, Int.reduceToNat, Nat.reduceAdd, Nat.reduceLT, Nat.reduceLeDiff, plA, plC, rtC, splice_all, Int.reduceBNe, List.length_map, gRt, hkn]) | exact Vn | ((with_reducible refine Vz ?_); refine Vp rfl rfl rfl (fun _ _ => rfl) ?_ ?_ <;> first | rfl | skip) | (refine call_pure (ca) ?_) | (refine call_pure (cE) ?_) | (refine call_pure (cS) ?_) | ((with_reducible refine Vx ?_); simp only [sb, reduceIte, Nat.reduceEqDiff]) | (refine hK _ ?_; clear hK K) | refine Vt rfl ?_ | refine Vf rfl ?_ | refine Vi rfl (fun hg => ?_) (fun hg => ?_) | clear hK K)
    refine awp_le (le_row (i := 1) 39 2 rfl) ?_
    simp only [s_0, s_s]
    refine awp_block ?_
    refine awp_for_mv (fun m (i : Nat) => [(13, i64 (i : Int)), (2, .ptr (m + 0) 0), (12, .sl 2 ((OS i).map jnC) (.own (m + 1))), (40, .top), (41, .top), (42, .top), (43, .top), (44, .top), (45, .top), (46, .top), (47, .top), (48, .top), (49, .top), (50, .top), (51, .top), (52, .top), (53, .top), (54, .top), (55, .top), (56, .top), (57, .top), (58, .top), (59, .top), (60, .top), (61, .top), (62, .top)]) (fun m i => [some (.box 27 (plC p)), some (.row 39 2 (OS i).length)]) (fun i => out) (fun i => i ≤ L.length) (fun i => L.length - i) 0 (Nat.zero_le _) ?_ fun m i hm hi => ?_
    · refine le_of_all ?_ ?_ (by first | rfl | (simp only [plC, hO0, List.map_nil, List.length_nil]; rfl) | simp only [plC, hO0, List.map_nil, List.length_nil]) rfl rfl rfl <;> simp only [patch, sl, plC, hO0, List.map_nil, List.length_nil]
    simp only [patch, s_0, s_s]
    have hw := addw (n := i) 1 1 rfl (by omega)
    by_cases hlt : i < L.length
    · have gi := getD_map intC L i [] hlt
      obtain ⟨s, hsec⟩ := hsecs hlt
      obtain ⟨_, h2, lie, hc, _⟩ := hat hlt hsec
      have gO := getD_map intC EO i [] h2
      have hOi := hAl i
      have y1 : ((OS i).length + 1) * 16 ≤ 140737488355328 := by omega
      have y2 : (OS i).length ≤ 9223372036854775806 := by omega
      have lit : ∀ (a : Int) (σ : AState) (K : AV → List (Nat × Res) → Prop), evLit tab σ K none 35 1 [(0, .agg [i64 L[i], i64 a])] = K (.sl 2 [[i64 L[i], i64 a]] .full) [] := fun a σ K => evLit_one (T := tab) (ti := ti35) (te := ti39) rfl rfl rfl (by decide) (by decide) rfl rfl
      clear hat hsecs
      rcases hc with ⟨ho, _, ha⟩ | ⟨ho, _, ha⟩
      · have ho' : decide (EO[i] ≥ 0) = false := decide_eq_false (by omega)
        repeat' (first | (with_reducible first | refine Vk fun K hK => ?_ | refine V0 ?_ | refine Vb ?_ | refine Vc ?_ | refine Vr ?_ | refine Vs ?_ | apply And.intro | refine Vq (by kernel_rfl) ?_) | ((with_reducible first | refine gE ?_ | refine gR ?_); simp (maxSteps:=9^7) only [ss, evLit, tab, reduceCtorEq, reduceIte, Nat.reduceEqDiff, Nat.reduceBEq, Int.reduceLE, Int.reduceToNat, Nat.reduceAdd, Nat.reduceLT, Nat.reduceLeDiff, locM hm, plC, intC, List.length_map, hlt, gi, h2, gO, splice_all, ho', hw]) | exact Vn | ((with_reducible refine Vz ?_); refine Vp rfl rfl rfl (fun _ _ => rfl) ?_ ?_ <;> first | rfl | skip) | ((with_reducible refine Vx ?_); simp only [sb, reduceIte, Nat.reduceEqDiff]) | (refine hK _ ?_; clear hK K) | refine Vt rfl ?_ | refine Vf rfl ?_ | refine Vi rfl (fun hg => ?_) (fun hg => ?_) | clear hK K)
        refine ⟨i + 1, by omega, by omega, ?_⟩
        rw [ha]
        refine le_move [true, true] (fun n_ => ?_) (fun n_ => ?_) <;> simp only [patch, sm, plC, hlt, decide_true]
      · have ho' : decide (EO[i] ≥ 0) = true := decide_eq_true ho
        repeat' (first | (with_reducible first | refine Vk fun K hK => ?_ | refine V0 ?_ | refine Vb ?_ | refine Vc ?_ | refine Vr ?_ | refine Vs ?_ | apply And.intro | refine Vd 11 [] [[],[],[],[],[],[],[],[],[],[],[],[1],[]] [[],[],[],[],[],[],[],[],[],[],[],[1],[]] (by kernel_rfl) (by decide) (by decide) (by kernel_rfl) ?_ | refine Vq (by kernel_rfl) ?_) | ((with_reducible first | refine gE ?_ | refine gR ?_ | refine gD ?_ | refine gF ?_); simp (maxSteps:=9^7) only [ss, tab, reduceCtorEq, reduceIte, Nat.reduceEqDiff, Nat.reduceBEq, Int.reduceLE, Int.reduceToNat, Nat.reduceAdd, Nat.reduceLT, Nat.reduceLeDiff, lit, locM hm, plC, intC, List.length_map, hlt, gi, h2, gO, splice_all, ho', hw, y1, y2]) | exact Vn | ((with_reducible refine Vz ?_); refine Vp rfl rfl rfl (fun _ _ => rfl) ?_ ?_ <;> first | rfl | skip) | ((with_reducible refine Vx ?_); simp only [sb, reduceIte, Nat.reduceEqDiff]) | (refine hK _ ?_; clear hK K) | refine Vt rfl ?_ | refine Vf rfl ?_ | refine Vi rfl (fun hg => ?_) (fun hg => ?_) | clear hK K)
        refine ⟨i + 1, by omega, by omega, ?_⟩
        simp only [ha, List.map_append, List.length_append]
        refine le_move [true, true] (fun n_ => ?_) (fun n_ => ?_) <;> simp only [patch, sm, plC, jnC, hlt, decide_true, List.map_cons, List.map_nil, List.length_cons, List.length_nil, Nat.zero_add]
    · obtain rfl : i = L.length := by omega
      repeat' (first | (with_reducible first | refine Vk fun K hK => ?_ | refine V0 ?_ | refine Vb ?_ | refine Vc ?_ | refine Vr ?_ | refine Vs ?_ | apply And.intro | refine Vq (by kernel_rfl) ?_) | ((with_reducible first | refine gE ?_ | refine gR ?_); simp (maxSteps:=9^7) only [ss, evLit, tab, reduceCtorEq, reduceIte, Nat.reduceEqDiff, Nat.reduceBEq, Int.reduceLE, Int.reduceToNat, Nat.reduceAdd, Nat.reduceLT, Nat.reduceLeDiff, locM hm, plC, List.length_map, hlt]) | exact Vn | ((with_reducible refine Vz ?_); refine ret_tmps_le (.inr rfl) rfl rfl rfl (fun _ _ => rfl) rfl rfl ?_ ?_ <;> first | rfl | (exact AV.le.rfl _) | (simp only [patch, sl, locM hm, plC, List.length_map, hlt]; done) | rfl | skip) | ((with_reducible refine Vx ?_); simp only [sb, reduceIte, Nat.reduceEqDiff]) | (refine hK _ ?_; clear hK K) | refine Vt rfl ?_ | refine Vf rfl ?_ | refine Vi rfl (fun hg => ?_) (fun hg => ?_) | clear hK K)
  · have hE' : (ofE p id != 0) = true := by simpa using hE
    rw [(of_not hE).2]
    generalize ofE p id = E at *
    refine acall_of 2 Try.func42 rfl fun n out _ _ => ?_
    simp only [Try.ntmps42, List.length_cons, List.length_nil, List.length_map, List.length_replicate, rep_map, Nat.reduceAdd, Nat.reduceSub, List.replicate, List.cons_append, List.nil_append]
    repeat' (first | (with_reducible first | refine Vk fun K hK => ?_ | refine V0 ?_ | refine Vb ?_ | refine Vc ?_ | refine Vr ?_ | refine Vs ?_ | apply And.intro | refine Vq (by kernel_rfl) ?_) | ((with_reducible first | refine gE ?_ | refine gR ?_); simp (maxSteps:=9^7) only [ss, evLit, tab, reduceCtorEq, reduceIte, Nat.reduceEqDiff, Nat.reduceBEq, Int.reduceLE, Int.reduceToNat, Nat.reduceAdd, Nat.reduceLT, Nat.reduceLeDiff, plA, plC, splice_all, hE', List.map_nil]) | exact Vn | ((with_reducible refine Vz ?_); refine ret_tmps_le (.inr rfl) rfl rfl rfl (fun _ _ => rfl) rfl rfl ?_ ?_ <;> first | rfl | (exact AV.le.rfl _) | (simp only [patch, sl, plA, plC, splice_all, hE', List.map_nil]; done) | rfl | skip) | (refine call_pure (ca) ?_) | ((with_reducible refine Vx ?_); simp only [sb, reduceIte, Nat.reduceEqDiff]) | (refine hK _ ?_; clear hK K) | refine Vt rfl ?_ | refine Vf rfl ?_ | refine Vi rfl (fun hg => ?_) (fun hg => ?_) | clear hK K)
end Go.Proofs.Ytdkiciofkifpdaa.Pln
