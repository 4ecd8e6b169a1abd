/-
  The document's answer: plans copied, the list of routes in memory that may be written.
-/
import Derived.Test.YtdkiciofkifpdaaZGA
import Derived.Test.YtdkiciofkifpdaaZW12
import Derived.Test.YtdkiciofkifpdaaZVsBox
namespace Go.Proofs.Ytdkiciofkifpdaa.Pln
set_option linter.unusedVariables false
set_option linter.unusedSimpArgs false
open Go Go.VS Tab
set_option maxHeartbeats 8000000
set_option maxRecDepth 4000
theorem c_rtwinPK (k : Nat) (p : Pl) (hs : Sm p) (hne : 0 < p.rts.length) : ACall Try.prog 18 [plA p] [(k, none)] (.agg [i64 p.ver, i64 p.par, .sl 3 (p.secs.map secC) .sh, .sl 2 (p.pts.map jnC) .sh, .sl 3 (p.sgs.map sgC) .sh, .bsl k 0 p.rts.length false]) [(k, .box 34 (p.rts.map rtC).flatten)] := by
  have h1 := hs.secs
  have h2 := hs.rts
  have a1 : p.pts.length * 16 ≤ 140737488355328 := by have := hs.pts; omega
  have a2 : p.pts.length ≤ 9223372036854775807 := by have := hs.pts; omega
  have a3 : p.sgs.length * 24 ≤ 140737488355328 := by have := hs.sgs; omega
  have a4 : p.sgs.length ≤ 9223372036854775807 := by have := hs.sgs; omega
  refine acall_of 5 Try.func18 rfl fun n out _ _ => ?_
  simp only [Try.ntmps18, List.length_cons, List.length_nil, List.length_map, List.length_replicate, rep_map, Nat.reduceAdd, Nat.reduceSub, List.replicate, List.cons_append, List.nil_append]
  rename_i hneeds hgv
  obtain ⟨hk, _⟩ := hneeds
  obtain ⟨hkn, _⟩ := hgv
  refine awp_seq_k fun K hK => awp_ev tab_ok [] ?_
  simp (maxSteps:=9^7) only [ss, evLit, tab, reduceCtorEq, reduceIte, Nat.reduceEqDiff, Nat.reduceBEq, Int.reduceLE, Int.reduceToNat, Nat.reduceAdd, Nat.reduceLT, Nat.reduceLeDiff, plA, plC]
  repeat' (first | (with_reducible refine hK _ ?_; clear hK K) | with_reducible apply And.intro)
  refine awp_seq_k fun K hK => awp_ev tab_ok [] ?_
  simp (maxSteps:=9^7) only [ss, evLit, tab, reduceCtorEq, reduceIte, Nat.reduceEqDiff, Nat.reduceBEq, Int.reduceLE, Int.reduceToNat, Nat.reduceAdd, Nat.reduceLT, Nat.reduceLeDiff, plC]
  repeat' (first | (with_reducible refine hK _ ?_; clear hK K) | with_reducible apply And.intro)
  refine awp_le (le_row (i := 3) 37 3 rfl) ?_
  simp only [s_0, s_s]
  repeat' (first | (with_reducible first | refine Vk fun K hK => ?_ | refine V0 ?_ | refine Vb ?_ | refine Vc ?_ | refine Vr ?_ | refine Vs ?_ | apply And.intro | refine Vq (by kernel_rfl) ?_) | ((with_reducible first | refine gE ?_ | refine gR ?_); simp (maxSteps:=9^7) only [ss, evLit, tab, reduceCtorEq, reduceIte, Nat.reduceEqDiff, Nat.reduceBEq, Int.reduceLE, Int.reduceToNat, Nat.reduceAdd, Nat.reduceLT, Nat.reduceLeDiff]) | exact Vn | ((with_reducible refine Vz ?_); (first | refine ret_cell_le (.inr rfl) rfl rfl rfl (fun _ _ => rfl) ok27 (k := n + 1) (off := 0) rfl (dom_loc _ (by simp)) (look_loc _ (Nat.le_refl _) 1) rfl ?_ | refine ret_cell_le (.inr rfl) rfl rfl rfl (fun _ _ => rfl) ok27 (k := m + 1) (off := 0) rfl (dom_loc _ (by simp)) (look_loc _ hm 1) rfl ?_) <;> first | rfl | exact AV.le.rfl _ | (simp only [patch, sl, ti27, List.map_nil]; done) | rfl | skip) | ((with_reducible refine Vx ?_); simp only [sb, reduceIte, Nat.reduceEqDiff]) | (refine hK _ ?_; clear hK K) | refine Vt rfl ?_ | refine Vf rfl ?_ | refine Vi rfl (fun hg => ?_) (fun hg => ?_) | clear hK K)
  refine awp_block ?_
  refine awp_for_g (fun i : Nat => [(4, i64 (i : Int)), (11, .top), (12, .top), (13, .top), (14, .top), (15, .top), (16, .top), (17, .top), (18, .top), (19, .top), (20, .top), (21, .top), (22, .top), (23, .top), (24, .top), (25, .top), (26, .top), (27, .top), (28, .top)]) (fun i => [some (.box 27 (plC p)), some (.box 27 [i64 0, i64 0, .sl 0 [] .nil, .sl 0 [] .nil, .sl 0 [] .nil, .sl 0 [] .nil]), some (.box 27 [i64 p.ver, i64 p.par, .sl 3 ((p.secs.take i).map secC) (.own (n + 3)), .sl 0 [] .nil, .sl 0 [] .nil, .sl 0 [] .nil]), some (.row 37 3 i), none]) (fun i => out) (fun i => i ≤ p.secs.length) (fun i => p.secs.length - i) 0 (Nat.zero_le _) ?_ fun i hi => ?_
  · refine le_of_all ?_ ?_ (by first | rfl | (simp only [plC, List.take_zero, List.map_nil, List.length_map]; rfl) | simp only [plC, List.take_zero, List.map_nil, List.length_map]) rfl rfl rfl <;> simp only [patch, sl, plC, List.take_zero, List.map_nil, List.length_map]
  simp only [patch, s_0, s_s]
  have hw := addw (n := i) 1 1 rfl (by omega)
  by_cases hlt : i < p.secs.length
  · have gi := getD_map secC p.secs i [] hlt
    have ct := c_twS p.secs[i] (by have := hs.ends _ (List.getElem_mem hlt); omega)
    simp only [secA, secC] at ct
    have hsn := map_snoc secC p.secs i hlt
    simp only [secC] at hsn
    have lit : ∀ (σ : AState) (K : AV → List (Nat × Res) → Prop), evLit tab σ K none 22 1 [(0, .agg [i64 p.secs[i].id, i64 p.secs[i].pt, .sl 2 (p.secs[i].ends.map jnC) .sh])] = K (.sl 3 [[i64 p.secs[i].id, i64 p.secs[i].pt, .sl 2 (p.secs[i].ends.map jnC) .sh]] .full) [] := fun σ K => evLit_one (T := tab) (ti := ti22) (te := ti37) rfl rfl rfl (by decide) (by decide) rfl rfl
    repeat' (first | (with_reducible first | refine Vk fun K hK => ?_ | refine V0 ?_ | refine Vb ?_ | refine Vc ?_ | refine Vr ?_ | refine Vs ?_ | apply And.intro | refine Vd 5 [] [[],[2],[],[0],[],[],[],[],[],[3],[],[2]] [[],[],[],[],[],[],[],[],[],[3],[],[2]] (by kernel_rfl) (by decide) (by decide) (by kernel_rfl) ?_ | refine Vq (by kernel_rfl) ?_) | ((with_reducible first | refine gE ?_ | refine gR ?_ | refine gD ?_ | refine gF ?_); simp (maxSteps:=9^7) only [ss, tab, reduceCtorEq, reduceIte, Nat.reduceEqDiff, Nat.reduceBEq, Int.reduceLE, Int.reduceToNat, Nat.reduceAdd, Nat.reduceLT, Nat.reduceLeDiff, lit, plC, secC, splice_all, List.length_map, List.length_take, hlt, gi, hw, Nat.min_eq_left hi]) | exact Vn | ((with_reducible refine Vz ?_); (first | refine ret_cell_le (.inr rfl) rfl rfl rfl (fun _ _ => rfl) ok27 (k := n + 1) (off := 0) rfl (dom_loc _ (by simp)) (look_loc _ (Nat.le_refl _) 1) rfl ?_ | refine ret_cell_le (.inr rfl) rfl rfl rfl (fun _ _ => rfl) ok27 (k := m + 1) (off := 0) rfl (dom_loc _ (by simp)) (look_loc _ hm 1) rfl ?_) <;> first | rfl | exact AV.le.rfl _ | (simp only [patch, sl, ti27, List.map_nil, lit, plC, secC, splice_all, List.length_map, List.length_take, hlt, gi, hw, Nat.min_eq_left hi]; done) | rfl | skip) | (refine call_pure (ct) ?_) | ((with_reducible refine Vx ?_); simp only [sb, reduceIte, Nat.reduceEqDiff]) | (refine hK _ ?_; clear hK K) | refine Vt rfl ?_ | refine Vf rfl ?_ | refine Vi rfl (fun hg => ?_) (fun hg => ?_) | clear hK K)
    · omega
    · omega
    rw [hsn]
    refine ⟨i + 1, by omega, by omega, ?_⟩
    refine le_of_all ?_ ?_ rfl rfl rfl rfl <;> simp only [patch, sl, plC, hlt, decide_true]
  · obtain rfl : i = p.secs.length := by omega
    rw [List.take_length]
    repeat' (first | (with_reducible first | refine Vk fun K hK => ?_ | refine V0 ?_ | refine Vb ?_ | refine Vc ?_ | refine Vr ?_ | refine Vs ?_ | apply And.intro | refine Vq (by kernel_rfl) ?_) | ((with_reducible first | refine gE ?_ | refine gR ?_); simp (maxSteps:=9^7) only [ss, evLit, tab, reduceCtorEq, reduceIte, Nat.reduceEqDiff, Nat.reduceBEq, Int.reduceLE, Int.reduceToNat, Nat.reduceAdd, Nat.reduceLT, Nat.reduceLeDiff, plC, List.length_map, hlt, splice_all, a1, a2, a3, a4]) | exact Vn | ((with_reducible refine Vz ?_); (first | refine ret_cell_le (.inr rfl) rfl rfl rfl (fun _ _ => rfl) ok27 (k := n + 1) (off := 0) rfl (dom_loc _ (by simp)) (look_loc _ (Nat.le_refl _) 1) rfl ?_ | refine ret_cell_le (.inr rfl) rfl rfl rfl (fun _ _ => rfl) ok27 (k := m + 1) (off := 0) rfl (dom_loc _ (by simp)) (look_loc _ hm 1) rfl ?_) <;> first | rfl | exact AV.le.rfl _ | (simp only [patch, sl, ti27, List.map_nil, plC, List.length_map, hlt, splice_all, a1, a2, a3, a4]; done) | rfl | skip) | ((with_reducible refine Vx ?_); simp only [sb, reduceIte, Nat.reduceEqDiff]) | (refine hK _ ?_; clear hK K) | refine Vt rfl ?_ | refine Vf rfl ?_ | refine Vi rfl (fun hg => ?_) (fun hg => ?_) | clear hK K)
    obtain ⟨FL, hFL⟩ : ∃ FL : Nat → List AV, FL = fun i => ((p.rts.take i).map rtC).flatten := ⟨_, rfl⟩
    have hFN : FL p.rts.length = (p.rts.map rtC).flatten := by rw [hFL]; dsimp only; rw [List.take_length]
    have hF0 : FL 0 = [] := by rw [hFL]; rfl
    have hFS : ∀ i (hi : i < p.rts.length), FL i ++ rtC p.rts[i] = FL (i + 1) := fun i hi => by
      rw [hFL]
      dsimp only
      rw [List.take_succ_eq_append_getElem hi, List.map_append, List.flatten_append]
      simp
    clear hFL
    refine awp_block ?_
    refine awp_for_g (fun i : Nat => [(5, i64 (i : Int)), (41, .top), (42, .top), (43, .top), (44, .top), (45, .top), (46, .top), (47, .top), (48, .top), (49, .top), (50, .top), (51, .top), (52, .top), (53, .top), (54, .top), (55, .top), (56, .top), (57, .top), (58, .top)]) (fun i => [some (.box 27 (plC p)), some (.box 27 [i64 0, i64 0, .sl 0 [] .nil, .sl 0 [] .nil, .sl 0 [] .nil, .sl 0 [] .nil]), some (.box 27 [i64 p.ver, i64 p.par, .sl 3 (p.secs.map secC) (.own (n + 3)), .sl 2 (p.pts.map jnC) .sh, .sl 3 (p.sgs.map sgC) .sh, if i = 0 then .sl 0 [] .nil else .vsl (n + 4) i]), some (.row 37 3 p.secs.length), if i = 0 then none else some (.vec 34 7 i (FL i))]) (fun i => out) (fun i => i ≤ p.rts.length) (fun i => p.rts.length - i) 0 (Nat.zero_le _) ?_ fun i hi => ?_
    · refine le_of_all ?_ ?_ (by first | rfl | (simp only [plC, List.map_nil, List.length_map, if_true]; rfl) | simp only [plC, List.map_nil, List.length_map, if_true]) rfl rfl rfl <;> simp only [patch, sl, plC, List.map_nil, List.length_map, if_true]
    simp only [patch, s_0, s_s]
    have hw := addw (n := i) 1 1 rfl (by omega)
    by_cases hlt : i < p.rts.length
    · have gi := getD_map rtC p.rts i [] hlt
      have ct := c_twR p.rts[i] (hs.rt _ (List.getElem_mem hlt))
      simp only [rtA, rtC] at ct
      have hsn := hFS i hlt
      simp only [rtC] at hsn
      have y1 : (i + 1) * 104 ≤ 140737488355328 := by omega
      have y2 : i + 1 ≤ 9223372036854775807 := by omega
      have lit : ∀ (σ : AState) (K : AV → List (Nat × Res) → Prop), evLit tab σ K none 25 1 [(0, .agg [i64 p.rts[i].id, i64 p.rts[i].entry, i64 p.rts[i].ex, .sl 1 (p.rts[i].path.map intC) .sh, .sl 1 (p.rts[i].over.map intC) .sh, .sl 2 (p.rts[i].flanks.map jnC) .sh, i64 p.rts[i].timer])] = K (.sl 7 [[i64 p.rts[i].id, i64 p.rts[i].entry, i64 p.rts[i].ex, .sl 1 (p.rts[i].path.map intC) .sh, .sl 1 (p.rts[i].over.map intC) .sh, .sl 2 (p.rts[i].flanks.map jnC) .sh, i64 p.rts[i].timer]] .full) [] := fun σ K => evLit_one (T := tab) (ti := ti25) (te := ti34) rfl rfl rfl (by decide) (by decide) rfl rfl
      by_cases hi0 : i = 0
      · subst hi0
        rw [if_pos rfl, if_pos rfl]
        rw [hF0, List.nil_append] at hsn
        repeat' (first | (with_reducible first | refine Vk fun K hK => ?_ | refine Ve [(1057, none)] ?_ | refine Vb ?_ | refine Vc ?_ | refine Vr ?_ | refine Vs ?_ | apply And.intro | refine Vd 11 [(1057, none)] [[],[2],[],[0],[],[],[],[],[],[4],[],[2]] [[],[],[],[],[],[],[],[],[],[4],[],[2]] (by kernel_rfl) (by decide) (by decide) (by kernel_rfl) ?_ | refine Vq (by kernel_rfl) ?_) | ((with_reducible first | refine gE ?_ | refine gR ?_ | refine gD ?_ | refine gF ?_); simp (maxSteps:=9^7) only [ss, tab, reduceCtorEq, reduceIte, Nat.reduceEqDiff, Nat.reduceBEq, Int.reduceLE, Int.reduceToNat, Nat.reduceAdd, Nat.reduceLT, Nat.reduceLeDiff, lit, plC, rtC, splice_all, List.length_map, List.length_take, hlt, gi, hw, List.cons_ne_nil, List.flatten_cons, List.flatten_nil, List.append_nil]) | exact Vn | ((with_reducible refine Vz ?_); (first | refine ret_cell_le (.inr rfl) rfl rfl rfl (fun _ _ => rfl) ok27 (k := n + 1) (off := 0) rfl (dom_loc _ (by simp)) (look_loc _ (Nat.le_refl _) 1) rfl ?_ | refine ret_cell_le (.inr rfl) rfl rfl rfl (fun _ _ => rfl) ok27 (k := m + 1) (off := 0) rfl (dom_loc _ (by simp)) (look_loc _ hm 1) rfl ?_) <;> first | rfl | exact AV.le.rfl _ | (simp only [patch, sl, ti27, List.map_nil, lit, plC, rtC, splice_all, List.length_map, List.length_take, hlt, gi, hw, List.cons_ne_nil, List.flatten_cons, List.flatten_nil, List.append_nil]; done) | rfl | skip) | (refine call_pure (ct) ?_) | ((with_reducible refine Vx ?_); simp only [sb, reduceIte, Nat.reduceEqDiff]) | (refine hK _ ?_; clear hK K) | refine Vt rfl ?_ | refine Vf rfl ?_ | refine Vi rfl (fun hg => ?_) (fun hg => ?_) | clear hK K)
        · decide
        refine ⟨1, by omega, by omega, ?_⟩
        rw [if_neg (by decide), if_neg (by decide), ← hsn]
        refine le_of_all ?_ ?_ rfl rfl rfl rfl <;> simp only [patch, sl, plC, hlt, decide_true]
      · rw [if_neg hi0, if_neg hi0]
        repeat' (first | (with_reducible first | refine Vk fun K hK => ?_ | refine V0 ?_ | refine Vb ?_ | refine Vc ?_ | refine Vr ?_ | refine Vs ?_ | apply And.intro | refine Vd 11 [] [[],[2],[],[0],[],[],[],[],[],[4],[],[2]] [[],[],[],[],[],[],[],[],[],[4],[],[2]] (by kernel_rfl) (by decide) (by decide) (by kernel_rfl) ?_ | refine Vq (by kernel_rfl) ?_) | ((with_reducible first | refine gE ?_ | refine gR ?_ | refine gD ?_ | refine gF ?_); simp (maxSteps:=9^7) only [ss, tab, reduceCtorEq, reduceIte, Nat.reduceEqDiff, Nat.reduceBEq, Int.reduceLE, Int.reduceToNat, Nat.reduceAdd, Nat.reduceLT, Nat.reduceLeDiff, lit, plC, rtC, splice_all, List.length_map, hlt, gi, hw, List.flatten_cons, List.flatten_nil, List.append_nil, y1, y2, hsn]) | exact Vn | ((with_reducible refine Vz ?_); (first | refine ret_cell_le (.inr rfl) rfl rfl rfl (fun _ _ => rfl) ok27 (k := n + 1) (off := 0) rfl (dom_loc _ (by simp)) (look_loc _ (Nat.le_refl _) 1) rfl ?_ | refine ret_cell_le (.inr rfl) rfl rfl rfl (fun _ _ => rfl) ok27 (k := m + 1) (off := 0) rfl (dom_loc _ (by simp)) (look_loc _ hm 1) rfl ?_) <;> first | rfl | exact AV.le.rfl _ | (simp only [patch, sl, ti27, List.map_nil, lit, plC, rtC, splice_all, List.length_map, hlt, gi, hw, List.flatten_cons, List.flatten_nil, List.append_nil, y1, y2, hsn]; done) | rfl | skip) | (refine call_pure (ct) ?_) | ((with_reducible refine Vx ?_); simp only [sb, reduceIte, Nat.reduceEqDiff]) | (refine hK _ ?_; clear hK K) | refine Vt rfl ?_ | refine Vf rfl ?_ | refine Vi rfl (fun hg => ?_) (fun hg => ?_) | clear hK K)
        refine ⟨i + 1, by omega, by omega, ?_⟩
        rw [if_neg (by omega), if_neg (by omega)]
        refine le_of_all ?_ ?_ rfl rfl rfl rfl <;> simp only [patch, sl, plC, hlt, decide_true]
    · obtain rfl : i = p.rts.length := by omega
      rw [if_neg (by omega), if_neg (by omega)]
      repeat' (first | (with_reducible first | refine Vk fun K hK => ?_ | refine V0 ?_ | refine Vb ?_ | refine Vc ?_ | refine Vr ?_ | refine Vs ?_ | apply And.intro | refine Vq (by kernel_rfl) ?_) | ((with_reducible first | refine gE ?_ | refine gR ?_); simp (maxSteps:=9^7) only [ss, evLit, tab, reduceCtorEq, reduceIte, Nat.reduceEqDiff, Nat.reduceBEq, Int.reduceLE, Int.reduceToNat, Nat.reduceAdd, Nat.reduceLT, Nat.reduceLeDiff, plA, plC, List.length_map, hlt, splice_all]) | exact Vn | ((with_reducible refine Vz ?_); (first | refine ret_cell_le (.inr rfl) rfl rfl rfl (fun _ _ => rfl) ok27 (k := n + 1) (off := 0) rfl (dom_loc _ (by simp)) (look_loc _ (Nat.le_refl _) 1) rfl ?_ | refine ret_cell_le (.inr rfl) rfl rfl rfl (fun _ _ => rfl) ok27 (k := m + 1) (off := 0) rfl (dom_loc _ (by simp)) (look_loc _ hm 1) rfl ?_) <;> first | rfl | exact AV.le.rfl _ | (simp only [patch, sl, ti27, List.map_nil, plA, plC, List.length_map, hlt, splice_all]; done) | rfl | skip) | ((with_reducible refine Vx ?_); simp only [sb, reduceIte, Nat.reduceEqDiff]) | (refine hK _ ?_; clear hK K) | refine Vt rfl ?_ | refine Vf rfl ?_ | refine Vi rfl (fun hg => ?_) (fun hg => ?_) | clear hK K)
      refine awp_le (le_boxP (i := 4) (m := p.rts.length) (sz := 7) (e := 34) (cs := FL p.rts.length) [] (lo1 := [some (.box 27 (plC p)), some (.box 27 [i64 p.ver, i64 p.par, .sl 3 (p.secs.map secC) (.own (n + 3)), .sl 2 (p.pts.map jnC) .sh, .sl 3 (p.sgs.map sgC) .sh, .bsl (n + 4) 0 p.rts.length false]), some (.box 27 [i64 p.ver, i64 p.par, .sl 3 (p.secs.map secC) (.own (n + 3)), .sl 2 (p.pts.map jnC) .sh, .sl 3 (p.sgs.map sgC) .sh, .bsl (n + 4) 0 p.rts.length false]), some (.row 37 3 p.secs.length), some (.vec 34 7 p.rts.length (FL p.rts.length))]) rfl hne (bxL_refl _) ?_) ?_
      · simp only [bxRL_cons, bxRL_nil, bxRes_same, bxRes_box, bxL_cons, bxL_nil, bx_same, bx_vsl, true_and, and_true, plC]
      simp only [patch, s_0, s_s]
      refine awp_le (le_toOut1 (i := 4) (k := k) rfl (by exact hkn) (by exact hk)) ?_
      simp only [List.map_cons, List.map_nil, Option.map_some, Option.map_none, Res.ren1, AV.ren1, Nat.add_left_cancel_iff, Nat.reduceEqDiff, Nat.one_ne_zero, reduceIte, zombie, s_0, s_s]
      refine awp_ret ?_
      exact ret_cell_le (.inr rfl) rfl rfl rfl (fun _ _ => by rw [← hFN]; rfl) ok27 (k := n + 1) (off := 0) rfl (dom_loc _ (by simp)) (look_loc _ (Nat.le_refl _) 1) rfl (by simp only [patch, sl])
end Go.Proofs.Ytdkiciofkifpdaa.Pln
