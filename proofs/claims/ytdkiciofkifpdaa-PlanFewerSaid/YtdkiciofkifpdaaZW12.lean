/-
  The document's answer: plans copied.
-/
import Derived.Test.YtdkiciofkifpdaaZGA
import Derived.Test.YtdkiciofkifpdaaZP2
import Derived.Test.YtdkiciofkifpdaaZP4
import Derived.WalkKit
import Derived.Lib.Walk
import Derived.Lib.SliceRun
import Derived.Lib.AppendZerosOnto
import Derived.Test.YtdkiciofkifpdaaZPJ
namespace Go.Proofs.Ytdkiciofkifpdaa.Pln
set_option linter.unusedVariables false
set_option linter.unusedSimpArgs false
open Go Go.VS Tab
set_option maxHeartbeats 8000000
set_option maxRecDepth 4000
theorem c_twS (s : Sec) (hl : s.ends.length ≤ 1000000) : ACall Try.prog 64 [secA s] [] (secA s) [] := by
  refine acall_of 2 Try.func64 rfl fun n out _ _ => ?_
  simp only [Try.ntmps64, List.length_cons, List.length_nil, List.length_map, List.length_replicate, rep_map, Nat.reduceAdd, Nat.reduceSub, List.replicate, List.cons_append, List.nil_append]
  repeat' (first | (with_reducible first | refine Vk fun K hK => ?_ | refine V0 ?_ | refine Vs ?_ | apply And.intro) | ((with_reducible first | refine gE ?_ | refine gR ?_); simp (maxSteps:=9^7) only [ss, evLit, tab, reduceCtorEq, reduceIte, Nat.reduceEqDiff, Nat.reduceBEq, Int.reduceLE, Int.reduceToNat, Nat.reduceAdd, Nat.reduceLT, Nat.reduceLeDiff, secA, secC, List.length_map, List.length_nil, Nat.zero_add, splice_all, show s.ends.length * 16 ≤ 140737488355328 by omega, show s.ends.length ≤ 9223372036854775807 by omega]) | exact Vn | ((with_reducible refine Vz ?_); (first | refine ret_cell_le (.inr rfl) rfl rfl rfl (fun _ _ => rfl) ok37 (k := n + 1) (off := 0) rfl (dom_loc _ (by simp)) (look_loc _ (Nat.le_refl _) 1) rfl ?_ | refine ret_cell_le (.inr rfl) rfl rfl rfl (fun _ _ => rfl) ok37 (k := m + 1) (off := 0) rfl (dom_loc _ (by simp)) (look_loc _ hm 1) rfl ?_) <;> first | rfl | exact AV.le.rfl _ | (simp only [patch, sl, ti37, List.map_nil, secA, secC, List.length_map, List.length_nil, Nat.zero_add, splice_all, show s.ends.length * 16 ≤ 140737488355328 by omega, show s.ends.length ≤ 9223372036854775807 by omega]; done) | rfl | skip) | (refine hK _ ?_; clear hK K) | clear hK K)
theorem c_twR (r : Rt) (h : r.path.length ≤ 20 ∧ r.over.length ≤ 20 ∧ r.flanks.length ≤ 20) : ACall Try.prog 65 [rtA r] [] (rtA r) [] := by
  obtain ⟨h1, h2, h3⟩ := h
  have a1 : r.path.length * 8 ≤ 140737488355328 := by omega
  have a2 : r.path.length ≤ 9223372036854775807 := by omega
  have a3 : r.over.length * 8 ≤ 140737488355328 := by omega
  have a4 : r.over.length ≤ 9223372036854775807 := by omega
  have a5 : r.flanks.length * 16 ≤ 140737488355328 := by omega
  have a6 : r.flanks.length ≤ 9223372036854775807 := by omega
  refine acall_of 3 Try.func65 rfl fun n out _ _ => ?_
  simp only [Try.ntmps65, List.length_cons, List.length_nil, List.length_map, List.length_replicate, rep_map, Nat.reduceAdd, Nat.reduceSub, List.replicate, List.cons_append, List.nil_append]
  repeat' (first | (with_reducible first | refine Vk fun K hK => ?_ | refine V0 ?_ | refine Vs ?_ | apply And.intro) | ((with_reducible first | refine gE ?_ | refine gR ?_); simp (maxSteps:=9^7) only [ss, evLit, tab, reduceCtorEq, reduceIte, Nat.reduceEqDiff, Nat.reduceBEq, Int.reduceLE, Int.reduceToNat, Nat.reduceAdd, Nat.reduceLT, Nat.reduceLeDiff, rtA, rtC, splice_all, List.length_map, a1, a2, a3, a4, a5, a6]) | exact Vn | ((with_reducible refine Vz ?_); (first | refine ret_cell_le (.inr rfl) rfl rfl rfl (fun _ _ => rfl) ok34 (k := n + 1) (off := 0) rfl (dom_loc _ (by simp)) (look_loc _ (Nat.le_refl _) 1) rfl ?_ | refine ret_cell_le (.inr rfl) rfl rfl rfl (fun _ _ => rfl) ok34 (k := m + 1) (off := 0) rfl (dom_loc _ (by simp)) (look_loc _ hm 1) rfl ?_) <;> first | rfl | exact AV.le.rfl _ | (simp only [patch, sl, ti34, List.map_nil, rtA, rtC, splice_all, List.length_map, a1, a2, a3, a4, a5, a6]; done) | rfl | skip) | (refine hK _ ?_; clear hK K) | clear hK K)
theorem c_rtwinP (p : Pl) (hs : Sm p) : ACall Try.prog 18 [plA p] [] (plA p) [] := by
  have h1 := hs.secs
  have h2 := hs.rts
  have a1 : p.pts.length * 16 ≤ 140737488355328 := by have := hs.pts; omega
  have a2 : p.pts.length ≤ 9223372036854775807 := by have := hs.pts; omega
  have a3 : p.sgs.length * 24 ≤ 140737488355328 := by have := hs.sgs; omega
  have a4 : p.sgs.length ≤ 9223372036854775807 := by have := hs.sgs; omega
  refine acall_of 5 Try.func18 rfl fun n out _ _ => ?_
  simp only [Try.ntmps18, List.length_cons, List.length_nil, List.length_map, List.length_replicate, rep_map, Nat.reduceAdd, Nat.reduceSub, List.replicate, List.cons_append, List.nil_append]
  refine awp_seq_k fun K hK => awp_ev tab_ok [] ?_
  simp (maxSteps:=9^7) only [ss, evLit, tab, reduceCtorEq, reduceIte, Nat.reduceEqDiff, Nat.reduceBEq, Int.reduceLE, Int.reduceToNat, Nat.reduceAdd, Nat.reduceLT, Nat.reduceLeDiff, plA, plC]
  repeat' (first | (with_reducible refine hK _ ?_; clear hK K) | with_reducible apply And.intro)
  refine awp_seq_k fun K hK => awp_ev tab_ok [] ?_
  simp (maxSteps:=9^7) only [ss, evLit, tab, reduceCtorEq, reduceIte, Nat.reduceEqDiff, Nat.reduceBEq, Int.reduceLE, Int.reduceToNat, Nat.reduceAdd, Nat.reduceLT, Nat.reduceLeDiff, plC]
  repeat' (first | (with_reducible refine hK _ ?_; clear hK K) | with_reducible apply And.intro)
  refine awp_le (le_row (i := 3) 37 3 rfl) ?_
  refine awp_le (le_row (i := 4) 34 7 rfl) ?_
  simp only [s_0, s_s]
  repeat' (first | (with_reducible first | refine Vk fun K hK => ?_ | refine V0 ?_ | refine Vb ?_ | refine Vc ?_ | refine Vr ?_ | refine Vs ?_ | apply And.intro | refine Vq (by kernel_rfl) ?_) | ((with_reducible first | refine gE ?_ | refine gR ?_); simp (maxSteps:=9^7) only [ss, evLit, tab, reduceCtorEq, reduceIte, Nat.reduceEqDiff, Nat.reduceBEq, Int.reduceLE, Int.reduceToNat, Nat.reduceAdd, Nat.reduceLT, Nat.reduceLeDiff]) | exact Vn | ((with_reducible refine Vz ?_); (first | refine ret_cell_le (.inr rfl) rfl rfl rfl (fun _ _ => rfl) ok27 (k := n + 1) (off := 0) rfl (dom_loc _ (by simp)) (look_loc _ (Nat.le_refl _) 1) rfl ?_ | refine ret_cell_le (.inr rfl) rfl rfl rfl (fun _ _ => rfl) ok27 (k := m + 1) (off := 0) rfl (dom_loc _ (by simp)) (look_loc _ hm 1) rfl ?_) <;> first | rfl | exact AV.le.rfl _ | (simp only [patch, sl, ti27, List.map_nil]; done) | rfl | skip) | ((with_reducible refine Vx ?_); simp only [sb, reduceIte, Nat.reduceEqDiff]) | (refine hK _ ?_; clear hK K) | refine Vt rfl ?_ | refine Vf rfl ?_ | refine Vi rfl (fun hg => ?_) (fun hg => ?_) | clear hK K)
  refine awp_block ?_
  refine awp_for_g (fun i : Nat => [(4, i64 (i : Int)), (11, .top), (12, .top), (13, .top), (14, .top), (15, .top), (16, .top), (17, .top), (18, .top), (19, .top), (20, .top), (21, .top), (22, .top), (23, .top), (24, .top), (25, .top), (26, .top), (27, .top), (28, .top)]) (fun i => [some (.box 27 (plC p)), some (.box 27 [i64 0, i64 0, .sl 0 [] .nil, .sl 0 [] .nil, .sl 0 [] .nil, .sl 0 [] .nil]), some (.box 27 [i64 p.ver, i64 p.par, .sl 3 ((p.secs.take i).map secC) (.own (n + 3)), .sl 0 [] .nil, .sl 0 [] .nil, .sl 0 [] .nil]), some (.row 37 3 i), some (.row 34 7 0)]) (fun i => out) (fun i => i ≤ p.secs.length) (fun i => p.secs.length - i) 0 (Nat.zero_le _) ?_ fun i hi => ?_
  · refine le_of_all ?_ ?_ (by first | rfl | (simp only [plC, List.take_zero, List.map_nil, List.length_map]; rfl) | simp only [plC, List.take_zero, List.map_nil, List.length_map]) rfl rfl rfl <;> simp only [patch, sl, plC, List.take_zero, List.map_nil, List.length_map]
  simp only [patch, s_0, s_s]
  have hw := addw (n := i) 1 1 rfl (by omega)
  by_cases hlt : i < p.secs.length
  · have gi := getD_map secC p.secs i [] hlt
    have ct := c_twS p.secs[i] (by have := hs.ends _ (List.getElem_mem hlt); omega)
    simp only [secA, secC] at ct
    have hsn := map_snoc secC p.secs i hlt
    simp only [secC] at hsn
    have lit : ∀ (σ : AState) (K : AV → List (Nat × Res) → Prop), evLit tab σ K none 22 1 [(0, .agg [i64 p.secs[i].id, i64 p.secs[i].pt, .sl 2 (p.secs[i].ends.map jnC) .sh])] = K (.sl 3 [[i64 p.secs[i].id, i64 p.secs[i].pt, .sl 2 (p.secs[i].ends.map jnC) .sh]] .full) [] := fun σ K => evLit_one (T := tab) (ti := ti22) (te := ti37) rfl rfl rfl (by decide) (by decide) rfl rfl
    repeat' (first | (with_reducible first | refine Vk fun K hK => ?_ | refine V0 ?_ | refine Vb ?_ | refine Vc ?_ | refine Vr ?_ | refine Vs ?_ | apply And.intro | refine Vd 5 [] [[],[2],[],[0],[],[],[],[],[],[3],[],[2]] [[],[],[],[],[],[],[],[],[],[3],[],[2]] (by kernel_rfl) (by decide) (by decide) (by kernel_rfl) ?_ | refine Vq (by kernel_rfl) ?_) | ((with_reducible first | refine gE ?_ | refine gR ?_ | refine gD ?_ | refine gF ?_); simp (maxSteps:=9^7) only [ss, tab, reduceCtorEq, reduceIte, Nat.reduceEqDiff, Nat.reduceBEq, Int.reduceLE, Int.reduceToNat, Nat.reduceAdd, Nat.reduceLT, Nat.reduceLeDiff, lit, plC, secC, splice_all, List.length_map, List.length_take, hlt, gi, hw, Nat.min_eq_left hi]) | exact Vn | ((with_reducible refine Vz ?_); (first | refine ret_cell_le (.inr rfl) rfl rfl rfl (fun _ _ => rfl) ok27 (k := n + 1) (off := 0) rfl (dom_loc _ (by simp)) (look_loc _ (Nat.le_refl _) 1) rfl ?_ | refine ret_cell_le (.inr rfl) rfl rfl rfl (fun _ _ => rfl) ok27 (k := m + 1) (off := 0) rfl (dom_loc _ (by simp)) (look_loc _ hm 1) rfl ?_) <;> first | rfl | exact AV.le.rfl _ | (simp only [patch, sl, ti27, List.map_nil, lit, plC, secC, splice_all, List.length_map, List.length_take, hlt, gi, hw, Nat.min_eq_left hi]; done) | rfl | skip) | (refine call_pure (ct) ?_) | ((with_reducible refine Vx ?_); simp only [sb, reduceIte, Nat.reduceEqDiff]) | (refine hK _ ?_; clear hK K) | refine Vt rfl ?_ | refine Vf rfl ?_ | refine Vi rfl (fun hg => ?_) (fun hg => ?_) | clear hK K)
    · omega
    · omega
    rw [hsn]
    refine ⟨i + 1, by omega, by omega, ?_⟩
    refine le_of_all ?_ ?_ rfl rfl rfl rfl <;> simp only [patch, sl, plC, hlt, decide_true]
  · obtain rfl : i = p.secs.length := by omega
    rw [List.take_length]
    repeat' (first | (with_reducible first | refine Vk fun K hK => ?_ | refine V0 ?_ | refine Vb ?_ | refine Vc ?_ | refine Vr ?_ | refine Vs ?_ | apply And.intro | refine Vq (by kernel_rfl) ?_) | ((with_reducible first | refine gE ?_ | refine gR ?_); simp (maxSteps:=9^7) only [ss, evLit, tab, reduceCtorEq, reduceIte, Nat.reduceEqDiff, Nat.reduceBEq, Int.reduceLE, Int.reduceToNat, Nat.reduceAdd, Nat.reduceLT, Nat.reduceLeDiff, plC, List.length_map, hlt, splice_all, a1, a2, a3, a4]) | exact Vn | ((with_reducible refine Vz ?_); (first | refine ret_cell_le (.inr rfl) rfl rfl rfl (fun _ _ => rfl) ok27 (k := n + 1) (off := 0) rfl (dom_loc _ (by simp)) (look_loc _ (Nat.le_refl _) 1) rfl ?_ | refine ret_cell_le (.inr rfl) rfl rfl rfl (fun _ _ => rfl) ok27 (k := m + 1) (off := 0) rfl (dom_loc _ (by simp)) (look_loc _ hm 1) rfl ?_) <;> first | rfl | exact AV.le.rfl _ | (simp only [patch, sl, ti27, List.map_nil, plC, List.length_map, hlt, splice_all, a1, a2, a3, a4]; done) | rfl | skip) | ((with_reducible refine Vx ?_); simp only [sb, reduceIte, Nat.reduceEqDiff]) | (refine hK _ ?_; clear hK K) | refine Vt rfl ?_ | refine Vf rfl ?_ | refine Vi rfl (fun hg => ?_) (fun hg => ?_) | clear hK K)
    refine awp_block ?_
    refine awp_for_g (fun i : Nat => [(5, i64 (i : Int)), (41, .top), (42, .top), (43, .top), (44, .top), (45, .top), (46, .top), (47, .top), (48, .top), (49, .top), (50, .top), (51, .top), (52, .top), (53, .top), (54, .top), (55, .top), (56, .top), (57, .top), (58, .top)]) (fun i => [some (.box 27 (plC p)), some (.box 27 [i64 0, i64 0, .sl 0 [] .nil, .sl 0 [] .nil, .sl 0 [] .nil, .sl 0 [] .nil]), some (.box 27 [i64 p.ver, i64 p.par, .sl 3 (p.secs.map secC) (.own (n + 3)), .sl 2 (p.pts.map jnC) .sh, .sl 3 (p.sgs.map sgC) .sh, .sl 7 ((p.rts.take i).map rtC) (.own (n + 4))]), some (.row 37 3 p.secs.length), some (.row 34 7 i)]) (fun i => out) (fun i => i ≤ p.rts.length) (fun i => p.rts.length - i) 0 (Nat.zero_le _) ?_ fun i hi => ?_
    · refine le_of_all ?_ ?_ (by first | rfl | (simp only [plC, List.take_zero, List.map_nil, List.length_map]; rfl) | simp only [plC, List.take_zero, List.map_nil, List.length_map]) rfl rfl rfl <;> simp only [patch, sl, plC, List.take_zero, List.map_nil, List.length_map]
    simp only [patch, s_0, s_s]
    have hw := addw (n := i) 1 1 rfl (by omega)
    by_cases hlt : i < p.rts.length
    · have gi := getD_map rtC p.rts i [] hlt
      have ct := c_twR p.rts[i] (hs.rt _ (List.getElem_mem hlt))
      simp only [rtA, rtC] at ct
      have hsn := map_snoc rtC p.rts i hlt
      simp only [rtC] at hsn
      have lit : ∀ (σ : AState) (K : AV → List (Nat × Res) → Prop), evLit tab σ K none 25 1 [(0, .agg [i64 p.rts[i].id, i64 p.rts[i].entry, i64 p.rts[i].ex, .sl 1 (p.rts[i].path.map intC) .sh, .sl 1 (p.rts[i].over.map intC) .sh, .sl 2 (p.rts[i].flanks.map jnC) .sh, i64 p.rts[i].timer])] = K (.sl 7 [[i64 p.rts[i].id, i64 p.rts[i].entry, i64 p.rts[i].ex, .sl 1 (p.rts[i].path.map intC) .sh, .sl 1 (p.rts[i].over.map intC) .sh, .sl 2 (p.rts[i].flanks.map jnC) .sh, i64 p.rts[i].timer]] .full) [] := fun σ K => evLit_one (T := tab) (ti := ti25) (te := ti34) rfl rfl rfl (by decide) (by decide) rfl rfl
      repeat' (first | (with_reducible first | refine Vk fun K hK => ?_ | refine V0 ?_ | refine Vb ?_ | refine Vc ?_ | refine Vr ?_ | refine Vs ?_ | apply And.intro | refine Vd 11 [] [[],[2],[],[0],[],[],[],[],[],[4],[],[2]] [[],[],[],[],[],[],[],[],[],[4],[],[2]] (by kernel_rfl) (by decide) (by decide) (by kernel_rfl) ?_ | refine Vq (by kernel_rfl) ?_) | ((with_reducible first | refine gE ?_ | refine gR ?_ | refine gD ?_ | refine gF ?_); simp (maxSteps:=9^7) only [ss, tab, reduceCtorEq, reduceIte, Nat.reduceEqDiff, Nat.reduceBEq, Int.reduceLE, Int.reduceToNat, Nat.reduceAdd, Nat.reduceLT, Nat.reduceLeDiff, lit, plC, rtC, splice_all, List.length_map, List.length_take, hlt, gi, hw, Nat.min_eq_left hi]) | exact Vn | ((with_reducible refine Vz ?_); (first | refine ret_cell_le (.inr rfl) rfl rfl rfl (fun _ _ => rfl) ok27 (k := n + 1) (off := 0) rfl (dom_loc _ (by simp)) (look_loc _ (Nat.le_refl _) 1) rfl ?_ | refine ret_cell_le (.inr rfl) rfl rfl rfl (fun _ _ => rfl) ok27 (k := m + 1) (off := 0) rfl (dom_loc _ (by simp)) (look_loc _ hm 1) rfl ?_) <;> first | rfl | exact AV.le.rfl _ | (simp only [patch, sl, ti27, List.map_nil, lit, plC, rtC, splice_all, List.length_map, List.length_take, hlt, gi, hw, Nat.min_eq_left hi]; done) | rfl | skip) | (refine call_pure (ct) ?_) | ((with_reducible refine Vx ?_); simp only [sb, reduceIte, Nat.reduceEqDiff]) | (refine hK _ ?_; clear hK K) | refine Vt rfl ?_ | refine Vf rfl ?_ | refine Vi rfl (fun hg => ?_) (fun hg => ?_) | clear hK K)
      · omega
      · omega
      rw [hsn]
      refine ⟨i + 1, by omega, by omega, ?_⟩
      refine le_of_all ?_ ?_ rfl rfl rfl rfl <;> simp only [patch, sl, plC, hlt, decide_true]
    · obtain rfl : i = p.rts.length := by omega
      rw [List.take_length]
      repeat' (first | (with_reducible first | refine Vk fun K hK => ?_ | refine V0 ?_ | refine Vb ?_ | refine Vc ?_ | refine Vr ?_ | refine Vs ?_ | apply And.intro | refine Vq (by kernel_rfl) ?_) | ((with_reducible first | refine gE ?_ | refine gR ?_); simp (maxSteps:=9^7) only [ss, evLit, tab, reduceCtorEq, reduceIte, Nat.reduceEqDiff, Nat.reduceBEq, Int.reduceLE, Int.reduceToNat, Nat.reduceAdd, Nat.reduceLT, Nat.reduceLeDiff, plA, plC, List.length_map, hlt, splice_all]) | exact Vn | ((with_reducible refine Vz ?_); (first | refine ret_cell_le (.inr rfl) rfl rfl rfl (fun _ _ => rfl) ok27 (k := n + 1) (off := 0) rfl (dom_loc _ (by simp)) (look_loc _ (Nat.le_refl _) 1) rfl ?_ | refine ret_cell_le (.inr rfl) rfl rfl rfl (fun _ _ => rfl) ok27 (k := m + 1) (off := 0) rfl (dom_loc _ (by simp)) (look_loc _ hm 1) rfl ?_) <;> first | rfl | exact AV.le.rfl _ | (simp only [patch, sl, ti27, List.map_nil, plA, plC, List.length_map, hlt, splice_all]; done) | rfl | skip) | ((with_reducible refine Vx ?_); simp only [sb, reduceIte, Nat.reduceEqDiff]) | (refine hK _ ?_; clear hK K) | refine Vt rfl ?_ | refine Vf rfl ?_ | refine Vi rfl (fun hg => ?_) (fun hg => ?_) | clear hK K)
end Go.Proofs.Ytdkiciofkifpdaa.Pln
