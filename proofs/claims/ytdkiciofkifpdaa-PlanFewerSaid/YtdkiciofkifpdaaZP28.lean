/-
  The law PlanFewer.
-/
import Derived.Test.YtdkiciofkifpdaaZGA
import Derived.Test.YtdkiciofkifpdaaZW22
import Derived.Test.YtdkiciofkifpdaaZW24
import Derived.Test.YtdkiciofkifpdaaZP24
import Derived.Test.YtdkiciofkifpdaaZPQ
namespace Go.Proofs.Ytdkiciofkifpdaa.Pln
set_option linter.unusedVariables false
set_option linter.unusedSimpArgs false
open Go Go.VS Tab
set_option maxHeartbeats 8000000
set_option maxRecDepth 4000
theorem named_succ (l : List Rt) (k : Nat) (h : k < l.length) (g : Int × Int × Int) : namedB (l.take (k + 1)) g = (namedB (l.take k) g || (l[k].entry == g.1 || l[k].ex == g.1)) := by
  unfold namedB
  rw [List.take_succ_eq_append_getElem h, List.any_append]; simp
theorem filter_succ {α : Type} (q : α → Bool) (l : List α) (i : Nat) (h : i < l.length) : (l.take (i + 1)).filter q = (l.take i).filter q ++ if q l[i] = true then [l[i]] else [] := by
  rw [List.take_succ_eq_append_getElem h, List.filter_append]
  congr 1
  cases hq : q l[i] <;> simp [hq]
theorem filter_len {α : Type} (q : α → Bool) (l : List α) (i : Nat) : ((l.take i).filter q).length ≤ l.length := by
  have h1 := List.length_filter_le q (l.take i)
  have h2 := List.length_take_le i l
  rw [List.length_take] at h1
  omega
theorem less_sm {p : Pl} (hs : Sm p) (v w : Int) {l : List Rt} (hl : l.Sublist p.rts) : Sm (lessP p v w l) := by
  obtain ⟨h1, h2, h3, h4, h5, h6⟩ := hs
  exact ⟨h1, h2, h3, Nat.le_trans (List.length_filter_le _ _) h4, Nat.le_trans hl.length_le h5, fun r hr => h6 r (hl.subset hr)⟩
theorem flat_len7 (l : List Rt) : (l.map rtC).flatten.length = l.length * 7 := by rw [flat_length (rts_rows _), List.length_map]
theorem c_lawFewer (p : Pl) (x : UInt8) : ACall Try.prog 5 [plA p, b8 x] [] (bool true) [] := by
  have cg := c_rgreat p
  simp only [plA, plC] at cg
  cases hG : greatP p with
  | true =>
    rw [hG] at cg
    refine acall_of 4 Try.func5 rfl fun n out _ _ => ?_
    simp only [Try.ntmps5, List.length_cons, List.length_nil, List.length_map, List.length_replicate, rep_map, Nat.reduceAdd, Nat.reduceSub, List.replicate, List.cons_append, List.nil_append]
    repeat' (first | (with_reducible first | refine Vk fun K hK => ?_ | refine V0 ?_ | refine Vb ?_ | refine Vc ?_ | refine Vr ?_ | refine Vs ?_ | apply And.intro | refine Vq (by kernel_rfl) ?_) | ((with_reducible first | refine gE ?_ | refine gR ?_); simp (maxSteps:=9^7) only [ss, evLit, tab, reduceCtorEq, reduceIte, Nat.reduceEqDiff, Nat.reduceBEq, Int.reduceLE, Int.reduceToNat, Nat.reduceAdd, Nat.reduceLT, Nat.reduceLeDiff, plA, plC]) | exact Vn | ((with_reducible refine Vz ?_); refine Vo rfl rfl rfl (fun _ _ => rfl) ?_ <;> first | rfl | skip) | (refine call_pure (cg) ?_) | (refine call_pure (c_alive) ?_) | ((with_reducible refine Vg (fun hg => ?_) (fun hg => ?_)) <;> (try simp only [nb] at hg) <;> simp (maxSteps:=9^7) only [ss, evLit, tab, reduceCtorEq, reduceIte, Nat.reduceEqDiff, Nat.reduceBEq, Int.reduceLE, Int.reduceToNat, Nat.reduceAdd, Nat.reduceLT, Nat.reduceLeDiff, hg, plA, plC]) | ((with_reducible refine Vx ?_); simp only [sb, reduceIte, Nat.reduceEqDiff]) | (refine hK _ ?_; clear hK K) | refine Vt rfl ?_ | refine Vf rfl ?_ | refine Vi rfl (fun hg => ?_) (fun hg => ?_) | clear hK K)
  | false =>
    rw [hG] at cg
    have hs := small_of hG
    have c2 := c_pcheck p hs
    cases hmy : mayP p with
    | false =>
      rw [hmy] at c2
      simp only [plA, plC, Bool.false_eq_true, if_false] at c2
      refine acall_of 4 Try.func5 rfl fun n out _ _ => ?_
      simp only [Try.ntmps5, List.length_cons, List.length_nil, List.length_map, List.length_replicate, rep_map, Nat.reduceAdd, Nat.reduceSub, List.replicate, List.cons_append, List.nil_append]
      repeat' (first | (with_reducible first | refine Vk fun K hK => ?_ | refine V0 ?_ | refine Vb ?_ | refine Vc ?_ | refine Vr ?_ | refine Vs ?_ | apply And.intro | refine Vq (by kernel_rfl) ?_) | ((with_reducible first | refine gE ?_ | refine gR ?_); simp (maxSteps:=9^7) only [ss, evLit, tab, reduceCtorEq, reduceIte, Nat.reduceEqDiff, Nat.reduceBEq, Int.reduceLE, Int.reduceToNat, Nat.reduceAdd, Nat.reduceLT, Nat.reduceLeDiff, plA, plC, Int.reduceBNe]) | exact Vn | ((with_reducible refine Vz ?_); refine Vo rfl rfl rfl (fun _ _ => rfl) ?_ <;> first | rfl | skip) | (refine call_pure (cg) ?_) | (refine call_pure (c_alive) ?_) | (refine call_pure (c2) ?_) | ((with_reducible refine Vg (fun hg => ?_) (fun hg => ?_)) <;> (try simp only [nb] at hg) <;> simp (maxSteps:=9^7) only [ss, evLit, tab, reduceCtorEq, reduceIte, Nat.reduceEqDiff, Nat.reduceBEq, Int.reduceLE, Int.reduceToNat, Nat.reduceAdd, Nat.reduceLT, Nat.reduceLeDiff, hg, plA, plC, Int.reduceBNe]) | ((with_reducible refine Vx ?_); simp only [sb, reduceIte, Nat.reduceEqDiff]) | (refine hK _ ?_; clear hK K) | refine Vt rfl ?_ | refine Vf rfl ?_ | refine Vi rfl (fun hg => ?_) (fun hg => ?_) | clear hK K)
    | true =>
      rw [hmy] at c2
      simp only [plA, plC, if_true] at c2
      have hrl := hs.rts
      have hsl := hs.sgs
      obtain ⟨hv1, hv2, hv3, hv4⟩ : 1 ≤ p.ver ∧ p.ver ≤ 2147483647 ∧ 0 ≤ p.par ∧ p.par < p.ver := by
        have h := (may_parts hmy).1
        unfold headOk at h
        simp only [Bool.and_eq_true, decide_eq_true_eq] at h
        exact ⟨h.1.1.1, h.1.1.2, h.1.2, h.2⟩
      by_cases hN : p.rts.length = 0
      · have hsub : p.rts.Sublist p.rts := List.Sublist.refl _
        have hLl := hsub.length_le
        have ct := c_rtwinP p hs
        simp only [plA, plC] at ct
        refine acall_of 4 Try.func5 rfl fun n out _ _ => ?_
        simp only [Try.ntmps5, List.length_cons, List.length_nil, List.length_map, List.length_replicate, rep_map, Nat.reduceAdd, Nat.reduceSub, List.replicate, List.cons_append, List.nil_append]
        repeat' (first | (with_reducible first | refine Vk fun K hK => ?_ | refine V0 ?_ | refine Vb ?_ | refine Vc ?_ | refine Vr ?_ | refine Vs ?_ | apply And.intro | refine Vq (by kernel_rfl) ?_) | ((with_reducible first | refine gE ?_ | refine gR ?_); simp (maxSteps:=9^7) only [ss, evLit, tab, reduceCtorEq, reduceIte, Nat.reduceEqDiff, Nat.reduceBEq, Int.reduceLE, Int.reduceToNat, Nat.reduceAdd, Nat.reduceLT, Nat.reduceLeDiff, plA, plC, Int.reduceBNe, List.length_map, hN, Int.cast_ofNat_Int, gt_iff_lt, Int.lt_irrefl, splice_all]) | exact Vn | ((with_reducible refine Vz ?_); refine Vo rfl rfl rfl (fun _ _ => rfl) ?_ <;> first | rfl | skip) | (refine call_pure (cg) ?_) | (refine call_pure (c_alive) ?_) | (refine call_pure (c2) ?_) | (refine call_pure (ct) ?_) | ((with_reducible refine Vg (fun hg => ?_) (fun hg => ?_)) <;> (try simp only [nb] at hg) <;> simp (maxSteps:=9^7) only [ss, evLit, tab, reduceCtorEq, reduceIte, Nat.reduceEqDiff, Nat.reduceBEq, Int.reduceLE, Int.reduceToNat, Nat.reduceAdd, Nat.reduceLT, Nat.reduceLeDiff, hg, plA, plC, Int.reduceBNe, List.length_map, hN, Int.cast_ofNat_Int, gt_iff_lt, Int.lt_irrefl, splice_all]) | ((with_reducible refine Vx ?_); simp only [sb, reduceIte, Nat.reduceEqDiff]) | (refine hK _ ?_; clear hK K) | refine Vt rfl ?_ | refine Vf rfl ?_ | refine Vi rfl (fun hg => ?_) (fun hg => ?_) | clear hK K)
        refine awp_le (le_row (i := 3) 48 3 rfl) ?_
        simp only [s_0, s_s]
        refine awp_block ?_
        refine awp_for_g (fun i : Nat => [(9, i64 (i : Int)), (8, .sl 3 (((p.sgs.take i).filter (namedB p.rts)).map sgC) (.own (n + 3))), (10, .top), (11, .top), (48, .top), (49, .top), (50, .top), (51, .top), (52, .top), (53, .top), (54, .top), (55, .top), (56, .top), (57, .top), (58, .top), (59, .top), (60, .top), (61, .top), (62, .top), (63, .top), (64, .top), (65, .top), (66, .top), (67, .top), (68, .top), (69, .top), (70, .top), (71, .top), (72, .top), (73, .top), (74, .top), (75, .top), (76, .top), (77, .top), (78, .top), (79, .top), (80, .top), (81, .top), (82, .top), (83, .top), (84, .top), (85, .top), (86, .top), (87, .top), (88, .top), (89, .top), (90, .top), (91, .top), (92, .top), (93, .top), (94, .top), (95, .top), (96, .top), (97, .top), (98, .top), (99, .top), (100, .top), (101, .top)]) (fun i => [some (.box 27 (plC p)), some (.box 27 [i64 p.ver, i64 p.par, .sl 3 (p.secs.map secC) .sh, .sl 2 (p.pts.map jnC) .sh, .sl 3 (p.sgs.map sgC) .sh, .sl 7 (p.rts.map rtC) .sh]), none, some (.row 48 3 ((p.sgs.take i).filter (namedB p.rts)).length)]) (fun i => out) (fun i => i ≤ p.sgs.length) (fun i => p.sgs.length - i) 0 (Nat.zero_le _) ?_ fun i hi => ?_
        · refine le_of_all ?_ ?_ (by first | rfl | (simp only [plC, List.take_zero, List.filter_nil, List.map_nil, List.length_nil]; rfl) | simp only [plC, List.take_zero, List.filter_nil, List.map_nil, List.length_nil]) rfl rfl rfl <;> simp only [patch, sl, plC, List.take_zero, List.filter_nil, List.map_nil, List.length_nil]
        simp only [patch, s_0, s_s]
        have hw := addw (n := i) 1 1 rfl (by omega)
        by_cases hlt : i < p.sgs.length
        · have gi := getD_map sgC p.sgs i [] hlt
          obtain ⟨g, hg⟩ : ∃ g, g = p.sgs[i] := ⟨_, rfl⟩
          have hfs := filter_succ (namedB p.rts) p.sgs i hlt
          have hfl := filter_len (namedB p.rts) p.sgs i
          rw [← hg] at gi hfs
          have y1 : (((p.sgs.take i).filter (namedB p.rts)).length + 1) * 24 ≤ 140737488355328 := by omega
          have y2 : ((p.sgs.take i).filter (namedB p.rts)).length ≤ 9223372036854775806 := by omega
          have lit : ∀ (σ : AState) (K : AV → List (Nat × Res) → Prop), evLit tab σ K none 24 1 [(0, .agg [i64 g.1, i64 g.2.1, i64 g.2.2])] = K (.sl 3 [[i64 g.1, i64 g.2.1, i64 g.2.2]] .full) [] := fun σ K => evLit_one (T := tab) (ti := ti24) (te := ti48) rfl rfl rfl (by decide) (by decide) rfl rfl
          repeat' (first | (with_reducible first | refine Vk fun K hK => ?_ | refine V0 ?_ | refine Vb ?_ | refine Vc ?_ | refine Vr ?_ | refine Vs ?_ | apply And.intro | refine Vq (by kernel_rfl) ?_) | ((with_reducible first | refine gE ?_ | refine gR ?_); simp (maxSteps:=9^7) only [ss, evLit, tab, reduceCtorEq, reduceIte, Nat.reduceEqDiff, Nat.reduceBEq, Int.reduceLE, Int.reduceToNat, Nat.reduceAdd, Nat.reduceLT, Nat.reduceLeDiff, List.length_map, hlt]) | exact Vn | ((with_reducible refine Vz ?_); refine Vo rfl rfl rfl (fun _ _ => rfl) ?_ <;> first | rfl | skip) | ((with_reducible refine Vg (fun hg => ?_) (fun hg => ?_)) <;> (try simp only [nb] at hg) <;> simp (maxSteps:=9^7) only [ss, evLit, tab, reduceCtorEq, reduceIte, Nat.reduceEqDiff, Nat.reduceBEq, Int.reduceLE, Int.reduceToNat, Nat.reduceAdd, Nat.reduceLT, Nat.reduceLeDiff, hg, List.length_map, hlt]) | ((with_reducible refine Vx ?_); simp only [sb, reduceIte, Nat.reduceEqDiff]) | (refine hK _ ?_; clear hK K) | refine Vt rfl ?_ | refine Vf rfl ?_ | refine Vi rfl (fun hg => ?_) (fun hg => ?_) | clear hK K)
          refine awp_block ?_
          refine awp_for_g (fun k : Nat => [(10, bool (namedB (p.rts.take k) g)), (11, i64 (k : Int)), (55, .top), (56, .top), (57, .top), (58, .top), (59, .top), (60, .top), (61, .top), (62, .top), (63, .top), (64, .top), (65, .top), (66, .top), (67, .top), (68, .top), (69, .top), (70, .top), (71, .top), (72, .top), (73, .top), (74, .top), (75, .top), (76, .top), (77, .top), (78, .top), (79, .top), (80, .top), (81, .top), (82, .top), (83, .top), (84, .top), (85, .top), (86, .top), (87, .top), (88, .top), (89, .top), (90, .top), (91, .top), (92, .top)]) (fun k => [some (.box 27 (plC p)), some (.box 27 [i64 p.ver, i64 p.par, .sl 3 (p.secs.map secC) .sh, .sl 2 (p.pts.map jnC) .sh, .sl 3 (p.sgs.map sgC) .sh, .sl 7 (p.rts.map rtC) .sh]), none, some (.row 48 3 ((p.sgs.take i).filter (namedB p.rts)).length)]) (fun k => out) (fun k => k ≤ p.rts.length) (fun k => p.rts.length - k) 0 (Nat.zero_le _) ?_ fun k hk => ?_
          · refine le_of_all ?_ ?_ (by first | rfl | (simp only [plC, List.take_zero, namedB, List.any_nil]; rfl) | simp only [plC, List.take_zero, namedB, List.any_nil]) rfl rfl rfl <;> simp only [patch, sl, plC, List.take_zero, namedB, List.any_nil]
          simp only [patch, s_0, s_s]
          have hwk := addw (n := k) 1 1 rfl (by omega)
          by_cases hlk : k < p.rts.length
          · have gk := getD_map rtC p.rts k [] hlk
            have hns := named_succ p.rts k hlk g
            cases hB : namedB (p.rts.take k) g with
            | true =>
              rw [hB, Bool.true_or] at hns
              repeat' (first | (with_reducible first | refine Vk fun K hK => ?_ | refine V0 ?_ | refine Vb ?_ | refine Vc ?_ | refine Vr ?_ | refine Vs ?_ | apply And.intro | refine Vd 16 [] [[],[],[],[1],[],[],[],[],[],[1],[],[],[],[],[],[],[],[],[1],[],[],[],[],[],[1],[],[],[],[],[],[],[]] [[],[],[],[],[],[],[],[],[],[],[],[],[],[],[],[],[],[],[],[],[],[],[],[],[],[],[],[],[],[],[],[]] (by kernel_rfl) (by decide) (by decide) (by kernel_rfl) ?_ | refine Vq (by kernel_rfl) ?_) | ((with_reducible first | refine gE ?_ | refine gR ?_ | refine gD ?_ | refine gF ?_); simp (maxSteps:=9^7) only [ss, evLit, tab, reduceCtorEq, reduceIte, Nat.reduceEqDiff, Nat.reduceBEq, Int.reduceLE, Int.reduceToNat, Nat.reduceAdd, Nat.reduceLT, Nat.reduceLeDiff, sg, List.length_map, hlt, hlk, gi, gk, sgC, rtC, hwk]) | exact Vn | ((with_reducible refine Vz ?_); refine Vo rfl rfl rfl (fun _ _ => rfl) ?_ <;> first | rfl | skip) | ((with_reducible first | refine Vg (fun hg => ?_) (fun hg => ?_) | refine gselD_case (fun hg => ?_) (fun hg => ?_)) <;> (try simp only [nb] at hg) <;> simp (maxSteps:=9^7) only [ss, evLit, tab, reduceCtorEq, reduceIte, Nat.reduceEqDiff, Nat.reduceBEq, Int.reduceLE, Int.reduceToNat, Nat.reduceAdd, Nat.reduceLT, Nat.reduceLeDiff, hg, sg, List.length_map, hlt, hlk, gi, gk, sgC, rtC, hwk]) | ((with_reducible refine Vx ?_); simp only [sb, reduceIte, Nat.reduceEqDiff]) | (refine hK _ ?_; clear hK K) | refine Vt rfl ?_ | refine Vf rfl ?_ | refine Vi rfl (fun hg => ?_) (fun hg => ?_) | clear hK K)
              refine ⟨k + 1, by omega, by omega, ?_⟩
              rw [hns]
              refine le_of_all ?_ ?_ rfl rfl rfl rfl <;> simp only [patch, sl, List.length_map, hlk, decide_true]
            | false =>
              rw [hB, Bool.false_or] at hns
              cases h1 : (p.rts[k].entry == g.1) with
              | true =>
                rw [h1, Bool.true_or] at hns
                repeat' (first | (with_reducible first | refine Vk fun K hK => ?_ | refine V0 ?_ | refine Vb ?_ | refine Vc ?_ | refine Vr ?_ | refine Vs ?_ | apply And.intro | refine Vd 16 [] [[],[],[],[1],[],[],[],[],[],[1],[],[],[],[],[],[],[],[],[1],[],[],[],[],[],[1],[],[],[],[],[],[],[]] [[],[],[],[],[],[],[],[],[],[],[],[],[],[],[],[],[],[],[],[],[],[],[],[],[],[],[],[],[],[],[],[]] (by kernel_rfl) (by decide) (by decide) (by kernel_rfl) ?_ | refine Vq (by kernel_rfl) ?_) | ((with_reducible first | refine gE ?_ | refine gR ?_ | refine gD ?_ | refine gF ?_); simp (maxSteps:=9^7) only [ss, evLit, tab, reduceCtorEq, reduceIte, Nat.reduceEqDiff, Nat.reduceBEq, Int.reduceLE, Int.reduceToNat, Nat.reduceAdd, Nat.reduceLT, Nat.reduceLeDiff, sg, List.length_map, hlt, hlk, gi, gk, sgC, rtC, h1, hwk]) | exact Vn | ((with_reducible refine Vz ?_); refine Vo rfl rfl rfl (fun _ _ => rfl) ?_ <;> first | rfl | skip) | ((with_reducible first | refine Vg (fun hg => ?_) (fun hg => ?_) | refine gselD_case (fun hg => ?_) (fun hg => ?_)) <;> (try simp only [nb] at hg) <;> simp (maxSteps:=9^7) only [ss, evLit, tab, reduceCtorEq, reduceIte, Nat.reduceEqDiff, Nat.reduceBEq, Int.reduceLE, Int.reduceToNat, Nat.reduceAdd, Nat.reduceLT, Nat.reduceLeDiff, hg, sg, List.length_map, hlt, hlk, gi, gk, sgC, rtC, h1, hwk]) | ((with_reducible refine Vx ?_); simp only [sb, reduceIte, Nat.reduceEqDiff]) | (refine hK _ ?_; clear hK K) | refine Vt rfl ?_ | refine Vf rfl ?_ | refine Vi rfl (fun hg => ?_) (fun hg => ?_) | clear hK K)
                refine ⟨k + 1, by omega, by omega, ?_⟩
                rw [hns]
                refine le_of_all ?_ ?_ rfl rfl rfl rfl <;> simp only [patch, sl, List.length_map, hlk, decide_true]
              | false =>
                rw [h1, Bool.false_or] at hns
                repeat' (first | (with_reducible first | refine Vk fun K hK => ?_ | refine V0 ?_ | refine Vb ?_ | refine Vc ?_ | refine Vr ?_ | refine Vs ?_ | apply And.intro | refine Vd 16 [] [[],[],[],[1],[],[],[],[],[],[1],[],[],[],[],[],[],[],[],[1],[],[],[],[],[],[1],[],[],[],[],[],[],[]] [[],[],[],[],[],[],[],[],[],[],[],[],[],[],[],[],[],[],[],[],[],[],[],[],[],[],[],[],[],[],[],[]] (by kernel_rfl) (by decide) (by decide) (by kernel_rfl) ?_ | refine Vq (by kernel_rfl) ?_) | ((with_reducible first | refine gE ?_ | refine gR ?_ | refine gD ?_ | refine gF ?_); simp (maxSteps:=9^7) only [ss, evLit, tab, reduceCtorEq, reduceIte, Nat.reduceEqDiff, Nat.reduceBEq, Int.reduceLE, Int.reduceToNat, Nat.reduceAdd, Nat.reduceLT, Nat.reduceLeDiff, sg, List.length_map, hlt, hlk, gi, gk, sgC, rtC, h1, hwk]) | exact Vn | ((with_reducible refine Vz ?_); refine Vo rfl rfl rfl (fun _ _ => rfl) ?_ <;> first | rfl | skip) | ((with_reducible first | refine Vg (fun hg => ?_) (fun hg => ?_) | refine gselD_case (fun hg => ?_) (fun hg => ?_)) <;> (try simp only [nb] at hg) <;> simp (maxSteps:=9^7) only [ss, evLit, tab, reduceCtorEq, reduceIte, Nat.reduceEqDiff, Nat.reduceBEq, Int.reduceLE, Int.reduceToNat, Nat.reduceAdd, Nat.reduceLT, Nat.reduceLeDiff, hg, sg, List.length_map, hlt, hlk, gi, gk, sgC, rtC, h1, hwk]) | ((with_reducible refine Vx ?_); simp only [sb, reduceIte, Nat.reduceEqDiff]) | (refine hK _ ?_; clear hK K) | refine Vt rfl ?_ | refine Vf rfl ?_ | refine Vi rfl (fun hg => ?_) (fun hg => ?_) | clear hK K)
                refine ⟨k + 1, by omega, by omega, ?_⟩
                rw [hns]
                refine le_of_all ?_ ?_ rfl rfl rfl rfl <;> simp only [patch, sl, List.length_map, hlk, decide_true]
          · obtain rfl : k = p.rts.length := by omega
            rw [List.take_length]
            cases hB : namedB p.rts g with
            | true =>
              rw [hB, if_pos rfl] at hfs
              have hfm : ((p.sgs.take i).filter (namedB p.rts)).map sgC ++ [[i64 g.1, i64 g.2.1, i64 g.2.2]] = ((p.sgs.take (i + 1)).filter (namedB p.rts)).map sgC := by rw [hfs, List.map_append]; rfl
              have hfn : ((p.sgs.take i).filter (namedB p.rts)).length + 1 = ((p.sgs.take (i + 1)).filter (namedB p.rts)).length := by rw [hfs, List.length_append]; rfl
              repeat' (first | (with_reducible first | refine Vk fun K hK => ?_ | refine V0 ?_ | refine Vb ?_ | refine Vc ?_ | refine Vr ?_ | refine Vs ?_ | apply And.intro | refine Vq (by kernel_rfl) ?_) | ((with_reducible first | refine gE ?_ | refine gR ?_); simp (maxSteps:=9^7) only [ss, tab, reduceCtorEq, reduceIte, Nat.reduceEqDiff, Nat.reduceBEq, Int.reduceLE, Int.reduceToNat, Nat.reduceAdd, Nat.reduceLT, Nat.reduceLeDiff, lit, List.length_map, hlt, hlk, gi, sgC, y1, y2, hw]) | exact Vn | ((with_reducible refine Vz ?_); refine Vo rfl rfl rfl (fun _ _ => rfl) ?_ <;> first | rfl | skip) | ((with_reducible refine Vg (fun hg => ?_) (fun hg => ?_)) <;> (try simp only [nb] at hg) <;> simp (maxSteps:=9^7) only [ss, tab, reduceCtorEq, reduceIte, Nat.reduceEqDiff, Nat.reduceBEq, Int.reduceLE, Int.reduceToNat, Nat.reduceAdd, Nat.reduceLT, Nat.reduceLeDiff, hg, lit, List.length_map, hlt, hlk, gi, sgC, y1, y2, hw]) | ((with_reducible refine Vx ?_); simp only [sb, reduceIte, Nat.reduceEqDiff]) | (refine hK _ ?_; clear hK K) | refine Vt rfl ?_ | refine Vf rfl ?_ | refine Vi rfl (fun hg => ?_) (fun hg => ?_) | clear hK K)
              rw [hfm, hfn]
              refine ⟨i + 1, by omega, by omega, ?_⟩
              refine le_of_all ?_ ?_ rfl rfl rfl rfl <;> simp only [patch, sl, List.length_map, hlt, decide_true]
            | false =>
              rw [hB, if_neg (by decide), List.append_nil] at hfs
              repeat' (first | (with_reducible first | refine Vk fun K hK => ?_ | refine V0 ?_ | refine Vb ?_ | refine Vc ?_ | refine Vr ?_ | refine Vs ?_ | apply And.intro | refine Vq (by kernel_rfl) ?_) | ((with_reducible first | refine gE ?_ | refine gR ?_); simp (maxSteps:=9^7) only [ss, evLit, tab, reduceCtorEq, reduceIte, Nat.reduceEqDiff, Nat.reduceBEq, Int.reduceLE, Int.reduceToNat, Nat.reduceAdd, Nat.reduceLT, Nat.reduceLeDiff, List.length_map, hlt, hlk, hw]) | exact Vn | ((with_reducible refine Vz ?_); refine Vo rfl rfl rfl (fun _ _ => rfl) ?_ <;> first | rfl | skip) | ((with_reducible refine Vg (fun hg => ?_) (fun hg => ?_)) <;> (try simp only [nb] at hg) <;> simp (maxSteps:=9^7) only [ss, evLit, tab, reduceCtorEq, reduceIte, Nat.reduceEqDiff, Nat.reduceBEq, Int.reduceLE, Int.reduceToNat, Nat.reduceAdd, Nat.reduceLT, Nat.reduceLeDiff, hg, List.length_map, hlt, hlk, hw]) | ((with_reducible refine Vx ?_); simp only [sb, reduceIte, Nat.reduceEqDiff]) | (refine hK _ ?_; clear hK K) | refine Vt rfl ?_ | refine Vf rfl ?_ | refine Vi rfl (fun hg => ?_) (fun hg => ?_) | clear hK K)
              rw [← hfs]
              refine ⟨i + 1, by omega, by omega, ?_⟩
              refine le_of_all ?_ ?_ rfl rfl rfl rfl <;> simp only [patch, sl, List.length_map, hlt, decide_true]
        · obtain rfl : i = p.sgs.length := by omega
          rw [List.take_length]
          have hsub' := hsub
          by_cases hv : p.ver < 2147483647
          · have cq := c_pcheck (lessP p (p.ver + 1) p.ver p.rts) (less_sm hs _ _ hsub)
            rw [may_less hmy (by omega) hsub, if_pos rfl] at cq
            have cq' := acall_le cq (args' := [.agg [i64 (p.ver + 1), i64 p.ver, .sl 3 (p.secs.map secC) .sh, .sl 2 (p.pts.map jnC) .sh, .sl 3 ((p.sgs.filter (namedB p.rts)).map sgC) (.own (n + 3)), .sl 7 (p.rts.map rtC) .sh]]) ⟨by simp only [plA, plC, lessP, patch, sl], trivial⟩
            have hvI : decide (p.ver < 2147483647) = true := decide_eq_true hv
            have hva : IntKind.i64.wrap (p.ver + 1) = p.ver + 1 := by rw [wrap_i64] <;> omega
            repeat' (first | (with_reducible first | refine Vk fun K hK => ?_ | refine V0 ?_ | refine Vb ?_ | refine Vc ?_ | refine Vr ?_ | refine Vs ?_ | apply And.intro | refine Vq (by kernel_rfl) ?_) | ((with_reducible first | refine gE ?_ | refine gR ?_); simp (maxSteps:=9^7) only [ss, evLit, tab, reduceCtorEq, reduceIte, Nat.reduceEqDiff, Nat.reduceBEq, Int.reduceLE, Int.reduceToNat, Nat.reduceAdd, Nat.reduceLT, Nat.reduceLeDiff, List.length_map, hlt, hv, hvI, hva, splice_all, Int.reduceBEq]) | exact Vn | ((with_reducible refine Vz ?_); refine Vo rfl rfl rfl (fun _ _ => rfl) ?_ <;> first | rfl | skip) | (refine call_pure (cq') ?_) | ((with_reducible refine Vg (fun hg => ?_) (fun hg => ?_)) <;> (try simp only [nb] at hg) <;> simp (maxSteps:=9^7) only [ss, evLit, tab, reduceCtorEq, reduceIte, Nat.reduceEqDiff, Nat.reduceBEq, Int.reduceLE, Int.reduceToNat, Nat.reduceAdd, Nat.reduceLT, Nat.reduceLeDiff, hg, List.length_map, hlt, hv, hvI, hva, splice_all, Int.reduceBEq]) | ((with_reducible refine Vx ?_); simp only [sb, reduceIte, Nat.reduceEqDiff]) | (refine hK _ ?_; clear hK K) | refine Vt rfl ?_ | refine Vf rfl ?_ | refine Vi rfl (fun hg => ?_) (fun hg => ?_) | clear hK K)
          · have cq := c_pcheck (lessP p p.ver p.par p.rts) (less_sm hs _ _ hsub)
            rw [may_less hmy (by omega) hsub, if_pos rfl] at cq
            have cq' := acall_le cq (args' := [.agg [i64 p.ver, i64 p.par, .sl 3 (p.secs.map secC) .sh, .sl 2 (p.pts.map jnC) .sh, .sl 3 ((p.sgs.filter (namedB p.rts)).map sgC) (.own (n + 3)), .sl 7 (p.rts.map rtC) .sh]]) ⟨by simp only [plA, plC, lessP, patch, sl], trivial⟩
            have hvI : decide (p.ver < 2147483647) = false := decide_eq_false hv
            repeat' (first | (with_reducible first | refine Vk fun K hK => ?_ | refine V0 ?_ | refine Vb ?_ | refine Vc ?_ | refine Vr ?_ | refine Vs ?_ | apply And.intro | refine Vq (by kernel_rfl) ?_) | ((with_reducible first | refine gE ?_ | refine gR ?_); simp (maxSteps:=9^7) only [ss, evLit, tab, reduceCtorEq, reduceIte, Nat.reduceEqDiff, Nat.reduceBEq, Int.reduceLE, Int.reduceToNat, Nat.reduceAdd, Nat.reduceLT, Nat.reduceLeDiff, List.length_map, hlt, hv, hvI, splice_all, Int.reduceBEq]) | exact Vn | ((with_reducible refine Vz ?_); refine Vo rfl rfl rfl (fun _ _ => rfl) ?_ <;> first | rfl | skip) | (refine call_pure (cq') ?_) | ((with_reducible refine Vg (fun hg => ?_) (fun hg => ?_)) <;> (try simp only [nb] at hg) <;> simp (maxSteps:=9^7) only [ss, evLit, tab, reduceCtorEq, reduceIte, Nat.reduceEqDiff, Nat.reduceBEq, Int.reduceLE, Int.reduceToNat, Nat.reduceAdd, Nat.reduceLT, Nat.reduceLeDiff, hg, List.length_map, hlt, hv, hvI, splice_all, Int.reduceBEq]) | ((with_reducible refine Vx ?_); simp only [sb, reduceIte, Nat.reduceEqDiff]) | (refine hK _ ?_; clear hK K) | refine Vt rfl ?_ | refine Vf rfl ?_ | refine Vi rfl (fun hg => ?_) (fun hg => ?_) | clear hK K)
      · obtain ⟨N, hNN⟩ : ∃ N, N = x.toNat % p.rts.length := ⟨_, rfl⟩
        have hnl : N < p.rts.length := by rw [hNN]; exact Nat.mod_lt _ (by omega)
        obtain ⟨L, hL⟩ : ∃ L, L = (fewP p N).rts := ⟨_, rfl⟩
        have hsub : L.Sublist p.rts := by rw [hL]; exact few_sub p.rts N
        have hLl := hsub.length_le
        have hrem : evInt .rem .i64 (x.toNat : Int) (p.rts.length : Int) = some (.int .i64 (N : Int)) := by
          rw [i_rem _ _ (by omega), hNN]; rfl
        have hxw : IntKind.i64.wrap (x.toNat : Int) = (x.toNat : Int) := by
          have := x.toNat_lt
          rw [wrap_i64] <;> omega
        have hpos : (0 : Int) < (p.rts.length : Int) := by omega
        have ct := fun k => c_rtwinPK k p hs (by omega)
        have hc := few_chunks p hnl
        have hcl := flat_len7 p.rts
        have hw1 := addw (n := N) 1 1 rfl (by omega)
        obtain ⟨CS, hCS⟩ : ∃ CS, CS = (p.rts.map rtC).flatten := ⟨_, rfl⟩
        rw [← hCS] at hc hcl
        simp only [← hCS] at ct
        rw [← hL] at hc
        have y1 : (N + (p.rts.length - (N + 1))) * 7 ≤ CS.length := by omega
        have y2 : (N + 1) * 7 + (p.rts.length - (N + 1)) * 7 ≤ CS.length := by omega
        simp only [plA, plC] at ct
        refine acall_of 4 Try.func5 rfl fun n out _ _ => ?_
        simp only [Try.ntmps5, List.length_cons, List.length_nil, List.length_map, List.length_replicate, rep_map, Nat.reduceAdd, Nat.reduceSub, List.replicate, List.cons_append, List.nil_append]
        repeat' (first | (with_reducible first | refine Vk fun K hK => ?_ | refine V0 ?_ | refine Vb ?_ | refine Vc ?_ | refine Vr ?_ | refine Vs ?_ | apply And.intro | refine Vd 7 [] [[],[1],[],[],[],[1],[],[],[],[2],[],[1]] [[],[],[],[],[],[],[],[],[],[2],[],[1]] (by kernel_rfl) (by decide) (by decide) (by kernel_rfl) ?_ | refine Vq (by kernel_rfl) ?_) | ((with_reducible first | refine gE ?_ | refine gR ?_ | refine gD ?_ | refine gF ?_); simp (maxSteps:=9^7) only [ss, evLit, tab, reduceCtorEq, reduceIte, Nat.reduceEqDiff, Nat.reduceBEq, Int.reduceLE, Int.reduceToNat, Nat.reduceAdd, Nat.reduceLT, Nat.reduceLeDiff, plA, plC, Int.reduceBNe, List.length_map, gt_iff_lt, hpos, splice_all, hrem, hxw, hw1, loOf, hiOf, Nat.sub_zero, hc]) | exact Vn | ((with_reducible refine Vz ?_); refine Vo rfl rfl rfl (fun _ _ => rfl) ?_ <;> first | rfl | skip) | (refine call_pure (cg) ?_) | (refine call_pure (c_alive) ?_) | (refine call_pure (c2) ?_) | (refine call_one (ct (n + 2)) (look_loc _ (Nat.le_refl _) 2) (dom_loc _ (by simp)) (by simp) ?_) | ((with_reducible refine Vg (fun hg => ?_) (fun hg => ?_)) <;> (try simp only [nb] at hg) <;> simp (maxSteps:=9^7) only [ss, evLit, tab, reduceCtorEq, reduceIte, Nat.reduceEqDiff, Nat.reduceBEq, Int.reduceLE, Int.reduceToNat, Nat.reduceAdd, Nat.reduceLT, Nat.reduceLeDiff, hg, plA, plC, Int.reduceBNe, List.length_map, gt_iff_lt, hpos, splice_all, hrem, hxw, hw1, loOf, hiOf, Nat.sub_zero, hc]) | ((with_reducible refine Vx ?_); simp only [sb, reduceIte, Nat.reduceEqDiff]) | (refine hK _ ?_; clear hK K) | refine Vt rfl ?_ | refine Vf rfl ?_ | refine Vi rfl (fun hg => ?_) (fun hg => ?_) | clear hK K)
        · omega
        · omega
        · omega
        · omega
        · omega
        · omega
        refine awp_le (le_row (i := 3) 48 3 rfl) ?_
        simp only [s_0, s_s]
        refine awp_block ?_
        refine awp_for_g (fun i : Nat => [(9, i64 (i : Int)), (8, .sl 3 (((p.sgs.take i).filter (namedB L)).map sgC) (.own (n + 3))), (10, .top), (11, .top), (48, .top), (49, .top), (50, .top), (51, .top), (52, .top), (53, .top), (54, .top), (55, .top), (56, .top), (57, .top), (58, .top), (59, .top), (60, .top), (61, .top), (62, .top), (63, .top), (64, .top), (65, .top), (66, .top), (67, .top), (68, .top), (69, .top), (70, .top), (71, .top), (72, .top), (73, .top), (74, .top), (75, .top), (76, .top), (77, .top), (78, .top), (79, .top), (80, .top), (81, .top), (82, .top), (83, .top), (84, .top), (85, .top), (86, .top), (87, .top), (88, .top), (89, .top), (90, .top), (91, .top), (92, .top), (93, .top), (94, .top), (95, .top), (96, .top), (97, .top), (98, .top), (99, .top), (100, .top), (101, .top)]) (fun i => [some (.box 27 (plC p)), some (.box 27 [i64 p.ver, i64 p.par, .sl 3 (p.secs.map secC) .sh, .sl 2 (p.pts.map jnC) .sh, .sl 3 (p.sgs.map sgC) .sh, .sl 7 (L.map rtC) .sh]), some .dead, some (.row 48 3 ((p.sgs.take i).filter (namedB L)).length)]) (fun i => out) (fun i => i ≤ p.sgs.length) (fun i => p.sgs.length - i) 0 (Nat.zero_le _) ?_ fun i hi => ?_
        · refine le_of_all ?_ ?_ (by first | rfl | (simp only [plC, List.take_zero, List.filter_nil, List.map_nil, List.length_nil]; rfl) | simp only [plC, List.take_zero, List.filter_nil, List.map_nil, List.length_nil]) rfl rfl rfl <;> simp only [patch, sl, plC, List.take_zero, List.filter_nil, List.map_nil, List.length_nil]
        simp only [patch, s_0, s_s]
        have hw := addw (n := i) 1 1 rfl (by omega)
        by_cases hlt : i < p.sgs.length
        · have gi := getD_map sgC p.sgs i [] hlt
          obtain ⟨g, hg⟩ : ∃ g, g = p.sgs[i] := ⟨_, rfl⟩
          have hfs := filter_succ (namedB L) p.sgs i hlt
          have hfl := filter_len (namedB L) p.sgs i
          rw [← hg] at gi hfs
          have y1 : (((p.sgs.take i).filter (namedB L)).length + 1) * 24 ≤ 140737488355328 := by omega
          have y2 : ((p.sgs.take i).filter (namedB L)).length ≤ 9223372036854775806 := by omega
          have lit : ∀ (σ : AState) (K : AV → List (Nat × Res) → Prop), evLit tab σ K none 24 1 [(0, .agg [i64 g.1, i64 g.2.1, i64 g.2.2])] = K (.sl 3 [[i64 g.1, i64 g.2.1, i64 g.2.2]] .full) [] := fun σ K => evLit_one (T := tab) (ti := ti24) (te := ti48) rfl rfl rfl (by decide) (by decide) rfl rfl
          repeat' (first | (with_reducible first | refine Vk fun K hK => ?_ | refine V0 ?_ | refine Vb ?_ | refine Vc ?_ | refine Vr ?_ | refine Vs ?_ | apply And.intro | refine Vq (by kernel_rfl) ?_) | ((with_reducible first | refine gE ?_ | refine gR ?_); simp (maxSteps:=9^7) only [ss, evLit, tab, reduceCtorEq, reduceIte, Nat.reduceEqDiff, Nat.reduceBEq, Int.reduceLE, Int.reduceToNat, Nat.reduceAdd, Nat.reduceLT, Nat.reduceLeDiff, List.length_map, hlt]) | exact Vn | ((with_reducible refine Vz ?_); refine Vo rfl rfl rfl (fun _ _ => rfl) ?_ <;> first | rfl | skip) | ((with_reducible refine Vg (fun hg => ?_) (fun hg => ?_)) <;> (try simp only [nb] at hg) <;> simp (maxSteps:=9^7) only [ss, evLit, tab, reduceCtorEq, reduceIte, Nat.reduceEqDiff, Nat.reduceBEq, Int.reduceLE, Int.reduceToNat, Nat.reduceAdd, Nat.reduceLT, Nat.reduceLeDiff, hg, List.length_map, hlt]) | ((with_reducible refine Vx ?_); simp only [sb, reduceIte, Nat.reduceEqDiff]) | (refine hK _ ?_; clear hK K) | refine Vt rfl ?_ | refine Vf rfl ?_ | refine Vi rfl (fun hg => ?_) (fun hg => ?_) | clear hK K)
          refine awp_block ?_
          refine awp_for_g (fun k : Nat => [(10, bool (namedB (L.take k) g)), (11, i64 (k : Int)), (55, .top), (56, .top), (57, .top), (58, .top), (59, .top), (60, .top), (61, .top), (62, .top), (63, .top), (64, .top), (65, .top), (66, .top), (67, .top), (68, .top), (69, .top), (70, .top), (71, .top), (72, .top), (73, .top), (74, .top), (75, .top), (76, .top), (77, .top), (78, .top), (79, .top), (80, .top), (81, .top), (82, .top), (83, .top), (84, .top), (85, .top), (86, .top), (87, .top), (88, .top), (89, .top), (90, .top), (91, .top), (92, .top)]) (fun k => [some (.box 27 (plC p)), some (.box 27 [i64 p.ver, i64 p.par, .sl 3 (p.secs.map secC) .sh, .sl 2 (p.pts.map jnC) .sh, .sl 3 (p.sgs.map sgC) .sh, .sl 7 (L.map rtC) .sh]), some .dead, some (.row 48 3 ((p.sgs.take i).filter (namedB L)).length)]) (fun k => out) (fun k => k ≤ L.length) (fun k => L.length - k) 0 (Nat.zero_le _) ?_ fun k hk => ?_
          · refine le_of_all ?_ ?_ (by first | rfl | (simp only [plC, List.take_zero, namedB, List.any_nil]; rfl) | simp only [plC, List.take_zero, namedB, List.any_nil]) rfl rfl rfl <;> simp only [patch, sl, plC, List.take_zero, namedB, List.any_nil]
          simp only [patch, s_0, s_s]
          have hwk := addw (n := k) 1 1 rfl (by omega)
          by_cases hlk : k < L.length
          · have gk := getD_map rtC L k [] hlk
            have hns := named_succ L k hlk g
            cases hB : namedB (L.take k) g with
            | true =>
              rw [hB, Bool.true_or] at hns
              repeat' (first | (with_reducible first | refine Vk fun K hK => ?_ | refine V0 ?_ | refine Vb ?_ | refine Vc ?_ | refine Vr ?_ | refine Vs ?_ | apply And.intro | refine Vd 16 [] [[],[],[],[1],[],[],[],[],[],[1],[],[],[],[],[],[],[],[],[1],[],[],[],[],[],[1],[],[],[],[],[],[],[]] [[],[],[],[],[],[],[],[],[],[],[],[],[],[],[],[],[],[],[],[],[],[],[],[],[],[],[],[],[],[],[],[]] (by kernel_rfl) (by decide) (by decide) (by kernel_rfl) ?_ | refine Vq (by kernel_rfl) ?_) | ((with_reducible first | refine gE ?_ | refine gR ?_ | refine gD ?_ | refine gF ?_); simp (maxSteps:=9^7) only [ss, evLit, tab, reduceCtorEq, reduceIte, Nat.reduceEqDiff, Nat.reduceBEq, Int.reduceLE, Int.reduceToNat, Nat.reduceAdd, Nat.reduceLT, Nat.reduceLeDiff, sg, List.length_map, hlt, hlk, gi, gk, sgC, rtC, hwk]) | exact Vn | ((with_reducible refine Vz ?_); refine Vo rfl rfl rfl (fun _ _ => rfl) ?_ <;> first | rfl | skip) | ((with_reducible first | refine Vg (fun hg => ?_) (fun hg => ?_) | refine gselD_case (fun hg => ?_) (fun hg => ?_)) <;> (try simp only [nb] at hg) <;> simp (maxSteps:=9^7) only [ss, evLit, tab, reduceCtorEq, reduceIte, Nat.reduceEqDiff, Nat.reduceBEq, Int.reduceLE, Int.reduceToNat, Nat.reduceAdd, Nat.reduceLT, Nat.reduceLeDiff, hg, sg, List.length_map, hlt, hlk, gi, gk, sgC, rtC, hwk]) | ((with_reducible refine Vx ?_); simp only [sb, reduceIte, Nat.reduceEqDiff]) | (refine hK _ ?_; clear hK K) | refine Vt rfl ?_ | refine Vf rfl ?_ | refine Vi rfl (fun hg => ?_) (fun hg => ?_) | clear hK K)
              refine ⟨k + 1, by omega, by omega, ?_⟩
              rw [hns]
              refine le_of_all ?_ ?_ rfl rfl rfl rfl <;> simp only [patch, sl, List.length_map, hlk, decide_true]
            | false =>
              rw [hB, Bool.false_or] at hns
              cases h1 : (L[k].entry == g.1) with
              | true =>
                rw [h1, Bool.true_or] at hns
                repeat' (first | (with_reducible first | refine Vk fun K hK => ?_ | refine V0 ?_ | refine Vb ?_ | refine Vc ?_ | refine Vr ?_ | refine Vs ?_ | apply And.intro | refine Vd 16 [] [[],[],[],[1],[],[],[],[],[],[1],[],[],[],[],[],[],[],[],[1],[],[],[],[],[],[1],[],[],[],[],[],[],[]] [[],[],[],[],[],[],[],[],[],[],[],[],[],[],[],[],[],[],[],[],[],[],[],[],[],[],[],[],[],[],[],[]] (by kernel_rfl) (by decide) (by decide) (by kernel_rfl) ?_ | refine Vq (by kernel_rfl) ?_) | ((with_reducible first | refine gE ?_ | refine gR ?_ | refine gD ?_ | refine gF ?_); simp (maxSteps:=9^7) only [ss, evLit, tab, reduceCtorEq, reduceIte, Nat.reduceEqDiff, Nat.reduceBEq, Int.reduceLE, Int.reduceToNat, Nat.reduceAdd, Nat.reduceLT, Nat.reduceLeDiff, sg, List.length_map, hlt, hlk, gi, gk, sgC, rtC, h1, hwk]) | exact Vn | ((with_reducible refine Vz ?_); refine Vo rfl rfl rfl (fun _ _ => rfl) ?_ <;> first | rfl | skip) | ((with_reducible first | refine Vg (fun hg => ?_) (fun hg => ?_) | refine gselD_case (fun hg => ?_) (fun hg => ?_)) <;> (try simp only [nb] at hg) <;> simp (maxSteps:=9^7) only [ss, evLit, tab, reduceCtorEq, reduceIte, Nat.reduceEqDiff, Nat.reduceBEq, Int.reduceLE, Int.reduceToNat, Nat.reduceAdd, Nat.reduceLT, Nat.reduceLeDiff, hg, sg, List.length_map, hlt, hlk, gi, gk, sgC, rtC, h1, hwk]) | ((with_reducible refine Vx ?_); simp only [sb, reduceIte, Nat.reduceEqDiff]) | (refine hK _ ?_; clear hK K) | refine Vt rfl ?_ | refine Vf rfl ?_ | refine Vi rfl (fun hg => ?_) (fun hg => ?_) | clear hK K)
                refine ⟨k + 1, by omega, by omega, ?_⟩
                rw [hns]
                refine le_of_all ?_ ?_ rfl rfl rfl rfl <;> simp only [patch, sl, List.length_map, hlk, decide_true]
              | false =>
                rw [h1, Bool.false_or] at hns
                repeat' (first | (with_reducible first | refine Vk fun K hK => ?_ | refine V0 ?_ | refine Vb ?_ | refine Vc ?_ | refine Vr ?_ | refine Vs ?_ | apply And.intro | refine Vd 16 [] [[],[],[],[1],[],[],[],[],[],[1],[],[],[],[],[],[],[],[],[1],[],[],[],[],[],[1],[],[],[],[],[],[],[]] [[],[],[],[],[],[],[],[],[],[],[],[],[],[],[],[],[],[],[],[],[],[],[],[],[],[],[],[],[],[],[],[]] (by kernel_rfl) (by decide) (by decide) (by kernel_rfl) ?_ | refine Vq (by kernel_rfl) ?_) | ((with_reducible first | refine gE ?_ | refine gR ?_ | refine gD ?_ | refine gF ?_); simp (maxSteps:=9^7) only [ss, evLit, tab, reduceCtorEq, reduceIte, Nat.reduceEqDiff, Nat.reduceBEq, Int.reduceLE, Int.reduceToNat, Nat.reduceAdd, Nat.reduceLT, Nat.reduceLeDiff, sg, List.length_map, hlt, hlk, gi, gk, sgC, rtC, h1, hwk]) | exact Vn | ((with_reducible refine Vz ?_); refine Vo rfl rfl rfl (fun _ _ => rfl) ?_ <;> first | rfl | skip) | ((with_reducible first | refine Vg (fun hg => ?_) (fun hg => ?_) | refine gselD_case (fun hg => ?_) (fun hg => ?_)) <;> (try simp only [nb] at hg) <;> simp (maxSteps:=9^7) only [ss, evLit, tab, reduceCtorEq, reduceIte, Nat.reduceEqDiff, Nat.reduceBEq, Int.reduceLE, Int.reduceToNat, Nat.reduceAdd, Nat.reduceLT, Nat.reduceLeDiff, hg, sg, List.length_map, hlt, hlk, gi, gk, sgC, rtC, h1, hwk]) | ((with_reducible refine Vx ?_); simp only [sb, reduceIte, Nat.reduceEqDiff]) | (refine hK _ ?_; clear hK K) | refine Vt rfl ?_ | refine Vf rfl ?_ | refine Vi rfl (fun hg => ?_) (fun hg => ?_) | clear hK K)
                refine ⟨k + 1, by omega, by omega, ?_⟩
                rw [hns]
                refine le_of_all ?_ ?_ rfl rfl rfl rfl <;> simp only [patch, sl, List.length_map, hlk, decide_true]
          · obtain rfl : k = L.length := by omega
            rw [List.take_length]
            cases hB : namedB L g with
            | true =>
              rw [hB, if_pos rfl] at hfs
              have hfm : ((p.sgs.take i).filter (namedB L)).map sgC ++ [[i64 g.1, i64 g.2.1, i64 g.2.2]] = ((p.sgs.take (i + 1)).filter (namedB L)).map sgC := by rw [hfs, List.map_append]; rfl
              have hfn : ((p.sgs.take i).filter (namedB L)).length + 1 = ((p.sgs.take (i + 1)).filter (namedB L)).length := by rw [hfs, List.length_append]; rfl
              repeat' (first | (with_reducible first | refine Vk fun K hK => ?_ | refine V0 ?_ | refine Vb ?_ | refine Vc ?_ | refine Vr ?_ | refine Vs ?_ | apply And.intro | refine Vq (by kernel_rfl) ?_) | ((with_reducible first | refine gE ?_ | refine gR ?_); simp (maxSteps:=9^7) only [ss, tab, reduceCtorEq, reduceIte, Nat.reduceEqDiff, Nat.reduceBEq, Int.reduceLE, Int.reduceToNat, Nat.reduceAdd, Nat.reduceLT, Nat.reduceLeDiff, lit, List.length_map, hlt, hlk, gi, sgC, y1, y2, hw]) | exact Vn | ((with_reducible refine Vz ?_); refine Vo rfl rfl rfl (fun _ _ => rfl) ?_ <;> first | rfl | skip) | ((with_reducible refine Vg (fun hg => ?_) (fun hg => ?_)) <;> (try simp only [nb] at hg) <;> simp (maxSteps:=9^7) only [ss, tab, reduceCtorEq, reduceIte, Nat.reduceEqDiff, Nat.reduceBEq, Int.reduceLE, Int.reduceToNat, Nat.reduceAdd, Nat.reduceLT, Nat.reduceLeDiff, hg, lit, List.length_map, hlt, hlk, gi, sgC, y1, y2, hw]) | ((with_reducible refine Vx ?_); simp only [sb, reduceIte, Nat.reduceEqDiff]) | (refine hK _ ?_; clear hK K) | refine Vt rfl ?_ | refine Vf rfl ?_ | refine Vi rfl (fun hg => ?_) (fun hg => ?_) | clear hK K)
              rw [hfm, hfn]
              refine ⟨i + 1, by omega, by omega, ?_⟩
              refine le_of_all ?_ ?_ rfl rfl rfl rfl <;> simp only [patch, sl, List.length_map, hlt, decide_true]
            | false =>
              rw [hB, if_neg (by decide), List.append_nil] at hfs
              repeat' (first | (with_reducible first | refine Vk fun K hK => ?_ | refine V0 ?_ | refine Vb ?_ | refine Vc ?_ | refine Vr ?_ | refine Vs ?_ | apply And.intro | refine Vq (by kernel_rfl) ?_) | ((with_reducible first | refine gE ?_ | refine gR ?_); simp (maxSteps:=9^7) only [ss, evLit, tab, reduceCtorEq, reduceIte, Nat.reduceEqDiff, Nat.reduceBEq, Int.reduceLE, Int.reduceToNat, Nat.reduceAdd, Nat.reduceLT, Nat.reduceLeDiff, List.length_map, hlt, hlk, hw]) | exact Vn | ((with_reducible refine Vz ?_); refine Vo rfl rfl rfl (fun _ _ => rfl) ?_ <;> first | rfl | skip) | ((with_reducible refine Vg (fun hg => ?_) (fun hg => ?_)) <;> (try simp only [nb] at hg) <;> simp (maxSteps:=9^7) only [ss, evLit, tab, reduceCtorEq, reduceIte, Nat.reduceEqDiff, Nat.reduceBEq, Int.reduceLE, Int.reduceToNat, Nat.reduceAdd, Nat.reduceLT, Nat.reduceLeDiff, hg, List.length_map, hlt, hlk, hw]) | ((with_reducible refine Vx ?_); simp only [sb, reduceIte, Nat.reduceEqDiff]) | (refine hK _ ?_; clear hK K) | refine Vt rfl ?_ | refine Vf rfl ?_ | refine Vi rfl (fun hg => ?_) (fun hg => ?_) | clear hK K)
              rw [← hfs]
              refine ⟨i + 1, by omega, by omega, ?_⟩
              refine le_of_all ?_ ?_ rfl rfl rfl rfl <;> simp only [patch, sl, List.length_map, hlt, decide_true]
        · obtain rfl : i = p.sgs.length := by omega
          rw [List.take_length]
          have hsub' := hsub
          by_cases hv : p.ver < 2147483647
          · have cq := c_pcheck (lessP p (p.ver + 1) p.ver L) (less_sm hs _ _ hsub)
            rw [may_less hmy (by omega) hsub, if_pos rfl] at cq
            have cq' := acall_le cq (args' := [.agg [i64 (p.ver + 1), i64 p.ver, .sl 3 (p.secs.map secC) .sh, .sl 2 (p.pts.map jnC) .sh, .sl 3 ((p.sgs.filter (namedB L)).map sgC) (.own (n + 3)), .sl 7 (L.map rtC) .sh]]) ⟨by simp only [plA, plC, lessP, patch, sl], trivial⟩
            have hvI : decide (p.ver < 2147483647) = true := decide_eq_true hv
            have hva : IntKind.i64.wrap (p.ver + 1) = p.ver + 1 := by rw [wrap_i64] <;> omega
            repeat' (first | (with_reducible first | refine Vk fun K hK => ?_ | refine V0 ?_ | refine Vb ?_ | refine Vc ?_ | refine Vr ?_ | refine Vs ?_ | apply And.intro | refine Vq (by kernel_rfl) ?_) | ((with_reducible first | refine gE ?_ | refine gR ?_); simp (maxSteps:=9^7) only [ss, evLit, tab, reduceCtorEq, reduceIte, Nat.reduceEqDiff, Nat.reduceBEq, Int.reduceLE, Int.reduceToNat, Nat.reduceAdd, Nat.reduceLT, Nat.reduceLeDiff, List.length_map, hlt, hv, hvI, hva, splice_all, Int.reduceBEq]) | exact Vn | ((with_reducible refine Vz ?_); refine Vo rfl rfl rfl (fun _ _ => rfl) ?_ <;> first | rfl | skip) | (refine call_pure (cq') ?_) | ((with_reducible refine Vg (fun hg => ?_) (fun hg => ?_)) <;> (try simp only [nb] at hg) <;> simp (maxSteps:=9^7) only [ss, evLit, tab, reduceCtorEq, reduceIte, Nat.reduceEqDiff, Nat.reduceBEq, Int.reduceLE, Int.reduceToNat, Nat.reduceAdd, Nat.reduceLT, Nat.reduceLeDiff, hg, List.length_map, hlt, hv, hvI, hva, splice_all, Int.reduceBEq]) | ((with_reducible refine Vx ?_); simp only [sb, reduceIte, Nat.reduceEqDiff]) | (refine hK _ ?_; clear hK K) | refine Vt rfl ?_ | refine Vf rfl ?_ | refine Vi rfl (fun hg => ?_) (fun hg => ?_) | clear hK K)
          · have cq := c_pcheck (lessP p p.ver p.par L) (less_sm hs _ _ hsub)
            rw [may_less hmy (by omega) hsub, if_pos rfl] at cq
            have cq' := acall_le cq (args' := [.agg [i64 p.ver, i64 p.par, .sl 3 (p.secs.map secC) .sh, .sl 2 (p.pts.map jnC) .sh, .sl 3 ((p.sgs.filter (namedB L)).map sgC) (.own (n + 3)), .sl 7 (L.map rtC) .sh]]) ⟨by simp only [plA, plC, lessP, patch, sl], trivial⟩
            have hvI : decide (p.ver < 2147483647) = false := decide_eq_false hv
            repeat' (first | (with_reducible first | refine Vk fun K hK => ?_ | refine V0 ?_ | refine Vb ?_ | refine Vc ?_ | refine Vr ?_ | refine Vs ?_ | apply And.intro | refine Vq (by kernel_rfl) ?_) | ((with_reducible first | refine gE ?_ | refine gR ?_); simp (maxSteps:=9^7) only [ss, evLit, tab, reduceCtorEq, reduceIte, Nat.reduceEqDiff, Nat.reduceBEq, Int.reduceLE, Int.reduceToNat, Nat.reduceAdd, Nat.reduceLT, Nat.reduceLeDiff, List.length_map, hlt, hv, hvI, splice_all, Int.reduceBEq]) | exact Vn | ((with_reducible refine Vz ?_); refine Vo rfl rfl rfl (fun _ _ => rfl) ?_ <;> first | rfl | skip) | (refine call_pure (cq') ?_) | ((with_reducible refine Vg (fun hg => ?_) (fun hg => ?_)) <;> (try simp only [nb] at hg) <;> simp (maxSteps:=9^7) only [ss, evLit, tab, reduceCtorEq, reduceIte, Nat.reduceEqDiff, Nat.reduceBEq, Int.reduceLE, Int.reduceToNat, Nat.reduceAdd, Nat.reduceLT, Nat.reduceLeDiff, hg, List.length_map, hlt, hv, hvI, splice_all, Int.reduceBEq]) | ((with_reducible refine Vx ?_); simp only [sb, reduceIte, Nat.reduceEqDiff]) | (refine hK _ ?_; clear hK K) | refine Vt rfl ?_ | refine Vf rfl ?_ | refine Vi rfl (fun hg => ?_) (fun hg => ?_) | clear hK K)
end Go.Proofs.Ytdkiciofkifpdaa.Pln
