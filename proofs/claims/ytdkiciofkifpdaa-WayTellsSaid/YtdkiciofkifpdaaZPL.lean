/- The layer of abstract values, joined: PL. -/
import Derived.Test.YtdkiciofkifpdaaZGA
import Derived.Test.YtdkiciofkifpdaaZPS
import Derived.Test.YtdkiciofkifpdaaZPP
section
namespace Go.Proofs.Ytdkiciofkifpdaa.Pln
set_option linter.unusedVariables false
set_option linter.unusedSimpArgs false
open Go Go.VS Tab
set_option maxHeartbeats 8000000
set_option maxRecDepth 4000
def badH (p : Pl) : Bool := decide (p.ver < 1) || decide (p.ver > 2147483647) || decide (p.par < 0) || decide (p.par ≥ p.ver) || decide ((p.rts.length : Int) > 16)
def okRt (p : Pl) (i : Nat) : Bool := match p.rts[i]? with
  | some x => rises ((p.rts.take i).map Rt.id) x.id && okR p x
  | none => true
theorem okRt_eq {p : Pl} {i : Nat} (hi : i < p.rts.length) : okRt p i = (rises ((p.rts.take i).map Rt.id) p.rts[i].id && okR p p.rts[i]) := by
  unfold okRt; rw [List.getElem?_eq_getElem hi]
theorem mayP_eq2 (p : Pl) : mayP p = (!badH p && mayS p.secs && ptsOk p && sgsOk p && allP rises (p.rts.map Rt.id) && p.rts.all (okR p)) := by
  have e : (headOk p && decide (p.rts.length ≤ 16)) = !badH p := by
    rw [Bool.eq_iff_iff]; simp [headOk, badH]; omega
  unfold mayP
  rw [← e]
  generalize headOk p = A
  generalize mayS p.secs = B
  generalize ptsOk p = C
  generalize sgsOk p = D
  generalize decide (p.rts.length ≤ 16) = E
  generalize allP rises (p.rts.map Rt.id) = F
  cases A <;> cases B <;> cases C <;> cases D <;> cases E <;> cases F <;> rfl
theorem mayP_bad {p : Pl} {i : Nat} (hi : i < p.rts.length) (h : okRt p i = false) : mayP p = false := by
  rw [mayP_eq2]
  rw [okRt_eq hi, Bool.and_eq_false_iff] at h
  rcases h with h | h
  · rw [rise_bad (g := Rt.id) hi h]; simp
  · rw [all_false hi h, Bool.and_false]
theorem mayP_all {p : Pl} (h : ∀ i (hi : i < p.rts.length), okRt p i = true) : mayP p = (!badH p && mayS p.secs && ptsOk p && sgsOk p) := by
  have h1 : allP rises (p.rts.map Rt.id) = true := rise_map.2 fun i hi => by
    have := h i hi; rw [okRt_eq hi, Bool.and_eq_true] at this; exact this.1
  have h2 : p.rts.all (okR p) = true := all_true fun i hi => by
    have := h i hi; rw [okRt_eq hi, Bool.and_eq_true] at this; exact this.2
  rw [mayP_eq2, h1, h2, Bool.and_true, Bool.and_true]
theorem c_rmay (p : Pl) (hs : Sm p) : ACall Try.prog 75 [plA p] [] (bool (mayP p)) [] := by
  have h1 := hs.rts
  have cA := c_rmayS p.secs (by have := hs.secs; omega) (fun s h => by have := hs.ends s h; omega)
  have cB := c_rpoints p hs
  have cC := c_rsignals p hs
  have cR := fun r h => c_rroute p r hs (hs.rt r h)
  simp only [plA, plC] at cB cC cR
  cases hG : (!badH p && mayS p.secs && ptsOk p && sgsOk p) with
  | false =>
    have hno : mayP p = false := by rw [mayP_eq2, hG]; rfl
    rw [hno]
    unfold badH at hG
    clear hno cR
    generalize mayS p.secs = MA at *
    generalize ptsOk p = MB at *
    generalize sgsOk p = MC at *
    refine acall_of 2 Try.func75 rfl fun n out _ _ => ?_
    simp only [Try.ntmps75, List.length_cons, List.length_nil, List.length_map, List.length_replicate, rep_map, Nat.reduceAdd, Nat.reduceSub, List.replicate, List.cons_append, List.nil_append]
    repeat' (first | (with_reducible first | refine Vk fun K hK => ?_ | refine V0 ?_ | refine Vb ?_ | refine Vc ?_ | refine Vr ?_ | refine Vs ?_ | apply And.intro | refine Vq (by kernel_rfl) ?_) | ((with_reducible first | refine gE ?_ | refine gR ?_); simp (maxSteps:=9^7) only [ss, evLit, tab, reduceCtorEq, reduceIte, Nat.reduceEqDiff, Nat.reduceBEq, Int.reduceLE, Int.reduceToNat, Nat.reduceAdd, Nat.reduceLT, Nat.reduceLeDiff, plA, plC, List.length_map]) | exact Vn | ((with_reducible refine Vz ?_); refine Vo rfl rfl rfl (fun _ _ => rfl) ?_ <;> first | rfl | skip) | (refine call_pure (cA) ?_) | (refine call_pure (cB) ?_) | (refine call_pure (cC) ?_) | ((with_reducible refine Vg (fun hg => ?_) (fun hg => ?_)) <;> (try simp only [nb] at hg) <;> simp (maxSteps:=9^7) only [ss, evLit, tab, reduceCtorEq, reduceIte, Nat.reduceEqDiff, Nat.reduceBEq, Int.reduceLE, Int.reduceToNat, Nat.reduceAdd, Nat.reduceLT, Nat.reduceLeDiff, hg, plA, plC, List.length_map]) | ((with_reducible refine Vx ?_); simp only [sb, reduceIte, Nat.reduceEqDiff]) | (refine hK _ ?_; clear hK K) | refine Vt rfl ?_ | refine Vf rfl ?_ | refine Vi rfl (fun hg => ?_) (fun hg => ?_) | clear hK K)
    all_goals (exfalso; simp_all; done)
  | true =>
    have hmay := mayP_all (p := p)
    rw [hG] at hmay
    simp only [Bool.and_eq_true] at hG
    obtain ⟨⟨⟨g1, g2⟩, g3⟩, g4⟩ := hG
    rw [g2] at cA
    rw [g3] at cB
    rw [g4] at cC
    unfold badH at g1
    simp only [Bool.not_eq_true', Bool.or_eq_false_iff] at g1
    obtain ⟨⟨⟨⟨d1, d2⟩, d3⟩, d4⟩, d5⟩ := g1
    clear g2 g3 g4
    refine acall_of 2 Try.func75 rfl fun n out _ _ => ?_
    simp only [Try.ntmps75, List.length_cons, List.length_nil, List.length_map, List.length_replicate, rep_map, Nat.reduceAdd, Nat.reduceSub, List.replicate, List.cons_append, List.nil_append]
    repeat' (first | (with_reducible first | refine Vk fun K hK => ?_ | refine V0 ?_ | refine Vb ?_ | refine Vc ?_ | refine Vr ?_ | refine Vs ?_ | apply And.intro | refine Vq (by kernel_rfl) ?_) | ((with_reducible first | refine gE ?_ | refine gR ?_); simp (maxSteps:=9^7) only [ss, evLit, tab, reduceCtorEq, reduceIte, Nat.reduceEqDiff, Nat.reduceBEq, Int.reduceLE, Int.reduceToNat, Nat.reduceAdd, Nat.reduceLT, Nat.reduceLeDiff, plA, plC, List.length_map, d1, d2, d3, d4, d5]) | exact Vn | ((with_reducible refine Vz ?_); refine Vo rfl rfl rfl (fun _ _ => rfl) ?_ <;> first | rfl | skip) | (refine call_pure (cA) ?_) | (refine call_pure (cB) ?_) | (refine call_pure (cC) ?_) | ((with_reducible refine Vg (fun hg => ?_) (fun hg => ?_)) <;> (try simp only [nb] at hg) <;> simp (maxSteps:=9^7) only [ss, evLit, tab, reduceCtorEq, reduceIte, Nat.reduceEqDiff, Nat.reduceBEq, Int.reduceLE, Int.reduceToNat, Nat.reduceAdd, Nat.reduceLT, Nat.reduceLeDiff, hg, plA, plC, List.length_map, d1, d2, d3, d4, d5]) | ((with_reducible refine Vx ?_); simp only [sb, reduceIte, Nat.reduceEqDiff]) | (refine hK _ ?_; clear hK K) | refine Vt rfl ?_ | refine Vf rfl ?_ | refine Vi rfl (fun hg => ?_) (fun hg => ?_) | clear hK K)
    refine awp_block ?_
    refine awp_for_mv (fun m (i : Nat) => [(3, i64 (i : Int)), (1, .ptr (m + 0) 0), (2, .top), (4, .top), (45, .top), (46, .top), (47, .top), (48, .top), (49, .top), (50, .top), (51, .top), (52, .top), (53, .top), (54, .top), (55, .top), (56, .top), (57, .top), (58, .top), (59, .top), (60, .top), (61, .top), (62, .top), (63, .top), (64, .top), (65, .top), (66, .top), (67, .top), (68, .top), (69, .top), (70, .top), (71, .top), (72, .top), (73, .top), (74, .top), (75, .top), (76, .top), (77, .top), (78, .top), (79, .top), (80, .top), (81, .top), (82, .top), (83, .top), (84, .top), (85, .top), (86, .top)]) (fun m i => [some (.box 27 (plC p)), none]) (fun i => out) (fun i => i ≤ p.rts.length ∧ (∀ j, j < i → okRt p j = true)) (fun i => p.rts.length - i) 0 ⟨Nat.zero_le _, by intros; omega⟩ ?_ fun m i hm hi => ?_
    · refine le_of_all ?_ ?_ (by first | rfl | (simp only [plC, List.length_map]; rfl) | simp only [plC, List.length_map]) rfl rfl rfl <;> simp only [patch, sl, plC, List.length_map]
    obtain ⟨hi, hq⟩ := hi
    simp only [patch, s_0, s_s]
    have hw := addw (n := i) 1 1 rfl (by omega)
    by_cases hlt : i < p.rts.length
    · have gi := getD_map rtC p.rts i [] hlt
      have ca := cR _ (List.getElem_mem hlt)
      simp only [rtA, rtC] at ca
      have ho := okRt_eq hlt
      rw [rise_adj Rt.id p.rts i hlt fun j hj => by
        have := hq j hj; rw [okRt_eq (by omega), Bool.and_eq_true] at this; exact this.1, numb_eq] at ho
      have next : okRt p i = true → ∀ j, j < i + 1 → okRt p j = true := fun h j hj => by
        by_cases h' : j = i
        · subst h'; exact h
        · exact hq j (by omega)
      have bad : okRt p i = false → mayP p = false := fun h => mayP_bad hlt h
      clear hq
      generalize okRt p i = O at *
      generalize okR p p.rts[i] = OK at *
      by_cases h0 : i = 0
      · have hd0 : decide ((i : Int) > 0) = false := decide_eq_false (by omega)
        rw [decide_eq_true h0, Bool.true_or, Bool.and_true] at ho
        repeat' (first | (with_reducible first | refine Vk fun K hK => ?_ | refine V0 ?_ | refine Vb ?_ | refine Vc ?_ | refine Vr ?_ | refine Vs ?_ | apply And.intro | refine Vd 9 [] [[],[1],[],[],[],[1],[],[],[],[],[],[],[],[0],[],[],[],[],[],[],[1],[],[],[],[],[0],[1],[],[],[]] [[],[],[],[],[],[],[],[],[],[],[],[],[],[],[],[],[],[],[],[],[],[],[],[],[],[],[],[],[],[]] (by kernel_rfl) (by decide) (by decide) (by kernel_rfl) ?_ | refine Vq (by kernel_rfl) ?_) | ((with_reducible first | refine gE ?_ | refine gR ?_ | refine gD ?_ | refine gF ?_); simp (maxSteps:=9^7) only [ss, evLit, tab, reduceCtorEq, reduceIte, Nat.reduceEqDiff, Nat.reduceBEq, Int.reduceLE, Int.reduceToNat, Nat.reduceAdd, Nat.reduceLT, Nat.reduceLeDiff, sg, locM hm, plC, List.length_map, hlt, gi, rtC, splice_all, hd0, hw]) | exact Vn | ((with_reducible refine Vz ?_); refine Vo rfl rfl rfl (fun _ _ => rfl) ?_ <;> first | rfl | (rw [bad (by rw [ho]; simp_all)]; rfl) | skip) | (refine call_pure (ca) ?_) | ((with_reducible first | refine Vg (fun hg => ?_) (fun hg => ?_) | refine gselD_case (fun hg => ?_) (fun hg => ?_)) <;> (try simp only [nb] at hg) <;> simp (maxSteps:=9^7) only [ss, evLit, tab, reduceCtorEq, reduceIte, Nat.reduceEqDiff, Nat.reduceBEq, Int.reduceLE, Int.reduceToNat, Nat.reduceAdd, Nat.reduceLT, Nat.reduceLeDiff, hg, sg, locM hm, plC, List.length_map, hlt, gi, rtC, splice_all, hd0, hw]) | ((with_reducible refine Vx ?_); simp only [sb, reduceIte, Nat.reduceEqDiff]) | (refine hK _ ?_; clear hK K) | refine Vt rfl ?_ | refine Vf rfl ?_ | refine Vi rfl (fun hg => ?_) (fun hg => ?_) | clear hK K)
        refine ⟨i + 1, ⟨by omega, next (by rw [ho]; simp_all)⟩, by omega, ?_⟩
        refine le_move [true, false] (fun n_ => ?_) (fun n_ => ?_) <;> simp only [patch, sm, plC, hlt, decide_true]
      · have hd0 : decide ((i : Int) > 0) = true := decide_eq_true (by omega)
        have hs1 := subw (n := i) 1 1 rfl (by omega) (by omega)
        have hl1 : i - 1 < p.rts.length := by omega
        have g1 := getD_map rtC p.rts (i - 1) [] hl1
        have hge : decide (p.rts[i - 1].id ≥ p.rts[i].id) = !decide (p.rts[i - 1].id < p.rts[i].id) := by rw [Bool.eq_iff_iff]; simp
        rw [decide_eq_false h0, Bool.false_or] at ho
        generalize decide (p.rts[i - 1].id < p.rts[i].id) = D at hge ho
        repeat' (first | (with_reducible first | refine Vk fun K hK => ?_ | refine V0 ?_ | refine Vb ?_ | refine Vc ?_ | refine Vr ?_ | refine Vs ?_ | apply And.intro | refine Vd 9 [] [[],[1],[],[],[],[1],[],[],[],[],[],[],[],[0],[],[],[],[],[],[],[1],[],[],[],[],[0],[1],[],[],[]] [[],[],[],[],[],[],[],[],[],[],[],[],[],[],[],[],[],[],[],[],[],[],[],[],[],[],[],[],[],[]] (by kernel_rfl) (by decide) (by decide) (by kernel_rfl) ?_ | refine Vq (by kernel_rfl) ?_) | ((with_reducible first | refine gE ?_ | refine gR ?_ | refine gD ?_ | refine gF ?_); simp (maxSteps:=9^7) only [ss, evLit, tab, reduceCtorEq, reduceIte, Nat.reduceEqDiff, Nat.reduceBEq, Int.reduceLE, Int.reduceToNat, Nat.reduceAdd, Nat.reduceLT, Nat.reduceLeDiff, sg, locM hm, plC, List.length_map, hlt, gi, rtC, splice_all, hd0, hs1, hl1, g1, hge, hw]) | exact Vn | ((with_reducible refine Vz ?_); refine Vo rfl rfl rfl (fun _ _ => rfl) ?_ <;> first | rfl | (rw [bad (by rw [ho]; clear hge; simp_all)]; rfl) | skip) | (refine call_pure (ca) ?_) | ((with_reducible first | refine Vg (fun hg => ?_) (fun hg => ?_) | refine gselD_case (fun hg => ?_) (fun hg => ?_)) <;> (try simp only [nb] at hg) <;> simp (maxSteps:=9^7) only [ss, evLit, tab, reduceCtorEq, reduceIte, Nat.reduceEqDiff, Nat.reduceBEq, Int.reduceLE, Int.reduceToNat, Nat.reduceAdd, Nat.reduceLT, Nat.reduceLeDiff, hg, sg, locM hm, plC, List.length_map, hlt, gi, rtC, splice_all, hd0, hs1, hl1, g1, hge, hw]) | ((with_reducible refine Vx ?_); simp only [sb, reduceIte, Nat.reduceEqDiff]) | (refine hK _ ?_; clear hK K) | refine Vt rfl ?_ | refine Vf rfl ?_ | refine Vi rfl (fun hg => ?_) (fun hg => ?_) | clear hK K)
        refine ⟨i + 1, ⟨by omega, next (by rw [ho]; clear hge; simp_all)⟩, by omega, ?_⟩
        refine le_move [true, false] (fun n_ => ?_) (fun n_ => ?_) <;> simp only [patch, sm, plC, hlt, decide_true]
    · have e := hmay fun j hj => hq j (by omega)
      repeat' (first | (with_reducible first | refine Vk fun K hK => ?_ | refine V0 ?_ | refine Vb ?_ | refine Vc ?_ | refine Vr ?_ | refine Vs ?_ | apply And.intro | refine Vq (by kernel_rfl) ?_) | ((with_reducible first | refine gE ?_ | refine gR ?_); simp (maxSteps:=9^7) only [ss, evLit, tab, reduceCtorEq, reduceIte, Nat.reduceEqDiff, Nat.reduceBEq, Int.reduceLE, Int.reduceToNat, Nat.reduceAdd, Nat.reduceLT, Nat.reduceLeDiff, locM hm, plC, List.length_map, hlt]) | exact Vn | ((with_reducible refine Vz ?_); refine Vo rfl rfl rfl (fun _ _ => rfl) ?_ <;> first | rfl | (rw [e]; rfl) | skip) | ((with_reducible refine Vg (fun hg => ?_) (fun hg => ?_)) <;> (try simp only [nb] at hg) <;> simp (maxSteps:=9^7) only [ss, evLit, tab, reduceCtorEq, reduceIte, Nat.reduceEqDiff, Nat.reduceBEq, Int.reduceLE, Int.reduceToNat, Nat.reduceAdd, Nat.reduceLT, Nat.reduceLeDiff, hg, locM hm, plC, List.length_map, hlt]) | ((with_reducible refine Vx ?_); simp only [sb, reduceIte, Nat.reduceEqDiff]) | (refine hK _ ?_; clear hK K) | refine Vt rfl ?_ | refine Vf rfl ?_ | refine Vi rfl (fun hg => ?_) (fun hg => ?_) | clear hK K)
end Go.Proofs.Ytdkiciofkifpdaa.Pln
end
section
namespace Go.Proofs.Ytdkiciofkifpdaa.Pln
set_option linter.unusedVariables false
set_option linter.unusedSimpArgs false
open Go Go.VS Tab
set_option maxHeartbeats 8000000
set_option maxRecDepth 4000
theorem c_rtwinR (r : Rt) (h : r.path.length ≤ 20 ∧ r.over.length ≤ 20 ∧ r.flanks.length ≤ 20) : ACall Try.prog 65 [rtA r] [] (rtA r) [] := by
  obtain ⟨h1, h2, h3⟩ := h
  have a1 : r.path.length * 8 ≤ 140737488355328 := by omega
  have a2 : r.path.length ≤ 9223372036854775807 := by omega
  have a3 : r.over.length * 8 ≤ 140737488355328 := by omega
  have a4 : r.over.length ≤ 9223372036854775807 := by omega
  have a5 : r.flanks.length * 16 ≤ 140737488355328 := by omega
  have a6 : r.flanks.length ≤ 9223372036854775807 := by omega
  refine acall_of 3 Try.func65 rfl fun n out _ _ => ?_
  simp only [Try.ntmps65, List.length_cons, List.length_nil, List.length_map, List.length_replicate, rep_map, Nat.reduceAdd, Nat.reduceSub, List.replicate, List.cons_append, List.nil_append]
  repeat' (first | (with_reducible first | refine Vk fun K hK => ?_ | refine V0 ?_ | refine Vs ?_ | apply And.intro) | ((with_reducible first | refine gE ?_ | refine gR ?_); simp (maxSteps:=9^7) only [ss, evLit, tab, reduceCtorEq, reduceIte, Nat.reduceEqDiff, Nat.reduceBEq, Int.reduceLE, Int.reduceToNat, Nat.reduceAdd, Nat.reduceLT, Nat.reduceLeDiff, rtA, rtC, splice_all, List.length_map, a1, a2, a3, a4, a5, a6]) | exact Vn | ((with_reducible refine Vz ?_); (first | refine ret_cell_le (.inr rfl) rfl rfl rfl (fun _ _ => rfl) ok34 (k := n + 1) (off := 0) rfl (dom_loc _ (by simp)) (look_loc _ (Nat.le_refl _) 1) rfl ?_ | refine ret_cell_le (.inr rfl) rfl rfl rfl (fun _ _ => rfl) ok34 (k := m + 1) (off := 0) rfl (dom_loc _ (by simp)) (look_loc _ hm 1) rfl ?_) <;> first | rfl | exact AV.le.rfl _ | (simp only [patch, sl, ti34, List.map_nil, rtA, rtC, splice_all, List.length_map, a1, a2, a3, a4, a5, a6]; done) | rfl | skip) | (refine hK _ ?_; clear hK K) | clear hK K)
end Go.Proofs.Ytdkiciofkifpdaa.Pln
end
