/- The layer of abstract values, joined: PK. -/
import Derived.Test.YtdkiciofkifpdaaZGA
import Derived.Test.YtdkiciofkifpdaaZPQ
import Derived.Test.YtdkiciofkifpdaaZP15
section
namespace Go.Proofs.Ytdkiciofkifpdaa.Pln
set_option linter.unusedVariables false
set_option linter.unusedSimpArgs false
open Go Go.VS Tab
set_option maxHeartbeats 4000000
set_option maxRecDepth 4000
theorem rise_adj {α : Type} (g : α → Int) (l : List α) (i : Nat) (hi : i < l.length) (hq : ∀ j (hj : j < i), rises ((l.take j).map g) (g (l[j]'(by omega))) = true) :
    rises ((l.take i).map g) (g l[i]) = (numb (g l[i]) && (decide (i = 0) || decide (g (l[i - 1]'(by omega)) < g l[i]))) := by
  unfold rises
  rw [List.all_map, ← adj_all g l i hi fun j hj k hk => by
    have h := hq j hj
    simp only [rises, Bool.and_eq_true, List.all_map, List.all_eq_true, Function.comp_apply, decide_eq_true_eq] at h
    exact h.2 _ (mem_take_of hk (by omega))]
  rfl
theorem rise_map {α : Type} {g : α → Int} {l : List α} : allP rises (l.map g) = true ↔ ∀ i (hi : i < l.length), rises ((l.take i).map g) (g l[i]) = true := by
  rw [allP_iff]
  constructor
  · intro h i hi
    have := h i (by simpa using hi)
    rwa [← List.map_take, List.getElem_map] at this
  · intro h i hi
    have hi' : i < l.length := by simpa using hi
    have := h i hi'
    rw [List.getElem_map, ← List.map_take]
    exact this
theorem rise_bad {α : Type} {g : α → Int} {l : List α} {i : Nat} (hi : i < l.length) (h : rises ((l.take i).map g) (g l[i]) = false) : allP rises (l.map g) = false := by
  rw [Bool.eq_false_iff]
  intro h'
  rw [rise_map.1 h' i hi] at h; cases h
theorem numb_eq (n : Int) : numb n = (!decide (n < 1) && !decide (n > 99)) := by
  rw [Bool.eq_iff_iff, numb_iff]; simp
def okPt (p : Pl) (i : Nat) : Bool := match p.pts[i]? with
  | some x => rises ((p.pts.take i).map Prod.fst) x.1 && okP p x
  | none => true
theorem okPt_eq {p : Pl} {i : Nat} (hi : i < p.pts.length) : okPt p i = (rises ((p.pts.take i).map Prod.fst) p.pts[i].1 && okP p p.pts[i]) := by
  unfold okPt; rw [List.getElem?_eq_getElem hi]
theorem ptsOk_bad {p : Pl} {i : Nat} (hi : i < p.pts.length) (h : okPt p i = false) : ptsOk p = false := by
  unfold ptsOk
  rw [okPt_eq hi, Bool.and_eq_false_iff] at h
  rcases h with h | h
  · rw [rise_bad (g := Prod.fst) hi h]; simp
  · rw [all_false hi h, Bool.and_false]
theorem ptsOk_all {p : Pl} (h : ∀ i (hi : i < p.pts.length), okPt p i = true) : ptsOk p = (decide ((p.pts.length : Int) ≤ 6) && ((cntP p.secs : Nat) : Int) == (p.pts.length : Int)) := by
  have h1 : allP rises (p.pts.map Prod.fst) = true := rise_map.2 fun i hi => by
    have := h i hi; rw [okPt_eq hi, Bool.and_eq_true] at this; exact this.1
  have h2 : p.pts.all (okP p) = true := all_true fun i hi => by
    have := h i hi; rw [okPt_eq hi, Bool.and_eq_true] at this; exact this.2
  unfold ptsOk
  rw [h1, h2, Bool.and_true, Bool.true_and]
  rw [Bool.eq_iff_iff]
  simp [cntP]; omega
theorem c_rpoints (p : Pl) (hs : Sm p) : ACall Try.prog 106 [plA p] [] (bool (ptsOk p)) [] := by
  have h1 := hs.pts
  have h2 := hs.secs
  refine acall_of 2 Try.func106 rfl fun n out _ _ => ?_
  simp only [Try.ntmps106, List.length_cons, List.length_nil, List.length_map, List.length_replicate, rep_map, Nat.reduceAdd, Nat.reduceSub, List.replicate, List.cons_append, List.nil_append]
  repeat' (first | (with_reducible first | refine Vk fun K hK => ?_ | refine V0 ?_ | refine Vb ?_ | refine Vc ?_ | refine Vr ?_ | refine Vs ?_ | apply And.intro | refine Vq (by kernel_rfl) ?_) | ((with_reducible first | refine gE ?_ | refine gR ?_); simp (maxSteps:=9^7) only [ss, evLit, tab, reduceCtorEq, reduceIte, Nat.reduceEqDiff, Nat.reduceBEq, Int.reduceLE, Int.reduceToNat, Nat.reduceAdd, Nat.reduceLT, Nat.reduceLeDiff, plA, plC]) | exact Vn | ((with_reducible refine Vz ?_); refine Vo rfl rfl rfl (fun _ _ => rfl) ?_ <;> first | rfl | skip) | ((with_reducible refine Vg (fun hg => ?_) (fun hg => ?_)) <;> (try simp only [nb] at hg) <;> simp (maxSteps:=9^7) only [ss, evLit, tab, reduceCtorEq, reduceIte, Nat.reduceEqDiff, Nat.reduceBEq, Int.reduceLE, Int.reduceToNat, Nat.reduceAdd, Nat.reduceLT, Nat.reduceLeDiff, hg, plA, plC]) | ((with_reducible refine Vx ?_); simp only [sb, reduceIte, Nat.reduceEqDiff]) | (refine hK _ ?_; clear hK K) | refine Vt rfl ?_ | refine Vf rfl ?_ | refine Vi rfl (fun hg => ?_) (fun hg => ?_) | clear hK K)
  refine awp_block ?_
  refine awp_for_g (fun i : Nat => [(4, i64 (i : Int)), (3, i64 (cntP (p.secs.take i) : Int)), (8, .top), (9, .top), (10, .top), (11, .top), (12, .top), (13, .top), (14, .top), (15, .top), (16, .top), (17, .top), (18, .top), (19, .top), (20, .top), (21, .top), (22, .top), (23, .top)]) (fun i => [some (.box 27 (plC p)), none]) (fun i => out) (fun i => i ≤ p.secs.length) (fun i => p.secs.length - i) 0 (Nat.zero_le _) ?_ fun i hi => ?_
  · refine le_of_all ?_ ?_ (by first | rfl | (simp only [plC, List.length_map, List.take_zero, cntP_nil]; rfl) | simp only [plC, List.length_map, List.take_zero, cntP_nil]) rfl rfl rfl <;> simp only [patch, sl, plC, List.length_map, List.take_zero, cntP_nil]
  simp only [patch, s_0, s_s]
  have hw := addw (n := i) 1 1 rfl (by omega)
  by_cases hlt : i < p.secs.length
  · have gi := getD_map secC p.secs i [] hlt
    have hsc := cntP_succ hlt
    have hcl := cntP_le (p.secs.take i)
    have hcl2 : (p.secs.take i).length ≤ 40 := by rw [List.length_take]; omega
    have hw2 := addw (n := cntP (p.secs.take i)) 1 1 rfl (by omega)
    cases h0 : (p.secs[i].pt != 0) with
    | false =>
      rw [if_pos (by simpa using h0)] at hsc
      replace hsc := hsc.trans (Nat.add_zero _)
      repeat' (first | (with_reducible first | refine Vk fun K hK => ?_ | refine V0 ?_ | refine Vb ?_ | refine Vc ?_ | refine Vr ?_ | refine Vs ?_ | apply And.intro | refine Vq (by kernel_rfl) ?_) | ((with_reducible first | refine gE ?_ | refine gR ?_); simp (maxSteps:=9^7) only [ss, evLit, tab, reduceCtorEq, reduceIte, Nat.reduceEqDiff, Nat.reduceBEq, Int.reduceLE, Int.reduceToNat, Nat.reduceAdd, Nat.reduceLT, Nat.reduceLeDiff, plC, List.length_map, hlt, gi, secC, h0, hw]) | exact Vn | ((with_reducible refine Vz ?_); refine Vo rfl rfl rfl (fun _ _ => rfl) ?_ <;> first | rfl | skip) | ((with_reducible refine Vg (fun hg => ?_) (fun hg => ?_)) <;> (try simp only [nb] at hg) <;> simp (maxSteps:=9^7) only [ss, evLit, tab, reduceCtorEq, reduceIte, Nat.reduceEqDiff, Nat.reduceBEq, Int.reduceLE, Int.reduceToNat, Nat.reduceAdd, Nat.reduceLT, Nat.reduceLeDiff, hg, plC, List.length_map, hlt, gi, secC, h0, hw]) | ((with_reducible refine Vx ?_); simp only [sb, reduceIte, Nat.reduceEqDiff]) | (refine hK _ ?_; clear hK K) | refine Vt rfl ?_ | refine Vf rfl ?_ | refine Vi rfl (fun hg => ?_) (fun hg => ?_) | clear hK K)
      refine ⟨i + 1, by omega, by omega, ?_⟩
      rw [hsc]
      refine le_of_all ?_ ?_ rfl rfl rfl rfl <;> simp only [patch, sl, hlt, decide_true]
    | true =>
      rw [if_neg (by simpa using h0)] at hsc
      repeat' (first | (with_reducible first | refine Vk fun K hK => ?_ | refine V0 ?_ | refine Vb ?_ | refine Vc ?_ | refine Vr ?_ | refine Vs ?_ | apply And.intro | refine Vq (by kernel_rfl) ?_) | ((with_reducible first | refine gE ?_ | refine gR ?_); simp (maxSteps:=9^7) only [ss, evLit, tab, reduceCtorEq, reduceIte, Nat.reduceEqDiff, Nat.reduceBEq, Int.reduceLE, Int.reduceToNat, Nat.reduceAdd, Nat.reduceLT, Nat.reduceLeDiff, plC, List.length_map, hlt, gi, secC, h0, hw, hw2]) | exact Vn | ((with_reducible refine Vz ?_); refine Vo rfl rfl rfl (fun _ _ => rfl) ?_ <;> first | rfl | skip) | ((with_reducible refine Vg (fun hg => ?_) (fun hg => ?_)) <;> (try simp only [nb] at hg) <;> simp (maxSteps:=9^7) only [ss, evLit, tab, reduceCtorEq, reduceIte, Nat.reduceEqDiff, Nat.reduceBEq, Int.reduceLE, Int.reduceToNat, Nat.reduceAdd, Nat.reduceLT, Nat.reduceLeDiff, hg, plC, List.length_map, hlt, gi, secC, h0, hw, hw2]) | ((with_reducible refine Vx ?_); simp only [sb, reduceIte, Nat.reduceEqDiff]) | (refine hK _ ?_; clear hK K) | refine Vt rfl ?_ | refine Vf rfl ?_ | refine Vi rfl (fun hg => ?_) (fun hg => ?_) | clear hK K)
      refine ⟨i + 1, by omega, by omega, ?_⟩
      rw [hsc]
      refine le_of_all ?_ ?_ rfl rfl rfl rfl <;> simp only [patch, sl, hlt, decide_true]
  · obtain rfl : i = p.secs.length := by omega
    repeat' (first | (with_reducible first | refine Vk fun K hK => ?_ | refine V0 ?_ | refine Vb ?_ | refine Vc ?_ | refine Vr ?_ | refine Vs ?_ | apply And.intro | refine Vq (by kernel_rfl) ?_) | ((with_reducible first | refine gE ?_ | refine gR ?_); simp (maxSteps:=9^7) only [ss, evLit, tab, reduceCtorEq, reduceIte, Nat.reduceEqDiff, Nat.reduceBEq, Int.reduceLE, Int.reduceToNat, Nat.reduceAdd, Nat.reduceLT, Nat.reduceLeDiff, plC, List.length_map, hlt, List.take_length]) | exact Vn | ((with_reducible refine Vz ?_); refine Vo rfl rfl rfl (fun _ _ => rfl) ?_ <;> first | rfl | skip) | ((with_reducible refine Vg (fun hg => ?_) (fun hg => ?_)) <;> (try simp only [nb] at hg) <;> simp (maxSteps:=9^7) only [ss, evLit, tab, reduceCtorEq, reduceIte, Nat.reduceEqDiff, Nat.reduceBEq, Int.reduceLE, Int.reduceToNat, Nat.reduceAdd, Nat.reduceLT, Nat.reduceLeDiff, hg, plC, List.length_map, hlt, List.take_length]) | ((with_reducible refine Vx ?_); simp only [sb, reduceIte, Nat.reduceEqDiff]) | (refine hK _ ?_; clear hK K) | refine Vt rfl ?_ | refine Vf rfl ?_ | refine Vi rfl (fun hg => ?_) (fun hg => ?_) | clear hK K)
    refine awp_block ?_
    refine awp_for_mv (fun m (i : Nat) => [(5, i64 (i : Int)), (1, .ptr (m + 0) 0), (2, .top), (6, .top), (7, .top), (24, .top), (25, .top), (26, .top), (27, .top), (28, .top), (29, .top), (30, .top), (31, .top), (32, .top), (33, .top), (34, .top), (35, .top), (36, .top), (37, .top), (38, .top), (39, .top), (40, .top), (41, .top), (42, .top), (43, .top), (44, .top), (45, .top), (46, .top), (47, .top), (48, .top), (49, .top), (50, .top), (51, .top), (52, .top), (53, .top), (54, .top), (55, .top), (56, .top), (57, .top), (58, .top), (59, .top), (60, .top), (61, .top), (62, .top), (63, .top), (64, .top), (65, .top), (66, .top), (67, .top), (68, .top), (69, .top), (70, .top), (71, .top), (72, .top), (73, .top), (74, .top), (75, .top), (76, .top), (77, .top), (78, .top), (79, .top)]) (fun m i => [some (.box 27 (plC p)), none]) (fun i => out) (fun i => i ≤ p.pts.length ∧ (∀ j, j < i → okPt p j = true)) (fun i => p.pts.length - i) 0 ⟨Nat.zero_le _, by intros; omega⟩ ?_ fun m i hm hi => ?_
    · refine le_of_all ?_ ?_ (by first | rfl | (simp only [plC, List.length_map]; rfl) | simp only [plC, List.length_map]) rfl rfl rfl <;> simp only [patch, sl, plC, List.length_map]
    obtain ⟨hi, hq⟩ := hi
    simp only [patch, s_0, s_s]
    have hw := addw (n := i) 1 1 rfl (by omega)
    by_cases hlt : i < p.pts.length
    · have gi := getD_map jnC p.pts i [] hlt
      have ca := c_at p.secs p.pts[i].2 (by omega)
      have ho := okPt_eq hlt
      rw [rise_adj Prod.fst p.pts i hlt fun j hj => by
        have := hq j hj; rw [okPt_eq (by omega), Bool.and_eq_true] at this; exact this.1, numb_eq] at ho
      have next : okPt p i = true → ∀ j, j < i + 1 → okPt p j = true := fun h j hj => by
        by_cases h' : j = i
        · subst h'; exact h
        · exact hq j (by omega)
      have bad : okPt p i = false → ptsOk p = false := fun h => ptsOk_bad hlt h
      clear hq
      generalize okPt p i = O at *
      by_cases h0 : i = 0
      · have hd0 : decide ((i : Int) > 0) = false := decide_eq_false (by omega)
        rw [decide_eq_true h0, Bool.true_or, Bool.and_true] at ho
        rcases idx_cases (fun s : Sec => s.id == p.pts[i].2) p.secs with ⟨z1, z2, z3⟩ | ⟨k, hk, z1, z2, z3, z4⟩
        · have hkn : okP p p.pts[i] = false := by unfold okP getS; rw [z2]
          rw [hkn, Bool.and_false] at ho
          rw [z1] at ca
          repeat' (first | (with_reducible first | refine Vk fun K hK => ?_ | refine V0 ?_ | refine Vb ?_ | refine Vc ?_ | refine Vr ?_ | refine Vs ?_ | apply And.intro | refine Vd 12 [] [[],[1],[],[],[],[1],[],[],[],[],[],[],[],[0],[],[],[],[],[],[],[1],[],[],[],[],[],[],[],[],[],[0],[],[],[],[],[],[1],[],[]] [[],[],[],[],[],[],[],[],[],[],[],[],[],[],[],[],[],[],[],[],[],[],[],[],[],[],[],[],[],[],[],[],[],[],[],[],[],[],[]] (by kernel_rfl) (by decide) (by decide) (by kernel_rfl) ?_ | refine Vq (by kernel_rfl) ?_) | ((with_reducible first | refine gE ?_ | refine gR ?_ | refine gD ?_ | refine gF ?_); simp (maxSteps:=9^7) only [ss, evLit, tab, reduceCtorEq, reduceIte, Nat.reduceEqDiff, Nat.reduceBEq, Int.reduceLE, Int.reduceToNat, Nat.reduceAdd, Nat.reduceLT, Nat.reduceLeDiff, sg, locM hm, plC, List.length_map, hlt, gi, jnC, splice_all, hd0, Int.reduceNeg, Int.reduceLT, decide_true]) | exact Vn | ((with_reducible refine Vz ?_); refine Vo rfl rfl rfl (fun _ _ => rfl) ?_ <;> first | rfl | (rw [bad ho]; rfl) | skip) | (refine call_pure (ca) ?_) | ((with_reducible first | refine Vg (fun hg => ?_) (fun hg => ?_) | refine gselD_case (fun hg => ?_) (fun hg => ?_)) <;> (try simp only [nb] at hg) <;> simp (maxSteps:=9^7) only [ss, evLit, tab, reduceCtorEq, reduceIte, Nat.reduceEqDiff, Nat.reduceBEq, Int.reduceLE, Int.reduceToNat, Nat.reduceAdd, Nat.reduceLT, Nat.reduceLeDiff, hg, sg, locM hm, plC, List.length_map, hlt, gi, jnC, splice_all, hd0, Int.reduceNeg, Int.reduceLT, decide_true]) | ((with_reducible refine Vx ?_); simp only [sb, reduceIte, Nat.reduceEqDiff]) | (refine hK _ ?_; clear hK K) | refine Vt rfl ?_ | refine Vf rfl ?_ | refine Vi rfl (fun hg => ?_) (fun hg => ?_) | clear hK K)
        · have hkn : okP p p.pts[i] = !(p.secs[k].pt != p.pts[i].1) := by unfold okP getS; rw [z2]; simp [bne]
          have hk0 : decide ((k : Int) < 0) = false := decide_eq_false (by omega)
          have gk := getD_map secC p.secs k [] hk
          rw [z1] at ca
          rw [hkn] at ho
          clear hkn z1 z2 z3 z4
          repeat' (first | (with_reducible first | refine Vk fun K hK => ?_ | refine V0 ?_ | refine Vb ?_ | refine Vc ?_ | refine Vr ?_ | refine Vs ?_ | apply And.intro | refine Vd 12 [] [[],[1],[],[],[],[1],[],[],[],[],[],[],[],[0],[],[],[],[],[],[],[1],[],[],[],[],[],[],[],[],[],[0],[],[],[],[],[],[1],[],[]] [[],[],[],[],[],[],[],[],[],[],[],[],[],[],[],[],[],[],[],[],[],[],[],[],[],[],[],[],[],[],[],[],[],[],[],[],[],[],[]] (by kernel_rfl) (by decide) (by decide) (by kernel_rfl) ?_ | refine Vq (by kernel_rfl) ?_) | ((with_reducible first | refine gE ?_ | refine gR ?_ | refine gD ?_ | refine gF ?_); simp (maxSteps:=9^7) only [ss, evLit, tab, reduceCtorEq, reduceIte, Nat.reduceEqDiff, Nat.reduceBEq, Int.reduceLE, Int.reduceToNat, Nat.reduceAdd, Nat.reduceLT, Nat.reduceLeDiff, sg, locM hm, plC, List.length_map, hlt, gi, jnC, splice_all, hd0, hk0, hk, gk, secC, hw]) | exact Vn | ((with_reducible refine Vz ?_); refine Vo rfl rfl rfl (fun _ _ => rfl) ?_ <;> first | rfl | (rw [bad (by rw [ho]; simp_all)]; rfl) | skip) | (refine call_pure (ca) ?_) | ((with_reducible first | refine Vg (fun hg => ?_) (fun hg => ?_) | refine gselD_case (fun hg => ?_) (fun hg => ?_)) <;> (try simp only [nb] at hg) <;> simp (maxSteps:=9^7) only [ss, evLit, tab, reduceCtorEq, reduceIte, Nat.reduceEqDiff, Nat.reduceBEq, Int.reduceLE, Int.reduceToNat, Nat.reduceAdd, Nat.reduceLT, Nat.reduceLeDiff, hg, sg, locM hm, plC, List.length_map, hlt, gi, jnC, splice_all, hd0, hk0, hk, gk, secC, hw]) | ((with_reducible refine Vx ?_); simp only [sb, reduceIte, Nat.reduceEqDiff]) | (refine hK _ ?_; clear hK K) | refine Vt rfl ?_ | refine Vf rfl ?_ | refine Vi rfl (fun hg => ?_) (fun hg => ?_) | clear hK K)
          refine ⟨i + 1, ⟨by omega, next (by rw [ho]; simp_all)⟩, by omega, ?_⟩
          refine le_move [true, false] (fun n_ => ?_) (fun n_ => ?_) <;> simp only [patch, sm, plC, hlt, decide_true]
      · have hd0 : decide ((i : Int) > 0) = true := decide_eq_true (by omega)
        have hs1 := subw (n := i) 1 1 rfl (by omega) (by omega)
        have hl1 : i - 1 < p.pts.length := by omega
        have g1 := getD_map jnC p.pts (i - 1) [] hl1
        have hge : decide (p.pts[i - 1].1 ≥ p.pts[i].1) = !decide (p.pts[i - 1].1 < p.pts[i].1) := by rw [Bool.eq_iff_iff]; simp
        rw [decide_eq_false h0, Bool.false_or] at ho
        generalize decide (p.pts[i - 1].1 < p.pts[i].1) = D at hge ho
        rcases idx_cases (fun s : Sec => s.id == p.pts[i].2) p.secs with ⟨z1, z2, z3⟩ | ⟨k, hk, z1, z2, z3, z4⟩
        · have hkn : okP p p.pts[i] = false := by unfold okP getS; rw [z2]
          rw [hkn, Bool.and_false] at ho
          rw [z1] at ca
          repeat' (first | (with_reducible first | refine Vk fun K hK => ?_ | refine V0 ?_ | refine Vb ?_ | refine Vc ?_ | refine Vr ?_ | refine Vs ?_ | apply And.intro | refine Vd 12 [] [[],[1],[],[],[],[1],[],[],[],[],[],[],[],[0],[],[],[],[],[],[],[1],[],[],[],[],[],[],[],[],[],[0],[],[],[],[],[],[1],[],[]] [[],[],[],[],[],[],[],[],[],[],[],[],[],[],[],[],[],[],[],[],[],[],[],[],[],[],[],[],[],[],[],[],[],[],[],[],[],[],[]] (by kernel_rfl) (by decide) (by decide) (by kernel_rfl) ?_ | refine Vq (by kernel_rfl) ?_) | ((with_reducible first | refine gE ?_ | refine gR ?_ | refine gD ?_ | refine gF ?_); simp (maxSteps:=9^7) only [ss, evLit, tab, reduceCtorEq, reduceIte, Nat.reduceEqDiff, Nat.reduceBEq, Int.reduceLE, Int.reduceToNat, Nat.reduceAdd, Nat.reduceLT, Nat.reduceLeDiff, sg, locM hm, plC, List.length_map, hlt, gi, jnC, splice_all, hd0, hs1, hl1, g1, hge, Int.reduceNeg, Int.reduceLT, decide_true]) | exact Vn | ((with_reducible refine Vz ?_); refine Vo rfl rfl rfl (fun _ _ => rfl) ?_ <;> first | rfl | (rw [bad ho]; rfl) | skip) | (refine call_pure (ca) ?_) | ((with_reducible first | refine Vg (fun hg => ?_) (fun hg => ?_) | refine gselD_case (fun hg => ?_) (fun hg => ?_)) <;> (try simp only [nb] at hg) <;> simp (maxSteps:=9^7) only [ss, evLit, tab, reduceCtorEq, reduceIte, Nat.reduceEqDiff, Nat.reduceBEq, Int.reduceLE, Int.reduceToNat, Nat.reduceAdd, Nat.reduceLT, Nat.reduceLeDiff, hg, sg, locM hm, plC, List.length_map, hlt, gi, jnC, splice_all, hd0, hs1, hl1, g1, hge, Int.reduceNeg, Int.reduceLT, decide_true]) | ((with_reducible refine Vx ?_); simp only [sb, reduceIte, Nat.reduceEqDiff]) | (refine hK _ ?_; clear hK K) | refine Vt rfl ?_ | refine Vf rfl ?_ | refine Vi rfl (fun hg => ?_) (fun hg => ?_) | clear hK K)
        · have hkn : okP p p.pts[i] = !(p.secs[k].pt != p.pts[i].1) := by unfold okP getS; rw [z2]; simp [bne]
          have hk0 : decide ((k : Int) < 0) = false := decide_eq_false (by omega)
          have gk := getD_map secC p.secs k [] hk
          rw [z1] at ca
          rw [hkn] at ho
          clear hkn z1 z2 z3 z4
          repeat' (first | (with_reducible first | refine Vk fun K hK => ?_ | refine V0 ?_ | refine Vb ?_ | refine Vc ?_ | refine Vr ?_ | refine Vs ?_ | apply And.intro | refine Vd 12 [] [[],[1],[],[],[],[1],[],[],[],[],[],[],[],[0],[],[],[],[],[],[],[1],[],[],[],[],[],[],[],[],[],[0],[],[],[],[],[],[1],[],[]] [[],[],[],[],[],[],[],[],[],[],[],[],[],[],[],[],[],[],[],[],[],[],[],[],[],[],[],[],[],[],[],[],[],[],[],[],[],[],[]] (by kernel_rfl) (by decide) (by decide) (by kernel_rfl) ?_ | refine Vq (by kernel_rfl) ?_) | ((with_reducible first | refine gE ?_ | refine gR ?_ | refine gD ?_ | refine gF ?_); simp (maxSteps:=9^7) only [ss, evLit, tab, reduceCtorEq, reduceIte, Nat.reduceEqDiff, Nat.reduceBEq, Int.reduceLE, Int.reduceToNat, Nat.reduceAdd, Nat.reduceLT, Nat.reduceLeDiff, sg, locM hm, plC, List.length_map, hlt, gi, jnC, splice_all, hd0, hs1, hl1, g1, hge, hk0, hk, gk, secC, hw]) | exact Vn | ((with_reducible refine Vz ?_); refine Vo rfl rfl rfl (fun _ _ => rfl) ?_ <;> first | rfl | (rw [bad (by rw [ho]; clear hge; simp_all)]; rfl) | skip) | (refine call_pure (ca) ?_) | ((with_reducible first | refine Vg (fun hg => ?_) (fun hg => ?_) | refine gselD_case (fun hg => ?_) (fun hg => ?_)) <;> (try simp only [nb] at hg) <;> simp (maxSteps:=9^7) only [ss, evLit, tab, reduceCtorEq, reduceIte, Nat.reduceEqDiff, Nat.reduceBEq, Int.reduceLE, Int.reduceToNat, Nat.reduceAdd, Nat.reduceLT, Nat.reduceLeDiff, hg, sg, locM hm, plC, List.length_map, hlt, gi, jnC, splice_all, hd0, hs1, hl1, g1, hge, hk0, hk, gk, secC, hw]) | ((with_reducible refine Vx ?_); simp only [sb, reduceIte, Nat.reduceEqDiff]) | (refine hK _ ?_; clear hK K) | refine Vt rfl ?_ | refine Vf rfl ?_ | refine Vi rfl (fun hg => ?_) (fun hg => ?_) | clear hK K)
          refine ⟨i + 1, ⟨by omega, next (by rw [ho]; clear hge; simp_all)⟩, by omega, ?_⟩
          refine le_move [true, false] (fun n_ => ?_) (fun n_ => ?_) <;> simp only [patch, sm, plC, hlt, decide_true]
    · have e := ptsOk_all fun j hj => hq j (by omega)
      obtain rfl : i = p.pts.length := by omega
      clear hq
      repeat' (first | (with_reducible first | refine Vk fun K hK => ?_ | refine V0 ?_ | refine Vb ?_ | refine Vc ?_ | refine Vr ?_ | refine Vs ?_ | apply And.intro | refine Vq (by kernel_rfl) ?_) | ((with_reducible first | refine gE ?_ | refine gR ?_); simp (maxSteps:=9^7) only [ss, evLit, tab, reduceCtorEq, reduceIte, Nat.reduceEqDiff, Nat.reduceBEq, Int.reduceLE, Int.reduceToNat, Nat.reduceAdd, Nat.reduceLT, Nat.reduceLeDiff, locM hm, plC, List.length_map, hlt]) | exact Vn | ((with_reducible refine Vz ?_); refine Vo rfl rfl rfl (fun _ _ => rfl) ?_ <;> first | rfl | (rw [e]; simp only [g_0, g_s]; refine congrArg VS.bool ?_; clear e; first | (simp_all; done) | (simp_all; omega)) | skip) | ((with_reducible refine Vg (fun hg => ?_) (fun hg => ?_)) <;> (try simp only [nb] at hg) <;> simp (maxSteps:=9^7) only [ss, evLit, tab, reduceCtorEq, reduceIte, Nat.reduceEqDiff, Nat.reduceBEq, Int.reduceLE, Int.reduceToNat, Nat.reduceAdd, Nat.reduceLT, Nat.reduceLeDiff, hg, locM hm, plC, List.length_map, hlt]) | ((with_reducible refine Vx ?_); simp only [sb, reduceIte, Nat.reduceEqDiff]) | (refine hK _ ?_; clear hK K) | refine Vt rfl ?_ | refine Vf rfl ?_ | refine Vi rfl (fun hg => ?_) (fun hg => ?_) | clear hK K)
end Go.Proofs.Ytdkiciofkifpdaa.Pln
end
section
namespace Go.Proofs.Ytdkiciofkifpdaa.Pln
set_option linter.unusedVariables false
set_option linter.unusedSimpArgs false
open Go Go.VS Tab
set_option maxHeartbeats 4000000
set_option maxRecDepth 4000
def headG (p : Pl) (x : Int × Int × Int) : Bool := numb x.1 && match getS p.secs x.2.1 with
  | none => false
  | some s => decide (0 ≤ x.2.2) && decide (x.2.2 < s.ends.length)
def pairG (y x : Int × Int × Int) : Bool := !(decide (y.1 ≥ x.1) || (y.2.1 == x.2.1 && y.2.2 == x.2.2))
theorem pairG_iff {y x : Int × Int × Int} : pairG y x = true ↔ y.1 < x.1 ∧ (y.2 == x.2) = false := by
  obtain ⟨a, b, c⟩ := y
  obtain ⟨d, e, f⟩ := x
  simp only [pairG, Bool.not_eq_true', Bool.or_eq_false_iff, Bool.and_eq_false_iff, decide_eq_false_iff_not, beq_eq_false_iff_ne, Prod.mk.injEq, ne_eq, Prod.mk.injEq]
  omega
theorem sgsOk_iff {p : Pl} : sgsOk p = true ↔ p.sgs.length ≤ 10 ∧ ∀ i (hi : i < p.sgs.length), headG p p.sgs[i] = true ∧ ∀ m (hm : m < i), pairG (p.sgs[m]'(by omega)) p.sgs[i] = true := by
  have key : ∀ i (hi : i < p.sgs.length), (rises ((p.sgs.take i).map Prod.fst) p.sgs[i].1 = true ∧ okG p (p.sgs.take i) p.sgs[i] = true) ↔ (headG p p.sgs[i] = true ∧ ∀ m (hm : m < i), pairG (p.sgs[m]'(by omega)) p.sgs[i] = true) := by
    intro i hi
    unfold rises okG headG
    simp only [Bool.and_eq_true, List.all_map, List.all_eq_true, Function.comp_apply, decide_eq_true_eq, Bool.not_eq_true']
    constructor
    · rintro ⟨⟨h1, h2⟩, h3, h4⟩
      refine ⟨⟨h1, h3⟩, fun m hm => pairG_iff.2 ⟨h2 _ (mem_take_of hm (by omega)), h4 _ (mem_take_of hm (by omega))⟩⟩
    · rintro ⟨⟨h1, h3⟩, h5⟩
      refine ⟨⟨h1, fun x hx => ?_⟩, h3, fun x hx => ?_⟩
      · rw [List.mem_take_iff_getElem] at hx
        obtain ⟨m, hm, rfl⟩ := hx
        exact (pairG_iff.1 (h5 m (by omega))).1
      · rw [List.mem_take_iff_getElem] at hx
        obtain ⟨m, hm, rfl⟩ := hx
        exact (pairG_iff.1 (h5 m (by omega))).2
  unfold sgsOk
  rw [Bool.and_eq_true, Bool.and_eq_true, rise_map, allP_iff, decide_eq_true_eq]
  constructor
  · rintro ⟨⟨h1, h2⟩, h3⟩
    exact ⟨h2, fun i hi => (key i hi).1 ⟨h1 i hi, h3 i hi⟩⟩
  · rintro ⟨h1, h2⟩
    exact ⟨⟨fun i hi => ((key i hi).2 (h2 i hi)).1, h1⟩, fun i hi => ((key i hi).2 (h2 i hi)).2⟩
theorem sgsOk_head {p : Pl} {i : Nat} (hi : i < p.sgs.length) (h : headG p p.sgs[i] = false) : sgsOk p = false := by
  rw [Bool.eq_false_iff]; intro h'
  rw [((sgsOk_iff.1 h').2 i hi).1] at h; cases h
theorem sgsOk_pair {p : Pl} {i m : Nat} (hi : i < p.sgs.length) (hm : m < i) (h : pairG (p.sgs[m]'(by omega)) p.sgs[i] = false) : sgsOk p = false := by
  rw [Bool.eq_false_iff]; intro h'
  rw [((sgsOk_iff.1 h').2 i hi).2 m hm] at h; cases h
theorem sgsOk_all {p : Pl} (h : ∀ i (hi : i < p.sgs.length), headG p p.sgs[i] = true ∧ ∀ m (hm : m < i), pairG (p.sgs[m]'(by omega)) p.sgs[i] = true) : sgsOk p = decide ((p.sgs.length : Int) ≤ 10) := by
  rw [Bool.eq_iff_iff, sgsOk_iff, decide_eq_true_eq]
  exact ⟨fun h' => by omega, fun h' => ⟨by omega, h⟩⟩
theorem headG_some {p : Pl} {x : Int × Int × Int} {s : Sec} (h : getS p.secs x.2.1 = some s) : headG p x = (!decide (x.1 < 1) && !decide (x.1 > 99) && (!decide (x.2.2 < 0) && !decide (x.2.2 ≥ (s.ends.length : Int)))) := by
  unfold headG
  rw [h, numb_eq]
  congr 1
  rw [Bool.eq_iff_iff]; simp
theorem c_rsignals (p : Pl) (hs : Sm p) : ACall Try.prog 107 [plA p] [] (bool (sgsOk p)) [] := by
  have h1 := hs.sgs
  have h2 := hs.secs
  refine acall_of 3 Try.func107 rfl fun n out _ _ => ?_
  simp only [Try.ntmps107, List.length_cons, List.length_nil, List.length_map, List.length_replicate, rep_map, Nat.reduceAdd, Nat.reduceSub, List.replicate, List.cons_append, List.nil_append]
  repeat' (first | (with_reducible first | refine Vk fun K hK => ?_ | refine V0 ?_ | refine Vb ?_ | refine Vc ?_ | refine Vr ?_ | refine Vs ?_ | apply And.intro | refine Vq (by kernel_rfl) ?_) | ((with_reducible first | refine gE ?_ | refine gR ?_); simp (maxSteps:=9^7) only [ss, evLit, tab, reduceCtorEq, reduceIte, Nat.reduceEqDiff, Nat.reduceBEq, Int.reduceLE, Int.reduceToNat, Nat.reduceAdd, Nat.reduceLT, Nat.reduceLeDiff, plA, plC]) | exact Vn | ((with_reducible refine Vz ?_); refine Vo rfl rfl rfl (fun _ _ => rfl) ?_ <;> first | rfl | skip) | ((with_reducible refine Vg (fun hg => ?_) (fun hg => ?_)) <;> (try simp only [nb] at hg) <;> simp (maxSteps:=9^7) only [ss, evLit, tab, reduceCtorEq, reduceIte, Nat.reduceEqDiff, Nat.reduceBEq, Int.reduceLE, Int.reduceToNat, Nat.reduceAdd, Nat.reduceLT, Nat.reduceLeDiff, hg, plA, plC]) | ((with_reducible refine Vx ?_); simp only [sb, reduceIte, Nat.reduceEqDiff]) | (refine hK _ ?_; clear hK K) | refine Vt rfl ?_ | refine Vf rfl ?_ | refine Vi rfl (fun hg => ?_) (fun hg => ?_) | clear hK K)
  refine awp_block ?_
  refine awp_for_mv (fun m (i : Nat) => [(3, i64 (i : Int)), (1, .ptr (m + 0) 0), (2, .top), (4, .top), (5, .top), (6, .top), (7, .top), (8, .top), (9, .top), (10, .top), (11, .top), (12, .top), (13, .top), (14, .top), (15, .top), (16, .top), (17, .top), (18, .top), (19, .top), (20, .top), (21, .top), (22, .top), (23, .top), (24, .top), (25, .top), (26, .top), (27, .top), (28, .top), (29, .top), (30, .top), (31, .top), (32, .top), (33, .top), (34, .top), (35, .top), (36, .top), (37, .top), (38, .top), (39, .top), (40, .top), (41, .top), (42, .top), (43, .top), (44, .top), (45, .top), (46, .top), (47, .top), (48, .top), (49, .top), (50, .top), (51, .top), (52, .top), (53, .top), (54, .top), (55, .top), (56, .top), (57, .top), (58, .top), (59, .top), (60, .top), (61, .top), (62, .top), (63, .top), (64, .top), (65, .top), (66, .top), (67, .top), (68, .top), (69, .top), (70, .top), (71, .top), (72, .top), (73, .top), (74, .top), (75, .top), (76, .top), (77, .top), (78, .top), (79, .top), (80, .top), (81, .top), (82, .top)]) (fun m i => [some (.box 27 (plC p)), none, none]) (fun i => out) (fun i => i ≤ p.sgs.length ∧ (∀ j (hj : j < p.sgs.length), j < i → headG p p.sgs[j] = true ∧ ∀ m (hm : m < j), pairG (p.sgs[m]'(by omega)) p.sgs[j] = true)) (fun i => p.sgs.length - i) 0 ⟨Nat.zero_le _, by intros; omega⟩ ?_ fun m i hm hi => ?_
  · refine le_of_all ?_ ?_ (by first | rfl | (simp only [plC, List.length_map]; rfl) | simp only [plC, List.length_map]) rfl rfl rfl <;> simp only [patch, sl, plC, List.length_map]
  obtain ⟨hi, hq⟩ := hi
  simp only [patch, s_0, s_s]
  have hw := addw (n := i) 1 1 rfl (by omega)
  by_cases hlt : i < p.sgs.length
  · have gi := getD_map sgC p.sgs i [] hlt
    have ca := c_at p.secs p.sgs[i].2.1 (by omega)
    have next : headG p p.sgs[i] = true → (∀ m (hm : m < i), pairG (p.sgs[m]'(by omega)) p.sgs[i] = true) → ∀ j (hj : j < p.sgs.length), j < i + 1 → headG p p.sgs[j] = true ∧ ∀ m (hm : m < j), pairG (p.sgs[m]'(by omega)) p.sgs[j] = true := fun a b j hj hji => by
      by_cases h' : j = i
      · subst h'; exact ⟨a, b⟩
      · exact hq j hj (by omega)
    have bad := sgsOk_head hlt
    clear hq
    rcases idx_cases (fun s : Sec => s.id == p.sgs[i].2.1) p.secs with ⟨z1, z2, z3⟩ | ⟨k, hk, z1, z2, z3, z4⟩
    · have hkn : headG p p.sgs[i] = false := by unfold headG getS; rw [z2, Bool.and_false]
      rw [z1] at ca
      repeat' (first | (with_reducible first | refine Vk fun K hK => ?_ | refine V0 ?_ | refine Vb ?_ | refine Vc ?_ | refine Vr ?_ | refine Vs ?_ | apply And.intro | refine Vd 6 [] [[],[1],[],[],[],[1],[],[],[],[],[],[],[],[],[1],[],[],[],[],[1],[],[0],[],[],[],[],[],[],[]] [[],[],[],[],[],[],[],[],[],[],[],[],[],[],[],[],[],[],[],[],[],[],[],[],[],[],[],[],[]] (by kernel_rfl) (by decide) (by decide) (by kernel_rfl) ?_ | refine Vq (by kernel_rfl) ?_) | ((with_reducible first | refine gE ?_ | refine gR ?_ | refine gD ?_ | refine gF ?_); simp (maxSteps:=9^7) only [ss, evLit, tab, reduceCtorEq, reduceIte, Nat.reduceEqDiff, Nat.reduceBEq, Int.reduceLE, Int.reduceToNat, Nat.reduceAdd, Nat.reduceLT, Nat.reduceLeDiff, sg, locM hm, plC, List.length_map, hlt, gi, sgC, splice_all, Int.reduceNeg, Int.reduceLT, decide_true]) | exact Vn | ((with_reducible refine Vz ?_); refine Vo rfl rfl rfl (fun _ _ => rfl) ?_ <;> first | rfl | (rw [bad hkn]; rfl) | skip) | (refine call_pure (ca) ?_) | ((with_reducible first | refine Vg (fun hg => ?_) (fun hg => ?_) | refine gselD_case (fun hg => ?_) (fun hg => ?_)) <;> (try simp only [nb] at hg) <;> simp (maxSteps:=9^7) only [ss, evLit, tab, reduceCtorEq, reduceIte, Nat.reduceEqDiff, Nat.reduceBEq, Int.reduceLE, Int.reduceToNat, Nat.reduceAdd, Nat.reduceLT, Nat.reduceLeDiff, hg, sg, locM hm, plC, List.length_map, hlt, gi, sgC, splice_all, Int.reduceNeg, Int.reduceLT, decide_true]) | ((with_reducible refine Vx ?_); simp only [sb, reduceIte, Nat.reduceEqDiff]) | (refine hK _ ?_; clear hK K) | refine Vt rfl ?_ | refine Vf rfl ?_ | refine Vi rfl (fun hg => ?_) (fun hg => ?_) | clear hK K)
    · have ho := headG_some (p := p) (x := p.sgs[i]) (s := p.secs[k]) z2
      have hk0 : decide ((k : Int) < 0) = false := decide_eq_false (by omega)
      have gk := getD_map secC p.secs k [] hk
      rw [z1] at ca
      clear z1 z2 z3 z4
      repeat' (first | (with_reducible first | refine Vk fun K hK => ?_ | refine V0 ?_ | refine Vb ?_ | refine Vc ?_ | refine Vr ?_ | refine Vs ?_ | apply And.intro | refine Vd 6 [] [[],[1],[],[],[],[1],[],[],[],[],[],[],[],[],[1],[],[],[],[],[1],[],[0],[],[],[],[],[],[],[]] [[],[],[],[],[],[],[],[],[],[],[],[],[],[],[],[],[],[],[],[],[],[],[],[],[],[],[],[],[]] (by kernel_rfl) (by decide) (by decide) (by kernel_rfl) ?_ | refine Vq (by kernel_rfl) ?_) | ((with_reducible first | refine gE ?_ | refine gR ?_ | refine gD ?_ | refine gF ?_); simp (maxSteps:=9^7) only [ss, evLit, tab, reduceCtorEq, reduceIte, Nat.reduceEqDiff, Nat.reduceBEq, Int.reduceLE, Int.reduceToNat, Nat.reduceAdd, Nat.reduceLT, Nat.reduceLeDiff, sg, locM hm, plC, List.length_map, hlt, gi, sgC, splice_all, hk0, hk, gk, secC, hw]) | exact Vn | ((with_reducible refine Vz ?_); refine Vo rfl rfl rfl (fun _ _ => rfl) ?_ <;> first | rfl | (rw [bad (by rw [ho]; simp_all)]; rfl) | skip) | (refine call_pure (ca) ?_) | ((with_reducible first | refine Vg (fun hg => ?_) (fun hg => ?_) | refine gselD_case (fun hg => ?_) (fun hg => ?_)) <;> (try simp only [nb] at hg) <;> simp (maxSteps:=9^7) only [ss, evLit, tab, reduceCtorEq, reduceIte, Nat.reduceEqDiff, Nat.reduceBEq, Int.reduceLE, Int.reduceToNat, Nat.reduceAdd, Nat.reduceLT, Nat.reduceLeDiff, hg, sg, locM hm, plC, List.length_map, hlt, gi, sgC, splice_all, hk0, hk, gk, secC, hw]) | ((with_reducible refine Vx ?_); simp only [sb, reduceIte, Nat.reduceEqDiff]) | (refine hK _ ?_; clear hK K) | refine Vt rfl ?_ | refine Vf rfl ?_ | refine Vi rfl (fun hg => ?_) (fun hg => ?_) | clear hK K)
      have hhead : headG p p.sgs[i] = true := by rw [ho]; simp_all
      have hlti := hlt
      refine awp_block ?_
      refine awp_for_mv (fun m (k2 : Nat) => [(6, i64 (k2 : Int)), (1, .ptr (m + 0) 0), (4, .ptr (m + 1) 0), (2, .top), (7, .top), (54, .top), (55, .top), (56, .top), (57, .top), (58, .top), (59, .top), (60, .top), (61, .top), (62, .top), (63, .top), (64, .top), (65, .top), (66, .top), (67, .top), (68, .top), (69, .top), (70, .top), (71, .top), (72, .top), (73, .top), (74, .top), (75, .top), (76, .top), (77, .top), (78, .top), (79, .top), (80, .top), (81, .top), (82, .top)]) (fun m k2 => [some (.box 27 (plC p)), some (.box 48 (sgC p.sgs[i])), none]) (fun k2 => out) (fun k2 => k2 ≤ i ∧ (∀ q (hqk : q < k2) (hqi : q < i), pairG (p.sgs[q]'(by omega)) p.sgs[i] = true)) (fun k2 => i - k2) 0 ⟨Nat.zero_le _, by intros; omega⟩ ?_ fun m k2 hm hk2 => ?_
      · refine le_of_all ?_ ?_ (by first | rfl | (simp only [plC, sgC]; rfl) | simp only [plC, sgC]) rfl rfl rfl <;> simp only [patch, sl, plC, sgC]
      obtain ⟨hk2, hq⟩ := hk2
      simp only [patch, s_0, s_s]
      have hw2 := addw (n := k2) 1 1 rfl (by omega)
      by_cases hltk : k2 < i
      · have hkl : k2 < p.sgs.length := by omega
        have gk2 := getD_map sgC p.sgs k2 [] hkl
        have pe : pairG p.sgs[k2] p.sgs[i] = !(decide (p.sgs[k2].1 ≥ p.sgs[i].1) || (p.sgs[k2].2.1 == p.sgs[i].2.1 && p.sgs[k2].2.2 == p.sgs[i].2.2)) := rfl
        have pbad := sgsOk_pair hlti hltk
        have pnext : pairG p.sgs[k2] p.sgs[i] = true → ∀ q (hqk : q < k2 + 1) (hqi : q < i), pairG (p.sgs[q]'(by omega)) p.sgs[i] = true := fun a q h1 h2 => by
          by_cases h' : q = k2
          · subst h'; exact a
          · exact hq q (by omega) h2
        clear hq next bad
        generalize pairG p.sgs[k2] p.sgs[i] = PG at *
        repeat' (first | (with_reducible first | refine Vk fun K hK => ?_ | refine V0 ?_ | refine Vb ?_ | refine Vc ?_ | refine Vr ?_ | refine Vs ?_ | apply And.intro | refine Vq (by kernel_rfl) ?_) | ((with_reducible first | refine gE ?_ | refine gR ?_); simp (maxSteps:=9^7) only [ss, evLit, tab, reduceCtorEq, reduceIte, Nat.reduceEqDiff, Nat.reduceBEq, Int.reduceLE, Int.reduceToNat, Nat.reduceAdd, Nat.reduceLT, Nat.reduceLeDiff, locM hm, plC, List.length_map, hltk, hkl, gk2, sgC, splice_all, hw2]) | exact Vn | ((with_reducible refine Vz ?_); refine Vo rfl rfl rfl (fun _ _ => rfl) ?_ <;> first | rfl | (rw [pbad (by rw [pe]; simp_all)]; rfl) | skip) | ((with_reducible refine Vg (fun hg => ?_) (fun hg => ?_)) <;> (try simp only [nb] at hg) <;> simp (maxSteps:=9^7) only [ss, evLit, tab, reduceCtorEq, reduceIte, Nat.reduceEqDiff, Nat.reduceBEq, Int.reduceLE, Int.reduceToNat, Nat.reduceAdd, Nat.reduceLT, Nat.reduceLeDiff, hg, locM hm, plC, List.length_map, hltk, hkl, gk2, sgC, splice_all, hw2]) | ((with_reducible refine Vx ?_); simp only [sb, reduceIte, Nat.reduceEqDiff]) | (refine hK _ ?_; clear hK K) | refine Vt rfl ?_ | refine Vf rfl ?_ | refine Vi rfl (fun hg => ?_) (fun hg => ?_) | clear hK K)
        · refine ⟨k2 + 1, ⟨by omega, pnext (by rw [pe]; simp_all)⟩, by omega, ?_⟩
          refine le_move [true, true, false] (fun n_ => ?_) (fun n_ => ?_) <;> simp only [patch, sm, plC, sgC, hltk, decide_true]
        · refine ⟨k2 + 1, ⟨by omega, pnext (by rw [pe]; simp_all)⟩, by omega, ?_⟩
          refine le_move [true, true, false] (fun n_ => ?_) (fun n_ => ?_) <;> simp only [patch, sm, plC, sgC, hltk, decide_true]
      · obtain rfl : k2 = i := by omega
        repeat' (first | (with_reducible first | refine Vk fun K hK => ?_ | refine V0 ?_ | refine Vb ?_ | refine Vc ?_ | refine Vr ?_ | refine Vs ?_ | apply And.intro | refine Vq (by kernel_rfl) ?_) | ((with_reducible first | refine gE ?_ | refine gR ?_); simp (maxSteps:=9^7) only [ss, evLit, tab, reduceCtorEq, reduceIte, Nat.reduceEqDiff, Nat.reduceBEq, Int.reduceLE, Int.reduceToNat, Nat.reduceAdd, Nat.reduceLT, Nat.reduceLeDiff, locM hm, plC, List.length_map, hltk, hw]) | exact Vn | ((with_reducible refine Vz ?_); refine Vo rfl rfl rfl (fun _ _ => rfl) ?_ <;> first | rfl | skip) | ((with_reducible refine Vg (fun hg => ?_) (fun hg => ?_)) <;> (try simp only [nb] at hg) <;> simp (maxSteps:=9^7) only [ss, evLit, tab, reduceCtorEq, reduceIte, Nat.reduceEqDiff, Nat.reduceBEq, Int.reduceLE, Int.reduceToNat, Nat.reduceAdd, Nat.reduceLT, Nat.reduceLeDiff, hg, locM hm, plC, List.length_map, hltk, hw]) | ((with_reducible refine Vx ?_); simp only [sb, reduceIte, Nat.reduceEqDiff]) | (refine hK _ ?_; clear hK K) | refine Vt rfl ?_ | refine Vf rfl ?_ | refine Vi rfl (fun hg => ?_) (fun hg => ?_) | clear hK K)
        refine ⟨k2 + 1, ⟨by omega, next hhead fun m hm => hq m hm hm⟩, by omega, ?_⟩
        refine le_move [true, false, false] (fun n_ => ?_) (fun n_ => ?_) <;> simp only [patch, sm, plC, hlti, decide_true]
  · have e := sgsOk_all fun j hj => hq j hj (by omega)
    obtain rfl : i = p.sgs.length := by omega
    clear hq
    repeat' (first | (with_reducible first | refine Vk fun K hK => ?_ | refine V0 ?_ | refine Vb ?_ | refine Vc ?_ | refine Vr ?_ | refine Vs ?_ | apply And.intro | refine Vq (by kernel_rfl) ?_) | ((with_reducible first | refine gE ?_ | refine gR ?_); simp (maxSteps:=9^7) only [ss, evLit, tab, reduceCtorEq, reduceIte, Nat.reduceEqDiff, Nat.reduceBEq, Int.reduceLE, Int.reduceToNat, Nat.reduceAdd, Nat.reduceLT, Nat.reduceLeDiff, locM hm, plC, List.length_map, hlt]) | exact Vn | ((with_reducible refine Vz ?_); refine Vo rfl rfl rfl (fun _ _ => rfl) ?_ <;> first | rfl | (rw [e]; rfl) | skip) | ((with_reducible refine Vg (fun hg => ?_) (fun hg => ?_)) <;> (try simp only [nb] at hg) <;> simp (maxSteps:=9^7) only [ss, evLit, tab, reduceCtorEq, reduceIte, Nat.reduceEqDiff, Nat.reduceBEq, Int.reduceLE, Int.reduceToNat, Nat.reduceAdd, Nat.reduceLT, Nat.reduceLeDiff, hg, locM hm, plC, List.length_map, hlt]) | ((with_reducible refine Vx ?_); simp only [sb, reduceIte, Nat.reduceEqDiff]) | (refine hK _ ?_; clear hK K) | refine Vt rfl ?_ | refine Vf rfl ?_ | refine Vi rfl (fun hg => ?_) (fun hg => ?_) | clear hK K)
end Go.Proofs.Ytdkiciofkifpdaa.Pln
end
