/- The layer of abstract values, joined: TA. -/
import Derived.Test.YtcfkieacdjcaoaaZWZ
import Derived.Test.YtcfkieacdjcaoaaZW14
import Derived.Test.YtcfkieacdjcaoaaZGA
import Derived.KernelRfl
section
namespace Go.Proofs.Ytcfkieacdjcaoaa.Pln
set_option linter.unusedVariables false
set_option linter.unusedSimpArgs false
open Go Go.VS Tab
set_option maxHeartbeats 4000000
theorem acall_ge {P : Program} {f : FuncId} {args : List AV} {needs : List (Nat × Option Res)} {r r' : AV} {gives : List (Nat × Res)} (h : ACall P f args needs r gives) (hle : AV.le r r') : ACall P f args needs r' gives :=
  fun M N vs hI hR hn hN hu => Calls.mono (h M N vs hI hR hn hN hu) fun e w' ⟨v, he, M', h1, h2, h3, h4, h5⟩ => ⟨v, he, M', h1, h2, h3, h4, h5.le hle⟩
def askd (pre : List (Int × Int × Int)) (k : Nat) : Bool := pre.any fun y => y.1 == (k : Int)
def askdA (pre : List (Int × Int × Int)) : List AV := (List.range 100).map fun k => bool (askd pre k)
theorem askdA_nil : askdA [] = List.replicate 100 (bool false) := by rw [rep_range, askdA]; simp [askd]
theorem askdA_len (pre : List (Int × Int × Int)) : (askdA pre).length = 100 := by simp [askdA]
theorem askdA_pick (pre : List (Int × Int × Int)) (j s : Nat) (h : j < 100) : pick false s (List.drop j (askdA pre)) = some (bool (askd pre j)) := pick_range _ _ _ _ h
theorem askdA_set (l : List (Int × Int × Int)) (i : Nat) (hi : i < l.length) (j : Nat) (h : j < 100) (hj : l[i].1 = j) : splice (askdA (l.take i)) j [bool true] = askdA (l.take (i + 1)) := by
  rw [askdA, splice_range _ _ _ h, askdA]
  apply List.map_congr_left
  intro k hk
  have e : askd (l.take (i + 1)) k = (askd (l.take i) k || (l[i].1 == (k : Int))) := by
    rw [askd, askd, List.take_succ_eq_append_getElem hi, List.any_append]; simp
  by_cases hk : k = j
  · subst hk
    rw [if_pos rfl, e, hj]; simp
  · rw [if_neg hk, e, hj]
    have : ((j : Int) == (k : Int)) = false := by simp; omega
    rw [this, Bool.or_false]
def okA (pre : List (Int × Int × Int)) (x : Int × Int × Int) : Bool := !pre.any fun y => y.1 == x.1
def onceB (l : List (Int × Int × Int)) : Bool := allP okA l
def clrS (r : Rt) (i : Nat) (j : Int × Int) (x : Int × Int × Int) : Bool := !(x.2.1 == j.1 && (x.2.2 == j.2 && (decide (i + 1 < r.path.length) || x.1 != r.ex)))
def clearB (p : Pl) (r : Rt) (outs : List (Int × Int)) : Bool := (List.range r.path.length).all fun i => p.sgs.all (clrS r i (outs.getD i (0, 0)))
def soundR (p : Pl) (r : Rt) : Bool := onceB (folW p r).asks && clearB p r (folO p r)
def soundE (p : Pl) : Int := if allE p = 0 ∧ p.rts.all (soundR p) = true then 0 else 100
def soundF (p : Pl) (id : Int) : Int := if rtE p id = 0 then (if ofE p id = 0 ∧ soundR p (rtO p id) = true then 0 else 100) else rtE p id
theorem gone_fol {p : Pl} (hm : mayP p = true) {r : Rt} (hr : r ∈ p.rts) (hf : folE p r = 0) : Gone p r (folW p r) (folO p r) := by
  have hl : (endW p r).lost = false := by
    unfold folE at hf
    cases hl : (endW p r).lost with
    | true => rw [hl] at hf; simp at hf
    | false => rfl
  have e : folW p r = ⟨r.path, r.over, (flkW (endW p r) r.flanks).asks, (lastG p.sgs r.entry).2.1⟩ := by
    unfold folW
    rw [hl, if_neg (by decide)]
  have eo : folO p r = (endW p r).outs := by
    unfold folO
    rw [hl, if_neg (by decide)]
  exact ⟨hm, hr, (entry_of hm hr).1, hl, by rw [e], by rw [e], by rw [e], by rw [e]; exact flkW_all _ _ (flank_pos hm hr), eo⟩
theorem flank_top {p : Pl} (h : mayP p = true) {r : Rt} (hr : r ∈ p.rts) : ∀ f, f ∈ r.flanks → 0 < f.1 ∧ f.1 < 100 ∧ 1 ≤ f.2 ∧ f.2 ≤ 2 := by
  obtain ⟨_, _, hpts, _, _, _, hrs⟩ := may_parts h
  have ho := hrs r hr
  unfold okR at ho
  cases hg : getG p.sgs r.entry with
  | none => rw [hg] at ho; cases ho
  | some en =>
    rw [hg] at ho
    rw [Bool.and_eq_true] at ho
    intro f hf
    obtain ⟨i, hi, rfl⟩ := List.getElem_of_mem hf
    have h1 := allP_iff.1 ho.2 i hi
    unfold okF at h1
    simp only [Bool.and_eq_true, Bool.or_eq_true, beq_iff_eq] at h1
    obtain ⟨⟨h2, _⟩, h3⟩ := h1
    obtain ⟨x, hx⟩ := Option.isSome_iff_exists.1 h2
    have hxm := List.mem_of_find?_eq_some hx
    have hx1 : x.1 = r.flanks[i].1 := by simpa using List.find?_some hx
    unfold ptsOk at hpts
    simp only [Bool.and_eq_true] at hpts
    obtain ⟨j, hj, rfl⟩ := List.getElem_of_mem hxm
    have h5 := allP_iff.1 hpts.1.1.1 j (by simpa using hj)
    simp only [rises, Bool.and_eq_true, numb_iff, List.getElem_map] at h5
    omega
theorem gone_ask {p : Pl} {r : Rt} {W : Wy} {O : List (Int × Int)} (g : Gone p r W O) : ∀ a, a ∈ W.asks → 0 < a.1 ∧ a.1 < 100 ∧ 1 ≤ a.2.1 ∧ a.2.1 ≤ 2 := by
  intro a ha
  rw [g.asks, List.mem_append] at ha
  rcases ha with ha | ha
  · obtain ⟨i, hi, rfl⟩ := List.getElem_of_mem ha
    obtain ⟨j, s, _, _, h1, _, h2, h3, h4⟩ := (runW_ok (may_parts g.may).2.1 r _).1.each i hi
    have := shaped_iff.1 (mayS_sec (may_parts g.may).2.1 h1).2
    rw [← h2]
    omega
  · obtain ⟨f, hf, rfl⟩ := List.mem_map.1 ha
    exact flank_top g.may g.mem f hf
theorem gone_outs {p : Pl} {r : Rt} {W : Wy} {O : List (Int × Int)} (g : Gone p r W O) : r.path.length ≤ O.length := by
  have hn : r.path.length ≤ (allL r).length := by unfold allL; simp
  have h1 := outs_len (p := p) (r := r) r.path.length (run_keep g.not _ hn) fun i hi => by
    by_cases h : i + 1 = r.path.length
    · exact .inl h
    · exact .inr (by omega)
  obtain ⟨t, ht⟩ := outs_app (p := p) (r := r) (allL r).length hn g.not
  rw [g.outs, ht, List.length_append]
  omega
end Go.Proofs.Ytcfkieacdjcaoaa.Pln
end
section
namespace Go.Proofs.Ytcfkieacdjcaoaa.Pln
set_option linter.unusedVariables false
set_option linter.unusedSimpArgs false
open Go Go.VS Tab
set_option maxHeartbeats 4000000
set_option maxRecDepth 4000
theorem c_once (l : List (Int × Int × Int)) (hl : l.length ≤ 1000000) (hp : ∀ a, a ∈ l → 0 < a.1 ∧ a.1 < 100) : ACall Try.prog 34 [.sl 3 (l.map sgC) .sh] [] (bool (onceB l)) [] := by
  unfold onceB
  refine acall_of 2 Try.func34 rfl fun n out _ _ => ?_
  simp only [Try.ntmps34, List.length_cons, List.length_nil, List.length_map, List.length_replicate, rep_map, Nat.reduceAdd, Nat.reduceSub, List.replicate, List.cons_append, List.nil_append]
  repeat' (first | (with_reducible first | refine Vk fun K hK => ?_ | refine V0 ?_ | refine Vb ?_ | refine Vc ?_ | refine Vr ?_ | refine Vs ?_ | apply And.intro) | ((with_reducible first | refine gE ?_ | refine gR ?_); simp (maxSteps:=9^7) only [ss, evLit, tab, reduceCtorEq, reduceIte, Nat.reduceEqDiff, Nat.reduceBEq, Int.reduceLE, Int.reduceToNat, Nat.reduceAdd, Nat.reduceLT, Nat.reduceLeDiff, List.length_map, rep_bool]) | exact Vn | ((with_reducible refine Vz ?_); refine Vo rfl rfl rfl (fun _ _ => rfl) ?_ <;> first | rfl | skip) | ((with_reducible refine Vx ?_); simp only [sb, reduceIte, Nat.reduceEqDiff]) | (refine hK _ ?_; clear hK K) | refine Vt rfl ?_ | refine Vf rfl ?_ | refine Vi rfl (fun hg => ?_) (fun hg => ?_) | clear hK K)
  refine awp_block ?_
  refine awp_for_mv (fun m (i : Nat) => [(8, i64 (i : Int)), (3, .ptr (m + 0) 0), (2, .top), (5, .top), (9, .top), (10, .top), (11, .top), (12, .top), (13, .top), (14, .top), (15, .top), (16, .top), (17, .top), (18, .top), (19, .top)]) (fun m i => [some (.box 116 (askdA (l.take i))), none]) (fun i => out) (fun i => i ≤ l.length ∧ (∀ j (hj : j < l.length), j < i → okA (l.take j) l[j] = true)) (fun i => l.length - i) 0 ⟨Nat.zero_le _, by intros; omega⟩ ?_ fun m i hm hi => ?_
  · refine le_of_all ?_ ?_ (by first | rfl | (simp only [List.length_map, List.take_zero, askdA_nil]; rfl) | simp only [List.length_map, List.take_zero, askdA_nil]) rfl rfl rfl <;> simp only [patch, sl, List.length_map, List.take_zero, askdA_nil]
  obtain ⟨hi, hq⟩ := hi
  simp only [patch, s_0, s_s]
  have hw := addw (n := i) 1 1 rfl (by omega)
  by_cases hlt : i < l.length
  · have gi := getD_map sgC l i [] hlt
    obtain ⟨a1, a2⟩ := hp _ (List.getElem_mem hlt)
    obtain ⟨np, hpt⟩ := Int.eq_ofNat_of_zero_le (Int.le_of_lt a1)
    have hnp : np < 100 := by omega
    have hnp' : (np : Int) < 100 := by omega
    have hnp9 : np ≤ 99 := by omega
    have hst := askdA_set l i hlt np hnp hpt
    have okv : okA (l.take i) l[i] = !askd (l.take i) np := by unfold okA askd; rw [hpt]
    have next : okA (l.take i) l[i] = true → ∀ j (hj : j < l.length), j < i + 1 → okA (l.take j) l[j] = true := fun h j hj hji => by
      by_cases h' : j = i
      · subst h'; exact h
      · exact hq j hj (by omega)
    repeat' (first | (with_reducible first | refine Vk fun K hK => ?_ | refine V0 ?_ | refine Vb ?_ | refine Vc ?_ | refine Vr ?_ | refine Vs ?_ | apply And.intro) | ((with_reducible first | refine gE ?_ | refine gR ?_); simp (maxSteps:=9^7) only [ss, evLit, tab, reduceCtorEq, reduceIte, Nat.reduceEqDiff, Nat.reduceBEq, Int.reduceLE, Int.reduceToNat, Nat.reduceAdd, Nat.reduceLT, Nat.reduceLeDiff, locM hm, List.length_map, hlt, gi, sgC, splice_all, hw, hpt, hnp, hnp', hnp9, askdA_len, askdA_pick _ np 1 hnp, hst]) | exact Vn | ((with_reducible refine Vz ?_); refine Vo rfl rfl rfl (fun _ _ => rfl) ?_ <;> first | rfl | (rw [allP_false hlt (by rw [okv]; simp_all)]; rfl) | skip) | ((with_reducible refine Vx ?_); simp only [sb, reduceIte, Nat.reduceEqDiff]) | (refine hK _ ?_; clear hK K) | refine Vt rfl ?_ | refine Vf rfl ?_ | refine Vi rfl (fun hg => ?_) (fun hg => ?_) | clear hK K)
    refine ⟨i + 1, ⟨by omega, next (by rw [okv]; simp_all)⟩, by omega, ?_⟩
    refine le_move [true, false] (fun n_ => ?_) (fun n_ => ?_) <;> simp only [patch, sm]
  · have hall := allP_true (f := okA) (l := l) fun j hj => hq j hj (by omega)
    repeat' (first | (with_reducible first | refine Vk fun K hK => ?_ | refine V0 ?_ | refine Vb ?_ | refine Vc ?_ | refine Vr ?_ | refine Vs ?_ | apply And.intro) | ((with_reducible first | refine gE ?_ | refine gR ?_); simp (maxSteps:=9^7) only [ss, evLit, tab, reduceCtorEq, reduceIte, Nat.reduceEqDiff, Nat.reduceBEq, Int.reduceLE, Int.reduceToNat, Nat.reduceAdd, Nat.reduceLT, Nat.reduceLeDiff, List.length_map, hlt]) | exact Vn | ((with_reducible refine Vz ?_); refine Vo rfl rfl rfl (fun _ _ => rfl) ?_ <;> first | rfl | (rw [hall]; rfl) | skip) | ((with_reducible refine Vx ?_); simp only [sb, reduceIte, Nat.reduceEqDiff]) | (refine hK _ ?_; clear hK K) | refine Vt rfl ?_ | refine Vf rfl ?_ | refine Vi rfl (fun hg => ?_) (fun hg => ?_) | clear hK K)
theorem c_clear (p : Pl) (hs : Sm p) (r : Rt) (h20 : r.path.length ≤ 1000000) (O : List (Int × Int)) (ho : r.path.length ≤ O.length) (hol : O.length ≤ 1000000) : ACall Try.prog 35 [plA p, rtA r, .sl 2 (O.map jnC) .sh] [] (bool (clearB p r O)) [] := by
  have hsl := hs.sgs
  obtain ⟨OT, hOT⟩ : ∃ OT, OT = O.take r.path.length := ⟨_, rfl⟩
  have hOm : (O.map jnC).take r.path.length = OT.map jnC := by rw [hOT, List.map_take]
  have hOl : OT.length = r.path.length := by rw [hOT, List.length_take]; omega
  have hOg : ∀ i (hi : i < OT.length), O.getD i (0, 0) = OT[i] := fun i hi => by
    subst hOT
    have : i < O.length := by omega
    simp [List.getD_eq_getElem?_getD, this]
  unfold clearB
  have bad : ∀ i (hi : i < OT.length) k (hk : k < p.sgs.length), clrS r i OT[i] p.sgs[k] = false → ((List.range r.path.length).all fun i => p.sgs.all (clrS r i (O.getD i (0, 0)))) = false := fun i hi k hk h => by
    refine rall_false (i := i) (by omega) ?_
    rw [hOg i hi]
    exact all_false hk h
  have good : (∀ i (hi : i < OT.length), p.sgs.all (clrS r i OT[i]) = true) → ((List.range r.path.length).all fun i => p.sgs.all (clrS r i (O.getD i (0, 0)))) = true := fun h => by
    refine rall_true fun i hi => ?_
    rw [hOg i (by omega)]
    exact h i (by omega)
  generalize ((List.range r.path.length).all fun i => p.sgs.all (clrS r i (O.getD i (0, 0)))) = B at *
  clear hOg
  refine acall_of 4 Try.func35 rfl fun n out _ _ => ?_
  simp only [Try.ntmps35, List.length_cons, List.length_nil, List.length_map, List.length_replicate, rep_map, Nat.reduceAdd, Nat.reduceSub, List.replicate, List.cons_append, List.nil_append]
  repeat' (first | (with_reducible first | refine Vk fun K hK => ?_ | refine V0 ?_ | refine Vb ?_ | refine Vc ?_ | refine Vr ?_ | refine Vs ?_ | apply And.intro) | ((with_reducible first | refine gE ?_ | refine gR ?_); simp (maxSteps:=9^7) only [ss, evLit, tab, reduceCtorEq, reduceIte, Nat.reduceEqDiff, Nat.reduceBEq, Int.reduceLE, Int.reduceToNat, Nat.reduceAdd, Nat.reduceLT, Nat.reduceLeDiff, plA, plC, rtA, rtC, List.length_map, splice_all, hOm, hOl, ho, loOf, hiOf, Nat.sub_zero]) | exact Vn | ((with_reducible refine Vz ?_); refine Vo rfl rfl rfl (fun _ _ => rfl) ?_ <;> first | rfl | skip) | ((with_reducible refine Vg (fun hg => ?_) (fun hg => ?_)) <;> (try simp only [nb] at hg) <;> simp (maxSteps:=9^7) only [ss, evLit, tab, reduceCtorEq, reduceIte, Nat.reduceEqDiff, Nat.reduceBEq, Int.reduceLE, Int.reduceToNat, Nat.reduceAdd, Nat.reduceLT, Nat.reduceLeDiff, hg, plA, plC, rtA, rtC, List.length_map, splice_all, hOm, hOl, ho, loOf, hiOf, Nat.sub_zero]) | ((with_reducible refine Vx ?_); simp only [sb, reduceIte, Nat.reduceEqDiff]) | (refine hK _ ?_; clear hK K) | refine Vt rfl ?_ | refine Vf rfl ?_ | refine Vi rfl (fun hg => ?_) (fun hg => ?_) | clear hK K)
  refine awp_block ?_
  refine awp_for_mv (fun m (i : Nat) => [(17, i64 (i : Int)), (3, .ptr (m + 0) 0), (4, .ptr (m + 1) 0), (6, .top), (7, .top), (8, .top), (10, .top), (18, .top), (19, .top), (20, .top), (21, .top), (22, .top), (23, .top), (24, .top), (25, .top), (26, .top), (27, .top), (28, .top), (29, .top), (30, .top), (31, .top), (32, .top), (33, .top), (34, .top), (35, .top), (36, .top), (37, .top), (38, .top), (39, .top), (40, .top), (41, .top), (42, .top), (43, .top), (44, .top), (45, .top), (46, .top), (47, .top), (48, .top), (49, .top), (50, .top), (51, .top), (52, .top), (53, .top), (54, .top), (55, .top), (56, .top), (57, .top)]) (fun m i => [some (.box 27 (plC p)), some (.box 34 (rtC r)), none, none]) (fun i => out) (fun i => i ≤ r.path.length ∧ (∀ j (hj : j < OT.length), j < i → p.sgs.all (clrS r j OT[j]) = true)) (fun i => r.path.length - i) 0 ⟨Nat.zero_le _, by intros; omega⟩ ?_ fun m i hm hi => ?_
  · refine le_of_all ?_ ?_ (by first | rfl | (simp only [List.length_map, plC, rtC]; rfl) | simp only [List.length_map, plC, rtC]) rfl rfl rfl <;> simp only [patch, sl, List.length_map, plC, rtC]
  obtain ⟨hi, hq⟩ := hi
  simp only [patch, s_0, s_s]
  have hw := addw (n := i) 1 1 rfl (by omega)
  by_cases hlt : i < r.path.length
  · have hlo : i < OT.length := by omega
    have gi := getD_map jnC OT i [] hlo
    have hs1 := subw (n := r.path.length) 1 1 rfl (by omega) (by omega)
    have hd : decide ((i : Int) < ((r.path.length - 1 : Nat) : Int)) = decide (i + 1 < r.path.length) := decide_eq_decide.2 (by omega)
    have hq0 := hq
    have hlti := hlt
    clear hq
    repeat' (first | (with_reducible first | refine Vk fun K hK => ?_ | refine V0 ?_ | refine Vb ?_ | refine Vc ?_ | refine Vr ?_ | refine Vs ?_ | apply And.intro) | ((with_reducible first | refine gE ?_ | refine gR ?_); simp (maxSteps:=9^7) only [ss, evLit, tab, reduceCtorEq, reduceIte, Nat.reduceEqDiff, Nat.reduceBEq, Int.reduceLE, Int.reduceToNat, Nat.reduceAdd, Nat.reduceLT, Nat.reduceLeDiff, locM hm, List.length_map, hlt, hlo, gi, jnC, plC, splice_all]) | exact Vn | ((with_reducible refine Vz ?_); refine Vo rfl rfl rfl (fun _ _ => rfl) ?_ <;> first | rfl | skip) | ((with_reducible refine Vg (fun hg => ?_) (fun hg => ?_)) <;> (try simp only [nb] at hg) <;> simp (maxSteps:=9^7) only [ss, evLit, tab, reduceCtorEq, reduceIte, Nat.reduceEqDiff, Nat.reduceBEq, Int.reduceLE, Int.reduceToNat, Nat.reduceAdd, Nat.reduceLT, Nat.reduceLeDiff, hg, locM hm, List.length_map, hlt, hlo, gi, jnC, plC, splice_all]) | ((with_reducible refine Vx ?_); simp only [sb, reduceIte, Nat.reduceEqDiff]) | (refine hK _ ?_; clear hK K) | refine Vt rfl ?_ | refine Vf rfl ?_ | refine Vi rfl (fun hg => ?_) (fun hg => ?_) | clear hK K)
    refine awp_block ?_
    refine awp_for_mv (fun m (k : Nat) => [(25, i64 (k : Int)), (3, .ptr (m + 0) 0), (4, .ptr (m + 1) 0), (8, .ptr (m + 2) 0), (6, .top), (10, .top), (26, .top), (27, .top), (28, .top), (29, .top), (30, .top), (31, .top), (32, .top), (33, .top), (34, .top), (35, .top), (36, .top), (37, .top), (38, .top), (39, .top), (40, .top), (41, .top), (42, .top), (43, .top), (44, .top), (45, .top), (46, .top), (47, .top), (48, .top), (49, .top), (50, .top), (51, .top), (52, .top), (53, .top), (54, .top), (55, .top), (56, .top)]) (fun m k => [some (.box 27 (plC p)), some (.box 34 (rtC r)), some (.box 68 (jnC OT[i])), none]) (fun k => out) (fun k => k ≤ p.sgs.length ∧ (∀ q (hq : q < p.sgs.length), q < k → clrS r i OT[i] p.sgs[q] = true)) (fun k => p.sgs.length - k) 0 ⟨Nat.zero_le _, by intros; omega⟩ ?_ fun m k hm hk => ?_
    · refine le_of_all ?_ ?_ (by first | rfl | (simp only [List.length_map, plC, rtC, jnC]; rfl) | simp only [List.length_map, plC, rtC, jnC]) rfl rfl rfl <;> simp only [patch, sl, List.length_map, plC, rtC, jnC]
    obtain ⟨hk, hq⟩ := hk
    simp only [patch, s_0, s_s]
    have hw2 := addw (n := k) 1 1 rfl (by omega)
    by_cases hlt : k < p.sgs.length
    · have gk := getD_map sgC p.sgs k [] hlt
      have okv : clrS r i OT[i] p.sgs[k] = !(p.sgs[k].2.1 == OT[i].1 && (p.sgs[k].2.2 == OT[i].2 && (decide (i + 1 < r.path.length) || p.sgs[k].1 != r.ex))) := rfl
      have next : clrS r i OT[i] p.sgs[k] = true → ∀ q (hq : q < p.sgs.length), q < k + 1 → clrS r i OT[i] p.sgs[q] = true := fun h q hq1 hq2 => by
        by_cases h' : q = k
        · subst h'; exact h
        · exact hq q hq1 (by omega)
      have bad' := bad i hlo k hlt
      clear hq hq0 bad good
      repeat' (first | (with_reducible first | refine Vk fun K hK => ?_ | refine V0 ?_ | refine Vb ?_ | refine Vc ?_ | refine Vr ?_ | refine Vs ?_ | apply And.intro) | ((with_reducible first | refine gE ?_ | refine gR ?_); simp (maxSteps:=9^7) only [ss, evLit, tab, reduceCtorEq, reduceIte, Nat.reduceEqDiff, Nat.reduceBEq, Int.reduceLE, Int.reduceToNat, Nat.reduceAdd, Nat.reduceLT, Nat.reduceLeDiff, locM hm, List.length_map, hlt, gk, sgC, jnC, rtC, splice_all, hs1, hd, hw2]) | exact Vn | ((with_reducible refine Vz ?_); refine Vo rfl rfl rfl (fun _ _ => rfl) ?_ <;> first | rfl | (rw [bad' (by rw [okv]; simp_all)]; rfl) | skip) | ((with_reducible refine Vg (fun hg => ?_) (fun hg => ?_)) <;> (try simp only [nb] at hg) <;> simp (maxSteps:=9^7) only [ss, evLit, tab, reduceCtorEq, reduceIte, Nat.reduceEqDiff, Nat.reduceBEq, Int.reduceLE, Int.reduceToNat, Nat.reduceAdd, Nat.reduceLT, Nat.reduceLeDiff, hg, locM hm, List.length_map, hlt, gk, sgC, jnC, rtC, splice_all, hs1, hd, hw2]) | ((with_reducible refine Vx ?_); simp only [sb, reduceIte, Nat.reduceEqDiff]) | (refine hK _ ?_; clear hK K) | refine Vt rfl ?_ | refine Vf rfl ?_ | refine Vi rfl (fun hg => ?_) (fun hg => ?_) | clear hK K)
      all_goals (refine ⟨k + 1, ⟨by omega, next (by rw [okv]; simp_all)⟩, by omega, ?_⟩)
      all_goals (refine le_move [true, true, true, false] (fun n_ => ?_) (fun n_ => ?_) <;> simp only [patch, sm, plC, rtC, jnC, hlt, decide_true])
    · obtain rfl : k = p.sgs.length := by omega
      have hallk : p.sgs.all (clrS r i OT[i]) = true := all_true fun q hq1 => hq q hq1 hq1
      repeat' (first | (with_reducible first | refine Vk fun K hK => ?_ | refine V0 ?_ | refine Vb ?_ | refine Vc ?_ | refine Vr ?_ | refine Vs ?_ | apply And.intro) | ((with_reducible first | refine gE ?_ | refine gR ?_); simp (maxSteps:=9^7) only [ss, evLit, tab, reduceCtorEq, reduceIte, Nat.reduceEqDiff, Nat.reduceBEq, Int.reduceLE, Int.reduceToNat, Nat.reduceAdd, Nat.reduceLT, Nat.reduceLeDiff, locM hm, List.length_map, hlt, hw]) | exact Vn | ((with_reducible refine Vz ?_); refine Vo rfl rfl rfl (fun _ _ => rfl) ?_ <;> first | rfl | skip) | ((with_reducible refine Vg (fun hg => ?_) (fun hg => ?_)) <;> (try simp only [nb] at hg) <;> simp (maxSteps:=9^7) only [ss, evLit, tab, reduceCtorEq, reduceIte, Nat.reduceEqDiff, Nat.reduceBEq, Int.reduceLE, Int.reduceToNat, Nat.reduceAdd, Nat.reduceLT, Nat.reduceLeDiff, hg, locM hm, List.length_map, hlt, hw]) | ((with_reducible refine Vx ?_); simp only [sb, reduceIte, Nat.reduceEqDiff]) | (refine hK _ ?_; clear hK K) | refine Vt rfl ?_ | refine Vf rfl ?_ | refine Vi rfl (fun hg => ?_) (fun hg => ?_) | clear hK K)
      refine ⟨i + 1, ⟨by omega, fun j hj hji => ?_⟩, by omega, ?_⟩
      · by_cases h : j = i
        · subst h; exact hallk
        · exact hq0 j hj (by omega)
      refine le_move [true, true, false, false] (fun n_ => ?_) (fun n_ => ?_) <;> simp only [patch, sm, plC, rtC, hlti, decide_true]
  · have hall := good fun j hj => hq j hj (by omega)
    repeat' (first | (with_reducible first | refine Vk fun K hK => ?_ | refine V0 ?_ | refine Vb ?_ | refine Vc ?_ | refine Vr ?_ | refine Vs ?_ | apply And.intro) | ((with_reducible first | refine gE ?_ | refine gR ?_); simp (maxSteps:=9^7) only [ss, evLit, tab, reduceCtorEq, reduceIte, Nat.reduceEqDiff, Nat.reduceBEq, Int.reduceLE, Int.reduceToNat, Nat.reduceAdd, Nat.reduceLT, Nat.reduceLeDiff, List.length_map, hlt]) | exact Vn | ((with_reducible refine Vz ?_); refine Vo rfl rfl rfl (fun _ _ => rfl) ?_ <;> first | rfl | (rw [hall]; rfl) | skip) | ((with_reducible refine Vg (fun hg => ?_) (fun hg => ?_)) <;> (try simp only [nb] at hg) <;> simp (maxSteps:=9^7) only [ss, evLit, tab, reduceCtorEq, reduceIte, Nat.reduceEqDiff, Nat.reduceBEq, Int.reduceLE, Int.reduceToNat, Nat.reduceAdd, Nat.reduceLT, Nat.reduceLeDiff, hg, List.length_map, hlt]) | ((with_reducible refine Vx ?_); simp only [sb, reduceIte, Nat.reduceEqDiff]) | (refine hK _ ?_; clear hK K) | refine Vt rfl ?_ | refine Vf rfl ?_ | refine Vi rfl (fun hg => ?_) (fun hg => ?_) | clear hK K)
end Go.Proofs.Ytcfkieacdjcaoaa.Pln
end
section
namespace Go.Proofs.Ytcfkieacdjcaoaa.Pln
set_option linter.unusedVariables false
set_option linter.unusedSimpArgs false
open Go Go.VS Tab
set_option maxHeartbeats 8000000
set_option maxRecDepth 4000
theorem allE_zero {p : Pl} (h : allE p = 0) : mayP p = true ∧ ∀ r, r ∈ p.rts → folE p r = 0 := by
  unfold allE at h
  cases hm : mayP p with
  | false => simp [hm] at h
  | true =>
    rw [hm, if_pos rfl] at h
    refine ⟨rfl, fun r hr => ?_⟩
    cases hf : p.rts.find? (fun r => folE p r != 0) with
    | none =>
      rw [List.find?_eq_none] at hf
      have := hf r hr
      simpa using this
    | some q =>
      rw [hf] at h
      have := List.find?_some hf
      simp at this
      exact absurd h this
theorem fol_small {p : Pl} (hs : Sm p) {r : Rt} (hr : r ∈ p.rts) : (folW p r).asks.length ≤ 60 ∧ (folO p r).length ≤ 40 := by
  obtain ⟨b1, b2, b3⟩ := hs.rt r hr
  have h1 := runW_len p r (r.path ++ r.over).length
  have h2 := flkW_len (endW p r) r.flanks
  rw [List.length_append] at h1
  have e : (endW p r).asks.length ≤ r.path.length + r.over.length ∧ (endW p r).outs.length ≤ r.path.length + r.over.length := by
    have := h1
    unfold endW
    rw [List.length_append]
    exact this
  unfold folW folO
  constructor
  · split
    · exact Nat.zero_le _
    · show (flkW (endW p r) r.flanks).asks.length ≤ 60
      omega
  · split
    · exact Nat.zero_le _
    · omega
theorem c_soundC (p : Pl) (hs : Sm p) : ACall Try.prog 14 [plA p] [] (i64 (soundE p)) [] := by
  have cw := c_wall p hs
  have hrl := hs.rts
  by_cases hE : allE p = 0
  · obtain ⟨hmy, hfE⟩ := allE_zero hE
    have e2 : allW p = p.rts.map (folW p) := by unfold allW; rw [if_pos hE]
    have e3 : allO p = p.rts.map (folO p) := by unfold allO; rw [if_pos hE]
    have hm1 : (p.rts.map (folW p)).map wyC = p.rts.map fun r => wyC (folW p r) := by rw [List.map_map]; rfl
    have hm2 : (p.rts.map (folO p)).map joC = p.rts.map fun r => joC (folO p r) := by rw [List.map_map]; rfl
    rw [hE, e2, e3, hm1, hm2] at cw
    have bad : ∀ i (hi : i < p.rts.length), soundR p p.rts[i] = false → soundE p = 100 := fun i hi h => by
      unfold soundE; rw [if_neg (by rw [all_false hi h]; simp)]
    have good : (∀ i (hi : i < p.rts.length), soundR p p.rts[i] = true) → soundE p = 0 := fun h => by
      unfold soundE; rw [if_pos ⟨hE, all_true h⟩]
    generalize soundE p = RE at *
    refine acall_of 2 Try.func14 rfl fun n out _ _ => ?_
    simp only [Try.ntmps14, List.length_cons, List.length_nil, List.length_map, List.length_replicate, rep_map, Nat.reduceAdd, Nat.reduceSub, List.replicate, List.cons_append, List.nil_append]
    repeat' (first | (with_reducible first | refine Vk fun K hK => ?_ | refine V0 ?_ | refine Vb ?_ | refine Vc ?_ | refine Vr ?_ | refine Vs ?_ | apply And.intro | refine Vq (by kernel_rfl) ?_) | ((with_reducible first | refine gE ?_ | refine gR ?_); simp (maxSteps:=9^7) only [ss, evLit, tab, reduceCtorEq, reduceIte, Nat.reduceEqDiff, Nat.reduceBEq, Int.reduceLE, Int.reduceToNat, Nat.reduceAdd, Nat.reduceLT, Nat.reduceLeDiff, plA, plC, Int.reduceBNe, List.length_map]) | exact Vn | ((with_reducible refine Vz ?_); refine Vo rfl rfl rfl (fun _ _ => rfl) ?_ <;> first | rfl | skip) | (refine call_pure (cw) ?_) | ((with_reducible refine Vg (fun hg => ?_) (fun hg => ?_)) <;> (try simp only [nb] at hg) <;> simp (maxSteps:=9^7) only [ss, evLit, tab, reduceCtorEq, reduceIte, Nat.reduceEqDiff, Nat.reduceBEq, Int.reduceLE, Int.reduceToNat, Nat.reduceAdd, Nat.reduceLT, Nat.reduceLeDiff, hg, plA, plC, Int.reduceBNe, List.length_map]) | ((with_reducible refine Vx ?_); simp only [sb, reduceIte, Nat.reduceEqDiff]) | (refine hK _ ?_; clear hK K) | refine Vt rfl ?_ | refine Vf rfl ?_ | refine Vi rfl (fun hg => ?_) (fun hg => ?_) | clear hK K)
    refine awp_block ?_
    refine awp_for_mv (fun m (i : Nat) => [(19, i64 (i : Int)), (1, .ptr (m + 0) 0), (2, .top), (6, .top), (7, .top), (20, .top), (21, .top), (22, .top), (23, .top), (24, .top), (25, .top), (26, .top), (27, .top), (28, .top), (29, .top), (30, .top), (31, .top), (32, .top), (33, .top), (34, .top), (35, .top), (36, .top), (37, .top), (38, .top), (39, .top), (40, .top), (41, .top)]) (fun m i => [some (.box 27 (plC p)), none]) (fun i => out) (fun i => i ≤ p.rts.length ∧ (∀ j (hj : j < p.rts.length), j < i → soundR p p.rts[j] = true)) (fun i => p.rts.length - i) 0 ⟨Nat.zero_le _, by intros; omega⟩ ?_ fun m i hm hi => ?_
    · refine le_of_all ?_ ?_ (by first | rfl | (simp only [plC, List.length_map]; rfl) | simp only [plC, List.length_map]) rfl rfl rfl <;> simp only [patch, sl, plC, List.length_map]
    obtain ⟨hi, hq⟩ := hi
    simp only [patch, s_0, s_s]
    have hw := addw (n := i) 1 1 rfl (by omega)
    by_cases hlt : i < p.rts.length
    · have gi := getD_map rtC p.rts i [] hlt
      have gw := getD_map (fun r => wyC (folW p r)) p.rts i [] hlt
      have go := getD_map (fun r => joC (folO p r)) p.rts i [] hlt
      simp only [wyC, joC] at gw go
      have hmem := List.getElem_mem hlt
      obtain ⟨z1, z2⟩ := fol_small hs hmem
      obtain ⟨b1, b2, b3⟩ := hs.rt _ hmem
      have g := gone_fol hmy hmem (hfE _ hmem)
      have co := c_once (folW p p.rts[i]).asks (by omega) fun a ha => by obtain ⟨x1, x2, _⟩ := gone_ask g a ha; exact ⟨x1, x2⟩
      have cc := c_clear p hs p.rts[i] (by omega) (folO p p.rts[i]) (gone_outs g) (by omega)
      have okv : soundR p p.rts[i] = (onceB (folW p p.rts[i]).asks && clearB p p.rts[i] (folO p p.rts[i])) := rfl
      have next : soundR p p.rts[i] = true → ∀ q (hq : q < p.rts.length), q < i + 1 → soundR p p.rts[q] = true := fun h q hq1 hq2 => by
        by_cases h' : q = i
        · subst h'; exact h
        · exact hq q hq1 (by omega)
      have bad' := bad i hlt
      clear g hmy hfE bad good hq
      generalize onceB (folW p p.rts[i]).asks = B1 at *
      generalize clearB p p.rts[i] (folO p p.rts[i]) = B2 at *
      simp only [plA, plC, rtA, rtC] at cc
      repeat' (first | (with_reducible first | refine Vk fun K hK => ?_ | refine V0 ?_ | refine Vb ?_ | refine Vc ?_ | refine Vr ?_ | refine Vs ?_ | apply And.intro | refine Vq (by kernel_rfl) ?_) | ((with_reducible first | refine gE ?_ | refine gR ?_); simp (maxSteps:=9^7) only [ss, evLit, tab, reduceCtorEq, reduceIte, Nat.reduceEqDiff, Nat.reduceBEq, Int.reduceLE, Int.reduceToNat, Nat.reduceAdd, Nat.reduceLT, Nat.reduceLeDiff, locM hm, plC, rtC, wyC, joC, List.length_map, hlt, gi, gw, go, splice_all, hw]) | exact Vn | ((with_reducible refine Vz ?_); refine Vo rfl rfl rfl (fun _ _ => rfl) ?_ <;> first | rfl | (rw [bad' (by rw [okv]; simp_all)]; rfl) | skip) | (refine call_pure (co) ?_) | (refine call_pure (cc) ?_) | ((with_reducible refine Vg (fun hg => ?_) (fun hg => ?_)) <;> (try simp only [nb] at hg) <;> simp (maxSteps:=9^7) only [ss, evLit, tab, reduceCtorEq, reduceIte, Nat.reduceEqDiff, Nat.reduceBEq, Int.reduceLE, Int.reduceToNat, Nat.reduceAdd, Nat.reduceLT, Nat.reduceLeDiff, hg, locM hm, plC, rtC, wyC, joC, List.length_map, hlt, gi, gw, go, splice_all, hw]) | ((with_reducible refine Vx ?_); simp only [sb, reduceIte, Nat.reduceEqDiff]) | (refine hK _ ?_; clear hK K) | refine Vt rfl ?_ | refine Vf rfl ?_ | refine Vi rfl (fun hg => ?_) (fun hg => ?_) | clear hK K)
      all_goals (refine ⟨i + 1, ⟨by omega, next (by rw [okv]; simp_all)⟩, by omega, ?_⟩)
      all_goals (refine le_move [true, false] (fun n_ => ?_) (fun n_ => ?_) <;> simp only [patch, sm, plC, hlt, decide_true])
    · have hall := good fun j hj => hq j hj (by omega)
      repeat' (first | (with_reducible first | refine Vk fun K hK => ?_ | refine V0 ?_ | refine Vb ?_ | refine Vc ?_ | refine Vr ?_ | refine Vs ?_ | apply And.intro | refine Vq (by kernel_rfl) ?_) | ((with_reducible first | refine gE ?_ | refine gR ?_); simp (maxSteps:=9^7) only [ss, evLit, tab, reduceCtorEq, reduceIte, Nat.reduceEqDiff, Nat.reduceBEq, Int.reduceLE, Int.reduceToNat, Nat.reduceAdd, Nat.reduceLT, Nat.reduceLeDiff, List.length_map, hlt]) | exact Vn | ((with_reducible refine Vz ?_); refine Vo rfl rfl rfl (fun _ _ => rfl) ?_ <;> first | rfl | (rw [hall]; rfl) | skip) | ((with_reducible refine Vg (fun hg => ?_) (fun hg => ?_)) <;> (try simp only [nb] at hg) <;> simp (maxSteps:=9^7) only [ss, evLit, tab, reduceCtorEq, reduceIte, Nat.reduceEqDiff, Nat.reduceBEq, Int.reduceLE, Int.reduceToNat, Nat.reduceAdd, Nat.reduceLT, Nat.reduceLeDiff, hg, List.length_map, hlt]) | ((with_reducible refine Vx ?_); simp only [sb, reduceIte, Nat.reduceEqDiff]) | (refine hK _ ?_; clear hK K) | refine Vt rfl ?_ | refine Vf rfl ?_ | refine Vi rfl (fun hg => ?_) (fun hg => ?_) | clear hK K)
  · have e1 : soundE p = 100 := by unfold soundE; rw [if_neg fun h => hE h.1]
    have hE' : (allE p != 0) = true := by simpa using hE
    rw [e1]
    refine acall_of 2 Try.func14 rfl fun n out _ _ => ?_
    simp only [Try.ntmps14, List.length_cons, List.length_nil, List.length_map, List.length_replicate, rep_map, Nat.reduceAdd, Nat.reduceSub, List.replicate, List.cons_append, List.nil_append]
    repeat' (first | (with_reducible first | refine Vk fun K hK => ?_ | refine V0 ?_ | refine Vb ?_ | refine Vc ?_ | refine Vr ?_ | refine Vs ?_ | apply And.intro | refine Vq (by kernel_rfl) ?_) | ((with_reducible first | refine gE ?_ | refine gR ?_); simp (maxSteps:=9^7) only [ss, evLit, tab, reduceCtorEq, reduceIte, Nat.reduceEqDiff, Nat.reduceBEq, Int.reduceLE, Int.reduceToNat, Nat.reduceAdd, Nat.reduceLT, Nat.reduceLeDiff, plA, plC, hE']) | exact Vn | ((with_reducible refine Vz ?_); refine Vo rfl rfl rfl (fun _ _ => rfl) ?_ <;> first | rfl | skip) | (refine call_pure (cw) ?_) | ((with_reducible refine Vg (fun hg => ?_) (fun hg => ?_)) <;> (try simp only [nb] at hg) <;> simp (maxSteps:=9^7) only [ss, evLit, tab, reduceCtorEq, reduceIte, Nat.reduceEqDiff, Nat.reduceBEq, Int.reduceLE, Int.reduceToNat, Nat.reduceAdd, Nat.reduceLT, Nat.reduceLeDiff, hg, plA, plC, hE']) | ((with_reducible refine Vx ?_); simp only [sb, reduceIte, Nat.reduceEqDiff]) | (refine hK _ ?_; clear hK K) | refine Vt rfl ?_ | refine Vf rfl ?_ | refine Vi rfl (fun hg => ?_) (fun hg => ?_) | clear hK K)
theorem c_soundR (p : Pl) (hs : Sm p) (id : Int) : ACall Try.prog 18 [plA p, i64 id] [] (i64 (soundF p id)) [] := by
  have c2 : ACall Try.prog 22 [plA p, i64 id] [] (.tup [rtA (rtO p id), i64 (rtE p id)]) [] := c_pRoute p hs id
  have c3 := c_of p hs id
  have c4 := c_outs p hs id
  by_cases hE : rtE p id = 0
  · by_cases hO : ofE p id = 0
    · have e1 : soundF p id = if soundR p (rtO p id) = true then 0 else 100 := by unfold soundF; rw [if_pos hE]; simp [hO]
      have eW : ofW p id = folW p (rtO p id) := by unfold ofW; rw [if_pos hE]
      have eO : ofO p id = folO p (rtO p id) := by unfold ofO; rw [if_pos hE]
      obtain ⟨g, _⟩ := gone_of hO
      obtain ⟨z1, z2⟩ := fol_small hs g.mem
      obtain ⟨b1, b2, b3⟩ := hs.rt _ g.mem
      have co := c_once (folW p (rtO p id)).asks (by omega) fun a ha => by
        rw [← eW] at ha
        obtain ⟨x1, x2, _⟩ := gone_ask g a ha; exact ⟨x1, x2⟩
      have cc := c_clear p hs (rtO p id) (by omega) (folO p (rtO p id)) (by rw [← eO]; exact gone_outs g) (by omega)
      have okv : soundR p (rtO p id) = (onceB (folW p (rtO p id)).asks && clearB p (rtO p id) (folO p (rtO p id))) := rfl
      rw [e1, okv]
      rw [hO, eW] at c3
      rw [hO, eO] at c4
      rw [hE] at c2
      clear g eW eO okv e1 hO hE
      generalize onceB (folW p (rtO p id)).asks = B1 at *
      generalize clearB p (rtO p id) (folO p (rtO p id)) = B2 at *
      generalize rtO p id = r at *
      generalize folW p r = W at *
      generalize folO p r = O at *
      simp only [plA, plC, rtA, rtC, wyA, wyC] at c2 c3 c4 cc
      refine acall_of 3 Try.func18 rfl fun n out _ _ => ?_
      simp only [Try.ntmps18, List.length_cons, List.length_nil, List.length_map, List.length_replicate, rep_map, Nat.reduceAdd, Nat.reduceSub, List.replicate, List.cons_append, List.nil_append]
      repeat' (first | (with_reducible first | refine Vk fun K hK => ?_ | refine V0 ?_ | refine Vs ?_ | apply And.intro) | ((with_reducible first | refine gE ?_ | refine gR ?_); simp (maxSteps:=9^7) only [ss, evLit, tab, reduceCtorEq, reduceIte, Nat.reduceEqDiff, Nat.reduceBEq, Int.reduceLE, Int.reduceToNat, Nat.reduceAdd, Nat.reduceLT, Nat.reduceLeDiff, plA, plC, rtC, wyC, splice_all, Int.reduceBNe]) | exact Vn | ((with_reducible refine Vz ?_); refine Vo rfl rfl rfl (fun _ _ => rfl) ?_ <;> first | rfl | (simp_all; done) | skip) | (refine call_pure (c2) ?_) | (refine call_pure (c3) ?_) | (refine call_pure (c4) ?_) | (refine call_pure (co) ?_) | (refine call_pure (cc) ?_) | (refine awp_scope ?_) | (refine awp_label ?_) | (((with_reducible refine awp_goto ?_); simp only [thenA]; refine jump_to rfl ?_)) | ((with_reducible refine Vg (fun hg => ?_) (fun hg => ?_)) <;> (try simp only [nb] at hg) <;> simp (maxSteps:=9^7) only [ss, evLit, tab, reduceCtorEq, reduceIte, Nat.reduceEqDiff, Nat.reduceBEq, Int.reduceLE, Int.reduceToNat, Nat.reduceAdd, Nat.reduceLT, Nat.reduceLeDiff, hg, plA, plC, rtC, wyC, splice_all, Int.reduceBNe]) | (refine hK _ ?_; clear hK K) | refine Vt rfl ?_ | refine Vf rfl ?_ | refine Vi rfl (fun hg => ?_) (fun hg => ?_) | clear hK K)
    · have e1 : soundF p id = 100 := by unfold soundF; rw [if_pos hE, if_neg fun h => hO h.1]
      have hO' : (ofE p id != 0) = true := by simpa using hO
      rw [e1]
      rw [hE] at c2
      simp only [plA, plC, rtA, rtC, wyA, wyC] at c2 c3
      refine acall_of 3 Try.func18 rfl fun n out _ _ => ?_
      simp only [Try.ntmps18, List.length_cons, List.length_nil, List.length_map, List.length_replicate, rep_map, Nat.reduceAdd, Nat.reduceSub, List.replicate, List.cons_append, List.nil_append]
      repeat' (first | (with_reducible first | refine Vk fun K hK => ?_ | refine V0 ?_ | refine Vs ?_ | apply And.intro) | ((with_reducible first | refine gE ?_ | refine gR ?_); simp (maxSteps:=9^7) only [ss, evLit, tab, reduceCtorEq, reduceIte, Nat.reduceEqDiff, Nat.reduceBEq, Int.reduceLE, Int.reduceToNat, Nat.reduceAdd, Nat.reduceLT, Nat.reduceLeDiff, plA, plC, splice_all, Int.reduceBNe, hO']) | exact Vn | ((with_reducible refine Vz ?_); refine Vo rfl rfl rfl (fun _ _ => rfl) ?_ <;> first | rfl | skip) | (refine call_pure (c2) ?_) | (refine call_pure (c3) ?_) | (refine awp_scope ?_) | (refine awp_label ?_) | (((with_reducible refine awp_goto ?_); simp only [thenA]; refine jump_to rfl ?_)) | ((with_reducible refine Vg (fun hg => ?_) (fun hg => ?_)) <;> (try simp only [nb] at hg) <;> simp (maxSteps:=9^7) only [ss, evLit, tab, reduceCtorEq, reduceIte, Nat.reduceEqDiff, Nat.reduceBEq, Int.reduceLE, Int.reduceToNat, Nat.reduceAdd, Nat.reduceLT, Nat.reduceLeDiff, hg, plA, plC, splice_all, Int.reduceBNe, hO']) | (refine hK _ ?_; clear hK K) | refine Vt rfl ?_ | refine Vf rfl ?_ | refine Vi rfl (fun hg => ?_) (fun hg => ?_) | clear hK K)
  · have e1 : soundF p id = rtE p id := by unfold soundF; rw [if_neg hE]
    have hE' : (rtE p id != 0) = true := by simpa using hE
    rw [e1]
    simp only [plA, plC, rtA, rtC] at c2
    refine acall_of 3 Try.func18 rfl fun n out _ _ => ?_
    simp only [Try.ntmps18, List.length_cons, List.length_nil, List.length_map, List.length_replicate, rep_map, Nat.reduceAdd, Nat.reduceSub, List.replicate, List.cons_append, List.nil_append]
    repeat' (first | (with_reducible first | refine Vk fun K hK => ?_ | refine V0 ?_ | refine Vs ?_ | apply And.intro) | ((with_reducible first | refine gE ?_ | refine gR ?_); simp (maxSteps:=9^7) only [ss, evLit, tab, reduceCtorEq, reduceIte, Nat.reduceEqDiff, Nat.reduceBEq, Int.reduceLE, Int.reduceToNat, Nat.reduceAdd, Nat.reduceLT, Nat.reduceLeDiff, plA, plC, splice_all, hE']) | exact Vn | ((with_reducible refine Vz ?_); refine Vo rfl rfl rfl (fun _ _ => rfl) ?_ <;> first | rfl | skip) | (refine call_pure (c2) ?_) | (refine awp_scope ?_) | ((with_reducible refine Vg (fun hg => ?_) (fun hg => ?_)) <;> (try simp only [nb] at hg) <;> simp (maxSteps:=9^7) only [ss, evLit, tab, reduceCtorEq, reduceIte, Nat.reduceEqDiff, Nat.reduceBEq, Int.reduceLE, Int.reduceToNat, Nat.reduceAdd, Nat.reduceLT, Nat.reduceLeDiff, hg, plA, plC, splice_all, hE']) | (refine hK _ ?_; clear hK K) | refine Vt rfl ?_ | refine Vf rfl ?_ | refine Vi rfl (fun hg => ?_) (fun hg => ?_) | clear hK K)
end Go.Proofs.Ytcfkieacdjcaoaa.Pln
end
section
namespace Go.Proofs.Ytcfkieacdjcaoaa.Pln
set_option linter.unusedVariables false
set_option linter.unusedSimpArgs false
open Go Go.VS Tab
set_option maxHeartbeats 16000000
set_option maxRecDepth 8000
def tS1 : Sec := ⟨1, 0, [(0, 0), (2, 0)]⟩
def tS2 : Sec := ⟨2, 2, [(1, 1), (3, 0), (4, 0)]⟩
def tS3 : Sec := ⟨3, 0, [(2, 1), (5, 1)]⟩
def tS4 : Sec := ⟨4, 0, [(2, 2), (5, 2)]⟩
def tS5 : Sec := ⟨5, 5, [(6, 0), (3, 1), (4, 1)]⟩
def tS6 : Sec := ⟨6, 0, [(5, 0), (0, 0)]⟩
def tSs : List Sec := [tS1, tS2, tS3, tS4, tS5, tS6]
def tPs : List (Int × Int) := [(2, 2), (5, 5)]
def tGs : List (Int × Int × Int) := [(1, 1, 1), (3, 3, 1), (4, 4, 1), (6, 6, 0)]
def tR1 : Rt := ⟨1, 1, 3, [2, 3], [5], [], 2⟩
def tR3 : Rt := ⟨3, 3, 0, [5, 6], [], [], 1⟩
def tR6 : Rt := ⟨6, 6, 0, [5, 4, 2, 1], [], [], 1⟩
def exT : Pl := ⟨1, 0, tSs, tPs, tGs, [tR1, tR3, tR6]⟩
theorem exT_sm : Sm exT := ⟨by decide, by decide, by decide, by decide, by decide, by decide⟩
theorem c_station10 : ACall Try.prog 12 [] [] (.agg [i64 1, i64 0, .sl 3 (tSs.map secC) .sh, .sl 2 (tPs.map jnC) .sh, .sl 3 (tGs.map sgC) .full, .sl 7 (exT.rts.map rtC) .sh]) [] := by
  refine acall_of 1 Try.func12 rfl fun n out _ _ => ?_
  simp only [Try.ntmps12, List.length_cons, List.length_nil, List.length_map, List.length_replicate, rep_map, Nat.reduceAdd, Nat.reduceSub, List.replicate, List.cons_append, List.nil_append]
  repeat' (first | (with_reducible first | refine Vk fun K hK => ?_ | refine V0 ?_ | refine Vs ?_ | apply And.intro) | ((with_reducible first | refine gE ?_ | refine gR ?_); simp (maxSteps:=9^7) only [ss, tab, reduceCtorEq, reduceIte, Nat.reduceEqDiff, Nat.reduceBEq, Int.reduceLE, Int.reduceToNat, Nat.reduceAdd, Nat.reduceLT, Nat.reduceLeDiff, splice_all, plA, plC, exT, tSs, tPs, tGs, tS1, tS2, tS3, tS4, tS5, tS6, tR1, tR3, tR6, secC, jnC, sgC, rtC, intC, List.map_cons, List.map_nil]) | exact Vn | ((with_reducible refine Vz ?_); (first | refine ret_cell_le (.inr rfl) rfl rfl rfl (fun _ _ => rfl) ok27 (k := n + 0) (off := 0) rfl (dom_loc _ (by simp)) (look_loc _ (Nat.le_refl _) 0) rfl ?_ | refine ret_cell_le (.inr rfl) rfl rfl rfl (fun _ _ => rfl) ok27 (k := m + 0) (off := 0) rfl (dom_loc _ (by simp)) (look_loc _ hm 0) rfl ?_) <;> first | rfl | exact AV.le.rfl _ | (simp only [patch, sl, ti27, List.map_nil, splice_all, plA, plC, exT, tSs, tPs, tGs, tS1, tS2, tS3, tS4, tS5, tS6, tR1, tR3, tR6, secC, jnC, sgC, rtC, intC, List.map_cons, List.map_nil]; done) | rfl | skip) | (refine evLit_of 2 [[i64 0, i64 0], [i64 2, i64 0]] rfl ?_) | (refine evLit_of 2 [[i64 1, i64 1], [i64 3, i64 0], [i64 4, i64 0]] rfl ?_) | (refine evLit_of 2 [[i64 2, i64 1], [i64 5, i64 1]] rfl ?_) | (refine evLit_of 2 [[i64 2, i64 2], [i64 5, i64 2]] rfl ?_) | (refine evLit_of 2 [[i64 6, i64 0], [i64 3, i64 1], [i64 4, i64 1]] rfl ?_) | (refine evLit_of 2 [[i64 5, i64 0], [i64 0, i64 0]] rfl ?_) | (refine evLit_of 3 [[i64 1, i64 0, .sl 2 [[i64 0, i64 0], [i64 2, i64 0]] .full], [i64 2, i64 2, .sl 2 [[i64 1, i64 1], [i64 3, i64 0], [i64 4, i64 0]] .full], [i64 3, i64 0, .sl 2 [[i64 2, i64 1], [i64 5, i64 1]] .full], [i64 4, i64 0, .sl 2 [[i64 2, i64 2], [i64 5, i64 2]] .full], [i64 5, i64 5, .sl 2 [[i64 6, i64 0], [i64 3, i64 1], [i64 4, i64 1]] .full], [i64 6, i64 0, .sl 2 [[i64 5, i64 0], [i64 0, i64 0]] .full]] rfl ?_) | (refine evLit_of 2 [[i64 2, i64 2], [i64 5, i64 5]] rfl ?_) | (refine evLit_of 3 [[i64 1, i64 1, i64 1], [i64 3, i64 3, i64 1], [i64 4, i64 4, i64 1], [i64 6, i64 6, i64 0]] rfl ?_) | (refine evLit_of 1 [[i64 2], [i64 3]] rfl ?_) | (refine evLit_of 1 [[i64 5]] rfl ?_) | (refine evLit_of 1 [[i64 5], [i64 6]] rfl ?_) | (refine evLit_of 1 [[i64 5], [i64 4], [i64 2], [i64 1]] rfl ?_) | (refine evLit_of 7 [[i64 1, i64 1, i64 3, .sl 1 [[i64 2], [i64 3]] .full, .sl 1 [[i64 5]] .full, .sl 0 [] .nil, i64 2], [i64 3, i64 3, i64 0, .sl 1 [[i64 5], [i64 6]] .full, .sl 0 [] .nil, .sl 0 [] .nil, i64 1], [i64 6, i64 6, i64 0, .sl 1 [[i64 5], [i64 4], [i64 2], [i64 1]] .full, .sl 0 [] .nil, .sl 0 [] .nil, i64 1]] rfl ?_) | (refine hK _ ?_; clear hK K) | clear hK K)
theorem c_st10 : ACall Try.prog 12 [] [] (plA exT) [] := acall_ge c_station10 (by simp only [plA, plC, exT, patch, sl])
theorem c_salive : ACall Try.prog 13 [] [] (bool true) [] := by
  have h1 := c_soundC exT exT_sm
  rw [show soundE exT = 0 by kernel_rfl] at h1
  have h2 := c_soundR exT exT_sm 1
  rw [show soundF exT 1 = 0 by kernel_rfl] at h2
  have h3 := c_soundR exT exT_sm 9
  rw [show soundF exT 9 = 6 by kernel_rfl] at h3
  refine acall_of 0 Try.func13 rfl fun n out _ _ => ?_
  simp only [Try.ntmps13, List.length_cons, List.length_nil, List.length_map, List.length_replicate, rep_map, Nat.reduceAdd, Nat.reduceSub, List.replicate, List.cons_append, List.nil_append]
  repeat' (first | (with_reducible first | refine Vk fun K hK => ?_ | refine V0 ?_ | refine Vs ?_ | apply And.intro) | ((with_reducible first | refine gE ?_ | refine gR ?_); simp (maxSteps:=9^7) only [ss, evLit, tab, reduceCtorEq, reduceIte, Nat.reduceEqDiff, Nat.reduceBEq, Int.reduceLE, Int.reduceToNat, Nat.reduceAdd, Nat.reduceLT, Nat.reduceLeDiff, Int.reduceBEq, Bool.and_self]) | exact Vn | ((with_reducible refine Vz ?_); refine Vo rfl rfl rfl (fun _ _ => rfl) ?_ <;> first | rfl | skip) | (refine call_pure (c_st10) ?_) | (refine call_pure (h1) ?_) | (refine call_pure (h2) ?_) | (refine call_pure (h3) ?_) | ((with_reducible refine Vg (fun hg => ?_) (fun hg => ?_)) <;> (try simp only [nb] at hg) <;> simp (maxSteps:=9^7) only [ss, evLit, tab, reduceCtorEq, reduceIte, Nat.reduceEqDiff, Nat.reduceBEq, Int.reduceLE, Int.reduceToNat, Nat.reduceAdd, Nat.reduceLT, Nat.reduceLeDiff, hg, Int.reduceBEq, Bool.and_self]) | (refine hK _ ?_; clear hK K) | clear hK K)
end Go.Proofs.Ytcfkieacdjcaoaa.Pln
end
