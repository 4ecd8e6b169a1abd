/- The layer of abstract values, joined: RA. -/
import Derived.Test.YtdkiciofkifpdaaZGA
import Derived.Test.YtdkiciofkifpdaaZPM
import Derived.Test.YtdkiciofkifpdaaZW14
import Derived.Test.YtdkiciofkifpdaaZPP
import Derived.Test.YtdkiciofkifpdaaZWZ
import Derived.Test.YtdkiciofkifpdaaZP15
section
namespace Go.Proofs.Ytdkiciofkifpdaa.Pln
set_option linter.unusedVariables false
set_option linter.unusedSimpArgs false
open Go Go.VS Tab
set_option maxHeartbeats 4000000
set_option maxRecDepth 4000
theorem c_rAt (p : Pl) (hs : Sm p) (a b : Int) : ACall Try.prog 80 [plA p, i64 a, i64 b] [] (i64 (atF p.sgs a b)) [] := by
  have hsl := hs.sgs
  refine acall_of 1 Try.func80 rfl fun n out _ _ => ?_
  simp only [Try.ntmps80, List.length_cons, List.length_nil, List.length_map, List.length_replicate, rep_map, Nat.reduceAdd, Nat.reduceSub, List.replicate, List.cons_append, List.nil_append]
  repeat' (first | (with_reducible first | refine Vk fun K hK => ?_ | refine V0 ?_ | refine Vb ?_ | refine Vc ?_ | refine Vr ?_ | refine Vs ?_ | apply And.intro) | ((with_reducible first | refine gE ?_ | refine gR ?_); simp (maxSteps:=9^7) only [ss, evLit, tab, reduceCtorEq, reduceIte, Nat.reduceEqDiff, Nat.reduceBEq, Int.reduceLE, Int.reduceToNat, Nat.reduceAdd, Nat.reduceLT, Nat.reduceLeDiff, plA, plC]) | exact Vn | ((with_reducible refine Vz ?_); refine Vo rfl rfl rfl (fun _ _ => rfl) ?_ <;> first | rfl | skip) | ((with_reducible refine Vg (fun hg => ?_) (fun hg => ?_)) <;> (try simp only [nb] at hg) <;> simp (maxSteps:=9^7) only [ss, evLit, tab, reduceCtorEq, reduceIte, Nat.reduceEqDiff, Nat.reduceBEq, Int.reduceLE, Int.reduceToNat, Nat.reduceAdd, Nat.reduceLT, Nat.reduceLeDiff, hg, plA, plC]) | ((with_reducible refine Vx ?_); simp only [sb, reduceIte, Nat.reduceEqDiff]) | (refine hK _ ?_; clear hK K) | refine Vt rfl ?_ | refine Vf rfl ?_ | refine Vi rfl (fun hg => ?_) (fun hg => ?_) | clear hK K)
  refine awp_block ?_
  refine awp_for_mv (fun m (i : Nat) => [(7, i64 (i : Int)), (3, .ptr (m + 0) 0), (6, .top), (8, .top), (9, .top), (10, .top), (11, .top), (12, .top), (13, .top), (14, .top), (15, .top), (16, .top), (17, .top), (18, .top), (19, .top), (20, .top), (21, .top), (22, .top), (23, .top), (24, .top), (25, .top), (26, .top), (27, .top), (28, .top), (29, .top), (30, .top), (31, .top), (32, .top), (33, .top), (34, .top), (35, .top), (36, .top), (37, .top), (38, .top)]) (fun m i => [some (.box 27 (plC p))]) (fun i => out) (fun i => i ≤ p.sgs.length ∧ (∀ j (hj : j < p.sgs.length), j < i → (p.sgs[j].2.1 == a && p.sgs[j].2.2 == b) = false)) (fun i => p.sgs.length - i) 0 ⟨Nat.zero_le _, by intros; omega⟩ ?_ fun m i hm hi => ?_
  · refine le_of_all ?_ ?_ (by first | rfl | (simp only [plC]; rfl) | simp only [plC]) rfl rfl rfl <;> simp only [patch, sl, plC]
  obtain ⟨hi, hq⟩ := hi
  simp only [patch, s_0, s_s]
  have hw := addw (n := i) 1 1 rfl (by omega)
  by_cases hlt : i < p.sgs.length
  · have gi := getD_map sgC p.sgs i [] hlt
    have next : (p.sgs[i].2.1 == a && p.sgs[i].2.2 == b) = false → ∀ j (hj : j < p.sgs.length), j < i + 1 → (p.sgs[j].2.1 == a && p.sgs[j].2.2 == b) = false := fun h j hj hji => by
      by_cases h' : j = i
      · subst h'; exact h
      · exact hq j hj (by omega)
    cases hb : (p.sgs[i].2.1 == a && p.sgs[i].2.2 == b) with
    | true =>
      have e : atF p.sgs a b = p.sgs[i].1 := by
        unfold atF
        rw [find_first (f := fun g : Int × Int × Int => g.2.1 == a && g.2.2 == b) hlt hb hq]
      rw [Bool.and_eq_true] at hb
      obtain ⟨b1, b2⟩ := hb
      rw [e]
      repeat' (first | (with_reducible first | refine Vk fun K hK => ?_ | refine V0 ?_ | refine Vb ?_ | refine Vc ?_ | refine Vr ?_ | refine Vs ?_ | apply And.intro) | ((with_reducible first | refine gE ?_ | refine gR ?_); simp (maxSteps:=9^7) only [ss, evLit, tab, reduceCtorEq, reduceIte, Nat.reduceEqDiff, Nat.reduceBEq, Int.reduceLE, Int.reduceToNat, Nat.reduceAdd, Nat.reduceLT, Nat.reduceLeDiff, locM hm, plC, sgC, List.length_map, hlt, gi, splice_all, b1, b2, hw]) | exact Vn | ((with_reducible refine Vz ?_); refine Vo rfl rfl rfl (fun _ _ => rfl) ?_ <;> first | rfl | skip) | ((with_reducible refine Vg (fun hg => ?_) (fun hg => ?_)) <;> (try simp only [nb] at hg) <;> simp (maxSteps:=9^7) only [ss, evLit, tab, reduceCtorEq, reduceIte, Nat.reduceEqDiff, Nat.reduceBEq, Int.reduceLE, Int.reduceToNat, Nat.reduceAdd, Nat.reduceLT, Nat.reduceLeDiff, hg, locM hm, plC, sgC, List.length_map, hlt, gi, splice_all, b1, b2, hw]) | ((with_reducible refine Vx ?_); simp only [sb, reduceIte, Nat.reduceEqDiff]) | (refine hK _ ?_; clear hK K) | refine Vt rfl ?_ | refine Vf rfl ?_ | refine Vi rfl (fun hg => ?_) (fun hg => ?_) | clear hK K)
    | false =>
      have nx := next hb
      clear next hq
      cases b1 : (p.sgs[i].2.1 == a) with
      | true =>
        have b2 : (p.sgs[i].2.2 == b) = false := by rw [b1, Bool.true_and] at hb; exact hb
        repeat' (first | (with_reducible first | refine Vk fun K hK => ?_ | refine V0 ?_ | refine Vb ?_ | refine Vc ?_ | refine Vr ?_ | refine Vs ?_ | apply And.intro) | ((with_reducible first | refine gE ?_ | refine gR ?_); simp (maxSteps:=9^7) only [ss, evLit, tab, reduceCtorEq, reduceIte, Nat.reduceEqDiff, Nat.reduceBEq, Int.reduceLE, Int.reduceToNat, Nat.reduceAdd, Nat.reduceLT, Nat.reduceLeDiff, locM hm, plC, sgC, List.length_map, hlt, gi, splice_all, b1, b2, hw]) | exact Vn | ((with_reducible refine Vz ?_); refine Vo rfl rfl rfl (fun _ _ => rfl) ?_ <;> first | rfl | skip) | ((with_reducible refine Vg (fun hg => ?_) (fun hg => ?_)) <;> (try simp only [nb] at hg) <;> simp (maxSteps:=9^7) only [ss, evLit, tab, reduceCtorEq, reduceIte, Nat.reduceEqDiff, Nat.reduceBEq, Int.reduceLE, Int.reduceToNat, Nat.reduceAdd, Nat.reduceLT, Nat.reduceLeDiff, hg, locM hm, plC, sgC, List.length_map, hlt, gi, splice_all, b1, b2, hw]) | ((with_reducible refine Vx ?_); simp only [sb, reduceIte, Nat.reduceEqDiff]) | (refine hK _ ?_; clear hK K) | refine Vt rfl ?_ | refine Vf rfl ?_ | refine Vi rfl (fun hg => ?_) (fun hg => ?_) | clear hK K)
        refine ⟨i + 1, ⟨by omega, nx⟩, by omega, ?_⟩
        refine le_move [true] (fun n_ => ?_) (fun n_ => ?_) <;> simp only [patch, sm, plC, hlt, decide_true]
      | false =>
        repeat' (first | (with_reducible first | refine Vk fun K hK => ?_ | refine V0 ?_ | refine Vb ?_ | refine Vc ?_ | refine Vr ?_ | refine Vs ?_ | apply And.intro) | ((with_reducible first | refine gE ?_ | refine gR ?_); simp (maxSteps:=9^7) only [ss, evLit, tab, reduceCtorEq, reduceIte, Nat.reduceEqDiff, Nat.reduceBEq, Int.reduceLE, Int.reduceToNat, Nat.reduceAdd, Nat.reduceLT, Nat.reduceLeDiff, locM hm, plC, sgC, List.length_map, hlt, gi, splice_all, b1, hw]) | exact Vn | ((with_reducible refine Vz ?_); refine Vo rfl rfl rfl (fun _ _ => rfl) ?_ <;> first | rfl | skip) | ((with_reducible refine Vg (fun hg => ?_) (fun hg => ?_)) <;> (try simp only [nb] at hg) <;> simp (maxSteps:=9^7) only [ss, evLit, tab, reduceCtorEq, reduceIte, Nat.reduceEqDiff, Nat.reduceBEq, Int.reduceLE, Int.reduceToNat, Nat.reduceAdd, Nat.reduceLT, Nat.reduceLeDiff, hg, locM hm, plC, sgC, List.length_map, hlt, gi, splice_all, b1, hw]) | ((with_reducible refine Vx ?_); simp only [sb, reduceIte, Nat.reduceEqDiff]) | (refine hK _ ?_; clear hK K) | refine Vt rfl ?_ | refine Vf rfl ?_ | refine Vi rfl (fun hg => ?_) (fun hg => ?_) | clear hK K)
        refine ⟨i + 1, ⟨by omega, nx⟩, by omega, ?_⟩
        refine le_move [true] (fun n_ => ?_) (fun n_ => ?_) <;> simp only [patch, sm, plC, hlt, decide_true]
  · have e : atF p.sgs a b = 0 := by
      unfold atF
      rw [find_none' (f := fun g : Int × Int × Int => g.2.1 == a && g.2.2 == b) fun j hj => hq j hj (by omega)]
    repeat' (first | (with_reducible first | refine Vk fun K hK => ?_ | refine V0 ?_ | refine Vb ?_ | refine Vc ?_ | refine Vr ?_ | refine Vs ?_ | apply And.intro) | ((with_reducible first | refine gE ?_ | refine gR ?_); simp (maxSteps:=9^7) only [ss, evLit, tab, reduceCtorEq, reduceIte, Nat.reduceEqDiff, Nat.reduceBEq, Int.reduceLE, Int.reduceToNat, Nat.reduceAdd, Nat.reduceLT, Nat.reduceLeDiff, locM hm, plC, splice_all, List.length_map, hlt]) | exact Vn | ((with_reducible refine Vz ?_); refine Vo rfl rfl rfl (fun _ _ => rfl) ?_ <;> first | rfl | (rw [e]; rfl) | skip) | ((with_reducible refine Vg (fun hg => ?_) (fun hg => ?_)) <;> (try simp only [nb] at hg) <;> simp (maxSteps:=9^7) only [ss, evLit, tab, reduceCtorEq, reduceIte, Nat.reduceEqDiff, Nat.reduceBEq, Int.reduceLE, Int.reduceToNat, Nat.reduceAdd, Nat.reduceLT, Nat.reduceLeDiff, hg, locM hm, plC, splice_all, List.length_map, hlt]) | ((with_reducible refine Vx ?_); simp only [sb, reduceIte, Nat.reduceEqDiff]) | (refine hK _ ?_; clear hK K) | refine Vt rfl ?_ | refine Vf rfl ?_ | refine Vi rfl (fun hg => ?_) (fun hg => ?_) | clear hK K)
end Go.Proofs.Ytdkiciofkifpdaa.Pln
end
section
namespace Go.Proofs.Ytdkiciofkifpdaa.Pln
set_option linter.unusedVariables false
set_option linter.unusedSimpArgs false
open Go Go.VS Tab
set_option maxHeartbeats 8000000
set_option maxRecDepth 4000
def refR (p : Pl) (r : Rt) (L : List Int) (i : Nat) (s : Sec) (e : Nat) (j : Int × Int) : Bool := if i + 1 = r.path.length then (if r.ex = 0 then j.1 == 0 else atF p.sgs s.id e == r.ex) else j.1 == L.getD (i + 1) 0
def okX (p : Pl) (r : Rt) (L : List Int) (i : Nat) (s : Sec) (inn : Int) (e : Nat) : Bool := !decide (lieF s inn e < 0) && refR p r L i s e (s.ends.getD e (0, 0))
def outX (p : Pl) (r : Rt) (L : List Int) (i : Nat) (s : Sec) (inn : Int) : Int := match (List.range s.ends.length).find? (okX p r L i s inn) with
  | some e => e
  | none => -1
theorem outX_hit {p : Pl} {r : Rt} {L : List Int} {i : Nat} {s : Sec} {inn : Int} {e : Nat} (he : e < s.ends.length) (h : okX p r L i s inn e = true) (hq : ∀ j, j < e → okX p r L i s inn j = false) : outX p r L i s inn = e := by
  unfold outX; rw [range_find he h hq]
theorem outX_none {p : Pl} {r : Rt} {L : List Int} {i : Nat} {s : Sec} {inn : Int} (hq : ∀ j, j < s.ends.length → okX p r L i s inn j = false) : outX p r L i s inn = -1 := by
  unfold outX; rw [range_none hq]
theorem at_of {l : List Sec} {n : Int} {s : Sec} (h : getS l n = some s) : ∃ (k : Nat) (hk : k < l.length), idx (fun x => x.id == n) l = k ∧ l[k] = s := by
  rcases idx_cases (fun x : Sec => x.id == n) l with ⟨z1, z2, z3⟩ | ⟨k, hk, z1, z2, z3, z4⟩
  · unfold getS at h; rw [z2] at h; cases h
  · refine ⟨k, hk, z1, ?_⟩
    unfold getS at h; rw [z2] at h; simpa using h
theorem c_rout (p : Pl) (hs : Sm p) (r : Rt) (hpl : 1 ≤ r.path.length ∧ r.path.length ≤ 1000) (L : List Int) (hL : L.length ≤ 1000) (i : Nat) (hi : i < L.length) (hnx : i + 1 = r.path.length ∨ i + 1 < L.length) (s : Sec) (hsec : getS p.secs L[i] = some s) (inn : Int) :
    ACall Try.prog 120 [plA p, rtA r, ints L, i64 (i : Int), i64 inn] [] (i64 (outX p r L i s inn)) [] := by
  obtain ⟨k, hk, hka, hks⟩ := at_of hsec
  have hse := hs.ends s (getS_some hsec).1
  have ca := c_at p.secs L[i] (by have := hs.secs; omega)
  rw [hka] at ca
  have gk := getD_map secC p.secs k [] hk
  rw [hks] at gk
  have gi := getD_map intC L i [] hi
  have hwp := subw (n := r.path.length) 1 1 rfl (by omega) (by omega)
  have hwi := addw (n := i) 1 1 rfl (by omega)
  obtain ⟨OX, hOX⟩ : ∃ OX, OX = outX p r L i s inn := ⟨_, rfl⟩
  rw [← hOX]
  refine acall_of 3 Try.func120 rfl fun n out _ _ => ?_
  simp only [Try.ntmps120, List.length_cons, List.length_nil, List.length_map, List.length_replicate, rep_map, Nat.reduceAdd, Nat.reduceSub, List.replicate, List.cons_append, List.nil_append]
  repeat' (first | (with_reducible first | refine Vk fun K hK => ?_ | refine V0 ?_ | refine Vb ?_ | refine Vc ?_ | refine Vr ?_ | refine Vs ?_ | apply And.intro | refine Vd 1 [] [[],[0],[],[0],[],[],[],[],[],[],[],[2],[2]] [[],[],[],[],[],[],[],[],[],[],[],[2],[2]] (by kernel_rfl) (by decide) (by decide) (by kernel_rfl) ?_ | refine Vq (by kernel_rfl) ?_) | ((with_reducible first | refine gE ?_ | refine gR ?_ | refine gD ?_ | refine gF ?_); simp (maxSteps:=9^7) only [ss, evLit, tab, reduceCtorEq, reduceIte, Nat.reduceEqDiff, Nat.reduceBEq, Int.reduceLE, Int.reduceToNat, Nat.reduceAdd, Nat.reduceLT, Nat.reduceLeDiff, plA, plC, rtA, rtC, secC, intC, splice_all, List.length_map, gi, hi, gk, hk]) | exact Vn | ((with_reducible refine Vz ?_); refine Vo rfl rfl rfl (fun _ _ => rfl) ?_ <;> first | rfl | skip) | (refine call_pure (ca) ?_) | ((with_reducible refine Vg (fun hg => ?_) (fun hg => ?_)) <;> (try simp only [nb] at hg) <;> simp (maxSteps:=9^7) only [ss, evLit, tab, reduceCtorEq, reduceIte, Nat.reduceEqDiff, Nat.reduceBEq, Int.reduceLE, Int.reduceToNat, Nat.reduceAdd, Nat.reduceLT, Nat.reduceLeDiff, hg, plA, plC, rtA, rtC, secC, intC, splice_all, List.length_map, gi, hi, gk, hk]) | ((with_reducible refine Vx ?_); simp only [sb, reduceIte, Nat.reduceEqDiff]) | (refine hK _ ?_; clear hK K) | refine Vt rfl ?_ | refine Vf rfl ?_ | refine Vi rfl (fun hg => ?_) (fun hg => ?_) | clear hK K)
  refine awp_block ?_
  refine awp_for_mv (fun m (e : Nat) => [(12, i64 (e : Int)), (5, .ptr (m + 0) 0), (6, .ptr (m + 1) 0), (11, .ptr (m + 2) 0), (10, .top), (24, .top), (25, .top), (26, .top), (27, .top), (28, .top), (29, .top), (30, .top), (31, .top), (32, .top), (33, .top), (34, .top), (35, .top), (36, .top), (37, .top), (38, .top), (39, .top), (40, .top), (41, .top), (42, .top), (43, .top), (44, .top), (45, .top), (46, .top), (47, .top), (48, .top), (49, .top), (50, .top), (51, .top), (52, .top), (53, .top), (54, .top), (55, .top), (56, .top), (57, .top), (58, .top), (59, .top), (60, .top), (61, .top), (62, .top), (63, .top), (64, .top), (65, .top), (66, .top), (67, .top), (68, .top), (69, .top), (70, .top), (71, .top), (72, .top), (73, .top), (74, .top), (75, .top), (76, .top), (77, .top), (78, .top), (79, .top), (80, .top), (81, .top), (82, .top)]) (fun m e => [some (.box 27 (plC p)), some (.box 34 (rtC r)), some (.box 37 (secC s))]) (fun e => out) (fun e => e ≤ s.ends.length ∧ (∀ j, j < e → okX p r L i s inn j = false)) (fun e => s.ends.length - e) 0 ⟨Nat.zero_le _, by intros; omega⟩ ?_ fun m e hm he => ?_
  · refine le_of_all ?_ ?_ (by first | rfl | (simp only [plC, rtC, secC]; rfl) | simp only [plC, rtC, secC]) rfl rfl rfl <;> simp only [patch, sl, plC, rtC, secC]
  obtain ⟨he, hq⟩ := he
  simp only [patch, s_0, s_s]
  have hw := addw (n := e) 1 1 rfl (by omega)
  by_cases hlt : e < s.ends.length
  · have ge := getD_map jnC s.ends e [] hlt
    have gd : s.ends.getD e (0, 0) = s.ends[e] := by simp [List.getD_eq_getElem?_getD, hlt]
    have cl := c_rlie s inn e
    have cA := c_rAt p hs s.id e
    have okv : okX p r L i s inn e = (!decide (lieF s inn e < 0) && refR p r L i s e s.ends[e]) := by unfold okX; rw [gd]
    have next : okX p r L i s inn e = false → ∀ j, j < e + 1 → okX p r L i s inn j = false := fun h j hj => by
      by_cases h' : j = e
      · subst h'; exact h
      · exact hq j (by omega)
    have hit : okX p r L i s inn e = true → OX = e := fun h => by rw [hOX]; exact outX_hit hlt h hq
    simp only [secA, secC] at cl
    simp only [plA, plC] at cA
    clear hq hOX ca hka
    generalize lieF s inn e = LE at *
    generalize okX p r L i s inn e = OK at *
    cases hl : decide (LE < 0) with
    | true =>
      rw [hl, Bool.not_true, Bool.false_and] at okv
      repeat' (first | (with_reducible first | refine Vk fun K hK => ?_ | refine V0 ?_ | refine Vb ?_ | refine Vc ?_ | refine Vr ?_ | refine Vs ?_ | apply And.intro | refine Vq (by kernel_rfl) ?_) | ((with_reducible first | refine gE ?_ | refine gR ?_); simp (maxSteps:=9^7) only [ss, evLit, tab, reduceCtorEq, reduceIte, Nat.reduceEqDiff, Nat.reduceBEq, Int.reduceLE, Int.reduceToNat, Nat.reduceAdd, Nat.reduceLT, Nat.reduceLeDiff, locM hm, plC, rtC, secC, List.length_map, hlt, splice_all, hl, hw]) | exact Vn | ((with_reducible refine Vz ?_); refine Vo rfl rfl rfl (fun _ _ => rfl) ?_ <;> first | rfl | skip) | (refine call_pure (cl) ?_) | ((with_reducible refine Vg (fun hg => ?_) (fun hg => ?_)) <;> (try simp only [nb] at hg) <;> simp (maxSteps:=9^7) only [ss, evLit, tab, reduceCtorEq, reduceIte, Nat.reduceEqDiff, Nat.reduceBEq, Int.reduceLE, Int.reduceToNat, Nat.reduceAdd, Nat.reduceLT, Nat.reduceLeDiff, hg, locM hm, plC, rtC, secC, List.length_map, hlt, splice_all, hl, hw]) | ((with_reducible refine Vx ?_); simp only [sb, reduceIte, Nat.reduceEqDiff]) | (refine hK _ ?_; clear hK K) | refine Vt rfl ?_ | refine Vf rfl ?_ | refine Vi rfl (fun hg => ?_) (fun hg => ?_) | clear hK K)
      refine ⟨e + 1, ⟨by omega, next okv⟩, by omega, ?_⟩
      refine le_move [true, true, true] (fun n_ => ?_) (fun n_ => ?_) <;> simp only [patch, sm, plC, rtC, secC, hlt, decide_true]
    | false =>
      rw [hl, Bool.not_false, Bool.true_and] at okv
      unfold refR at okv
      by_cases hp : i + 1 = r.path.length
      · rw [if_pos hp] at okv
        have bp : ((i : Int) == ((r.path.length - 1 : Nat) : Int)) = true := by simp; omega
        by_cases hx : r.ex = 0
        · rw [if_pos hx] at okv
          have bx1 : (r.ex == 0) = true := by simp [hx]
          have bx2 : (r.ex != 0) = false := by simp [hx]
          cases hC : (s.ends[e].1 == 0) with
          | true =>
            rw [hit (okv.trans hC)]
            repeat' (first | (with_reducible first | refine Vk fun K hK => ?_ | refine V0 ?_ | refine Vb ?_ | refine Vc ?_ | refine Vr ?_ | refine Vs ?_ | apply And.intro | refine Vq (by kernel_rfl) ?_) | ((with_reducible first | refine gE ?_ | refine gR ?_); simp (maxSteps:=9^7) only [ss, evLit, tab, reduceCtorEq, reduceIte, Nat.reduceEqDiff, Nat.reduceBEq, Int.reduceLE, Int.reduceToNat, Nat.reduceAdd, Nat.reduceLT, Nat.reduceLeDiff, locM hm, plC, rtC, secC, jnC, List.length_map, hlt, ge, splice_all, hl, hwp, bp, bx1, bx2, hC]) | exact Vn | ((with_reducible refine Vz ?_); refine Vo rfl rfl rfl (fun _ _ => rfl) ?_ <;> first | rfl | skip) | (refine call_pure (cl) ?_) | ((with_reducible refine Vg (fun hg => ?_) (fun hg => ?_)) <;> (try simp only [nb] at hg) <;> simp (maxSteps:=9^7) only [ss, evLit, tab, reduceCtorEq, reduceIte, Nat.reduceEqDiff, Nat.reduceBEq, Int.reduceLE, Int.reduceToNat, Nat.reduceAdd, Nat.reduceLT, Nat.reduceLeDiff, hg, locM hm, plC, rtC, secC, jnC, List.length_map, hlt, ge, splice_all, hl, hwp, bp, bx1, bx2, hC]) | ((with_reducible refine Vx ?_); simp only [sb, reduceIte, Nat.reduceEqDiff]) | (refine hK _ ?_; clear hK K) | refine Vt rfl ?_ | refine Vf rfl ?_ | refine Vi rfl (fun hg => ?_) (fun hg => ?_) | clear hK K)
          | false =>
            repeat' (first | (with_reducible first | refine Vk fun K hK => ?_ | refine V0 ?_ | refine Vb ?_ | refine Vc ?_ | refine Vr ?_ | refine Vs ?_ | apply And.intro | refine Vq (by kernel_rfl) ?_) | ((with_reducible first | refine gE ?_ | refine gR ?_); simp (maxSteps:=9^7) only [ss, evLit, tab, reduceCtorEq, reduceIte, Nat.reduceEqDiff, Nat.reduceBEq, Int.reduceLE, Int.reduceToNat, Nat.reduceAdd, Nat.reduceLT, Nat.reduceLeDiff, locM hm, plC, rtC, secC, jnC, List.length_map, hlt, ge, splice_all, hl, hwp, bp, bx1, bx2, hC, hw]) | exact Vn | ((with_reducible refine Vz ?_); refine Vo rfl rfl rfl (fun _ _ => rfl) ?_ <;> first | rfl | skip) | (refine call_pure (cl) ?_) | ((with_reducible refine Vg (fun hg => ?_) (fun hg => ?_)) <;> (try simp only [nb] at hg) <;> simp (maxSteps:=9^7) only [ss, evLit, tab, reduceCtorEq, reduceIte, Nat.reduceEqDiff, Nat.reduceBEq, Int.reduceLE, Int.reduceToNat, Nat.reduceAdd, Nat.reduceLT, Nat.reduceLeDiff, hg, locM hm, plC, rtC, secC, jnC, List.length_map, hlt, ge, splice_all, hl, hwp, bp, bx1, bx2, hC, hw]) | ((with_reducible refine Vx ?_); simp only [sb, reduceIte, Nat.reduceEqDiff]) | (refine hK _ ?_; clear hK K) | refine Vt rfl ?_ | refine Vf rfl ?_ | refine Vi rfl (fun hg => ?_) (fun hg => ?_) | clear hK K)
            refine ⟨e + 1, ⟨by omega, next (okv.trans hC)⟩, by omega, ?_⟩
            refine le_move [true, true, true] (fun n_ => ?_) (fun n_ => ?_) <;> simp only [patch, sm, plC, rtC, secC, hlt, decide_true]
        · rw [if_neg hx] at okv
          have bx1 : (r.ex == 0) = false := by simp [hx]
          have bx2 : (r.ex != 0) = true := by simp [hx]
          generalize atF p.sgs s.id e = AT at *
          cases hC : (AT == r.ex) with
          | true =>
            rw [hit (okv.trans hC)]
            repeat' (first | (with_reducible first | refine Vk fun K hK => ?_ | refine V0 ?_ | refine Vb ?_ | refine Vc ?_ | refine Vr ?_ | refine Vs ?_ | apply And.intro | refine Vq (by kernel_rfl) ?_) | ((with_reducible first | refine gE ?_ | refine gR ?_); simp (maxSteps:=9^7) only [ss, evLit, tab, reduceCtorEq, reduceIte, Nat.reduceEqDiff, Nat.reduceBEq, Int.reduceLE, Int.reduceToNat, Nat.reduceAdd, Nat.reduceLT, Nat.reduceLeDiff, locM hm, plC, rtC, secC, jnC, List.length_map, hlt, ge, splice_all, hl, hwp, bp, bx1, bx2, hC]) | exact Vn | ((with_reducible refine Vz ?_); refine Vo rfl rfl rfl (fun _ _ => rfl) ?_ <;> first | rfl | skip) | (refine call_pure (cl) ?_) | (refine call_pure (cA) ?_) | ((with_reducible refine Vg (fun hg => ?_) (fun hg => ?_)) <;> (try simp only [nb] at hg) <;> simp (maxSteps:=9^7) only [ss, evLit, tab, reduceCtorEq, reduceIte, Nat.reduceEqDiff, Nat.reduceBEq, Int.reduceLE, Int.reduceToNat, Nat.reduceAdd, Nat.reduceLT, Nat.reduceLeDiff, hg, locM hm, plC, rtC, secC, jnC, List.length_map, hlt, ge, splice_all, hl, hwp, bp, bx1, bx2, hC]) | ((with_reducible refine Vx ?_); simp only [sb, reduceIte, Nat.reduceEqDiff]) | (refine hK _ ?_; clear hK K) | refine Vt rfl ?_ | refine Vf rfl ?_ | refine Vi rfl (fun hg => ?_) (fun hg => ?_) | clear hK K)
          | false =>
            repeat' (first | (with_reducible first | refine Vk fun K hK => ?_ | refine V0 ?_ | refine Vb ?_ | refine Vc ?_ | refine Vr ?_ | refine Vs ?_ | apply And.intro | refine Vq (by kernel_rfl) ?_) | ((with_reducible first | refine gE ?_ | refine gR ?_); simp (maxSteps:=9^7) only [ss, evLit, tab, reduceCtorEq, reduceIte, Nat.reduceEqDiff, Nat.reduceBEq, Int.reduceLE, Int.reduceToNat, Nat.reduceAdd, Nat.reduceLT, Nat.reduceLeDiff, locM hm, plC, rtC, secC, jnC, List.length_map, hlt, ge, splice_all, hl, hwp, bp, bx1, bx2, hC, hw]) | exact Vn | ((with_reducible refine Vz ?_); refine Vo rfl rfl rfl (fun _ _ => rfl) ?_ <;> first | rfl | skip) | (refine call_pure (cl) ?_) | (refine call_pure (cA) ?_) | ((with_reducible refine Vg (fun hg => ?_) (fun hg => ?_)) <;> (try simp only [nb] at hg) <;> simp (maxSteps:=9^7) only [ss, evLit, tab, reduceCtorEq, reduceIte, Nat.reduceEqDiff, Nat.reduceBEq, Int.reduceLE, Int.reduceToNat, Nat.reduceAdd, Nat.reduceLT, Nat.reduceLeDiff, hg, locM hm, plC, rtC, secC, jnC, List.length_map, hlt, ge, splice_all, hl, hwp, bp, bx1, bx2, hC, hw]) | ((with_reducible refine Vx ?_); simp only [sb, reduceIte, Nat.reduceEqDiff]) | (refine hK _ ?_; clear hK K) | refine Vt rfl ?_ | refine Vf rfl ?_ | refine Vi rfl (fun hg => ?_) (fun hg => ?_) | clear hK K)
            refine ⟨e + 1, ⟨by omega, next (okv.trans hC)⟩, by omega, ?_⟩
            refine le_move [true, true, true] (fun n_ => ?_) (fun n_ => ?_) <;> simp only [patch, sm, plC, rtC, secC, hlt, decide_true]
      · rw [if_neg hp] at okv
        have bp : ((i : Int) == ((r.path.length - 1 : Nat) : Int)) = false := by simp; omega
        have hi1 : i + 1 < L.length := by omega
        have gi1 := getD_map intC L (i + 1) [] hi1
        have gd1 : L.getD (i + 1) 0 = L[i + 1] := by simp [List.getD_eq_getElem?_getD, hi1]
        rw [gd1] at okv
        cases hC : (s.ends[e].1 == L[i + 1]) with
        | true =>
          rw [hit (okv.trans hC)]
          repeat' (first | (with_reducible first | refine Vk fun K hK => ?_ | refine V0 ?_ | refine Vb ?_ | refine Vc ?_ | refine Vr ?_ | refine Vs ?_ | apply And.intro | refine Vq (by kernel_rfl) ?_) | ((with_reducible first | refine gE ?_ | refine gR ?_); simp (maxSteps:=9^7) only [ss, evLit, tab, reduceCtorEq, reduceIte, Nat.reduceEqDiff, Nat.reduceBEq, Int.reduceLE, Int.reduceToNat, Nat.reduceAdd, Nat.reduceLT, Nat.reduceLeDiff, locM hm, plC, rtC, secC, jnC, intC, List.length_map, hlt, ge, hi1, gi1, splice_all, hl, hwp, hwi, bp, hC]) | exact Vn | ((with_reducible refine Vz ?_); refine Vo rfl rfl rfl (fun _ _ => rfl) ?_ <;> first | rfl | skip) | (refine call_pure (cl) ?_) | ((with_reducible refine Vg (fun hg => ?_) (fun hg => ?_)) <;> (try simp only [nb] at hg) <;> simp (maxSteps:=9^7) only [ss, evLit, tab, reduceCtorEq, reduceIte, Nat.reduceEqDiff, Nat.reduceBEq, Int.reduceLE, Int.reduceToNat, Nat.reduceAdd, Nat.reduceLT, Nat.reduceLeDiff, hg, locM hm, plC, rtC, secC, jnC, intC, List.length_map, hlt, ge, hi1, gi1, splice_all, hl, hwp, hwi, bp, hC]) | ((with_reducible refine Vx ?_); simp only [sb, reduceIte, Nat.reduceEqDiff]) | (refine hK _ ?_; clear hK K) | refine Vt rfl ?_ | refine Vf rfl ?_ | refine Vi rfl (fun hg => ?_) (fun hg => ?_) | clear hK K)
        | false =>
          repeat' (first | (with_reducible first | refine Vk fun K hK => ?_ | refine V0 ?_ | refine Vb ?_ | refine Vc ?_ | refine Vr ?_ | refine Vs ?_ | apply And.intro | refine Vq (by kernel_rfl) ?_) | ((with_reducible first | refine gE ?_ | refine gR ?_); simp (maxSteps:=9^7) only [ss, evLit, tab, reduceCtorEq, reduceIte, Nat.reduceEqDiff, Nat.reduceBEq, Int.reduceLE, Int.reduceToNat, Nat.reduceAdd, Nat.reduceLT, Nat.reduceLeDiff, locM hm, plC, rtC, secC, jnC, intC, List.length_map, hlt, ge, hi1, gi1, splice_all, hl, hwp, hwi, bp, hC, hw]) | exact Vn | ((with_reducible refine Vz ?_); refine Vo rfl rfl rfl (fun _ _ => rfl) ?_ <;> first | rfl | skip) | (refine call_pure (cl) ?_) | ((with_reducible refine Vg (fun hg => ?_) (fun hg => ?_)) <;> (try simp only [nb] at hg) <;> simp (maxSteps:=9^7) only [ss, evLit, tab, reduceCtorEq, reduceIte, Nat.reduceEqDiff, Nat.reduceBEq, Int.reduceLE, Int.reduceToNat, Nat.reduceAdd, Nat.reduceLT, Nat.reduceLeDiff, hg, locM hm, plC, rtC, secC, jnC, intC, List.length_map, hlt, ge, hi1, gi1, splice_all, hl, hwp, hwi, bp, hC, hw]) | ((with_reducible refine Vx ?_); simp only [sb, reduceIte, Nat.reduceEqDiff]) | (refine hK _ ?_; clear hK K) | refine Vt rfl ?_ | refine Vf rfl ?_ | refine Vi rfl (fun hg => ?_) (fun hg => ?_) | clear hK K)
          refine ⟨e + 1, ⟨by omega, next (okv.trans hC)⟩, by omega, ?_⟩
          refine le_move [true, true, true] (fun n_ => ?_) (fun n_ => ?_) <;> simp only [patch, sm, plC, rtC, secC, hlt, decide_true]
  · have e1 := outX_none (p := p) (r := r) (L := L) (i := i) (s := s) (inn := inn) fun j hj => hq j (by omega)
    rw [← hOX] at e1
    repeat' (first | (with_reducible first | refine Vk fun K hK => ?_ | refine V0 ?_ | refine Vb ?_ | refine Vc ?_ | refine Vr ?_ | refine Vs ?_ | apply And.intro | refine Vq (by kernel_rfl) ?_) | ((with_reducible first | refine gE ?_ | refine gR ?_); simp (maxSteps:=9^7) only [ss, evLit, tab, reduceCtorEq, reduceIte, Nat.reduceEqDiff, Nat.reduceBEq, Int.reduceLE, Int.reduceToNat, Nat.reduceAdd, Nat.reduceLT, Nat.reduceLeDiff, locM hm, secC, splice_all, List.length_map, hlt]) | exact Vn | ((with_reducible refine Vz ?_); refine Vo rfl rfl rfl (fun _ _ => rfl) ?_ <;> first | rfl | (rw [e1]; rfl) | skip) | ((with_reducible refine Vg (fun hg => ?_) (fun hg => ?_)) <;> (try simp only [nb] at hg) <;> simp (maxSteps:=9^7) only [ss, evLit, tab, reduceCtorEq, reduceIte, Nat.reduceEqDiff, Nat.reduceBEq, Int.reduceLE, Int.reduceToNat, Nat.reduceAdd, Nat.reduceLT, Nat.reduceLeDiff, hg, locM hm, secC, splice_all, List.length_map, hlt]) | ((with_reducible refine Vx ?_); simp only [sb, reduceIte, Nat.reduceEqDiff]) | (refine hK _ ?_; clear hK K) | refine Vt rfl ?_ | refine Vf rfl ?_ | refine Vi rfl (fun hg => ?_) (fun hg => ?_) | clear hK K)
end Go.Proofs.Ytdkiciofkifpdaa.Pln
end
section
namespace Go.Proofs.Ytdkiciofkifpdaa.Pln
set_option linter.unusedVariables false
set_option linter.unusedSimpArgs false
open Go Go.VS Tab
set_option maxHeartbeats 4000000
def rghtW (p : Pl) (r : Rt) (i : Nat) : Int → Int × Int → Bool :=
  if i + 1 = r.path.length then (if r.ex = 0 then fun _ j => j == (0, 0) else fun e _ => (allL r).getD i 0 == (lastG p.sgs r.ex).2.1 && e == (lastG p.sgs r.ex).2.2) else fun _ j => j.1 == (allL r).getD (i + 1) 0
theorem stepW_thr {p : Pl} {r : Rt} {w : Wk} {i : Nat} (hk : i + 1 = r.path.length ∨ i + 1 ≠ (allL r).length) : stepW p r w i = thrW p w ((allL r).getD i 0) i (rghtW p r i) := by
  unfold stepW rghtW
  by_cases h1 : i + 1 = r.path.length
  · rw [if_pos h1, if_pos h1]
    by_cases h2 : r.ex = 0
    · rw [if_pos h2, if_pos h2]
      try rfl
    · rw [if_neg h2, if_neg h2]
      try rfl
  · have h3 : i + 1 ≠ (r.path ++ r.over).length := by
      rcases hk with h | h
      · exact absurd h h1
      · exact h
    rw [if_neg h1, if_neg h3, if_neg h1]
    try rfl
theorem exit_sg {p : Pl} (hm : mayP p = true) {r : Rt} (hr : r ∈ p.rts) (hx : r.ex ≠ 0) : ∃ x, lastG p.sgs r.ex = x ∧ x ∈ p.sgs ∧ x.1 = r.ex := by
  obtain ⟨_, _, _, hsg, _, _, hrs⟩ := may_parts hm
  have ho := hrs r hr
  unfold okR at ho
  cases hg : getG p.sgs r.entry with
  | none => rw [hg] at ho; cases ho
  | some en =>
    rw [hg] at ho
    simp only [Bool.and_eq_true, Bool.or_eq_true, decide_eq_true_eq] at ho
    obtain ⟨⟨⟨⟨⟨⟨⟨⟨⟨q, _⟩, _⟩, _⟩, _⟩, _⟩, _⟩, _⟩, _⟩, _⟩ := ho
    have q1 : (getG p.sgs r.ex).isSome = true := by
      rcases q with h | h
      · exact absurd h hx
      · exact h.1
    obtain ⟨x, hxg⟩ := Option.isSome_iff_exists.1 q1
    exact ⟨x, by rw [lastG_get (sgs_rise hsg), hxg]; rfl, List.mem_of_find?_eq_some hxg, by simpa using List.find?_some hxg⟩
theorem sgs_inj {p : Pl} (hm : mayP p = true) {x y : Int × Int × Int} (hx : x ∈ p.sgs) (hy : y ∈ p.sgs) (e : x.1 = y.1) : x = y := by
  obtain ⟨i, hi, rfl⟩ := List.getElem_of_mem hx
  obtain ⟨j, hj, rfl⟩ := List.getElem_of_mem hy
  have hr := sgs_rise (may_parts hm).2.2.2.1
  by_cases h1 : i < j
  · have := hr j hj i h1; omega
  · by_cases h2 : j < i
    · have := hr i hi j h2; omega
    · obtain rfl : i = j := by omega
      rfl
theorem right_eq {p : Pl} (hm : mayP p = true) {r : Rt} (hr : r ∈ p.rts) {i : Nat} {s : Sec} (hs : getS p.secs ((allL r).getD i 0) = some s) {e : Nat} (he : e < s.ends.length) :
    refR p r (allL r) i s e (s.ends.getD e (0, 0)) = rghtW p r i e (s.ends.getD e (0, 0)) := by
  obtain ⟨m1, m2⟩ := getS_some hs
  have hmS := (may_parts hm).2.1
  unfold refR rghtW
  by_cases h1 : i + 1 = r.path.length
  · rw [if_pos h1, if_pos h1]
    by_cases h2 : r.ex = 0
    · rw [if_pos h2, if_pos h2]
      have gd : s.ends.getD e (0, 0) = s.ends[e] := by simp [List.getD_eq_getElem?_getD, he]
      rw [gd]
      obtain ⟨a, b, hab⟩ : ∃ a b, s.ends[e] = (a, b) := ⟨_, _, rfl⟩
      have hj := (mayS_iff.1 hmS).2.2 s m1 e he
      rw [joined_eq he hab] at hj
      rw [hab]
      show (a == 0) = ((a, b) == ((0, 0) : Int × Int))
      by_cases ha : a = 0
      · subst ha
        rw [Bool.or_eq_true, decide_eq_true_eq] at hj
        rcases hj with hj | hj
        · have hb : b = 0 := by omega
          subst hb; rfl
        · exfalso
          cases hg : getS p.secs 0 with
          | none => rw [hg] at hj; cases hj
          | some t =>
            obtain ⟨t1, t2⟩ := getS_some hg
            have := numb_iff.1 (mayS_sec hmS t1).1
            omega
      · have e1 : (a == 0) = false := by simp [ha]
        have e2 : ((a, b) == ((0, 0) : Int × Int)) = false := by
          rw [Bool.eq_false_iff]; intro h
          have := eq_of_beq h
          simp only [Prod.mk.injEq] at this
          exact ha this.1
        rw [e1, e2]
    · rw [if_neg h2, if_neg h2]
      obtain ⟨x, x1, x2, x3⟩ := exit_sg hm hr h2
      rw [x1, ← m2]
      rw [Bool.eq_iff_iff, beq_iff_eq, Bool.and_eq_true, beq_iff_eq, beq_iff_eq]
      constructor
      · intro h
        unfold atF at h
        cases hf : p.sgs.find? (fun g => g.2.1 == s.id && g.2.2 == (e : Int)) with
        | none => rw [hf] at h; exact absurd h.symm h2
        | some g =>
          rw [hf] at h
          have hg := sgs_inj hm (List.mem_of_find?_eq_some hf) x2 (by rw [x3]; exact h)
          have hp := List.find?_some hf
          simp only [Bool.and_eq_true, beq_iff_eq] at hp
          rw [← hg]
          exact ⟨hp.1.symm, hp.2.symm⟩
      · rintro ⟨h3, h4⟩
        obtain ⟨y1, y2⟩ := exit_at hm hr h2
        rw [x1] at y1 y2
        unfold stL at y2
        rw [if_pos y1] at y2
        rw [h3, h4]; exact y2
  · rw [if_neg h1, if_neg h1]
theorem okX_thr {p : Pl} (hm : mayP p = true) {r : Rt} (hr : r ∈ p.rts) {i : Nat} {w : Wk} (hl : w.lost = false) {s : Sec} (hs : getS p.secs ((allL r).getD i 0) = some s) {e : Nat} (he : e < s.ends.length) :
    thrOk s w (rghtW p r i) e = okX p r (allL r) i s w.inn.2 e := by
  have hsh := (mayS_sec (may_parts hm).2.1 (getS_some hs).1).2
  unfold thrOk okX
  rw [right_eq hm hr hs he, hl, Bool.false_or]
  have e1 : (thruE s w.inn.2 e != 0) = decide (lieF s w.inn.2 e < 0) := by
    unfold thruE
    rw [if_pos hsh]
    by_cases h : lieF s w.inn.2 e < 0
    · rw [if_pos h, decide_eq_true h]; rfl
    · rw [if_neg h, decide_eq_false h]; rfl
  rw [e1, Bool.not_or, Bool.not_not]
theorem sec_of {p : Pl} (hm : mayP p = true) {r : Rt} (hr : r ∈ p.rts) {i : Nat} (hi : i < (allL r).length) : ∃ s, getS p.secs (allL r)[i] = some s := by
  obtain ⟨_, hmS, _, _, _, _, h7⟩ := may_parts hm
  have ho := h7 r hr
  unfold okR at ho
  cases hg : getG p.sgs r.entry with
  | none => rw [hg] at ho; cases ho
  | some en =>
    rw [hg] at ho
    simp only [Bool.and_eq_true] at ho
    have hL := ho.1.2
    rw [allP_iff] at hL
    have := hL i hi
    unfold okL at this
    simp only [Bool.and_eq_true] at this
    exact Option.isSome_iff_exists.1 this.1.1
theorem allL_getD {r : Rt} {i : Nat} (hi : i < (allL r).length) : (allL r).getD i 0 = (allL r)[i] := by rw [List.getD_eq_getElem?_getD, List.getElem?_eq_getElem hi]; rfl
theorem step_ref {p : Pl} (hm : mayP p = true) {r : Rt} (hr : r ∈ p.rts) {i : Nat} (hi : i < (allL r).length) (hk : i + 1 = r.path.length ∨ i + 1 ≠ (allL r).length) (h0 : (runW p r i).lost = false) (hin : (runW p r i).inn.1 = (allL r)[i]) {s : Sec} (hs : getS p.secs (allL r)[i] = some s) :
    (outX p r (allL r) i s (runW p r i).inn.2 = -1 ∧ (runW p r (i + 1)).lost = true) ∨ ∃ e : Nat, e < s.ends.length ∧ outX p r (allL r) i s (runW p r i).inn.2 = e ∧ (runW p r (i + 1)).lost = false ∧ (runW p r (i + 1)).inn = s.ends.getD e (0, 0) ∧
      (runW p r (i + 1)).outs = (runW p r i).outs ++ [((allL r)[i], (e : Int))] ∧ thrEnd s (runW p r i) (rghtW p r i) = some e := by
  have gd := allL_getD hi
  have hs' : getS p.secs ((allL r).getD i 0) = some s := by rw [gd]; exact hs
  have hrun : runW p r (i + 1) = thrF s (runW p r i) (allL r)[i] i (rghtW p r i) := by
    show stepW p r (runW p r i) i = _
    rw [stepW_thr hk, gd]
    unfold thrW secW
    rw [hs]
    dsimp only
    have : ((runW p r i).inn.1 != (allL r)[i]) = false := by simp [hin]
    rw [this]; rfl
  have hok := fun {e : Nat} (he : e < s.ends.length) => okX_thr hm hr h0 hs' he
  rw [hrun]
  unfold thrF
  cases hf : (List.range s.ends.length).find? (okX p r (allL r) i s (runW p r i).inn.2) with
  | none =>
    refine .inl ⟨by unfold outX; rw [hf], ?_⟩
    rw [List.find?_eq_none] at hf
    have : thrEnd s (runW p r i) (rghtW p r i) = none := by
      unfold thrEnd
      refine range_none fun e he => ?_
      rw [hok he]
      simpa using hf e (List.mem_range.2 he)
    rw [this]
  | some e =>
    have he := hf
    rw [List.find?_range_eq_some] at he
    obtain ⟨e1, e2, e3⟩ := he
    have e2' := List.mem_range.1 e2
    have : thrEnd s (runW p r i) (rghtW p r i) = some e := by
      unfold thrEnd
      refine range_find e2' (by rw [hok e2']; exact e1) fun j hj => ?_
      rw [hok (by omega)]
      simpa using e3 j hj
    refine .inr ⟨e, e2', by unfold outX; rw [hf], ?_⟩
    rw [this]
    obtain ⟨l, hkp⟩ := askW_keeps (runW p r i) s.pt (thruL s (runW p r i).inn.2 e) i
    dsimp only
    rw [hkp]
    unfold leave
    exact ⟨h0, rfl, rfl, rfl⟩
theorem step_lost {p : Pl} {r : Rt} {i : Nat} (hi : i < (allL r).length) (h : (runW p r i).inn.1 ≠ (allL r)[i]) : (runW p r (i + 1)).lost = true := by
  cases hl : (runW p r (i + 1)).lost with
  | true => rfl
  | false =>
    exfalso
    by_cases hk : i + 1 = r.path.length ∨ i + 1 ≠ (allL r).length
    · obtain ⟨s, e, a, b, _⟩ := step_thr hl hk
      rw [allL_getD hi] at b
      exact h b
    · have h1 : i + 1 ≠ r.path.length := fun e => hk (.inl e)
      have h2 : i + 1 = (allL r).length := Classical.byContradiction fun e => hk (.inr e)
      obtain ⟨s, a, b, _⟩ := step_stay hl h1 h2
      rw [allL_getD hi] at b
      exact h b
theorem step_over {p : Pl} {r : Rt} {i : Nat} (hi : i < (allL r).length) (h1 : i + 1 ≠ r.path.length) (h2 : i + 1 = (allL r).length) (h0 : (runW p r i).lost = false) (hin : (runW p r i).inn.1 = (allL r)[i]) {s : Sec} (hs : getS p.secs (allL r)[i] = some s) :
    (runW p r (i + 1)).lost = false ∧ (runW p r (i + 1)).outs = (runW p r i).outs ∧ (runW p r (i + 1)).inn = (runW p r i).inn ∧ runW p r (i + 1) = if 0 < (runW p r i).inn.2 then askW (runW p r i) s.pt (runW p r i).inn.2 i else runW p r i := by
  have hrun : runW p r (i + 1) = if 0 < (runW p r i).inn.2 then askW (runW p r i) s.pt (runW p r i).inn.2 i else runW p r i := by
    show stepW p r (runW p r i) i = _
    unfold stepW
    rw [if_neg h1, if_pos (show i + 1 = (r.path ++ r.over).length from h2)]
    have gd : (r.path ++ r.over).getD i 0 = (allL r)[i] := allL_getD hi
    rw [gd]
    unfold stayW secW
    rw [hs]
    dsimp only
    have : ((runW p r i).inn.1 != (allL r)[i]) = false := by simp [hin]
    rw [this]
    simp only [Bool.false_eq_true, if_false, h0, Bool.not_false, Bool.true_and, decide_eq_true_eq, gt_iff_lt]
  refine ⟨?_, ?_, ?_, hrun⟩
  all_goals
    rw [hrun]
    split
    · obtain ⟨l, hkp⟩ := askW_keeps (runW p r i) s.pt (runW p r i).inn.2 i
      rw [hkp]
      try exact h0
    · first | exact h0 | rfl
end Go.Proofs.Ytdkiciofkifpdaa.Pln
end
