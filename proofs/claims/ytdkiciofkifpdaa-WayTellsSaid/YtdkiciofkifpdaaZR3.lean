/-
  The document's answer: the ends of a route's sections.
-/
import Derived.Test.YtdkiciofkifpdaaZGA
import Derived.Test.YtdkiciofkifpdaaZRA
import Derived.Test.YtdkiciofkifpdaaZPS
namespace Go.Proofs.Ytdkiciofkifpdaa.Pln
set_option linter.unusedVariables false
set_option linter.unusedSimpArgs false
open Go Go.VS Tab
set_option maxHeartbeats 16000000
set_option maxRecDepth 4000
def insX (p : Pl) (r : Rt) (n : Nat) : List Int := (List.range n).map fun q => (runW p r q).inn.2
def endsI (p : Pl) (r : Rt) : List Int := if (endW p r).lost = true then [] else insX p r (allL r).length
def endsO (p : Pl) (r : Rt) : List Int := if (endW p r).lost = true then [] else (endW p r).outs.map (fun o => o.2) ++ if r.over = [] then [] else [-1]
theorem insX_succ (p : Pl) (r : Rt) (n : Nat) : insX p r (n + 1) = insX p r n ++ [(runW p r n).inn.2] := by
  unfold insX; rw [List.range_succ, List.map_append]; rfl
theorem insX_len (p : Pl) (r : Rt) (n : Nat) : (insX p r n).length = n := by unfold insX; simp
theorem lost_end {p : Pl} {r : Rt} {i : Nat} (hi : i ≤ (allL r).length) (h : (runW p r i).lost = true) : (endW p r).lost = true ∧ endsI p r = [] ∧ endsO p r = [] := by
  have e : (endW p r).lost = true := by
    cases hl : (endW p r).lost with
    | true => rfl
    | false =>
      have := run_keep (p := p) (r := r) (n := (allL r).length) hl i hi
      rw [h] at this; cases this
  exact ⟨e, by unfold endsI; rw [if_pos e], by unfold endsO; rw [if_pos e]⟩
theorem idx_sg {l : List (Int × Int × Int)} {n : Int} {s : Int × Int × Int} (h : getG l n = some s) : ∃ (k : Nat) (hk : k < l.length), idx (fun x => x.1 == n) l = k ∧ l[k] = s := by
  rcases idx_cases (fun x : Int × Int × Int => x.1 == n) l with ⟨z1, z2, z3⟩ | ⟨k, hk, z1, z2, z3, z4⟩
  · unfold getG at h; rw [z2] at h; cases h
  · refine ⟨k, hk, z1, ?_⟩
    unfold getG at h; rw [z2] at h; simpa using h
theorem c_rends (p : Pl) (hs : Sm p) (hmy : mayP p = true) (r : Rt) (hr : r ∈ p.rts) : ACall Try.prog 86 [plA p, rtA r] [] (.tup [ints (endsI p r), ints (endsO p r), bool (!(endW p r).lost)]) [] := by
  obtain ⟨hone, en, z1, z2, z3, z4⟩ := entry_of hmy hr
  obtain ⟨b1, b2, b3⟩ := hs.rt _ hr
  obtain ⟨q1, q2, q3⟩ := sgs_sec (may_parts hmy).2.1 (may_parts hmy).2.2.2.1 z3
  obtain ⟨s0, hs0⟩ := Option.isSome_iff_exists.1 q3
  obtain ⟨m0, i0⟩ := getS_some hs0
  obtain ⟨u1, u2⟩ := z4 s0 m0 (by simp [i0])
  obtain ⟨ne, hne⟩ := Int.eq_ofNat_of_zero_le u1
  have hnl : ne < s0.ends.length := by omega
  obtain ⟨kE, hkE, cE1, cE2⟩ := idx_sg z1
  obtain ⟨k0, hk0, cA1, cA2⟩ := at_of hs0
  have cSA := c_rSignalAt p.sgs r.entry (by have := hs.sgs; omega)
  rw [cE1] at cSA
  have cA0 := c_at p.secs en.2.1 (by have := hs.secs; omega)
  rw [cA1] at cA0
  have gSg := getD_map sgC p.sgs kE [] hkE
  rw [cE2] at gSg
  have g0 := getD_map secC p.secs k0 [] hk0
  rw [cA2] at g0
  have gn := getD_map jnC s0.ends ne [] hnl
  have hpne : r.path ≠ [] := by intro h; rw [h] at hone; simp at hone
  have cS := c_rsections r hpne (by omega) (by omega)
  have hJ0 : (runW p r 0).inn = s0.ends[ne] := by
    show inAt p.secs (lastG p.sgs r.entry) = _
    rw [z2, inAt_of (may_parts hmy).2.1 m0 i0, hne]
    simp [List.getD_eq_getElem?_getD, hnl]
  have hAll : r.path ++ r.over = allL r := rfl
  rw [hAll] at cS
  have h00 : (runW p r 0).lost = false := rfl
  have hsecs := fun {i : Nat} (hi : i < (allL r).length) => sec_of hmy hr hi
  have hstep := fun {i : Nat} (hi : i < (allL r).length) hk h0 hin {s : Sec} hs => step_ref hmy hr (i := i) hi hk h0 hin (s := s) hs
  have hover := fun {i : Nat} (hi : i < (allL r).length) h1 h2 h0 hin {s : Sec} hs => step_over (p := p) (r := r) (i := i) hi h1 h2 h0 hin (s := s) hs
  have hlost := fun {i : Nat} (hi : i < (allL r).length) h => step_lost (p := p) (r := r) (i := i) hi h
  have hend := fun {i : Nat} (hi : i ≤ (allL r).length) h => lost_end (p := p) (r := r) (i := i) hi h
  have hEW : endW p r = runW p r (allL r).length := rfl
  have hEI : (endW p r).lost = false → endsI p r = insX p r (allL r).length := fun h => by unfold endsI; rw [h, if_neg (by decide)]
  have hEO : (endW p r).lost = false → endsO p r = (endW p r).outs.map (fun o => o.2) ++ if r.over = [] then [] else [-1] := fun h => by unfold endsO; rw [h, if_neg (by decide)]
  have cX := fun (i : Nat) (hi : i < (allL r).length) hnx (s : Sec) hsec (inn : Int) => c_rout p hs r (by omega) (allL r) (by rw [show (allL r).length = r.path.length + r.over.length from List.length_append]; omega) i hi hnx s hsec inn
  simp only [plA, plC, rtA, rtC] at cX
  obtain ⟨L, hL⟩ : ∃ L, L = allL r := ⟨_, rfl⟩
  rw [← hL] at cS hEW hEI
  simp only [← hL] at hsecs hstep hover hlost hend cX
  have hLl : L.length = r.path.length + r.over.length := by rw [hL]; exact List.length_append
  obtain ⟨QF, hQF⟩ : ∃ QF : Nat → Prop, QF = fun i => (runW p r i).lost = false ∧ (i = L.length → r.over = []) := ⟨_, rfl⟩
  have hQ0 : QF 0 := by rw [hQF]; exact ⟨rfl, fun h => by omega⟩
  have hw1 : IntKind.i64.wrap ((L.length : Int) - 1) = ((L.length - 1 : Nat) : Int) := subw (n := L.length) 1 1 rfl (by omega) (by omega)
  simp only [rtA, rtC] at cS
  refine acall_of 6 Try.func86 rfl fun n out _ _ => ?_
  simp only [Try.ntmps86, List.length_cons, List.length_nil, List.length_map, List.length_replicate, rep_map, Nat.reduceAdd, Nat.reduceSub, List.replicate, List.cons_append, List.nil_append]
  repeat' (first | (with_reducible first | refine Vk fun K hK => ?_ | refine V0 ?_ | refine Vb ?_ | refine Vc ?_ | refine Vr ?_ | refine Vs ?_ | apply And.intro | refine Vd 1 [] [[],[0],[],[0],[],[1],[],[],[],[2],[2]] [[],[],[],[],[],[],[],[],[],[2],[2]] (by kernel_rfl) (by decide) (by decide) (by kernel_rfl) ?_ | refine Vd 2 [] [[],[0],[],[0],[],[2],[],[],[],[],[],[2],[],[],[3],[3]] [[],[],[],[],[],[],[],[],[],[],[],[],[],[],[3],[3]] (by kernel_rfl) (by decide) (by decide) (by kernel_rfl) ?_ | refine Vq (by kernel_rfl) ?_) | ((with_reducible first | refine gE ?_ | refine gR ?_ | refine gD ?_ | refine gF ?_); simp (maxSteps:=9^7) only [ss, evLit, tab, reduceCtorEq, reduceIte, Nat.reduceEqDiff, Nat.reduceBEq, Int.reduceLE, Int.reduceToNat, Nat.reduceAdd, Nat.reduceLT, Nat.reduceLeDiff, plA, plC, rtA, rtC, sgC, secC, jnC, splice_all, List.length_map, gSg, hkE, g0, hk0, gn, hnl, hne]) | exact Vn | (refine call_pure (cSA) ?_) | (refine call_pure (cA0) ?_) | (refine call_pure (cS) ?_) | ((with_reducible refine Vg (fun hg => ?_) (fun hg => ?_)) <;> (try simp only [nb] at hg) <;> simp (maxSteps:=9^7) only [ss, evLit, tab, reduceCtorEq, reduceIte, Nat.reduceEqDiff, Nat.reduceBEq, Int.reduceLE, Int.reduceToNat, Nat.reduceAdd, Nat.reduceLT, Nat.reduceLeDiff, hg, plA, plC, rtA, rtC, sgC, secC, jnC, splice_all, List.length_map, gSg, hkE, g0, hk0, gn, hnl, hne]) | ((with_reducible refine Vx ?_); simp only [sb, reduceIte, Nat.reduceEqDiff]) | (refine hK _ ?_; clear hK K) | refine Vt rfl ?_ | refine Vf rfl ?_ | refine Vi rfl (fun hg => ?_) (fun hg => ?_) | clear hK K)
  refine awp_le (le_row (i := 4) 3 1 rfl) ?_
  refine awp_le (le_row (i := 5) 3 1 rfl) ?_
  simp only [s_0, s_s]
  have hI0 : insX p r 0 = [] := rfl
  have hO0 : (runW p r 0).outs = [] := rfl
  refine awp_block ?_
  refine awp_for_mv (fun m (i : Nat) => [(12, i64 (i : Int)), (9, ints L), (10, .sl 1 ((insX p r i).map intC) (.own (m + 4))), (11, .sl 1 (((runW p r i).outs.map fun o => o.2).map intC) (.own (m + 5))), (2, .ptr (m + 0) 0), (3, .ptr (m + 1) 0), (8, .ptr (m + 3) 0), (4, .top), (5, .top), (6, .top), (13, .top), (39, .top), (40, .top), (41, .top), (42, .top), (43, .top), (44, .top), (45, .top), (46, .top), (47, .top), (48, .top), (49, .top), (50, .top), (51, .top), (52, .top), (53, .top), (54, .top), (55, .top), (56, .top), (57, .top), (58, .top), (59, .top), (60, .top), (61, .top), (62, .top), (63, .top), (64, .top), (65, .top), (66, .top), (67, .top), (68, .top), (69, .top), (70, .top), (71, .top), (72, .top), (73, .top), (74, .top), (75, .top), (76, .top), (77, .top), (78, .top), (79, .top), (80, .top), (81, .top), (82, .top), (83, .top), (84, .top), (85, .top), (86, .top), (87, .top), (88, .top), (89, .top), (90, .top), (91, .top), (92, .top), (93, .top), (94, .top), (95, .top), (96, .top), (97, .top), (98, .top), (99, .top)]) (fun m i => [some (.box 27 (plC p)), some (.box 34 (rtC r)), some (.box 48 (sgC en)), some (.box 39 (jnC (runW p r i).inn)), some (.row 3 1 (insX p r i).length), some (.row 3 1 (runW p r i).outs.length)]) (fun i => out) (fun i => i ≤ L.length ∧ QF i) (fun i => L.length - i) 0 ⟨Nat.zero_le _, by assumption⟩ ?_ fun m i hm hi => ?_
  · refine le_of_all ?_ ?_ (by first | rfl | (simp only [plC, rtC, sgC, jnC, hJ0, hI0, hO0, hne, List.map_nil, List.length_nil]; rfl) | simp only [plC, rtC, sgC, jnC, hJ0, hI0, hO0, hne, List.map_nil, List.length_nil]) rfl rfl rfl <;> simp only [patch, sl, plC, rtC, sgC, jnC, hJ0, hI0, hO0, hne, List.map_nil, List.length_nil]
  obtain ⟨hi, hq⟩ := hi
  simp only [patch, s_0, s_s]
  have hw := addw (n := i) 1 1 rfl (by omega)
  by_cases hlt : i < L.length
  · have gi := getD_map intC L i [] hlt
    have hq' := hq
    rw [hQF] at hq'
    obtain ⟨hl0, _⟩ := hq'
    obtain ⟨s, hsec⟩ := hsecs hlt
    obtain ⟨k, hk, cB1, cB2⟩ := at_of hsec
    have cAi := c_at p.secs L[i] (by have := hs.secs; omega)
    rw [cB1] at cAi
    have gk := getD_map secC p.secs k [] hk
    rw [cB2] at gk
    have hI1 := insX_succ p r i
    have y1 : (i + 1) * 8 ≤ 140737488355328 := by omega
    have y2 : i ≤ 9223372036854775806 := by omega
    have hIl := insX_len p r i
    have hOl : (runW p r i).outs.length ≤ i := (runW_len p r i).2
    have y3 : ((runW p r i).outs.length + 1) * 8 ≤ 140737488355328 := by omega
    have y4 : (runW p r i).outs.length ≤ 9223372036854775806 := by omega
    by_cases hin : (runW p r i).inn.1 = L[i]
    · have f1 : ((runW p r i).inn.1 != L[i]) = false := by simp [hin]
      by_cases hov : i + 1 = L.length ∧ r.over ≠ []
      · have hol : 0 < r.over.length := List.length_pos_iff.2 hov.2
        obtain ⟨x1, x2, x3, _⟩ := hover hlt (by omega) hov.1 hl0 hin hsec
        have hEn : endW p r = runW p r (i + 1) := by rw [hEW, hov.1]
        have eL : (endW p r).lost = false := by rw [hEn]; exact x1
        have eI := hEI eL
        have eO := hEO eL
        rw [← hov.1, hI1] at eI
        rw [hEn, x2, if_neg hov.2] at eO
        have d1 : ((i : Int) == ((L.length - 1 : Nat) : Int)) = true := by simp; omega
        have d2 : decide ((r.over.length : Int) > 0) = true := decide_eq_true (by omega)
        generalize endsI p r = EI at *
        generalize endsO p r = EO at *
        generalize (endW p r).lost = EL at *
        subst eI eO eL
        repeat' (first | (with_reducible first | refine Vk fun K hK => ?_ | refine V0 ?_ | refine Vb ?_ | refine Vc ?_ | refine Vr ?_ | refine Vs ?_ | apply And.intro | refine Vq (by kernel_rfl) ?_) | ((with_reducible first | refine gE ?_ | refine gR ?_); simp (maxSteps:=9^7) only [ss, evLit, tab, reduceCtorEq, reduceIte, Nat.reduceEqDiff, Nat.reduceBEq, Int.reduceLE, Int.reduceToNat, Nat.reduceAdd, Nat.reduceLT, Nat.reduceLeDiff, locM hm, plC, rtC, jnC, intC, List.length_map, hlt, gi, splice_all, f1, hw1, d1, d2, hIl, y1, y2, y3, y4, List.map_append, List.map_cons, List.map_nil, Bool.not_false]) | exact Vn | ((with_reducible refine Vz ?_); refine ret_ttt (.inr rfl) rfl rfl rfl (fun _ _ => rfl) rfl rfl rfl ?_ ?_ ?_ <;> first | rfl | (exact AV.le.rfl _) | (simp only [patch, sl, locM hm, plC, rtC, jnC, intC, List.length_map, hlt, gi, splice_all, f1, hw1, d1, d2, hIl, y1, y2, y3, y4, List.map_append, List.map_cons, List.map_nil, Bool.not_false]; done) | rfl | skip) | ((with_reducible refine Vg (fun hg => ?_) (fun hg => ?_)) <;> (try simp only [nb] at hg) <;> simp (maxSteps:=9^7) only [ss, evLit, tab, reduceCtorEq, reduceIte, Nat.reduceEqDiff, Nat.reduceBEq, Int.reduceLE, Int.reduceToNat, Nat.reduceAdd, Nat.reduceLT, Nat.reduceLeDiff, hg, locM hm, plC, rtC, jnC, intC, List.length_map, hlt, gi, splice_all, f1, hw1, d1, d2, hIl, y1, y2, y3, y4, List.map_append, List.map_cons, List.map_nil, Bool.not_false]) | ((with_reducible refine Vx ?_); simp only [sb, reduceIte, Nat.reduceEqDiff]) | (refine hK _ ?_; clear hK K) | refine Vt rfl ?_ | refine Vf rfl ?_ | refine Vi rfl (fun hg => ?_) (fun hg => ?_) | clear hK K)
      · have hk' : i + 1 = r.path.length ∨ i + 1 ≠ L.length := by
          by_cases h : i + 1 = L.length
          · refine .inl ?_
            have : r.over = [] := Classical.byContradiction fun h' => hov ⟨h, h'⟩
            rw [this] at hLl; simp at hLl; omega
          · exact .inr h
        have cO := cX i hlt (by omega) s hsec (runW p r i).inn.2
        have hnov : i + 1 = L.length → r.over = [] := fun h => Classical.byContradiction fun h' => hov ⟨h, h'⟩
        have d3 : ((i : Int) == ((L.length - 1 : Nat) : Int)) = true → decide ((r.over.length : Int) > 0) = false := fun h => by
          have : i + 1 = L.length := by simp at h; omega
          rw [hnov this]; rfl
        rcases hstep hlt hk' hl0 hin hsec with ⟨x1, x2⟩ | ⟨e, x0, x1, x2, x3, x4, _⟩
        · rw [x1] at cO
          obtain ⟨eL, eI, eO⟩ := hend (show i + 1 ≤ L.length by omega) x2
          generalize endsI p r = EI at *
          generalize endsO p r = EO at *
          generalize (endW p r).lost = EL at *
          subst eI eO eL
          cases hdd : ((i : Int) == ((L.length - 1 : Nat) : Int)) with
          | true =>
            have d4 := d3 hdd
            repeat' (first | (with_reducible first | refine Vk fun K hK => ?_ | refine V0 ?_ | refine Vb ?_ | refine Vc ?_ | refine Vr ?_ | refine Vs ?_ | apply And.intro | refine Vq (by kernel_rfl) ?_) | ((with_reducible first | refine gE ?_ | refine gR ?_); simp (maxSteps:=9^7) only [ss, evLit, tab, reduceCtorEq, reduceIte, Nat.reduceEqDiff, Nat.reduceBEq, Int.reduceLE, Int.reduceToNat, Nat.reduceAdd, Nat.reduceLT, Nat.reduceLeDiff, locM hm, plC, rtC, jnC, intC, List.length_map, hlt, gi, splice_all, f1, hw1, hdd, d4, hIl, y1, y2, List.map_nil, ints, Bool.not_true, Int.reduceNeg, Int.reduceLT]) | exact Vn | ((with_reducible refine Vz ?_); refine ret_ttt (.inr rfl) rfl rfl rfl (fun _ _ => rfl) rfl rfl rfl ?_ ?_ ?_ <;> first | rfl | (exact AV.le.rfl _) | (simp only [patch, sl, locM hm, plC, rtC, jnC, intC, List.length_map, hlt, gi, splice_all, f1, hw1, hdd, d4, hIl, y1, y2, List.map_nil, ints, Bool.not_true, Int.reduceNeg, Int.reduceLT]; done) | rfl | skip) | (refine call_pure (cO) ?_) | ((with_reducible refine Vg (fun hg => ?_) (fun hg => ?_)) <;> (try simp only [nb] at hg) <;> simp (maxSteps:=9^7) only [ss, evLit, tab, reduceCtorEq, reduceIte, Nat.reduceEqDiff, Nat.reduceBEq, Int.reduceLE, Int.reduceToNat, Nat.reduceAdd, Nat.reduceLT, Nat.reduceLeDiff, hg, locM hm, plC, rtC, jnC, intC, List.length_map, hlt, gi, splice_all, f1, hw1, hdd, d4, hIl, y1, y2, List.map_nil, ints, Bool.not_true, Int.reduceNeg, Int.reduceLT]) | ((with_reducible refine Vx ?_); simp only [sb, reduceIte, Nat.reduceEqDiff]) | (refine hK _ ?_; clear hK K) | refine Vt rfl ?_ | refine Vf rfl ?_ | refine Vi rfl (fun hg => ?_) (fun hg => ?_) | clear hK K)
          | false =>
            repeat' (first | (with_reducible first | refine Vk fun K hK => ?_ | refine V0 ?_ | refine Vb ?_ | refine Vc ?_ | refine Vr ?_ | refine Vs ?_ | apply And.intro | refine Vq (by kernel_rfl) ?_) | ((with_reducible first | refine gE ?_ | refine gR ?_); simp (maxSteps:=9^7) only [ss, evLit, tab, reduceCtorEq, reduceIte, Nat.reduceEqDiff, Nat.reduceBEq, Int.reduceLE, Int.reduceToNat, Nat.reduceAdd, Nat.reduceLT, Nat.reduceLeDiff, locM hm, plC, rtC, jnC, intC, List.length_map, hlt, gi, splice_all, f1, hw1, hdd, hIl, y1, y2, List.map_nil, ints, Bool.not_true, Int.reduceNeg, Int.reduceLT]) | exact Vn | ((with_reducible refine Vz ?_); refine ret_ttt (.inr rfl) rfl rfl rfl (fun _ _ => rfl) rfl rfl rfl ?_ ?_ ?_ <;> first | rfl | (exact AV.le.rfl _) | (simp only [patch, sl, locM hm, plC, rtC, jnC, intC, List.length_map, hlt, gi, splice_all, f1, hw1, hdd, hIl, y1, y2, List.map_nil, ints, Bool.not_true, Int.reduceNeg, Int.reduceLT]; done) | rfl | skip) | (refine call_pure (cO) ?_) | ((with_reducible refine Vg (fun hg => ?_) (fun hg => ?_)) <;> (try simp only [nb] at hg) <;> simp (maxSteps:=9^7) only [ss, evLit, tab, reduceCtorEq, reduceIte, Nat.reduceEqDiff, Nat.reduceBEq, Int.reduceLE, Int.reduceToNat, Nat.reduceAdd, Nat.reduceLT, Nat.reduceLeDiff, hg, locM hm, plC, rtC, jnC, intC, List.length_map, hlt, gi, splice_all, f1, hw1, hdd, hIl, y1, y2, List.map_nil, ints, Bool.not_true, Int.reduceNeg, Int.reduceLT]) | ((with_reducible refine Vx ?_); simp only [sb, reduceIte, Nat.reduceEqDiff]) | (refine hK _ ?_; clear hK K) | refine Vt rfl ?_ | refine Vf rfl ?_ | refine Vi rfl (fun hg => ?_) (fun hg => ?_) | clear hK K)
        · rw [x1] at cO
          have hQ1 : QF (i + 1) := by rw [hQF]; exact ⟨x2, hnov⟩
          have ge := getD_map jnC s.ends e [] x0
          have gd : s.ends.getD e (0, 0) = s.ends[e] := by simp [List.getD_eq_getElem?_getD, x0]
          rw [gd] at x3
          have he0 : decide ((e : Int) < 0) = false := decide_eq_false (by omega)
          cases hdd : ((i : Int) == ((L.length - 1 : Nat) : Int)) with
          | true =>
            have d4 := d3 hdd
            repeat' (first | (with_reducible first | refine Vk fun K hK => ?_ | refine V0 ?_ | refine Vb ?_ | refine Vc ?_ | refine Vr ?_ | refine Vs ?_ | apply And.intro | refine Vd 18 [] [[],[0],[],[0],[],[],[],[],[],[],[],[],[],[],[],[3]] [[],[],[],[],[],[],[],[],[],[],[],[],[],[],[],[3]] (by kernel_rfl) (by decide) (by decide) (by kernel_rfl) ?_ | refine Vq (by kernel_rfl) ?_) | ((with_reducible first | refine gE ?_ | refine gR ?_ | refine gD ?_ | refine gF ?_); simp (maxSteps:=9^7) only [ss, evLit, tab, reduceCtorEq, reduceIte, Nat.reduceEqDiff, Nat.reduceBEq, Int.reduceLE, Int.reduceToNat, Nat.reduceAdd, Nat.reduceLT, Nat.reduceLeDiff, locM hm, plC, rtC, jnC, secC, intC, List.length_map, hlt, gi, splice_all, f1, hw1, hdd, d4, hIl, y1, y2, y3, y4, he0, hk, gk, x0, ge, hw]) | exact Vn | (refine call_pure (cO) ?_) | (refine call_pure (cAi) ?_) | ((with_reducible refine Vg (fun hg => ?_) (fun hg => ?_)) <;> (try simp only [nb] at hg) <;> simp (maxSteps:=9^7) only [ss, evLit, tab, reduceCtorEq, reduceIte, Nat.reduceEqDiff, Nat.reduceBEq, Int.reduceLE, Int.reduceToNat, Nat.reduceAdd, Nat.reduceLT, Nat.reduceLeDiff, hg, locM hm, plC, rtC, jnC, secC, intC, List.length_map, hlt, gi, splice_all, f1, hw1, hdd, d4, hIl, y1, y2, y3, y4, he0, hk, gk, x0, ge, hw]) | ((with_reducible refine Vx ?_); simp only [sb, reduceIte, Nat.reduceEqDiff]) | (refine hK _ ?_; clear hK K) | refine Vt rfl ?_ | refine Vf rfl ?_ | refine Vi rfl (fun hg => ?_) (fun hg => ?_) | clear hK K)
            refine ⟨i + 1, ⟨by omega, hQ1⟩, by omega, ?_⟩
            simp only [hI1, x3, x4, List.length_append, hIl]
            refine le_move [true, true, true, true, true, true] (fun n_ => ?_) (fun n_ => ?_) <;> simp only [patch, sm, plC, rtC, sgC, jnC, hlt, decide_true, intC, List.map_append, List.map_cons, List.map_nil, List.length_cons, List.length_nil, Nat.zero_add]
          | false =>
            repeat' (first | (with_reducible first | refine Vk fun K hK => ?_ | refine V0 ?_ | refine Vb ?_ | refine Vc ?_ | refine Vr ?_ | refine Vs ?_ | apply And.intro | refine Vd 18 [] [[],[0],[],[0],[],[],[],[],[],[],[],[],[],[],[],[3]] [[],[],[],[],[],[],[],[],[],[],[],[],[],[],[],[3]] (by kernel_rfl) (by decide) (by decide) (by kernel_rfl) ?_ | refine Vq (by kernel_rfl) ?_) | ((with_reducible first | refine gE ?_ | refine gR ?_ | refine gD ?_ | refine gF ?_); simp (maxSteps:=9^7) only [ss, evLit, tab, reduceCtorEq, reduceIte, Nat.reduceEqDiff, Nat.reduceBEq, Int.reduceLE, Int.reduceToNat, Nat.reduceAdd, Nat.reduceLT, Nat.reduceLeDiff, locM hm, plC, rtC, jnC, secC, intC, List.length_map, hlt, gi, splice_all, f1, hw1, hdd, hIl, y1, y2, y3, y4, he0, hk, gk, x0, ge, hw]) | exact Vn | (refine call_pure (cO) ?_) | (refine call_pure (cAi) ?_) | ((with_reducible refine Vg (fun hg => ?_) (fun hg => ?_)) <;> (try simp only [nb] at hg) <;> simp (maxSteps:=9^7) only [ss, evLit, tab, reduceCtorEq, reduceIte, Nat.reduceEqDiff, Nat.reduceBEq, Int.reduceLE, Int.reduceToNat, Nat.reduceAdd, Nat.reduceLT, Nat.reduceLeDiff, hg, locM hm, plC, rtC, jnC, secC, intC, List.length_map, hlt, gi, splice_all, f1, hw1, hdd, hIl, y1, y2, y3, y4, he0, hk, gk, x0, ge, hw]) | ((with_reducible refine Vx ?_); simp only [sb, reduceIte, Nat.reduceEqDiff]) | (refine hK _ ?_; clear hK K) | refine Vt rfl ?_ | refine Vf rfl ?_ | refine Vi rfl (fun hg => ?_) (fun hg => ?_) | clear hK K)
            refine ⟨i + 1, ⟨by omega, hQ1⟩, by omega, ?_⟩
            simp only [hI1, x3, x4, List.length_append, hIl]
            refine le_move [true, true, true, true, true, true] (fun n_ => ?_) (fun n_ => ?_) <;> simp only [patch, sm, plC, rtC, sgC, jnC, hlt, decide_true, intC, List.map_append, List.map_cons, List.map_nil, List.length_cons, List.length_nil, Nat.zero_add]
    · have f1 : ((runW p r i).inn.1 != L[i]) = true := by simpa using hin
      obtain ⟨eL, eI, eO⟩ := hend (show i + 1 ≤ L.length by omega) (hlost hlt hin)
      generalize endsI p r = EI at *
      generalize endsO p r = EO at *
      generalize (endW p r).lost = EL at *
      subst eI eO eL
      repeat' (first | (with_reducible first | refine Vk fun K hK => ?_ | refine V0 ?_ | refine Vb ?_ | refine Vc ?_ | refine Vr ?_ | refine Vs ?_ | apply And.intro | refine Vq (by kernel_rfl) ?_) | ((with_reducible first | refine gE ?_ | refine gR ?_); simp (maxSteps:=9^7) only [ss, evLit, tab, reduceCtorEq, reduceIte, Nat.reduceEqDiff, Nat.reduceBEq, Int.reduceLE, Int.reduceToNat, Nat.reduceAdd, Nat.reduceLT, Nat.reduceLeDiff, locM hm, plC, rtC, jnC, intC, List.length_map, hlt, gi, splice_all, f1, List.map_nil, ints, Bool.not_true]) | exact Vn | ((with_reducible refine Vz ?_); refine ret_ttt (.inr rfl) rfl rfl rfl (fun _ _ => rfl) rfl rfl rfl ?_ ?_ ?_ <;> first | rfl | (exact AV.le.rfl _) | (simp only [patch, sl, locM hm, plC, rtC, jnC, intC, List.length_map, hlt, gi, splice_all, f1, List.map_nil, ints, Bool.not_true]; done) | rfl | skip) | ((with_reducible refine Vg (fun hg => ?_) (fun hg => ?_)) <;> (try simp only [nb] at hg) <;> simp (maxSteps:=9^7) only [ss, evLit, tab, reduceCtorEq, reduceIte, Nat.reduceEqDiff, Nat.reduceBEq, Int.reduceLE, Int.reduceToNat, Nat.reduceAdd, Nat.reduceLT, Nat.reduceLeDiff, hg, locM hm, plC, rtC, jnC, intC, List.length_map, hlt, gi, splice_all, f1, List.map_nil, ints, Bool.not_true]) | ((with_reducible refine Vx ?_); simp only [sb, reduceIte, Nat.reduceEqDiff]) | (refine hK _ ?_; clear hK K) | refine Vt rfl ?_ | refine Vf rfl ?_ | refine Vi rfl (fun hg => ?_) (fun hg => ?_) | clear hK K)
  · obtain rfl : i = L.length := by omega
    rw [hQF] at hq
    obtain ⟨hl0, hov⟩ := hq
    have eL : (endW p r).lost = false := by rw [hEW]; exact hl0
    have eI := hEI eL
    have eO := hEO eL
    rw [if_pos (hov rfl), List.append_nil, hEW] at eO
    generalize endsI p r = EI at *
    generalize endsO p r = EO at *
    generalize (endW p r).lost = EL at *
    subst eI eO eL
    repeat' (first | (with_reducible first | refine Vk fun K hK => ?_ | refine V0 ?_ | refine Vb ?_ | refine Vc ?_ | refine Vr ?_ | refine Vs ?_ | apply And.intro | refine Vq (by kernel_rfl) ?_) | ((with_reducible first | refine gE ?_ | refine gR ?_); simp (maxSteps:=9^7) only [ss, evLit, tab, reduceCtorEq, reduceIte, Nat.reduceEqDiff, Nat.reduceBEq, Int.reduceLE, Int.reduceToNat, Nat.reduceAdd, Nat.reduceLT, Nat.reduceLeDiff, locM hm, List.length_map, hlt, Bool.not_false]) | exact Vn | ((with_reducible refine Vz ?_); refine ret_ttt (.inr rfl) rfl rfl rfl (fun _ _ => rfl) rfl rfl rfl ?_ ?_ ?_ <;> first | rfl | (exact AV.le.rfl _) | (simp only [patch, sl, locM hm, List.length_map, hlt, Bool.not_false]; done) | rfl | skip) | ((with_reducible refine Vg (fun hg => ?_) (fun hg => ?_)) <;> (try simp only [nb] at hg) <;> simp (maxSteps:=9^7) only [ss, evLit, tab, reduceCtorEq, reduceIte, Nat.reduceEqDiff, Nat.reduceBEq, Int.reduceLE, Int.reduceToNat, Nat.reduceAdd, Nat.reduceLT, Nat.reduceLeDiff, hg, locM hm, List.length_map, hlt, Bool.not_false]) | ((with_reducible refine Vx ?_); simp only [sb, reduceIte, Nat.reduceEqDiff]) | (refine hK _ ?_; clear hK K) | refine Vt rfl ?_ | refine Vf rfl ?_ | refine Vi rfl (fun hg => ?_) (fun hg => ?_) | clear hK K)
end Go.Proofs.Ytdkiciofkifpdaa.Pln
