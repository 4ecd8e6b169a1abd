/- The layer of abstract values, joined: PP. -/
import Derived.Test.YtgdhnngpfieloaaZGA
import Derived.Test.YtgdhnngpfieloaaZP20
section
namespace Go.Proofs.Ytgdhnngpfieloaa.Pln
set_option linter.unusedVariables false
set_option linter.unusedSimpArgs false
open Go Go.VS Tab
set_option maxHeartbeats 8000000
set_option maxRecDepth 4000
theorem mayP_eq (p : Pl) : mayP p = (headOk p && mayS p.secs && (ptsOk p && sgsOk p && (allP rises (p.rts.map Rt.id) && decide ((p.rts.length : Int) ≤ 16))) && p.rts.all (okR p)) := by
  unfold mayP
  have e : decide ((p.rts.length : Int) ≤ 16) = decide (p.rts.length ≤ 16) := decide_eq_decide.2 (by omega)
  rw [e]
  simp only [Bool.and_assoc]
theorem headOk_eq (p : Pl) : headOk p = (!decide (p.ver < 1) && !decide (p.ver > 2147483647) && !decide (p.par < 0) && !decide (p.par ≥ p.ver)) := by
  unfold headOk
  rw [Bool.eq_iff_iff]; simp
theorem c_pcheckB (p : Pl) (hs : SmB p) : ACall Try.prog 19 [plA p] [] (i64 (if mayP p then 0 else 8)) [] := by
  have hme := mayP_eq p
  have ct := c_tcheck p.secs (by have := hs.secs; omega) fun s h => by have := hs.ends s h; omega
  cases hmay : mayS p.secs with
  | false =>
    have hf : mayP p = false := by rw [hme, hmay]; simp
    rw [hmay] at ct
    rw [hf]
    refine acall_of 3 Try.func19 rfl fun n out _ _ => ?_
    simp only [Try.ntmps19, List.length_cons, List.length_nil, List.length_map, List.length_replicate, rep_map, Nat.reduceAdd, Nat.reduceSub, List.replicate, List.cons_append, List.nil_append]
    repeat' (first | (with_reducible first | refine Vk fun K hK => ?_ | refine V0 ?_ | refine Vb ?_ | refine Vc ?_ | refine Vr ?_ | refine Vs ?_ | apply And.intro) | ((with_reducible first | refine gE ?_ | refine gR ?_); simp (maxSteps:=9^7) only [ss, evLit, tab, reduceCtorEq, reduceIte, Nat.reduceEqDiff, Nat.reduceBEq, Int.reduceLE, Int.reduceToNat, Nat.reduceAdd, Nat.reduceLT, Nat.reduceLeDiff, plA, plC, Bool.false_eq_true, Int.reduceBNe]) | exact Vn | ((with_reducible refine Vz ?_); refine Vo rfl rfl rfl (fun _ _ => rfl) ?_ <;> first | rfl | skip) | (refine call_pure (ct) ?_) | ((with_reducible refine Vg (fun hg => ?_) (fun hg => ?_)) <;> (try simp only [nb] at hg) <;> simp (maxSteps:=9^7) only [ss, evLit, tab, reduceCtorEq, reduceIte, Nat.reduceEqDiff, Nat.reduceBEq, Int.reduceLE, Int.reduceToNat, Nat.reduceAdd, Nat.reduceLT, Nat.reduceLeDiff, hg, plA, plC, Bool.false_eq_true, Int.reduceBNe]) | ((with_reducible refine Vx ?_); simp only [sb, reduceIte, Nat.reduceEqDiff]) | (refine hK _ ?_; clear hK K) | refine Vt rfl ?_ | refine Vf rfl ?_ | refine Vi rfl (fun hg => ?_) (fun hg => ?_) | clear hK K)
  | true =>
    rw [hmay] at ct
    have hd := headOk_eq p
    cases hh : headOk p with
    | false =>
      have hf : mayP p = false := by rw [hme, hh]; simp
      rw [hh] at hd
      rw [hf]
      refine acall_of 3 Try.func19 rfl fun n out _ _ => ?_
      simp only [Try.ntmps19, List.length_cons, List.length_nil, List.length_map, List.length_replicate, rep_map, Nat.reduceAdd, Nat.reduceSub, List.replicate, List.cons_append, List.nil_append]
      repeat' (first | (with_reducible first | refine Vk fun K hK => ?_ | refine V0 ?_ | refine Vb ?_ | refine Vc ?_ | refine Vr ?_ | refine Vs ?_ | apply And.intro) | ((with_reducible first | refine gE ?_ | refine gR ?_); simp (maxSteps:=9^7) only [ss, evLit, tab, reduceCtorEq, reduceIte, Nat.reduceEqDiff, Nat.reduceBEq, Int.reduceLE, Int.reduceToNat, Nat.reduceAdd, Nat.reduceLT, Nat.reduceLeDiff, plA, plC, Int.reduceBNe]) | exact Vn | ((with_reducible refine Vz ?_); refine Vo rfl rfl rfl (fun _ _ => rfl) ?_ <;> first | rfl | skip) | (refine call_pure (ct) ?_) | ((with_reducible refine Vg (fun hg => ?_) (fun hg => ?_)) <;> (try simp only [nb] at hg) <;> simp (maxSteps:=9^7) only [ss, evLit, tab, reduceCtorEq, reduceIte, Nat.reduceEqDiff, Nat.reduceBEq, Int.reduceLE, Int.reduceToNat, Nat.reduceAdd, Nat.reduceLT, Nat.reduceLeDiff, hg, plA, plC, Int.reduceBNe]) | ((with_reducible refine Vx ?_); simp only [sb, reduceIte, Nat.reduceEqDiff]) | (refine hK _ ?_; clear hK K) | refine Vt rfl ?_ | refine Vf rfl ?_ | refine Vi rfl (fun hg => ?_) (fun hg => ?_) | clear hK K)
      all_goals (exfalso; clear hme hf ct hs hK K; simp only [*, Bool.not_false, Bool.and_true, Bool.not_true, Bool.and_self, reduceCtorEq] at hd)
    | true =>
      rw [hh] at hd
      obtain ⟨⟨⟨d1, d2⟩, d3⟩, d4⟩ : ((decide (p.ver < 1) = false ∧ decide (p.ver > 2147483647) = false) ∧ decide (p.par < 0) = false) ∧ decide (p.par ≥ p.ver) = false := by
        have := hd.symm
        simp only [Bool.and_eq_true, Bool.not_eq_true'] at this
        exact this
      have ce := c_ends p.secs hmay
      have cp := c_points p hs hmay
      have cg := c_signals p hs hmay
      have cr := c_rise_rt p.rts 16 (by have := hs.rts; omega)
      simp only [plA, plC] at cp cg
      rw [hh, hmay, Bool.true_and, Bool.true_and] at hme
      cases hpg : ptsOk p && sgsOk p && (allP rises (p.rts.map Rt.id) && decide ((p.rts.length : Int) ≤ 16)) with
      | false =>
        have hf : mayP p = false := by rw [hme, hpg]; rfl
        rw [hf]
        generalize (allP rises (p.rts.map Rt.id) && decide ((p.rts.length : Int) ≤ 16)) = R at *
        generalize ptsOk p = P1 at *
        generalize sgsOk p = G1 at *
        refine acall_of 3 Try.func19 rfl fun n out _ _ => ?_
        simp only [Try.ntmps19, List.length_cons, List.length_nil, List.length_map, List.length_replicate, rep_map, Nat.reduceAdd, Nat.reduceSub, List.replicate, List.cons_append, List.nil_append]
        repeat' (first | (with_reducible first | refine Vk fun K hK => ?_ | refine V0 ?_ | refine Vb ?_ | refine Vc ?_ | refine Vr ?_ | refine Vs ?_ | apply And.intro) | ((with_reducible first | refine gE ?_ | refine gR ?_); simp (maxSteps:=9^7) only [ss, evLit, tab, reduceCtorEq, reduceIte, Nat.reduceEqDiff, Nat.reduceBEq, Int.reduceLE, Int.reduceToNat, Nat.reduceAdd, Nat.reduceLT, Nat.reduceLeDiff, plA, plC, Int.reduceBNe, d1, d2, d3, d4, splice_all, List.length_replicate, endsA_len, rep_map]) | exact Vn | ((with_reducible refine Vz ?_); refine Vo rfl rfl rfl (fun _ _ => rfl) ?_ <;> first | rfl | skip) | (refine call_pure (ct) ?_) | (refine call_pure (ce) ?_) | (refine call_pure (cp) ?_) | (refine call_pure (cg) ?_) | (refine call_pure (cr) ?_) | ((with_reducible refine Vg (fun hg => ?_) (fun hg => ?_)) <;> (try simp only [nb] at hg) <;> simp (maxSteps:=9^7) only [ss, evLit, tab, reduceCtorEq, reduceIte, Nat.reduceEqDiff, Nat.reduceBEq, Int.reduceLE, Int.reduceToNat, Nat.reduceAdd, Nat.reduceLT, Nat.reduceLeDiff, hg, plA, plC, Int.reduceBNe, d1, d2, d3, d4, splice_all, List.length_replicate, endsA_len, rep_map]) | ((with_reducible refine Vx ?_); simp only [sb, reduceIte, Nat.reduceEqDiff]) | (refine hK _ ?_; clear hK K) | refine Vt rfl ?_ | refine Vf rfl ?_ | refine Vi rfl (fun hg => ?_) (fun hg => ?_) | clear hK K)
        all_goals (exfalso; clear hme hf ct hs hK K ce cp cg cr hd hh d1 d2 d3 d4; revert P1 G1 R; decide)
      | true =>
        rw [hpg, Bool.true_and] at hme
        rw [Bool.and_eq_true, Bool.and_eq_true] at hpg
        obtain ⟨⟨g1, g2⟩, g3⟩ := hpg
        rw [g1] at cp
        rw [g2] at cg
        rw [g3] at cr
        refine acall_of 3 Try.func19 rfl fun n out _ _ => ?_
        simp only [Try.ntmps19, List.length_cons, List.length_nil, List.length_map, List.length_replicate, rep_map, Nat.reduceAdd, Nat.reduceSub, List.replicate, List.cons_append, List.nil_append]
        repeat' (first | (with_reducible first | refine Vk fun K hK => ?_ | refine V0 ?_ | refine Vb ?_ | refine Vc ?_ | refine Vr ?_ | refine Vs ?_ | apply And.intro) | ((with_reducible first | refine gE ?_ | refine gR ?_); simp (maxSteps:=9^7) only [ss, evLit, tab, reduceCtorEq, reduceIte, Nat.reduceEqDiff, Nat.reduceBEq, Int.reduceLE, Int.reduceToNat, Nat.reduceAdd, Nat.reduceLT, Nat.reduceLeDiff, plA, plC, Int.reduceBNe, d1, d2, d3, d4, splice_all, List.length_replicate, endsA_len, rep_map, List.length_map]) | exact Vn | ((with_reducible refine Vz ?_); refine Vo rfl rfl rfl (fun _ _ => rfl) ?_ <;> first | rfl | skip) | (refine call_pure (ct) ?_) | (refine call_pure (ce) ?_) | (refine call_pure (cp) ?_) | (refine call_pure (cg) ?_) | (refine call_pure (cr) ?_) | ((with_reducible refine Vg (fun hg => ?_) (fun hg => ?_)) <;> (try simp only [nb] at hg) <;> simp (maxSteps:=9^7) only [ss, evLit, tab, reduceCtorEq, reduceIte, Nat.reduceEqDiff, Nat.reduceBEq, Int.reduceLE, Int.reduceToNat, Nat.reduceAdd, Nat.reduceLT, Nat.reduceLeDiff, hg, plA, plC, Int.reduceBNe, d1, d2, d3, d4, splice_all, List.length_replicate, endsA_len, rep_map, List.length_map]) | ((with_reducible refine Vx ?_); simp only [sb, reduceIte, Nat.reduceEqDiff]) | (refine hK _ ?_; clear hK K) | refine Vt rfl ?_ | refine Vf rfl ?_ | refine Vi rfl (fun hg => ?_) (fun hg => ?_) | clear hK K)
        refine awp_block ?_
        refine awp_for_mv (fun m (i : Nat) => [(53, i64 (i : Int)), (1, .ptr (m + 0) 0), (3, .ptr (m + 1) 0), (2, .top), (5, .top), (54, .top), (55, .top), (56, .top), (57, .top), (58, .top), (59, .top), (60, .top), (61, .top), (62, .top)]) (fun m i => [some (.box 27 (plC p)), some (.box 99 (endsA p.secs)), none]) (fun i => out) (fun i => i ≤ p.rts.length ∧ (∀ j (hj : j < p.rts.length), j < i → okR p p.rts[j] = true)) (fun i => p.rts.length - i) 0 ⟨Nat.zero_le _, by intros; omega⟩ ?_ fun m i hm hi => ?_
        · refine le_of_all ?_ ?_ (by first | rfl | (simp only [plC, List.length_map]; rfl) | simp only [plC, List.length_map]) rfl rfl rfl <;> simp only [patch, sl, plC, List.length_map]
        obtain ⟨hi, hq⟩ := hi
        simp only [patch, s_0, s_s]
        have hw := addw (n := i) 1 1 rfl (by have := hs.rts; omega)
        by_cases hlt : i < p.rts.length
        · have gi := getD_map rtC p.rts i [] hlt
          have cq := c_route p p.rts[i] hs (hs.rt _ (List.getElem_mem hlt)) hmay g2
          simp only [plA, plC, rtA, rtC] at cq
          have bad : okR p p.rts[i] = false → mayP p = false := fun h => by rw [hme, all_false hlt h]
          repeat' (first | (with_reducible first | refine Vk fun K hK => ?_ | refine V0 ?_ | refine Vb ?_ | refine Vc ?_ | refine Vr ?_ | refine Vs ?_ | apply And.intro) | ((with_reducible first | refine gE ?_ | refine gR ?_); simp (maxSteps:=9^7) only [ss, evLit, tab, reduceCtorEq, reduceIte, Nat.reduceEqDiff, Nat.reduceBEq, Int.reduceLE, Int.reduceToNat, Nat.reduceAdd, Nat.reduceLT, Nat.reduceLeDiff, locM hm, plC, rtC, List.length_map, hlt, gi, splice_all, endsA_len, hw, pick_all (endsA_len p.secs)]) | exact Vn | ((with_reducible refine Vz ?_); refine Vo rfl rfl rfl (fun _ _ => rfl) ?_ <;> first | rfl | (rw [bad (by simpa using hg)]; rfl) | skip) | (refine call_pure (cq) ?_) | ((with_reducible refine Vg (fun hg => ?_) (fun hg => ?_)) <;> (try simp only [nb] at hg) <;> simp (maxSteps:=9^7) only [ss, evLit, tab, reduceCtorEq, reduceIte, Nat.reduceEqDiff, Nat.reduceBEq, Int.reduceLE, Int.reduceToNat, Nat.reduceAdd, Nat.reduceLT, Nat.reduceLeDiff, hg, locM hm, plC, rtC, List.length_map, hlt, gi, splice_all, endsA_len, hw, pick_all (endsA_len p.secs)]) | ((with_reducible refine Vx ?_); simp only [sb, reduceIte, Nat.reduceEqDiff]) | (refine hK _ ?_; clear hK K) | refine Vt rfl ?_ | refine Vf rfl ?_ | refine Vi rfl (fun hg => ?_) (fun hg => ?_) | clear hK K)
          refine ⟨i + 1, ⟨by omega, fun j hj hji => ?_⟩, by omega, ?_⟩
          · by_cases h' : j = i
            · subst h'; simpa using hg
            · exact hq j hj (by omega)
          refine le_move [true, true, false] (fun n_ => ?_) (fun n_ => ?_) <;> simp only [patch, sm, plC, hlt, decide_true]
        · have e := all_true (p := okR p) (l := p.rts) fun j hj => hq j hj (by omega)
          repeat' (first | (with_reducible first | refine Vk fun K hK => ?_ | refine V0 ?_ | refine Vb ?_ | refine Vc ?_ | refine Vr ?_ | refine Vs ?_ | apply And.intro) | ((with_reducible first | refine gE ?_ | refine gR ?_); simp (maxSteps:=9^7) only [ss, evLit, tab, reduceCtorEq, reduceIte, Nat.reduceEqDiff, Nat.reduceBEq, Int.reduceLE, Int.reduceToNat, Nat.reduceAdd, Nat.reduceLT, Nat.reduceLeDiff, locM hm, plC, List.length_map, hlt]) | exact Vn | ((with_reducible refine Vz ?_); refine Vo rfl rfl rfl (fun _ _ => rfl) ?_ <;> first | rfl | (rw [hme, e]; rfl) | skip) | ((with_reducible refine Vg (fun hg => ?_) (fun hg => ?_)) <;> (try simp only [nb] at hg) <;> simp (maxSteps:=9^7) only [ss, evLit, tab, reduceCtorEq, reduceIte, Nat.reduceEqDiff, Nat.reduceBEq, Int.reduceLE, Int.reduceToNat, Nat.reduceAdd, Nat.reduceLT, Nat.reduceLeDiff, hg, locM hm, plC, List.length_map, hlt]) | ((with_reducible refine Vx ?_); simp only [sb, reduceIte, Nat.reduceEqDiff]) | (refine hK _ ?_; clear hK K) | refine Vt rfl ?_ | refine Vf rfl ?_ | refine Vi rfl (fun hg => ?_) (fun hg => ?_) | clear hK K)
theorem c_pcheck (p : Pl) (hs : Sm p) : ACall Try.prog 19 [plA p] [] (i64 (if mayP p then 0 else 8)) [] := c_pcheckB p hs.wide
end Go.Proofs.Ytgdhnngpfieloaa.Pln
end
