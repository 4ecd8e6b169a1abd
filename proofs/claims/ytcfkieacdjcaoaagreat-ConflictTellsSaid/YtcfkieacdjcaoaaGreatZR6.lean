/-
  The document's answer: ways and outs, of one route and of all.
-/
import Derived.Test.YtcfkieacdjcaoaaGreatZGA
import Derived.Test.YtcfkieacdjcaoaaGreatZRB
import Derived.Test.YtcfkieacdjcaoaaGreatZR5
import Derived.Test.YtcfkieacdjcaoaaGreatZTA
namespace Go.Proofs.YtcfkieacdjcaoaaGreat.Pln
set_option linter.unusedVariables false
set_option linter.unusedSimpArgs false
open Go Go.VS Tab
set_option maxHeartbeats 16000000
set_option maxRecDepth 4000
theorem of_not {p : Pl} {id : Int} (h : ofE p id ≠ 0) : ofW p id = noWy ∧ ofO p id = [] := by
  unfold ofE at h
  unfold ofW ofO
  by_cases hE : rtE p id = 0
  · rw [if_pos hE] at h
    rw [if_pos hE, if_pos hE]
    exact fol_lost h
  · rw [if_neg hE, if_neg hE]; exact ⟨rfl, rfl⟩
theorem c_rasked (p : Pl) (hs : Sm p) (id : Int) : ∃ k : Int, ACall Tryz.prog 34 [plA p, i64 id] [] (.tup [i64 k, i64 (ofE p id)]) [] ∧ (ofE p id = 0 → ∃ (kn : Nat) (h : kn < p.rts.length), k = kn ∧ p.rts[kn] = rtO p id ∧ Gone p (rtO p id) (folW p (rtO p id)) (folO p (rtO p id))) := by
  have cm := c_rmay p hs
  simp only [plA, plC] at cm
  cases hmy : mayP p with
  | false =>
    have e1 : rtE p id = 8 := by unfold rtE elE; rw [hmy]; rfl
    have e2 : ofE p id = 8 := by unfold ofE; rw [e1, if_neg (by decide)]
    rw [e2]
    rw [hmy] at cm
    refine ⟨0, ?_, fun h => absurd h (by decide)⟩
    refine acall_of 1 Tryz.func34 rfl fun n out _ _ => ?_
    simp only [Tryz.ntmps34, List.length_cons, List.length_nil, List.length_map, List.length_replicate, rep_map, Nat.reduceAdd, Nat.reduceSub, List.replicate, List.cons_append, List.nil_append]
    repeat' (first | (with_reducible first | refine Vk fun K hK => ?_ | refine V0 ?_ | refine Vs ?_ | apply And.intro | refine Vq (by kernel_rfl) ?_) | ((with_reducible first | refine gE ?_ | refine gR ?_); simp (maxSteps:=9^7) only [ss, evLit, tab, reduceCtorEq, reduceIte, Nat.reduceEqDiff, Nat.reduceBEq, Int.reduceLE, Int.reduceToNat, Nat.reduceAdd, Nat.reduceLT, Nat.reduceLeDiff, plA, plC, Bool.not_false]) | exact Vn | ((with_reducible refine Vz ?_); refine Vp rfl rfl rfl (fun _ _ => rfl) ?_ ?_ <;> first | rfl | skip) | (refine call_pure (cm) ?_) | (refine hK _ ?_; clear hK K) | refine Vt rfl ?_ | refine Vf rfl ?_ | refine Vi rfl (fun hg => ?_) (fun hg => ?_) | clear hK K)
  | true =>
    rw [hmy] at cm
    have cR := c_rRouteAt p.rts id (by have := hs.rts; omega)
    cases hg : getR p.rts id with
    | none =>
      have e1 : rtE p id = 6 := by unfold rtE elE; rw [hmy, hg]; rfl
      have e2 : ofE p id = 6 := by unfold ofE; rw [e1, if_neg (by decide)]
      rw [e2]
      rcases idx_cases (fun x : Rt => x.id == id) p.rts with ⟨z1, z2, z3⟩ | ⟨k, hk, z1, z2, z3, z4⟩
      · rw [z1] at cR
        refine ⟨0, ?_, fun h => absurd h (by decide)⟩
        refine acall_of 1 Tryz.func34 rfl fun n out _ _ => ?_
        simp only [Tryz.ntmps34, List.length_cons, List.length_nil, List.length_map, List.length_replicate, rep_map, Nat.reduceAdd, Nat.reduceSub, List.replicate, List.cons_append, List.nil_append]
        repeat' (first | (with_reducible first | refine Vk fun K hK => ?_ | refine V0 ?_ | refine Vs ?_ | apply And.intro | refine Vq (by kernel_rfl) ?_) | ((with_reducible first | refine gE ?_ | refine gR ?_); simp (maxSteps:=9^7) only [ss, evLit, tab, reduceCtorEq, reduceIte, Nat.reduceEqDiff, Nat.reduceBEq, Int.reduceLE, Int.reduceToNat, Nat.reduceAdd, Nat.reduceLT, Nat.reduceLeDiff, plA, plC, Bool.not_true, Int.reduceNeg, Int.reduceLT]) | exact Vn | ((with_reducible refine Vz ?_); refine Vp rfl rfl rfl (fun _ _ => rfl) ?_ ?_ <;> first | rfl | skip) | (refine call_pure (cm) ?_) | (refine call_pure (cR) ?_) | (refine hK _ ?_; clear hK K) | refine Vt rfl ?_ | refine Vf rfl ?_ | refine Vi rfl (fun hg => ?_) (fun hg => ?_) | clear hK K)
      · unfold getR at hg; rw [z2] at hg; cases hg
    | some r =>
      obtain ⟨k, hk, z1, z2⟩ := idx_rt hg
      rw [z1] at cR
      have e1 : rtE p id = 0 := by unfold rtE elE; rw [hmy, hg]; rfl
      have e3 : rtO p id = r := by unfold rtO elD; rw [hmy, hg]; rfl
      have e2 : ofE p id = folE p r := by unfold ofE; rw [e1, if_pos rfl, e3]
      have hr : r ∈ p.rts := by rw [← z2]; exact List.getElem_mem hk
      have gk := getD_map rtC p.rts k [] hk
      rw [z2] at gk
      have cE := c_rends p hs hmy r hr
      simp only [plA, plC, rtA, rtC] at cE
      have hk0 : decide ((k : Int) < 0) = false := decide_eq_false (by omega)
      rw [e2, e3]
      cases hl : (endW p r).lost with
      | true =>
        have e4 : folE p r = 90 := by unfold folE; rw [hl]; rfl
        rw [hl] at cE
        rw [e4]
        refine ⟨0, ?_, fun h => absurd h (by decide)⟩
        refine acall_of 1 Tryz.func34 rfl fun n out _ _ => ?_
        simp only [Tryz.ntmps34, List.length_cons, List.length_nil, List.length_map, List.length_replicate, rep_map, Nat.reduceAdd, Nat.reduceSub, List.replicate, List.cons_append, List.nil_append]
        repeat' (first | (with_reducible first | refine Vk fun K hK => ?_ | refine V0 ?_ | refine Vs ?_ | apply And.intro | refine Vq (by kernel_rfl) ?_) | ((with_reducible first | refine gE ?_ | refine gR ?_); simp (maxSteps:=9^7) only [ss, evLit, tab, reduceCtorEq, reduceIte, Nat.reduceEqDiff, Nat.reduceBEq, Int.reduceLE, Int.reduceToNat, Nat.reduceAdd, Nat.reduceLT, Nat.reduceLeDiff, plA, plC, rtC, splice_all, List.length_map, Bool.not_true, Bool.not_false, hk0, hk, gk]) | exact Vn | ((with_reducible refine Vz ?_); refine Vp rfl rfl rfl (fun _ _ => rfl) ?_ ?_ <;> first | rfl | skip) | (refine call_pure (cm) ?_) | (refine call_pure (cR) ?_) | (refine call_pure (cE) ?_) | (refine hK _ ?_; clear hK K) | refine Vt rfl ?_ | refine Vf rfl ?_ | refine Vi rfl (fun hg => ?_) (fun hg => ?_) | clear hK K)
      | false =>
        have e4 : folE p r = 0 := by unfold folE; rw [hl]; rfl
        rw [hl] at cE
        rw [e4]
        refine ⟨(k : Int), ?_, fun _ => ⟨k, hk, rfl, z2, gone_fol hmy hr e4⟩⟩
        refine acall_of 1 Tryz.func34 rfl fun n out _ _ => ?_
        simp only [Tryz.ntmps34, List.length_cons, List.length_nil, List.length_map, List.length_replicate, rep_map, Nat.reduceAdd, Nat.reduceSub, List.replicate, List.cons_append, List.nil_append]
        repeat' (first | (with_reducible first | refine Vk fun K hK => ?_ | refine V0 ?_ | refine Vs ?_ | apply And.intro | refine Vq (by kernel_rfl) ?_) | ((with_reducible first | refine gE ?_ | refine gR ?_); simp (maxSteps:=9^7) only [ss, evLit, tab, reduceCtorEq, reduceIte, Nat.reduceEqDiff, Nat.reduceBEq, Int.reduceLE, Int.reduceToNat, Nat.reduceAdd, Nat.reduceLT, Nat.reduceLeDiff, plA, plC, rtC, splice_all, List.length_map, Bool.not_true, Bool.not_false, hk0, hk, gk]) | exact Vn | ((with_reducible refine Vz ?_); refine Vp rfl rfl rfl (fun _ _ => rfl) ?_ ?_ <;> first | rfl | skip) | (refine call_pure (cm) ?_) | (refine call_pure (cR) ?_) | (refine call_pure (cE) ?_) | (refine hK _ ?_; clear hK K) | refine Vt rfl ?_ | refine Vf rfl ?_ | refine Vi rfl (fun hg => ?_) (fun hg => ?_) | clear hK K)
theorem c_rOf (p : Pl) (hs : Sm p) (id : Int) : ACall Tryz.prog 19 [plA p, i64 id] [] (.tup [wyA (ofW p id), i64 (ofE p id)]) [] := by
  obtain ⟨k, ca, hk⟩ := c_rasked p hs id
  simp only [plA, plC] at ca
  by_cases hE : ofE p id = 0
  · obtain ⟨kn, hkn, rfl, hkr, g⟩ := hk hE
    have cM := c_rmade p hs g kn hkn hkr
    obtain ⟨_, hR⟩ := gone_of hE
    have eW : ofW p id = folW p (rtO p id) := by unfold ofW; rw [if_pos hR]
    rw [hE] at ca
    rw [hE, eW]
    generalize folW p (rtO p id) = W at *
    simp only [plA, plC, wyA, wyC] at cM ⊢
    refine acall_of 2 Tryz.func19 rfl fun n out _ _ => ?_
    simp only [Tryz.ntmps19, List.length_cons, List.length_nil, List.length_map, List.length_replicate, rep_map, Nat.reduceAdd, Nat.reduceSub, List.replicate, List.cons_append, List.nil_append]
    repeat' (first | (with_reducible first | refine Vk fun K hK => ?_ | refine V0 ?_ | refine Vs ?_ | apply And.intro) | ((with_reducible first | refine gE ?_ | refine gR ?_); simp (maxSteps:=9^7) only [ss, evLit, tab, reduceCtorEq, reduceIte, Nat.reduceEqDiff, Nat.reduceBEq, Int.reduceLE, Int.reduceToNat, Nat.reduceAdd, Nat.reduceLT, Nat.reduceLeDiff, plA, plC, splice_all, Int.reduceBNe]) | exact Vn | ((with_reducible refine Vz ?_); (first | refine ret_ct (.inr rfl) rfl rfl rfl (fun _ _ => rfl) ok56 (k := n + 1) (off := 0) rfl (dom_loc _ (by simp)) (look_loc _ (Nat.le_refl _) 1) rfl rfl ?_ | refine ret_ct (.inr rfl) rfl rfl rfl (fun _ _ => rfl) ok56 (k := m + 1) (off := 0) rfl (dom_loc _ (by simp)) (look_loc _ hm 1) rfl rfl ?_) <;> first | rfl | exact AV.le.rfl _ | (simp only [patch, sl, ti56, List.map_nil, plA, plC, splice_all, Int.reduceBNe]; done) | rfl | skip) | (refine call_pure (ca) ?_) | (refine call_pure (cM) ?_) | (refine hK _ ?_; clear hK K) | refine Vt rfl ?_ | refine Vf rfl ?_ | refine Vi rfl (fun hg => ?_) (fun hg => ?_) | clear hK K)
  · have hE' : (ofE p id != 0) = true := by simpa using hE
    rw [(of_not hE).1]
    generalize ofE p id = E at *
    refine acall_of 2 Tryz.func19 rfl fun n out _ _ => ?_
    simp only [Tryz.ntmps19, List.length_cons, List.length_nil, List.length_map, List.length_replicate, rep_map, Nat.reduceAdd, Nat.reduceSub, List.replicate, List.cons_append, List.nil_append]
    repeat' (first | (with_reducible first | refine Vk fun K hK => ?_ | refine V0 ?_ | refine Vs ?_ | apply And.intro) | ((with_reducible first | refine gE ?_ | refine gR ?_); simp (maxSteps:=9^7) only [ss, evLit, tab, reduceCtorEq, reduceIte, Nat.reduceEqDiff, Nat.reduceBEq, Int.reduceLE, Int.reduceToNat, Nat.reduceAdd, Nat.reduceLT, Nat.reduceLeDiff, plA, plC, splice_all, hE', wyA, wyC, noWy, List.map_nil]) | exact Vn | ((with_reducible refine Vz ?_); (first | refine ret_ct (.inr rfl) rfl rfl rfl (fun _ _ => rfl) ok56 (k := n + 1) (off := 0) rfl (dom_loc _ (by simp)) (look_loc _ (Nat.le_refl _) 1) rfl rfl ?_ | refine ret_ct (.inr rfl) rfl rfl rfl (fun _ _ => rfl) ok56 (k := m + 1) (off := 0) rfl (dom_loc _ (by simp)) (look_loc _ hm 1) rfl rfl ?_) <;> first | rfl | exact AV.le.rfl _ | (simp only [patch, sl, ti56, List.map_nil, plA, plC, splice_all, hE', wyA, wyC, noWy, List.map_nil]; done) | rfl | skip) | (refine call_pure (ca) ?_) | (refine hK _ ?_; clear hK K) | refine Vt rfl ?_ | refine Vf rfl ?_ | refine Vi rfl (fun hg => ?_) (fun hg => ?_) | clear hK K)
end Go.Proofs.YtcfkieacdjcaoaaGreat.Pln
