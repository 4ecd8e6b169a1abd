/- The layer of abstract values, joined: PP. -/
import Derived.Test.YtdkiciofkifpdaaZGA
import Derived.Test.YtdkiciofkifpdaaZP20
section
namespace Go.Proofs.Ytdkiciofkifpdaa.Pln
set_option linter.unusedVariables false
set_option linter.unusedSimpArgs false
open Go Go.VS Tab
set_option maxHeartbeats 8000000
set_option maxRecDepth 4000
theorem mayP_eq (p : Pl) : mayP p = (headOk p && mayS p.secs && (ptsOk p && sgsOk p && (allP rises (p.rts.map Rt.id) && decide ((p.rts.length : Int) ≤ 16))) && p.rts.all (okR p)) := by
  unfold mayP
  have e : decide ((p.rts.length : Int) ≤ 16) = decide (p.rts.length ≤ 16) := decide_eq_decide.2 (by omega)
  rw [e]
  simp only [Bool.and_assoc]
theorem headOk_eq (p : Pl) : headOk p = (!decide (p.ver < 1) && !decide (p.ver > 2147483647) && !decide (p.par < 0) && !decide (p.par ≥ p.ver)) := by
  unfold headOk
  rw [Bool.eq_iff_iff]; simp
theorem c_pcheck (p : Pl) (hs : Sm p) : ACall Try.prog 20 [plA p] [] (i64 (if mayP p then 0 else 8)) [] := by
  have hme := mayP_eq p
  have ct := c_tcheck p.secs (by have := hs.secs; omega) fun s h => by have := hs.ends s h; omega
  cases hmay : mayS p.secs with
  | false =>
    have hf : mayP p = false := by rw [hme, hmay]; simp
    rw [hmay] at ct
    rw [hf]
    refine acall_of 3 Try.func20 rfl fun n out _ _ => ?_
    simp only [Try.ntmps20, List.length_cons, List.length_nil, List.length_map, List.length_replicate, rep_map, Nat.reduceAdd, Nat.reduceSub, List.replicate, List.cons_append, List.nil_append]
    repeat' (first | (with_reducible first | refine Vk fun K hK => ?_ | refine V0 ?_ | refine Vb ?_ | refine Vc ?_ | refine Vr ?_ | refine Vs ?_ | apply And.intro) | ((with_reducible first | refine gE ?_ | refine gR ?_); simp (maxSteps:=9^7) only [ss, evLit, tab, reduceCtorEq, reduceIte, Nat.reduceEqDiff, Nat.reduceBEq, Int.reduceLE, Int.reduceToNat, Nat.reduceAdd, Nat.reduceLT, Nat.reduceLeDiff, plA, plC, Bool.false_eq_true, Int.reduceBNe]) | exact Vn | ((with_reducible refine Vz ?_); refine Vo rfl rfl rfl (fun _ _ => rfl) ?_ <;> first | rfl | skip) | (refine call_pure (ct) ?_) | ((with_reducible refine Vg (fun hg => ?_) (fun hg => ?_)) <;> (try simp only [nb] at hg) <;> simp (maxSteps:=9^7) only [ss, evLit, tab, reduceCtorEq, reduceIte, Nat.reduceEqDiff, Nat.reduceBEq, Int.reduceLE, Int.reduceToNat, Nat.reduceAdd, Nat.reduceLT, Nat.reduceLeDiff, hg, plA, plC, Bool.false_eq_true, Int.reduceBNe]) | ((with_reducible refine Vx ?_); simp only [sb, reduceIte, Nat.reduceEqDiff]) | (refine hK _ ?_; clear hK K) | refine Vt rfl ?_ | refine Vf rfl ?_ | refine Vi rfl (fun hg => ?_) (fun hg => ?_) | clear hK K)
  | true =>
    rw [hmay] at ct
    have hd := headOk_eq p
    cases hh : headOk p with
    | false =>
      have hf : mayP p = false := by rw [hme, hh]; simp
      rw [hh] at hd
      rw [hf]
      refine acall_of 3 Try.func20 rfl fun n out _ _ => ?_
      simp only [Try.ntmps20, List.length_cons, List.length_nil, List.length_map, List.length_replicate, rep_map, Nat.reduceAdd, Nat.reduceSub, List.replicate, List.cons_append, List.nil_append]
      repeat' (first | (with_reducible first | refine Vk fun K hK => ?_ | refine V0 ?_ | refine Vb ?_ | refine Vc ?_ | refine Vr ?_ | refine Vs ?_ | apply And.intro) | ((with_reducible first | refine gE ?_ | refine gR ?_); simp (maxSteps:=9^7) only [ss, evLit, tab, reduceCtorEq, reduceIte, Nat.reduceEqDiff, Nat.reduceBEq, Int.reduceLE, Int.reduceToNat, Nat.reduceAdd, Nat.reduceLT, Nat.reduceLeDiff, plA, plC, Int.reduceBNe]) | exact Vn | ((with_reducible refine Vz ?_); refine Vo rfl rfl rfl (fun _ _ => rfl) ?_ <;> first | rfl | skip) | (refine call_pure (ct) ?_) | ((with_reducible refine Vg (fun hg => ?_) (fun hg => ?_)) <;> (try simp only [nb] at hg) <;> simp (maxSteps:=9^7) only [ss, evLit, tab, reduceCtorEq, reduceIte, Nat.reduceEqDiff, Nat.reduceBEq, Int.reduceLE, Int.reduceToNat, Nat.reduceAdd, Nat.reduceLT, Nat.reduceLeDiff, hg, plA, plC, Int.reduceBNe]) | ((with_reducible refine Vx ?_); simp only [sb, reduceIte, Nat.reduceEqDiff]) | (refine hK _ ?_; clear hK K) | refine Vt rfl ?_ | refine Vf rfl ?_ | refine Vi rfl (fun hg => ?_) (fun hg => ?_) | clear hK K)
      all_goals (exfalso; clear hme hf ct hs hK K; simp only [*, Bool.not_false, Bool.and_true, Bool.not_true, Bool.and_self, reduceCtorEq] at hd)
    | true =>
      rw [hh] at hd
      obtain ⟨⟨⟨d1, d2⟩, d3⟩, d4⟩ : ((decide (p.ver < 1) = false ∧ decide (p.ver > 2147483647) = false) ∧ decide (p.par < 0) = false) ∧ decide (p.par ≥ p.ver) = false := by
        have := hd.symm
        simp only [Bool.and_eq_true, Bool.not_eq_true'] at this
        exact this
      have ce := c_ends p.secs hmay
      have cp := c_points p hs hmay
      have cg := c_signals p hs hmay
      have cr := c_rise_rt p.rts 16 (by have := hs.rts; omega)
      simp only [plA, plC] at cp cg
      rw [hh, hmay, Bool.true_and, Bool.true_and] at hme
      cases hpg : ptsOk p && sgsOk p && (allP rises (p.rts.map Rt.id) && decide ((p.rts.length : Int) ≤ 16)) with
      | false =>
        have hf : mayP p = false := by rw [hme, hpg]; rfl
        rw [hf]
        generalize (allP rises (p.rts.map Rt.id) && decide ((p.rts.length : Int) ≤ 16)) = R at *
        generalize ptsOk p = P1 at *
        generalize sgsOk p = G1 at *
        refine acall_of 3 Try.func20 rfl fun n out _ _ => ?_
        simp only [Try.ntmps20, List.length_cons, List.length_nil, List.length_map, List.length_replicate, rep_map, Nat.reduceAdd, Nat.reduceSub, List.replicate, List.cons_append, List.nil_append]
        repeat' (first | (with_reducible first | refine Vk fun K hK => ?_ | refine V0 ?_ | refine Vb ?_ | refine Vc ?_ | refine Vr ?_ | refine Vs ?_ | apply And.intro) | ((with_reducible first | refine gE ?_ | refine gR ?_); simp (maxSteps:=9^7) only [ss, evLit, tab, reduceCtorEq, reduceIte, Nat.reduceEqDiff, Nat.reduceBEq, Int.reduceLE, Int.reduceToNat, Nat.reduceAdd, Nat.reduceLT, Nat.reduceLeDiff, plA, plC, Int.reduceBNe, d1, d2, d3, d4, splice_all, List.length_replicate, endsA_len, rep_map]) | exact Vn | ((with_reducible refine Vz ?_); refine Vo rfl rfl rfl (fun _ _ => rfl) ?_ <;> first | rfl | skip) | (refine call_pure (ct) ?_) | (refine call_pure (ce) ?_) | (refine call_pure (cp) ?_) | (refine call_pure (cg) ?_) | (refine call_pure (cr) ?_) | ((with_reducible refine Vg (fun hg => ?_) (fun hg => ?_)) <;> (try simp only [nb] at hg) <;> simp (maxSteps:=9^7) only [ss, evLit, tab, reduceCtorEq, reduceIte, Nat.reduceEqDiff, Nat.reduceBEq, Int.reduceLE, Int.reduceToNat, Nat.reduceAdd, Nat.reduceLT, Nat.reduceLeDiff, hg, plA, plC, Int.reduceBNe, d1, d2, d3, d4, splice_all, List.length_replicate, endsA_len, rep_map]) | ((with_reducible refine Vx ?_); simp only [sb, reduceIte, Nat.reduceEqDiff]) | (refine hK _ ?_; clear hK K) | refine Vt rfl ?_ | refine Vf rfl ?_ | refine Vi rfl (fun hg => ?_) (fun hg => ?_) | clear hK K)
        all_goals (exfalso; clear hme hf ct hs hK K ce cp cg cr hd hh d1 d2 d3 d4; revert P1 G1 R; decide)
      | true =>
        rw [hpg, Bool.true_and] at hme
        rw [Bool.and_eq_true, Bool.and_eq_true] at hpg
        obtain ⟨⟨g1, g2⟩, g3⟩ := hpg
        rw [g1] at cp
        rw [g2] at cg
        rw [g3] at cr
        refine acall_of 3 Try.func20 rfl fun n out _ _ => ?_
        simp only [Try.ntmps20, List.length_cons, List.length_nil, List.length_map, List.length_replicate, rep_map, Nat.reduceAdd, Nat.reduceSub, List.replicate, List.cons_append, List.nil_append]
        repeat' (first | (with_reducible first | refine Vk fun K hK => ?_ | refine V0 ?_ | refine Vb ?_ | refine Vc ?_ | refine Vr ?_ | refine Vs ?_ | apply And.intro) | ((with_reducible first | refine gE ?_ | refine gR ?_); simp (maxSteps:=9^7) only [ss, evLit, tab, reduceCtorEq, reduceIte, Nat.reduceEqDiff, Nat.reduceBEq, Int.reduceLE, Int.reduceToNat, Nat.reduceAdd, Nat.reduceLT, Nat.reduceLeDiff, plA, plC, Int.reduceBNe, d1, d2, d3, d4, splice_all, List.length_replicate, endsA_len, rep_map, List.length_map]) | exact Vn | ((with_reducible refine Vz ?_); refine Vo rfl rfl rfl (fun _ _ => rfl) ?_ <;> first | rfl | skip) | (refine call_pure (ct) ?_) | (refine call_pure (ce) ?_) | (refine call_pure (cp) ?_) | (refine call_pure (cg) ?_) | (refine call_pure (cr) ?_) | ((with_reducible refine Vg (fun hg => ?_) (fun hg => ?_)) <;> (try simp only [nb] at hg) <;> simp (maxSteps:=9^7) only [ss, evLit, tab, reduceCtorEq, reduceIte, Nat.reduceEqDiff, Nat.reduceBEq, Int.reduceLE, Int.reduceToNat, Nat.reduceAdd, Nat.reduceLT, Nat.reduceLeDiff, hg, plA, plC, Int.reduceBNe, d1, d2, d3, d4, splice_all, List.length_replicate, endsA_len, rep_map, List.length_map]) | ((with_reducible refine Vx ?_); simp only [sb, reduceIte, Nat.reduceEqDiff]) | (refine hK _ ?_; clear hK K) | refine Vt rfl ?_ | refine Vf rfl ?_ | refine Vi rfl (fun hg => ?_) (fun hg => ?_) | clear hK K)
        refine awp_block ?_
        refine awp_for_mv (fun m (i : Nat) => [(53, i64 (i : Int)), (1, .ptr (m + 0) 0), (3, .ptr (m + 1) 0), (2, .top), (5, .top), (54, .top), (55, .top), (56, .top), (57, .top), (58, .top), (59, .top), (60, .top), (61, .top), (62, .top)]) (fun m i => [some (.box 27 (plC p)), some (.box 115 (endsA p.secs)), none]) (fun i => out) (fun i => i ≤ p.rts.length ∧ (∀ j (hj : j < p.rts.length), j < i → okR p p.rts[j] = true)) (fun i => p.rts.length - i) 0 ⟨Nat.zero_le _, by intros; omega⟩ ?_ fun m i hm hi => ?_
        · refine le_of_all ?_ ?_ (by first | rfl | (simp only [plC, List.length_map]; rfl) | simp only [plC, List.length_map]) rfl rfl rfl <;> simp only [patch, sl, plC, List.length_map]
        obtain ⟨hi, hq⟩ := hi
        simp only [patch, s_0, s_s]
        have hw := addw (n := i) 1 1 rfl (by have := hs.rts; omega)
        by_cases hlt : i < p.rts.length
        · have gi := getD_map rtC p.rts i [] hlt
          have cq := c_route p p.rts[i] hs (hs.rt _ (List.getElem_mem hlt)) hmay g2
          simp only [plA, plC, rtA, rtC] at cq
          have bad : okR p p.rts[i] = false → mayP p = false := fun h => by rw [hme, all_false hlt h]
          repeat' (first | (with_reducible first | refine Vk fun K hK => ?_ | refine V0 ?_ | refine Vb ?_ | refine Vc ?_ | refine Vr ?_ | refine Vs ?_ | apply And.intro) | ((with_reducible first | refine gE ?_ | refine gR ?_); simp (maxSteps:=9^7) only [ss, evLit, tab, reduceCtorEq, reduceIte, Nat.reduceEqDiff, Nat.reduceBEq, Int.reduceLE, Int.reduceToNat, Nat.reduceAdd, Nat.reduceLT, Nat.reduceLeDiff, locM hm, plC, rtC, List.length_map, hlt, gi, splice_all, endsA_len, hw, pick_all (endsA_len p.secs)]) | exact Vn | ((with_reducible refine Vz ?_); refine Vo rfl rfl rfl (fun _ _ => rfl) ?_ <;> first | rfl | (rw [bad (by simpa using hg)]; rfl) | skip) | (refine call_pure (cq) ?_) | ((with_reducible refine Vg (fun hg => ?_) (fun hg => ?_)) <;> (try simp only [nb] at hg) <;> simp (maxSteps:=9^7) only [ss, evLit, tab, reduceCtorEq, reduceIte, Nat.reduceEqDiff, Nat.reduceBEq, Int.reduceLE, Int.reduceToNat, Nat.reduceAdd, Nat.reduceLT, Nat.reduceLeDiff, hg, locM hm, plC, rtC, List.length_map, hlt, gi, splice_all, endsA_len, hw, pick_all (endsA_len p.secs)]) | ((with_reducible refine Vx ?_); simp only [sb, reduceIte, Nat.reduceEqDiff]) | (refine hK _ ?_; clear hK K) | refine Vt rfl ?_ | refine Vf rfl ?_ | refine Vi rfl (fun hg => ?_) (fun hg => ?_) | clear hK K)
          refine ⟨i + 1, ⟨by omega, fun j hj hji => ?_⟩, by omega, ?_⟩
          · by_cases h' : j = i
            · subst h'; simpa using hg
            · exact hq j hj (by omega)
          refine le_move [true, true, false] (fun n_ => ?_) (fun n_ => ?_) <;> simp only [patch, sm, plC, hlt, decide_true]
        · have e := all_true (p := okR p) (l := p.rts) fun j hj => hq j hj (by omega)
          repeat' (first | (with_reducible first | refine Vk fun K hK => ?_ | refine V0 ?_ | refine Vb ?_ | refine Vc ?_ | refine Vr ?_ | refine Vs ?_ | apply And.intro) | ((with_reducible first | refine gE ?_ | refine gR ?_); simp (maxSteps:=9^7) only [ss, evLit, tab, reduceCtorEq, reduceIte, Nat.reduceEqDiff, Nat.reduceBEq, Int.reduceLE, Int.reduceToNat, Nat.reduceAdd, Nat.reduceLT, Nat.reduceLeDiff, locM hm, plC, List.length_map, hlt]) | exact Vn | ((with_reducible refine Vz ?_); refine Vo rfl rfl rfl (fun _ _ => rfl) ?_ <;> first | rfl | (rw [hme, e]; rfl) | skip) | ((with_reducible refine Vg (fun hg => ?_) (fun hg => ?_)) <;> (try simp only [nb] at hg) <;> simp (maxSteps:=9^7) only [ss, evLit, tab, reduceCtorEq, reduceIte, Nat.reduceEqDiff, Nat.reduceBEq, Int.reduceLE, Int.reduceToNat, Nat.reduceAdd, Nat.reduceLT, Nat.reduceLeDiff, hg, locM hm, plC, List.length_map, hlt]) | ((with_reducible refine Vx ?_); simp only [sb, reduceIte, Nat.reduceEqDiff]) | (refine hK _ ?_; clear hK K) | refine Vt rfl ?_ | refine Vf rfl ?_ | refine Vi rfl (fun hg => ?_) (fun hg => ?_) | clear hK K)
end Go.Proofs.Ytdkiciofkifpdaa.Pln
end
section
namespace Go.Proofs.Ytdkiciofkifpdaa.Pln
set_option linter.unusedVariables false
set_option linter.unusedSimpArgs false
open Go Go.VS Tab
set_option maxHeartbeats 8000000
set_option maxRecDepth 4000
def elD {α : Type} (may : Bool) (o : Option α) (z : α) : α := if may then o.getD z else z
def elE {α : Type} (may : Bool) (o : Option α) : Int := if may then (if o.isSome then 0 else 6) else 8
theorem c_asked_pt (p : Pl) (hs : Sm p) (l : List (Int × Int)) (hl : l.length ≤ 1000000) (b : Int) : ACall Try.prog 74 [plA p, .sl 2 (l.map jnC) .sh, i64 b] [] (.tup [jnA (elD (mayP p) (getP l b) ((0, 0) : Int × Int)), i64 (elE (mayP p) (getP l b))]) [] := by
  have cc := c_pcheck p hs
  have cf := c_find_pt l b hl
  cases hm : mayP p with
  | false =>
    rw [hm] at cc
    simp only [elD, elE, Bool.false_eq_true, if_false] at cc ⊢
    refine acall_of 4 Try.func74 rfl fun n out _ _ => ?_
    simp only [Try.ntmps74, List.length_cons, List.length_nil, List.length_map, List.length_replicate, rep_map, Nat.reduceAdd, Nat.reduceSub, List.replicate, List.cons_append, List.nil_append]
    repeat' (first | (with_reducible first | refine Vk fun K hK => ?_ | refine V0 ?_ | refine Vs ?_ | apply And.intro) | ((with_reducible first | refine gE ?_ | refine gR ?_); simp (maxSteps:=9^7) only [ss, evLit, tab, reduceCtorEq, reduceIte, Nat.reduceEqDiff, Nat.reduceBEq, Int.reduceLE, Int.reduceToNat, Nat.reduceAdd, Nat.reduceLT, Nat.reduceLeDiff, plA, plC, jnA, jnC, splice_all, Int.reduceBNe, noRt]) | exact Vn | ((with_reducible refine Vz ?_); (first | refine ret_ct (.inr rfl) rfl rfl rfl (fun _ _ => rfl) ok44 (k := n + 1) (off := 0) rfl (dom_loc _ (by simp)) (look_loc _ (Nat.le_refl _) 1) rfl rfl ?_ | refine ret_ct (.inr rfl) rfl rfl rfl (fun _ _ => rfl) ok44 (k := m + 1) (off := 0) rfl (dom_loc _ (by simp)) (look_loc _ hm 1) rfl rfl ?_) <;> first | rfl | exact AV.le.rfl _ | (simp only [patch, sl, ti44, List.map_nil, plA, plC, jnA, jnC, splice_all, Int.reduceBNe, noRt]; done) | rfl | skip) | (refine call_pure (cc) ?_) | (refine hK _ ?_; clear hK K) | refine Vt rfl ?_ | refine Vf rfl ?_ | refine Vi rfl (fun hg => ?_) (fun hg => ?_) | clear hK K)
  | true =>
    rw [hm] at cc
    simp only [elD, elE, if_true] at cc ⊢
    cases hf : getP l b with
    | none =>
      rw [hf] at cf
      refine acall_of 4 Try.func74 rfl fun n out _ _ => ?_
      simp only [Try.ntmps74, List.length_cons, List.length_nil, List.length_map, List.length_replicate, rep_map, Nat.reduceAdd, Nat.reduceSub, List.replicate, List.cons_append, List.nil_append]
      repeat' (first | (with_reducible first | refine Vk fun K hK => ?_ | refine V0 ?_ | refine Vs ?_ | apply And.intro) | ((with_reducible first | refine gE ?_ | refine gR ?_); simp (maxSteps:=9^7) only [ss, evLit, tab, reduceCtorEq, reduceIte, Nat.reduceEqDiff, Nat.reduceBEq, Int.reduceLE, Int.reduceToNat, Nat.reduceAdd, Nat.reduceLT, Nat.reduceLeDiff, plA, plC, jnA, jnC, splice_all, Int.reduceBNe, Option.getD_none, Option.isSome_none, noRt, Bool.false_eq_true]) | exact Vn | ((with_reducible refine Vz ?_); (first | refine ret_ct (.inr rfl) rfl rfl rfl (fun _ _ => rfl) ok44 (k := n + 1) (off := 0) rfl (dom_loc _ (by simp)) (look_loc _ (Nat.le_refl _) 1) rfl rfl ?_ | refine ret_ct (.inr rfl) rfl rfl rfl (fun _ _ => rfl) ok44 (k := m + 1) (off := 0) rfl (dom_loc _ (by simp)) (look_loc _ hm 1) rfl rfl ?_) <;> first | rfl | exact AV.le.rfl _ | (simp only [patch, sl, ti44, List.map_nil, plA, plC, jnA, jnC, splice_all, Int.reduceBNe, Option.getD_none, Option.isSome_none, noRt, if_false, Bool.false_eq_true]; done) | rfl | skip) | (refine call_pure (cc) ?_) | (refine call_pure (cf) ?_) | (refine hK _ ?_; clear hK K) | refine Vt rfl ?_ | refine Vf rfl ?_ | refine Vi rfl (fun hg => ?_) (fun hg => ?_) | clear hK K)
    | some x =>
      rw [hf] at cf
      refine acall_of 4 Try.func74 rfl fun n out _ _ => ?_
      simp only [Try.ntmps74, List.length_cons, List.length_nil, List.length_map, List.length_replicate, rep_map, Nat.reduceAdd, Nat.reduceSub, List.replicate, List.cons_append, List.nil_append]
      repeat' (first | (with_reducible first | refine Vk fun K hK => ?_ | refine V0 ?_ | refine Vs ?_ | apply And.intro) | ((with_reducible first | refine gE ?_ | refine gR ?_); simp (maxSteps:=9^7) only [ss, evLit, tab, reduceCtorEq, reduceIte, Nat.reduceEqDiff, Nat.reduceBEq, Int.reduceLE, Int.reduceToNat, Nat.reduceAdd, Nat.reduceLT, Nat.reduceLeDiff, plA, plC, jnA, jnC, splice_all, Int.reduceBNe, Option.getD_some, Option.isSome_some]) | exact Vn | ((with_reducible refine Vz ?_); (first | refine ret_ct (.inr rfl) rfl rfl rfl (fun _ _ => rfl) ok44 (k := n + 1) (off := 0) rfl (dom_loc _ (by simp)) (look_loc _ (Nat.le_refl _) 1) rfl rfl ?_ | refine ret_ct (.inr rfl) rfl rfl rfl (fun _ _ => rfl) ok44 (k := m + 1) (off := 0) rfl (dom_loc _ (by simp)) (look_loc _ hm 1) rfl rfl ?_) <;> first | rfl | exact AV.le.rfl _ | (simp only [patch, sl, ti44, List.map_nil, plA, plC, jnA, jnC, splice_all, Int.reduceBNe, Option.getD_some, Option.isSome_some]; done) | rfl | skip) | (refine call_pure (cc) ?_) | (refine call_pure (cf) ?_) | (refine hK _ ?_; clear hK K) | refine Vt rfl ?_ | refine Vf rfl ?_ | refine Vi rfl (fun hg => ?_) (fun hg => ?_) | clear hK K)
theorem c_asked_sg (p : Pl) (hs : Sm p) (l : List (Int × Int × Int)) (hl : l.length ≤ 1000000) (b : Int) : ACall Try.prog 72 [plA p, .sl 3 (l.map sgC) .sh, i64 b] [] (.tup [sgA (elD (mayP p) (getG l b) ((0, 0, 0) : Int × Int × Int)), i64 (elE (mayP p) (getG l b))]) [] := by
  have cc := c_pcheck p hs
  have cf := c_find_sg l b hl
  cases hm : mayP p with
  | false =>
    rw [hm] at cc
    simp only [elD, elE, Bool.false_eq_true, if_false] at cc ⊢
    refine acall_of 4 Try.func72 rfl fun n out _ _ => ?_
    simp only [Try.ntmps72, List.length_cons, List.length_nil, List.length_map, List.length_replicate, rep_map, Nat.reduceAdd, Nat.reduceSub, List.replicate, List.cons_append, List.nil_append]
    repeat' (first | (with_reducible first | refine Vk fun K hK => ?_ | refine V0 ?_ | refine Vs ?_ | apply And.intro) | ((with_reducible first | refine gE ?_ | refine gR ?_); simp (maxSteps:=9^7) only [ss, evLit, tab, reduceCtorEq, reduceIte, Nat.reduceEqDiff, Nat.reduceBEq, Int.reduceLE, Int.reduceToNat, Nat.reduceAdd, Nat.reduceLT, Nat.reduceLeDiff, plA, plC, sgA, sgC, splice_all, Int.reduceBNe, noRt]) | exact Vn | ((with_reducible refine Vz ?_); (first | refine ret_ct (.inr rfl) rfl rfl rfl (fun _ _ => rfl) ok48 (k := n + 1) (off := 0) rfl (dom_loc _ (by simp)) (look_loc _ (Nat.le_refl _) 1) rfl rfl ?_ | refine ret_ct (.inr rfl) rfl rfl rfl (fun _ _ => rfl) ok48 (k := m + 1) (off := 0) rfl (dom_loc _ (by simp)) (look_loc _ hm 1) rfl rfl ?_) <;> first | rfl | exact AV.le.rfl _ | (simp only [patch, sl, ti48, List.map_nil, plA, plC, sgA, sgC, splice_all, Int.reduceBNe, noRt]; done) | rfl | skip) | (refine call_pure (cc) ?_) | (refine hK _ ?_; clear hK K) | refine Vt rfl ?_ | refine Vf rfl ?_ | refine Vi rfl (fun hg => ?_) (fun hg => ?_) | clear hK K)
  | true =>
    rw [hm] at cc
    simp only [elD, elE, if_true] at cc ⊢
    cases hf : getG l b with
    | none =>
      rw [hf] at cf
      refine acall_of 4 Try.func72 rfl fun n out _ _ => ?_
      simp only [Try.ntmps72, List.length_cons, List.length_nil, List.length_map, List.length_replicate, rep_map, Nat.reduceAdd, Nat.reduceSub, List.replicate, List.cons_append, List.nil_append]
      repeat' (first | (with_reducible first | refine Vk fun K hK => ?_ | refine V0 ?_ | refine Vs ?_ | apply And.intro) | ((with_reducible first | refine gE ?_ | refine gR ?_); simp (maxSteps:=9^7) only [ss, evLit, tab, reduceCtorEq, reduceIte, Nat.reduceEqDiff, Nat.reduceBEq, Int.reduceLE, Int.reduceToNat, Nat.reduceAdd, Nat.reduceLT, Nat.reduceLeDiff, plA, plC, sgA, sgC, splice_all, Int.reduceBNe, Option.getD_none, Option.isSome_none, noRt, Bool.false_eq_true]) | exact Vn | ((with_reducible refine Vz ?_); (first | refine ret_ct (.inr rfl) rfl rfl rfl (fun _ _ => rfl) ok48 (k := n + 1) (off := 0) rfl (dom_loc _ (by simp)) (look_loc _ (Nat.le_refl _) 1) rfl rfl ?_ | refine ret_ct (.inr rfl) rfl rfl rfl (fun _ _ => rfl) ok48 (k := m + 1) (off := 0) rfl (dom_loc _ (by simp)) (look_loc _ hm 1) rfl rfl ?_) <;> first | rfl | exact AV.le.rfl _ | (simp only [patch, sl, ti48, List.map_nil, plA, plC, sgA, sgC, splice_all, Int.reduceBNe, Option.getD_none, Option.isSome_none, noRt, if_false, Bool.false_eq_true]; done) | rfl | skip) | (refine call_pure (cc) ?_) | (refine call_pure (cf) ?_) | (refine hK _ ?_; clear hK K) | refine Vt rfl ?_ | refine Vf rfl ?_ | refine Vi rfl (fun hg => ?_) (fun hg => ?_) | clear hK K)
    | some x =>
      rw [hf] at cf
      refine acall_of 4 Try.func72 rfl fun n out _ _ => ?_
      simp only [Try.ntmps72, List.length_cons, List.length_nil, List.length_map, List.length_replicate, rep_map, Nat.reduceAdd, Nat.reduceSub, List.replicate, List.cons_append, List.nil_append]
      repeat' (first | (with_reducible first | refine Vk fun K hK => ?_ | refine V0 ?_ | refine Vs ?_ | apply And.intro) | ((with_reducible first | refine gE ?_ | refine gR ?_); simp (maxSteps:=9^7) only [ss, evLit, tab, reduceCtorEq, reduceIte, Nat.reduceEqDiff, Nat.reduceBEq, Int.reduceLE, Int.reduceToNat, Nat.reduceAdd, Nat.reduceLT, Nat.reduceLeDiff, plA, plC, sgA, sgC, splice_all, Int.reduceBNe, Option.getD_some, Option.isSome_some]) | exact Vn | ((with_reducible refine Vz ?_); (first | refine ret_ct (.inr rfl) rfl rfl rfl (fun _ _ => rfl) ok48 (k := n + 1) (off := 0) rfl (dom_loc _ (by simp)) (look_loc _ (Nat.le_refl _) 1) rfl rfl ?_ | refine ret_ct (.inr rfl) rfl rfl rfl (fun _ _ => rfl) ok48 (k := m + 1) (off := 0) rfl (dom_loc _ (by simp)) (look_loc _ hm 1) rfl rfl ?_) <;> first | rfl | exact AV.le.rfl _ | (simp only [patch, sl, ti48, List.map_nil, plA, plC, sgA, sgC, splice_all, Int.reduceBNe, Option.getD_some, Option.isSome_some]; done) | rfl | skip) | (refine call_pure (cc) ?_) | (refine call_pure (cf) ?_) | (refine hK _ ?_; clear hK K) | refine Vt rfl ?_ | refine Vf rfl ?_ | refine Vi rfl (fun hg => ?_) (fun hg => ?_) | clear hK K)
theorem c_pPoint (p : Pl) (hs : Sm p) (b : Int) : ACall Try.prog 25 [plA p, i64 b] [] (.tup [jnA (elD (mayP p) (getP p.pts b) ((0, 0) : Int × Int)), i64 (elE (mayP p) (getP p.pts b))]) [] := by
  have cc := c_asked_pt p hs p.pts (by have := hs.pts; omega) b
  generalize elD (mayP p) (getP p.pts b) ((0, 0) : Int × Int) = X at *
  generalize elE (mayP p) (getP p.pts b) = E at *
  simp only [plA, plC] at cc
  refine acall_of 2 Try.func25 rfl fun n out _ _ => ?_
  simp only [Try.ntmps25, List.length_cons, List.length_nil, List.length_map, List.length_replicate, rep_map, Nat.reduceAdd, Nat.reduceSub, List.replicate, List.cons_append, List.nil_append]
  repeat' (first | (with_reducible first | refine Vk fun K hK => ?_ | refine V0 ?_ | refine Vs ?_ | apply And.intro) | ((with_reducible first | refine gE ?_ | refine gR ?_); simp (maxSteps:=9^7) only [ss, evLit, tab, reduceCtorEq, reduceIte, Nat.reduceEqDiff, Nat.reduceBEq, Int.reduceLE, Int.reduceToNat, Nat.reduceAdd, Nat.reduceLT, Nat.reduceLeDiff, plA, plC, jnA, jnC, splice_all]) | exact Vn | ((with_reducible refine Vz ?_); (first | refine ret_ct (.inr rfl) rfl rfl rfl (fun _ _ => rfl) ok44 (k := n + 1) (off := 0) rfl (dom_loc _ (by simp)) (look_loc _ (Nat.le_refl _) 1) rfl rfl ?_ | refine ret_ct (.inr rfl) rfl rfl rfl (fun _ _ => rfl) ok44 (k := m + 1) (off := 0) rfl (dom_loc _ (by simp)) (look_loc _ hm 1) rfl rfl ?_) <;> first | rfl | exact AV.le.rfl _ | (simp only [patch, sl, ti44, List.map_nil, plA, plC, jnA, jnC, splice_all]; done) | rfl | skip) | (refine call_pure (cc) ?_) | (refine hK _ ?_; clear hK K) | clear hK K)
theorem c_pSignal (p : Pl) (hs : Sm p) (b : Int) : ACall Try.prog 22 [plA p, i64 b] [] (.tup [sgA (elD (mayP p) (getG p.sgs b) ((0, 0, 0) : Int × Int × Int)), i64 (elE (mayP p) (getG p.sgs b))]) [] := by
  have cc := c_asked_sg p hs p.sgs (by have := hs.sgs; omega) b
  generalize elD (mayP p) (getG p.sgs b) ((0, 0, 0) : Int × Int × Int) = X at *
  generalize elE (mayP p) (getG p.sgs b) = E at *
  simp only [plA, plC] at cc
  refine acall_of 2 Try.func22 rfl fun n out _ _ => ?_
  simp only [Try.ntmps22, List.length_cons, List.length_nil, List.length_map, List.length_replicate, rep_map, Nat.reduceAdd, Nat.reduceSub, List.replicate, List.cons_append, List.nil_append]
  repeat' (first | (with_reducible first | refine Vk fun K hK => ?_ | refine V0 ?_ | refine Vs ?_ | apply And.intro) | ((with_reducible first | refine gE ?_ | refine gR ?_); simp (maxSteps:=9^7) only [ss, evLit, tab, reduceCtorEq, reduceIte, Nat.reduceEqDiff, Nat.reduceBEq, Int.reduceLE, Int.reduceToNat, Nat.reduceAdd, Nat.reduceLT, Nat.reduceLeDiff, plA, plC, sgA, sgC, splice_all]) | exact Vn | ((with_reducible refine Vz ?_); (first | refine ret_ct (.inr rfl) rfl rfl rfl (fun _ _ => rfl) ok48 (k := n + 1) (off := 0) rfl (dom_loc _ (by simp)) (look_loc _ (Nat.le_refl _) 1) rfl rfl ?_ | refine ret_ct (.inr rfl) rfl rfl rfl (fun _ _ => rfl) ok48 (k := m + 1) (off := 0) rfl (dom_loc _ (by simp)) (look_loc _ hm 1) rfl rfl ?_) <;> first | rfl | exact AV.le.rfl _ | (simp only [patch, sl, ti48, List.map_nil, plA, plC, sgA, sgC, splice_all]; done) | rfl | skip) | (refine call_pure (cc) ?_) | (refine hK _ ?_; clear hK K) | clear hK K)
end Go.Proofs.Ytdkiciofkifpdaa.Pln
end
section
namespace Go.Proofs.Ytdkiciofkifpdaa.Pln
set_option linter.unusedVariables false
set_option linter.unusedSimpArgs false
open Go Go.VS Tab
set_option maxHeartbeats 8000000
set_option maxRecDepth 4000
def atF (l : List (Int × Int × Int)) (s e : Int) : Int := match l.find? (fun g => g.2.1 == s && g.2.2 == e) with
  | some g => g.1
  | none => 0
theorem atF_nil (s e : Int) : atF [] s e = 0 := rfl
theorem atF_succ {p : Pl} (h : sgsOk p = true) {i : Nat} (hi : i < p.sgs.length) (s e : Int) : atF (p.sgs.take (i + 1)) s e = if (p.sgs[i].2.1 == s && p.sgs[i].2.2 == e) = true then p.sgs[i].1 else atF (p.sgs.take i) s e := by
  unfold atF
  rw [List.take_succ_eq_append_getElem hi, List.find?_append]
  by_cases hm : (p.sgs[i].2.1 == s && p.sgs[i].2.2 == e) = true
  · rw [if_pos hm]
    have : (p.sgs.take i).find? (fun g => g.2.1 == s && g.2.2 == e) = none := by
      rw [List.find?_eq_none]
      intro x hx hxe
      unfold sgsOk at h
      rw [Bool.and_eq_true] at h
      have h1 := allP_iff.1 h.2 i hi
      unfold okG at h1
      rw [Bool.and_eq_true, List.all_eq_true] at h1
      have h2 := h1.2 x hx
      simp only [Bool.and_eq_true, beq_iff_eq] at hxe hm
      have : x.2 = p.sgs[i].2 := Prod.ext (by omega) (by omega)
      simp [this] at h2
    rw [this]
    simp [hm]
  · rw [if_neg hm]
    have hm' : (p.sgs[i].2.1 == s && p.sgs[i].2.2 == e) = false := by simpa using hm
    rw [List.find?_cons, hm']
    cases (p.sgs.take i).find? (fun g => g.2.1 == s && g.2.2 == e) <;> rfl
theorem mayP_parts {p : Pl} (h : mayP p = true) : headOk p = true ∧ mayS p.secs = true ∧ ptsOk p = true ∧ sgsOk p = true ∧ allP rises (p.rts.map Rt.id) = true ∧ p.rts.length ≤ 16 ∧ ∀ r, r ∈ p.rts → okR p r = true := by
  unfold mayP at h
  simp only [Bool.and_eq_true, decide_eq_true_eq, List.all_eq_true] at h
  obtain ⟨⟨⟨⟨⟨⟨h1, h2⟩, h3⟩, h4⟩, h5⟩, h6⟩, h7⟩ := h
  exact ⟨h1, h2, h3, h4, h5, h6, h7⟩
def stE (p : Pl) (s e : Int) : Int := if mayP p then nextE p.secs s e else 8
def stL (p : Pl) (s e : Int) : Int := if stE p s e = 0 then atF p.sgs s e else 0
theorem c_pStands (p : Pl) (hs : Sm p) (s e : Int) : ACall Try.prog 21 [plA p, i64 s, i64 e] [] (.tup [i64 (stL p s e), i64 (stE p s e)]) [] := by
  have cc := c_pcheck p hs
  have cn := c_tnext p.secs s e (by have := hs.secs; omega) fun s h => by have := hs.ends s h; omega
  have hsg := hs.sgs
  cases hmay : mayP p with
  | false =>
    have e1 : stE p s e = 8 := by simp [stE, hmay]
    have e2 : stL p s e = 0 := by simp [stL, e1]
    rw [e1, e2]
    rw [hmay] at cc
    refine acall_of 2 Try.func21 rfl fun n out _ _ => ?_
    simp only [Try.ntmps21, List.length_cons, List.length_nil, List.length_map, List.length_replicate, rep_map, Nat.reduceAdd, Nat.reduceSub, List.replicate, List.cons_append, List.nil_append]
    repeat' (first | (with_reducible first | refine Vk fun K hK => ?_ | refine V0 ?_ | refine Vb ?_ | refine Vc ?_ | refine Vr ?_ | refine Vs ?_ | apply And.intro) | ((with_reducible first | refine gE ?_ | refine gR ?_); simp (maxSteps:=9^7) only [ss, evLit, tab, reduceCtorEq, reduceIte, Nat.reduceEqDiff, Nat.reduceBEq, Int.reduceLE, Int.reduceToNat, Nat.reduceAdd, Nat.reduceLT, Nat.reduceLeDiff, plA, plC, Bool.false_eq_true, Int.reduceBNe]) | exact Vn | ((with_reducible refine Vz ?_); refine Vp rfl rfl rfl (fun _ _ => rfl) ?_ ?_ <;> first | rfl | skip) | (refine call_pure (cc) ?_) | ((with_reducible refine Vg (fun hg => ?_) (fun hg => ?_)) <;> (try simp only [nb] at hg) <;> simp (maxSteps:=9^7) only [ss, evLit, tab, reduceCtorEq, reduceIte, Nat.reduceEqDiff, Nat.reduceBEq, Int.reduceLE, Int.reduceToNat, Nat.reduceAdd, Nat.reduceLT, Nat.reduceLeDiff, hg, plA, plC, Bool.false_eq_true, Int.reduceBNe]) | ((with_reducible refine Vx ?_); simp only [sb, reduceIte, Nat.reduceEqDiff]) | (refine hK _ ?_; clear hK K) | refine Vt rfl ?_ | refine Vf rfl ?_ | refine Vi rfl (fun hg => ?_) (fun hg => ?_) | clear hK K)
  | true =>
    have e1 : stE p s e = nextE p.secs s e := by simp [stE, hmay]
    rw [hmay] at cc
    have hok := (mayP_parts hmay).2.2.2.1
    rw [show stL p s e = if nextE p.secs s e = 0 then atF p.sgs s e else 0 by rw [← e1]; rfl, e1]
    generalize nextD p.secs s e = D at cn
    generalize nextE p.secs s e = E at cn
    by_cases hE : E = 0
    · subst hE
      rw [if_pos rfl]
      refine acall_of 2 Try.func21 rfl fun n out _ _ => ?_
      simp only [Try.ntmps21, List.length_cons, List.length_nil, List.length_map, List.length_replicate, rep_map, Nat.reduceAdd, Nat.reduceSub, List.replicate, List.cons_append, List.nil_append]
      repeat' (first | (with_reducible first | refine Vk fun K hK => ?_ | refine V0 ?_ | refine Vb ?_ | refine Vc ?_ | refine Vr ?_ | refine Vs ?_ | apply And.intro) | ((with_reducible first | refine gE ?_ | refine gR ?_); simp (maxSteps:=9^7) only [ss, evLit, tab, reduceCtorEq, reduceIte, Nat.reduceEqDiff, Nat.reduceBEq, Int.reduceLE, Int.reduceToNat, Nat.reduceAdd, Nat.reduceLT, Nat.reduceLeDiff, plA, plC, jnA, jnC, Int.reduceBNe, List.length_map]) | exact Vn | ((with_reducible refine Vz ?_); refine Vp rfl rfl rfl (fun _ _ => rfl) ?_ ?_ <;> first | rfl | skip) | (refine call_pure (cc) ?_) | (refine call_pure (cn) ?_) | ((with_reducible refine Vg (fun hg => ?_) (fun hg => ?_)) <;> (try simp only [nb] at hg) <;> simp (maxSteps:=9^7) only [ss, evLit, tab, reduceCtorEq, reduceIte, Nat.reduceEqDiff, Nat.reduceBEq, Int.reduceLE, Int.reduceToNat, Nat.reduceAdd, Nat.reduceLT, Nat.reduceLeDiff, hg, plA, plC, jnA, jnC, Int.reduceBNe, List.length_map]) | ((with_reducible refine Vx ?_); simp only [sb, reduceIte, Nat.reduceEqDiff]) | (refine hK _ ?_; clear hK K) | refine Vt rfl ?_ | refine Vf rfl ?_ | refine Vi rfl (fun hg => ?_) (fun hg => ?_) | clear hK K)
      refine awp_block ?_
      refine awp_for_mv (fun m (i : Nat) => [(27, i64 (i : Int)), (3, .ptr (m + 0) 0), (6, i64 (atF (p.sgs.take i) s e)), (9, .top), (28, .top), (29, .top), (30, .top), (31, .top), (32, .top), (33, .top), (34, .top), (35, .top), (36, .top), (37, .top), (38, .top), (39, .top), (40, .top), (41, .top), (42, .top), (43, .top)]) (fun m i => [some (.box 27 (plC p)), none]) (fun i => out) (fun i => i ≤ p.sgs.length) (fun i => p.sgs.length - i) 0 (Nat.zero_le _) ?_ fun m i hm hi => ?_
      · refine le_of_all ?_ ?_ (by first | rfl | (simp only [plC, List.length_map, List.take_zero, atF_nil]; rfl) | simp only [plC, List.length_map, List.take_zero, atF_nil]) rfl rfl rfl <;> simp only [patch, sl, plC, List.length_map, List.take_zero, atF_nil]
      simp only [patch, s_0, s_s]
      have hw := addw (n := i) 1 1 rfl (by omega)
      by_cases hlt : i < p.sgs.length
      · have gi := getD_map sgC p.sgs i [] hlt
        have hsu := atF_succ hok hlt s e
        cases q1 : (p.sgs[i].2.1 == s) with
        | false =>
          rw [q1, Bool.false_and, if_neg (by decide)] at hsu
          repeat' (first | (with_reducible first | refine Vk fun K hK => ?_ | refine V0 ?_ | refine Vb ?_ | refine Vc ?_ | refine Vr ?_ | refine Vs ?_ | apply And.intro) | ((with_reducible first | refine gE ?_ | refine gR ?_); simp (maxSteps:=9^7) only [ss, evLit, tab, reduceCtorEq, reduceIte, Nat.reduceEqDiff, Nat.reduceBEq, Int.reduceLE, Int.reduceToNat, Nat.reduceAdd, Nat.reduceLT, Nat.reduceLeDiff, locM hm, plC, sgC, List.length_map, hlt, gi, splice_all, hw, q1]) | exact Vn | ((with_reducible refine Vz ?_); refine Vp rfl rfl rfl (fun _ _ => rfl) ?_ ?_ <;> first | rfl | skip) | ((with_reducible refine Vg (fun hg => ?_) (fun hg => ?_)) <;> (try simp only [nb] at hg) <;> simp (maxSteps:=9^7) only [ss, evLit, tab, reduceCtorEq, reduceIte, Nat.reduceEqDiff, Nat.reduceBEq, Int.reduceLE, Int.reduceToNat, Nat.reduceAdd, Nat.reduceLT, Nat.reduceLeDiff, hg, locM hm, plC, sgC, List.length_map, hlt, gi, splice_all, hw, q1]) | ((with_reducible refine Vx ?_); simp only [sb, reduceIte, Nat.reduceEqDiff]) | (refine hK _ ?_; clear hK K) | refine Vt rfl ?_ | refine Vf rfl ?_ | refine Vi rfl (fun hg => ?_) (fun hg => ?_) | clear hK K)
          refine ⟨i + 1, by omega, by omega, ?_⟩
          rw [hsu]
          refine le_move [true, false] (fun n_ => ?_) (fun n_ => ?_) <;> simp only [patch, sm, plC, hlt, decide_true]
        | true =>
          cases q2 : (p.sgs[i].2.2 == e) with
          | false =>
            rw [q1, q2, Bool.true_and, if_neg (by decide)] at hsu
            repeat' (first | (with_reducible first | refine Vk fun K hK => ?_ | refine V0 ?_ | refine Vb ?_ | refine Vc ?_ | refine Vr ?_ | refine Vs ?_ | apply And.intro) | ((with_reducible first | refine gE ?_ | refine gR ?_); simp (maxSteps:=9^7) only [ss, evLit, tab, reduceCtorEq, reduceIte, Nat.reduceEqDiff, Nat.reduceBEq, Int.reduceLE, Int.reduceToNat, Nat.reduceAdd, Nat.reduceLT, Nat.reduceLeDiff, locM hm, plC, sgC, List.length_map, hlt, gi, splice_all, hw, q1, q2]) | exact Vn | ((with_reducible refine Vz ?_); refine Vp rfl rfl rfl (fun _ _ => rfl) ?_ ?_ <;> first | rfl | skip) | ((with_reducible refine Vg (fun hg => ?_) (fun hg => ?_)) <;> (try simp only [nb] at hg) <;> simp (maxSteps:=9^7) only [ss, evLit, tab, reduceCtorEq, reduceIte, Nat.reduceEqDiff, Nat.reduceBEq, Int.reduceLE, Int.reduceToNat, Nat.reduceAdd, Nat.reduceLT, Nat.reduceLeDiff, hg, locM hm, plC, sgC, List.length_map, hlt, gi, splice_all, hw, q1, q2]) | ((with_reducible refine Vx ?_); simp only [sb, reduceIte, Nat.reduceEqDiff]) | (refine hK _ ?_; clear hK K) | refine Vt rfl ?_ | refine Vf rfl ?_ | refine Vi rfl (fun hg => ?_) (fun hg => ?_) | clear hK K)
            refine ⟨i + 1, by omega, by omega, ?_⟩
            rw [hsu]
            refine le_move [true, false] (fun n_ => ?_) (fun n_ => ?_) <;> simp only [patch, sm, plC, hlt, decide_true]
          | true =>
            rw [q1, q2, Bool.true_and, if_pos rfl] at hsu
            repeat' (first | (with_reducible first | refine Vk fun K hK => ?_ | refine V0 ?_ | refine Vb ?_ | refine Vc ?_ | refine Vr ?_ | refine Vs ?_ | apply And.intro) | ((with_reducible first | refine gE ?_ | refine gR ?_); simp (maxSteps:=9^7) only [ss, evLit, tab, reduceCtorEq, reduceIte, Nat.reduceEqDiff, Nat.reduceBEq, Int.reduceLE, Int.reduceToNat, Nat.reduceAdd, Nat.reduceLT, Nat.reduceLeDiff, locM hm, plC, sgC, List.length_map, hlt, gi, splice_all, hw, q1, q2]) | exact Vn | ((with_reducible refine Vz ?_); refine Vp rfl rfl rfl (fun _ _ => rfl) ?_ ?_ <;> first | rfl | skip) | ((with_reducible refine Vg (fun hg => ?_) (fun hg => ?_)) <;> (try simp only [nb] at hg) <;> simp (maxSteps:=9^7) only [ss, evLit, tab, reduceCtorEq, reduceIte, Nat.reduceEqDiff, Nat.reduceBEq, Int.reduceLE, Int.reduceToNat, Nat.reduceAdd, Nat.reduceLT, Nat.reduceLeDiff, hg, locM hm, plC, sgC, List.length_map, hlt, gi, splice_all, hw, q1, q2]) | ((with_reducible refine Vx ?_); simp only [sb, reduceIte, Nat.reduceEqDiff]) | (refine hK _ ?_; clear hK K) | refine Vt rfl ?_ | refine Vf rfl ?_ | refine Vi rfl (fun hg => ?_) (fun hg => ?_) | clear hK K)
            refine ⟨i + 1, by omega, by omega, ?_⟩
            rw [hsu]
            refine le_move [true, false] (fun n_ => ?_) (fun n_ => ?_) <;> simp only [patch, sm, plC, hlt, decide_true]
      · obtain rfl : i = p.sgs.length := by omega
        repeat' (first | (with_reducible first | refine Vk fun K hK => ?_ | refine V0 ?_ | refine Vb ?_ | refine Vc ?_ | refine Vr ?_ | refine Vs ?_ | apply And.intro) | ((with_reducible first | refine gE ?_ | refine gR ?_); simp (maxSteps:=9^7) only [ss, evLit, tab, reduceCtorEq, reduceIte, Nat.reduceEqDiff, Nat.reduceBEq, Int.reduceLE, Int.reduceToNat, Nat.reduceAdd, Nat.reduceLT, Nat.reduceLeDiff, locM hm, plC, List.length_map, hlt, List.take_length]) | exact Vn | ((with_reducible refine Vz ?_); refine Vp rfl rfl rfl (fun _ _ => rfl) ?_ ?_ <;> first | rfl | skip) | ((with_reducible refine Vg (fun hg => ?_) (fun hg => ?_)) <;> (try simp only [nb] at hg) <;> simp (maxSteps:=9^7) only [ss, evLit, tab, reduceCtorEq, reduceIte, Nat.reduceEqDiff, Nat.reduceBEq, Int.reduceLE, Int.reduceToNat, Nat.reduceAdd, Nat.reduceLT, Nat.reduceLeDiff, hg, locM hm, plC, List.length_map, hlt, List.take_length]) | ((with_reducible refine Vx ?_); simp only [sb, reduceIte, Nat.reduceEqDiff]) | (refine hK _ ?_; clear hK K) | refine Vt rfl ?_ | refine Vf rfl ?_ | refine Vi rfl (fun hg => ?_) (fun hg => ?_) | clear hK K)
    · have q : (E != 0) = true := by simpa using hE
      rw [if_neg hE]
      refine acall_of 2 Try.func21 rfl fun n out _ _ => ?_
      simp only [Try.ntmps21, List.length_cons, List.length_nil, List.length_map, List.length_replicate, rep_map, Nat.reduceAdd, Nat.reduceSub, List.replicate, List.cons_append, List.nil_append]
      repeat' (first | (with_reducible first | refine Vk fun K hK => ?_ | refine V0 ?_ | refine Vb ?_ | refine Vc ?_ | refine Vr ?_ | refine Vs ?_ | apply And.intro) | ((with_reducible first | refine gE ?_ | refine gR ?_); simp (maxSteps:=9^7) only [ss, evLit, tab, reduceCtorEq, reduceIte, Nat.reduceEqDiff, Nat.reduceBEq, Int.reduceLE, Int.reduceToNat, Nat.reduceAdd, Nat.reduceLT, Nat.reduceLeDiff, plA, plC, jnA, jnC, Int.reduceBNe, List.length_map, q]) | exact Vn | ((with_reducible refine Vz ?_); refine Vp rfl rfl rfl (fun _ _ => rfl) ?_ ?_ <;> first | rfl | skip) | (refine call_pure (cc) ?_) | (refine call_pure (cn) ?_) | ((with_reducible refine Vg (fun hg => ?_) (fun hg => ?_)) <;> (try simp only [nb] at hg) <;> simp (maxSteps:=9^7) only [ss, evLit, tab, reduceCtorEq, reduceIte, Nat.reduceEqDiff, Nat.reduceBEq, Int.reduceLE, Int.reduceToNat, Nat.reduceAdd, Nat.reduceLT, Nat.reduceLeDiff, hg, plA, plC, jnA, jnC, Int.reduceBNe, List.length_map, q]) | ((with_reducible refine Vx ?_); simp only [sb, reduceIte, Nat.reduceEqDiff]) | (refine hK _ ?_; clear hK K) | refine Vt rfl ?_ | refine Vf rfl ?_ | refine Vi rfl (fun hg => ?_) (fun hg => ?_) | clear hK K)
end Go.Proofs.Ytdkiciofkifpdaa.Pln
end
