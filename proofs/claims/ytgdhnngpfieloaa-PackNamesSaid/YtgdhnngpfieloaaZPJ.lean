/- The layer of abstract values, joined: PJ. -/
import Derived.Test.YtgdhnngpfieloaaZGA
import Derived.Test.YtgdhnngpfieloaaZPO
section
namespace Go.Proofs.Ytgdhnngpfieloaa.Pln
set_option linter.unusedVariables false
set_option linter.unusedSimpArgs false
open Go Go.VS Tab
set_option maxHeartbeats 4000000
set_option maxRecDepth 4000
theorem c_points1 (l : List Sec) (x : Int × Int) (k : Nat) (hk : x.1 = k) (hk9 : k < 100) : ACall Try.prog 84 [jnA x, .ref (inA l)] [] (bool (decide (x.2 = 0) || (inF l k != x.2))) [] := by
  have hk' : (k : Int) < 100 := by omega
  have e0 : (x.2 == 0) = decide (x.2 = 0) := rfl
  refine acall_of 1 Try.func84 rfl fun n out _ _ => ?_
  simp only [Try.ntmps84, List.length_cons, List.length_nil, List.length_map, List.length_replicate, rep_map, Nat.reduceAdd, Nat.reduceSub, List.replicate, List.cons_append, List.nil_append]
  repeat' (first | (with_reducible first | refine Vk fun K hK => ?_ | refine V0 ?_ | refine Vs ?_ | apply And.intro | refine Vq (by kernel_rfl) ?_) | ((with_reducible first | refine gE ?_ | refine gR ?_); simp (maxSteps:=9^7) only [ss, evLit, tab, reduceCtorEq, reduceIte, Nat.reduceEqDiff, Nat.reduceBEq, Int.reduceLE, Int.reduceToNat, Nat.reduceAdd, Nat.reduceLT, Nat.reduceLeDiff, jnA, jnC, hk, hk', hk9, inA_pick l k 1 hk9, inA_len, e0]) | exact Vn | ((with_reducible refine Vz ?_); refine Vo rfl rfl rfl (fun _ _ => rfl) ?_ <;> first | rfl | (simp only [g_0, g_s]; refine congrArg VS.bool ?_; simp_all; done) | skip) | ((with_reducible refine Vg (fun hg => ?_) (fun hg => ?_)) <;> (try simp only [nb] at hg) <;> simp (maxSteps:=9^7) only [ss, evLit, tab, reduceCtorEq, reduceIte, Nat.reduceEqDiff, Nat.reduceBEq, Int.reduceLE, Int.reduceToNat, Nat.reduceAdd, Nat.reduceLT, Nat.reduceLeDiff, hg, jnA, jnC, hk, hk', hk9, inA_pick l k 1 hk9, inA_len, e0]) | (refine hK _ ?_; clear hK K) | clear hK K)
structure SmB (p : Pl) : Prop where
  secs : p.secs.length ≤ 1000
  ends : ∀ s, s ∈ p.secs → s.ends.length ≤ 20
  pts : p.pts.length ≤ 5000
  sgs : p.sgs.length ≤ 5000
  rts : p.rts.length ≤ 5000
  rt : ∀ r, r ∈ p.rts → r.path.length ≤ 5000 ∧ r.over.length ≤ 5000 ∧ r.flanks.length ≤ 5000
structure Sm (p : Pl) : Prop where
  secs : p.secs.length ≤ 40
  ends : ∀ s, s ∈ p.secs → s.ends.length ≤ 20
  pts : p.pts.length ≤ 40
  sgs : p.sgs.length ≤ 40
  rts : p.rts.length ≤ 40
  rt : ∀ r, r ∈ p.rts → r.path.length ≤ 20 ∧ r.over.length ≤ 20 ∧ r.flanks.length ≤ 20
theorem Sm.wide {p : Pl} (h : Sm p) : SmB p :=
  ⟨by have := h.secs; omega, h.ends, by have := h.pts; omega, by have := h.sgs; omega, by have := h.rts; omega, fun r hr => by have := h.rt r hr; omega⟩
theorem ptsOk_rise {p : Pl} (h : (allP rises (p.pts.map fun x => x.1) && decide ((p.pts.length : Int) ≤ 6)) = false) : ptsOk p = false := by
  unfold ptsOk
  have e : decide ((p.pts.length : Int) ≤ 6) = decide (p.pts.length ≤ 6) := decide_eq_decide.2 (by omega)
  rw [e] at h
  have h' : (allP rises (p.pts.map Prod.fst) && decide (p.pts.length ≤ 6)) = false := h
  rw [h', Bool.false_and, Bool.false_and]
def cntP (pre : List Sec) : Nat := pre.countP fun s => s.pt != 0
theorem cntP_nil : ((cntP [] : Nat) : Int) = 0 := rfl
theorem cntP_succ {l : List Sec} {i : Nat} (hi : i < l.length) : cntP (l.take (i + 1)) = cntP (l.take i) + if l[i].pt = 0 then 0 else 1 := by
  unfold cntP
  rw [List.take_succ_eq_append_getElem hi, List.countP_append]
  by_cases h : l[i].pt = 0 <;> simp [h]
theorem cntP_le (l : List Sec) : cntP l ≤ l.length := List.countP_le_length
theorem c_points (p : Pl) (hs : SmB p) (hmay : mayS p.secs = true) : ACall Try.prog 49 [plA p] [] (bool (ptsOk p)) [] := by
  have h1 := hs.pts
  have h2 := hs.secs
  have cr := c_rise_pt p.pts 6 (by omega)
  cases hb : (allP rises (p.pts.map fun x => x.1) && decide ((p.pts.length : Int) ≤ 6)) with
  | false =>
    rw [ptsOk_rise hb]
    rw [hb] at cr
    refine acall_of 3 Try.func49 rfl fun n out _ _ => ?_
    simp only [Try.ntmps49, List.length_cons, List.length_nil, List.length_map, List.length_replicate, rep_map, Nat.reduceAdd, Nat.reduceSub, List.replicate, List.cons_append, List.nil_append]
    repeat' (first | (with_reducible first | refine Vk fun K hK => ?_ | refine V0 ?_ | refine Vb ?_ | refine Vc ?_ | refine Vr ?_ | refine Vs ?_ | apply And.intro) | ((with_reducible first | refine gE ?_ | refine gR ?_); simp (maxSteps:=9^7) only [ss, evLit, tab, reduceCtorEq, reduceIte, Nat.reduceEqDiff, Nat.reduceBEq, Int.reduceLE, Int.reduceToNat, Nat.reduceAdd, Nat.reduceLT, Nat.reduceLeDiff, plA, plC]) | exact Vn | ((with_reducible refine Vz ?_); refine Vo rfl rfl rfl (fun _ _ => rfl) ?_ <;> first | rfl | skip) | (refine call_pure (cr) ?_) | ((with_reducible refine Vg (fun hg => ?_) (fun hg => ?_)) <;> (try simp only [nb] at hg) <;> simp (maxSteps:=9^7) only [ss, evLit, tab, reduceCtorEq, reduceIte, Nat.reduceEqDiff, Nat.reduceBEq, Int.reduceLE, Int.reduceToNat, Nat.reduceAdd, Nat.reduceLT, Nat.reduceLeDiff, hg, plA, plC]) | ((with_reducible refine Vx ?_); simp only [sb, reduceIte, Nat.reduceEqDiff]) | (refine hK _ ?_; clear hK K) | refine Vt rfl ?_ | refine Vf rfl ?_ | refine Vi rfl (fun hg => ?_) (fun hg => ?_) | clear hK K)
  | true =>
    rw [hb] at cr
    rw [Bool.and_eq_true, decide_eq_true_eq] at hb
    obtain ⟨hr, h6⟩ := hb
    refine acall_of 3 Try.func49 rfl fun n out _ _ => ?_
    simp only [Try.ntmps49, List.length_cons, List.length_nil, List.length_map, List.length_replicate, rep_map, Nat.reduceAdd, Nat.reduceSub, List.replicate, List.cons_append, List.nil_append]
    repeat' (first | (with_reducible first | refine Vk fun K hK => ?_ | refine V0 ?_ | refine Vb ?_ | refine Vc ?_ | refine Vr ?_ | refine Vs ?_ | apply And.intro) | ((with_reducible first | refine gE ?_ | refine gR ?_); simp (maxSteps:=9^7) only [ss, evLit, tab, reduceCtorEq, reduceIte, Nat.reduceEqDiff, Nat.reduceBEq, Int.reduceLE, Int.reduceToNat, Nat.reduceAdd, Nat.reduceLT, Nat.reduceLeDiff, plA, plC, List.length_map]) | exact Vn | ((with_reducible refine Vz ?_); refine Vo rfl rfl rfl (fun _ _ => rfl) ?_ <;> first | rfl | skip) | (refine call_pure (cr) ?_) | ((with_reducible refine Vg (fun hg => ?_) (fun hg => ?_)) <;> (try simp only [nb] at hg) <;> simp (maxSteps:=9^7) only [ss, evLit, tab, reduceCtorEq, reduceIte, Nat.reduceEqDiff, Nat.reduceBEq, Int.reduceLE, Int.reduceToNat, Nat.reduceAdd, Nat.reduceLT, Nat.reduceLeDiff, hg, plA, plC, List.length_map]) | ((with_reducible refine Vx ?_); simp only [sb, reduceIte, Nat.reduceEqDiff]) | (refine hK _ ?_; clear hK K) | refine Vt rfl ?_ | refine Vf rfl ?_ | refine Vi rfl (fun hg => ?_) (fun hg => ?_) | clear hK K)
    refine awp_block ?_
    refine awp_for_mv (fun m (i : Nat) => [(14, i64 (i : Int)), (3, .ptr (m + 1) 0), (1, .ptr (m + 0) 0), (4, i64 (cntP (p.secs.take i) : Int)), (6, .top), (15, .top), (16, .top), (17, .top), (18, .top), (19, .top), (20, .top), (21, .top), (22, .top), (23, .top), (24, .top), (25, .top), (26, .top), (27, .top), (28, .top)]) (fun m i => [some (.box 27 (plC p)), some (.box 99 (inA (p.secs.take i))), none]) (fun i => out) (fun i => i ≤ p.secs.length) (fun i => p.secs.length - i) 0 (Nat.zero_le _) ?_ fun m i hm hi => ?_
    · refine le_of_all ?_ ?_ (by first | rfl | (simp only [List.length_map, List.take_zero, inA_nil, cntP_nil, plC]; rfl) | simp only [List.length_map, List.take_zero, inA_nil, cntP_nil, plC]) rfl rfl rfl <;> simp only [patch, sl, List.length_map, List.take_zero, inA_nil, cntP_nil, plC]
    simp only [patch, s_0, s_s]
    have hw := addw (n := i) 1 1 rfl (by omega)
    by_cases hlt : i < p.secs.length
    · have gi := getD_map secC p.secs i [] hlt
      have hsc := cntP_succ hlt
      have hcl := cntP_le (p.secs.take i)
      have hcl2 : (p.secs.take i).length ≤ 1000 := by rw [List.length_take]; omega
      have hw2 := addw (n := cntP (p.secs.take i)) 1 1 rfl (by omega)
      have hsh := (mayS_sec hmay (List.getElem_mem hlt)).2
      obtain ⟨np, hnp, hpt⟩ : ∃ np : Nat, np < 100 ∧ p.secs[i].pt = np := by
        rw [shaped_iff] at hsh
        obtain ⟨np, h⟩ := Int.eq_ofNat_of_zero_le (a := p.secs[i].pt) (by omega)
        exact ⟨np, by omega, h⟩
      have hnp' : (np : Int) < 100 := by omega
      have hnp9 : np ≤ 99 := by omega
      by_cases h0 : np = 0
      · have hp0 : p.secs[i].pt = 0 := by omega
        have hg0 : decide ((np : Int) > 0) = false := decide_eq_false (by omega)
        rw [if_pos hp0] at hsc
        replace hsc := hsc.trans (Nat.add_zero _)
        have hsk := inA_skip hlt hp0
        repeat' (first | (with_reducible first | refine Vk fun K hK => ?_ | refine V0 ?_ | refine Vb ?_ | refine Vc ?_ | refine Vr ?_ | refine Vs ?_ | apply And.intro) | ((with_reducible first | refine gE ?_ | refine gR ?_); simp (maxSteps:=9^7) only [ss, evLit, tab, reduceCtorEq, reduceIte, Nat.reduceEqDiff, Nat.reduceBEq, Int.reduceLE, Int.reduceToNat, Nat.reduceAdd, Nat.reduceLT, Nat.reduceLeDiff, locM hm, List.length_map, hlt, gi, secA, secC, plC, splice_all, hpt, hg0, hw]) | exact Vn | ((with_reducible refine Vz ?_); refine Vo rfl rfl rfl (fun _ _ => rfl) ?_ <;> first | rfl | skip) | ((with_reducible refine Vg (fun hg => ?_) (fun hg => ?_)) <;> (try simp only [nb] at hg) <;> simp (maxSteps:=9^7) only [ss, evLit, tab, reduceCtorEq, reduceIte, Nat.reduceEqDiff, Nat.reduceBEq, Int.reduceLE, Int.reduceToNat, Nat.reduceAdd, Nat.reduceLT, Nat.reduceLeDiff, hg, locM hm, List.length_map, hlt, gi, secA, secC, plC, splice_all, hpt, hg0, hw]) | ((with_reducible refine Vx ?_); simp only [sb, reduceIte, Nat.reduceEqDiff]) | (refine hK _ ?_; clear hK K) | refine Vt rfl ?_ | refine Vf rfl ?_ | refine Vi rfl (fun hg => ?_) (fun hg => ?_) | clear hK K)
        refine ⟨i + 1, by omega, by omega, ?_⟩
        rw [hsc, hsk]
        refine le_move [true, true, false] (fun n_ => ?_) (fun n_ => ?_) <;> simp only [patch, sm, plC]
      · have hp0 : ¬ p.secs[i].pt = 0 := by omega
        have hg0 : decide ((np : Int) > 0) = true := decide_eq_true (by omega)
        rw [if_neg hp0] at hsc
        have hst := inA_set hmay hlt np hnp (by omega) hpt
        repeat' (first | (with_reducible first | refine Vk fun K hK => ?_ | refine V0 ?_ | refine Vb ?_ | refine Vc ?_ | refine Vr ?_ | refine Vs ?_ | apply And.intro) | ((with_reducible first | refine gE ?_ | refine gR ?_); simp (maxSteps:=9^7) only [ss, evLit, tab, reduceCtorEq, reduceIte, Nat.reduceEqDiff, Nat.reduceBEq, Int.reduceLE, Int.reduceToNat, Nat.reduceAdd, Nat.reduceLT, Nat.reduceLeDiff, locM hm, List.length_map, hlt, gi, secA, secC, plC, splice_all, hpt, hg0, hnp, hnp', hnp9, inA_len, hst, hw, hw2]) | exact Vn | ((with_reducible refine Vz ?_); refine Vo rfl rfl rfl (fun _ _ => rfl) ?_ <;> first | rfl | skip) | ((with_reducible refine Vg (fun hg => ?_) (fun hg => ?_)) <;> (try simp only [nb] at hg) <;> simp (maxSteps:=9^7) only [ss, evLit, tab, reduceCtorEq, reduceIte, Nat.reduceEqDiff, Nat.reduceBEq, Int.reduceLE, Int.reduceToNat, Nat.reduceAdd, Nat.reduceLT, Nat.reduceLeDiff, hg, locM hm, List.length_map, hlt, gi, secA, secC, plC, splice_all, hpt, hg0, hnp, hnp', hnp9, inA_len, hst, hw, hw2]) | ((with_reducible refine Vx ?_); simp only [sb, reduceIte, Nat.reduceEqDiff]) | (refine hK _ ?_; clear hK K) | refine Vt rfl ?_ | refine Vf rfl ?_ | refine Vi rfl (fun hg => ?_) (fun hg => ?_) | clear hK K)
        refine ⟨i + 1, by omega, by omega, ?_⟩
        rw [hsc]
        refine le_move [true, true, false] (fun n_ => ?_) (fun n_ => ?_) <;> simp only [patch, sm, plC]
    · obtain rfl : i = p.secs.length := by omega
      refine awp_le (le_freezeAt (i := 1) (t := 3) 1 (.ref (inA (p.secs.take p.secs.length))) rfl rfl (.ptr 0)) ?_
      simp only [s_0, s_s, List.take_length]
      have hx : ∀ x, x ∈ p.pts → ∃ k : Nat, x.1 = k ∧ k < 100 := fun x hx => by
        obtain ⟨i, hi, rfl⟩ := List.getElem_of_mem hx
        have h1 := allP_iff.1 hr i (by simpa using hi)
        simp only [rises, List.getElem_map, Bool.and_eq_true, numb_iff] at h1
        exact ⟨(p.pts[i].1).toNat, by omega, by omega⟩
      have ca := c_any_jn p.pts 84 [.ref (inA p.secs)] (fun x => decide (x.2 = 0) || (inF p.secs x.1.toNat != x.2)) (hb0 _ (by decide) (by decide)) (by omega) fun x hxm => by
        obtain ⟨k, hk, hk9⟩ := hx x hxm
        have := c_points1 p.secs x k hk hk9
        rw [show x.1.toNat = k by omega]
        exact this
      have hok : ptsOk p = (((cntP p.secs : Nat) : Int) == (p.pts.length : Int) && !(p.pts.any fun x => decide (x.2 = 0) || (inF p.secs x.1.toNat != x.2))) := by
        rw [pts_any hmay hr]
        unfold ptsOk
        have e1 : allP rises (p.pts.map Prod.fst) = true := hr
        have e2 : decide (p.pts.length ≤ 6) = true := decide_eq_true (by omega)
        have e3 : decide (p.secs.countP (fun s => s.pt != 0) = p.pts.length) = (((cntP p.secs : Nat) : Int) == (p.pts.length : Int)) := by
          rw [Bool.eq_iff_iff]; simp [cntP]; omega
        rw [e1, e2, e3]; rfl
      generalize (p.pts.any fun x => decide (x.2 = 0) || (inF p.secs x.1.toNat != x.2)) = A at ca hok
      repeat' (first | (with_reducible first | refine Vk fun K hK => ?_ | refine V0 ?_ | refine Vb ?_ | refine Vc ?_ | refine Vr ?_ | refine Vs ?_ | apply And.intro) | ((with_reducible first | refine gE ?_ | refine gR ?_); simp (maxSteps:=9^7) only [ss, evLit, tab, reduceCtorEq, reduceIte, Nat.reduceEqDiff, Nat.reduceBEq, Int.reduceLE, Int.reduceToNat, Nat.reduceAdd, Nat.reduceLT, Nat.reduceLeDiff, locM hm, plC, List.length_map, hlt]) | exact Vn | ((with_reducible refine Vz ?_); refine Vo rfl rfl rfl (fun _ _ => rfl) ?_ <;> first | rfl | (rw [hok]; simp only [g_0, g_s]; refine congrArg VS.bool ?_; simp_all; done) | skip) | (refine call_pure (ca) ?_) | ((with_reducible refine Vg (fun hg => ?_) (fun hg => ?_)) <;> (try simp only [nb] at hg) <;> simp (maxSteps:=9^7) only [ss, evLit, tab, reduceCtorEq, reduceIte, Nat.reduceEqDiff, Nat.reduceBEq, Int.reduceLE, Int.reduceToNat, Nat.reduceAdd, Nat.reduceLT, Nat.reduceLeDiff, hg, locM hm, plC, List.length_map, hlt]) | ((with_reducible refine Vx ?_); simp only [sb, reduceIte, Nat.reduceEqDiff]) | (refine hK _ ?_; clear hK K) | refine Vt rfl ?_ | refine Vf rfl ?_ | refine Vi rfl (fun hg => ?_) (fun hg => ?_) | clear hK K)
end Go.Proofs.Ytgdhnngpfieloaa.Pln
end
section
namespace Go.Proofs.Ytgdhnngpfieloaa.Pln
set_option linter.unusedVariables false
set_option linter.unusedSimpArgs false
open Go Go.VS Tab
set_option maxHeartbeats 4000000
set_option maxRecDepth 4000
theorem sgsOk_rise {p : Pl} (h : (allP rises (p.sgs.map fun x => x.1) && decide ((p.sgs.length : Int) ≤ 10)) = false) : sgsOk p = false := by
  unfold sgsOk
  have e : decide ((p.sgs.length : Int) ≤ 10) = decide (p.sgs.length ≤ 10) := decide_eq_decide.2 (by omega)
  rw [e] at h
  have h' : (allP rises (p.sgs.map Prod.fst) && decide (p.sgs.length ≤ 10)) = false := h
  rw [h', Bool.false_and]
theorem sgsOk_of {p : Pl} (hr : allP rises (p.sgs.map fun x => x.1) = true) (h10 : p.sgs.length ≤ 10) : sgsOk p = allP (okG p) p.sgs := by
  unfold sgsOk
  have e1 : allP rises (p.sgs.map Prod.fst) = true := hr
  rw [e1, decide_eq_true h10]; rfl
theorem okG_end {p : Pl} (hmay : mayS p.secs = true) {pre : List (Int × Int × Int)} {x : Int × Int × Int} (h : okG p pre x = true) : 0 ≤ x.2.2 ∧ x.2.2 < 3 := by
  unfold okG at h
  rw [Bool.and_eq_true] at h
  cases hg : getS p.secs x.2.1 with
  | none => rw [hg] at h; cases h.1
  | some s =>
    rw [hg] at h
    have hs := (mayS_sec hmay (getS_some hg).1).2
    rw [shaped_iff] at hs
    have := h.1
    simp at this
    omega
theorem c_signals (p : Pl) (hs : SmB p) (hmay : mayS p.secs = true) : ACall Try.prog 50 [plA p, .agg (endsA p.secs)] [] (bool (sgsOk p)) [] := by
  have h1 := hs.sgs
  have h2 := hs.secs
  have cr := c_rise_sg p.sgs 10 (by omega)
  cases hb : (allP rises (p.sgs.map fun x => x.1) && decide ((p.sgs.length : Int) ≤ 10)) with
  | false =>
    rw [sgsOk_rise hb]
    rw [hb] at cr
    refine acall_of 4 Try.func50 rfl fun n out _ _ => ?_
    simp only [Try.ntmps50, List.length_cons, List.length_nil, List.length_map, List.length_replicate, rep_map, Nat.reduceAdd, Nat.reduceSub, List.replicate, List.cons_append, List.nil_append]
    repeat' (first | (with_reducible first | refine Vk fun K hK => ?_ | refine V0 ?_ | refine Vb ?_ | refine Vc ?_ | refine Vr ?_ | refine Vs ?_ | apply And.intro | refine Vq (by kernel_rfl) ?_) | ((with_reducible first | refine gE ?_ | refine gR ?_); simp (maxSteps:=9^7) only [ss, evLit, tab, reduceCtorEq, reduceIte, Nat.reduceEqDiff, Nat.reduceBEq, Int.reduceLE, Int.reduceToNat, Nat.reduceAdd, Nat.reduceLT, Nat.reduceLeDiff, plA, plC]) | exact Vn | ((with_reducible refine Vz ?_); refine Vo rfl rfl rfl (fun _ _ => rfl) ?_ <;> first | rfl | skip) | (refine call_pure (cr) ?_) | ((with_reducible refine Vg (fun hg => ?_) (fun hg => ?_)) <;> (try simp only [nb] at hg) <;> simp (maxSteps:=9^7) only [ss, evLit, tab, reduceCtorEq, reduceIte, Nat.reduceEqDiff, Nat.reduceBEq, Int.reduceLE, Int.reduceToNat, Nat.reduceAdd, Nat.reduceLT, Nat.reduceLeDiff, hg, plA, plC]) | ((with_reducible refine Vx ?_); simp only [sb, reduceIte, Nat.reduceEqDiff]) | (refine hK _ ?_; clear hK K) | refine Vt rfl ?_ | refine Vf rfl ?_ | refine Vi rfl (fun hg => ?_) (fun hg => ?_) | clear hK K)
  | true =>
    rw [hb] at cr
    rw [Bool.and_eq_true, decide_eq_true_eq] at hb
    obtain ⟨hr, h10⟩ := hb
    rw [sgsOk_of hr (by omega)]
    refine acall_of 4 Try.func50 rfl fun n out _ _ => ?_
    simp only [Try.ntmps50, List.length_cons, List.length_nil, List.length_map, List.length_replicate, rep_map, Nat.reduceAdd, Nat.reduceSub, List.replicate, List.cons_append, List.nil_append]
    repeat' (first | (with_reducible first | refine Vk fun K hK => ?_ | refine V0 ?_ | refine Vb ?_ | refine Vc ?_ | refine Vr ?_ | refine Vs ?_ | apply And.intro | refine Vq (by kernel_rfl) ?_) | ((with_reducible first | refine gE ?_ | refine gR ?_); simp (maxSteps:=9^7) only [ss, evLit, tab, reduceCtorEq, reduceIte, Nat.reduceEqDiff, Nat.reduceBEq, Int.reduceLE, Int.reduceToNat, Nat.reduceAdd, Nat.reduceLT, Nat.reduceLeDiff, plA, plC, List.length_map, rep_bool]) | exact Vn | ((with_reducible refine Vz ?_); refine Vo rfl rfl rfl (fun _ _ => rfl) ?_ <;> first | rfl | skip) | (refine call_pure (cr) ?_) | ((with_reducible refine Vg (fun hg => ?_) (fun hg => ?_)) <;> (try simp only [nb] at hg) <;> simp (maxSteps:=9^7) only [ss, evLit, tab, reduceCtorEq, reduceIte, Nat.reduceEqDiff, Nat.reduceBEq, Int.reduceLE, Int.reduceToNat, Nat.reduceAdd, Nat.reduceLT, Nat.reduceLeDiff, hg, plA, plC, List.length_map, rep_bool]) | ((with_reducible refine Vx ?_); simp only [sb, reduceIte, Nat.reduceEqDiff]) | (refine hK _ ?_; clear hK K) | refine Vt rfl ?_ | refine Vf rfl ?_ | refine Vi rfl (fun hg => ?_) (fun hg => ?_) | clear hK K)
    refine awp_block ?_
    refine awp_for_mv (fun m (i : Nat) => [(15, i64 (i : Int)), (2, .ptr (m + 0) 0), (3, .ptr (m + 1) 0), (5, .ptr (m + 2) 0), (4, .top), (7, .top), (16, .top), (17, .top), (18, .top), (19, .top), (20, .top), (21, .top), (22, .top), (23, .top), (24, .top), (25, .top), (26, .top), (27, .top), (28, .top), (29, .top), (30, .top), (31, .top), (32, .top), (33, .top), (34, .top), (35, .top), (36, .top), (37, .top), (38, .top), (39, .top), (40, .top), (41, .top), (42, .top), (43, .top), (44, .top), (45, .top), (46, .top), (47, .top), (48, .top), (49, .top), (50, .top), (51, .top), (52, .top), (53, .top)]) (fun m i => [some (.box 27 (plC p)), some (.box 99 (endsA p.secs)), some (.box 140 (markA (p.sgs.take i))), none]) (fun i => out) (fun i => i ≤ p.sgs.length ∧ (∀ j (hj : j < p.sgs.length), j < i → okG p (p.sgs.take j) p.sgs[j] = true)) (fun i => p.sgs.length - i) 0 ⟨Nat.zero_le _, by intros; omega⟩ ?_ fun m i hm hi => ?_
    · refine le_of_all ?_ ?_ (by first | rfl | (simp only [List.length_map, List.take_zero, markA_nil, plC]; rfl) | simp only [List.length_map, List.take_zero, markA_nil, plC]) rfl rfl rfl <;> simp only [patch, sl, List.length_map, List.take_zero, markA_nil, plC]
    obtain ⟨hi, hq⟩ := hi
    simp only [patch, s_0, s_s]
    have hw := addw (n := i) 1 1 rfl (by omega)
    by_cases hlt : i < p.sgs.length
    · have gi := getD_map sgC p.sgs i [] hlt
      have ct := c_there p.secs p.sgs[i].2.1 hmay
      have next : okG p (p.sgs.take i) p.sgs[i] = true → ∀ j (hj : j < p.sgs.length), j < i + 1 → okG p (p.sgs.take j) p.sgs[j] = true := fun h j hj hji => by
        by_cases h' : j = i
        · subst h'; exact h
        · exact hq j hj (by omega)
      cases hg : getS p.secs p.sgs[i].2.1 with
      | none =>
        have bad : okG p (p.sgs.take i) p.sgs[i] = false := by unfold okG; rw [hg]; rfl
        rw [hg] at ct
        repeat' (first | (with_reducible first | refine Vk fun K hK => ?_ | refine V0 ?_ | refine Vb ?_ | refine Vc ?_ | refine Vr ?_ | refine Vs ?_ | apply And.intro | refine Vq (by kernel_rfl) ?_) | ((with_reducible first | refine gE ?_ | refine gR ?_); simp (maxSteps:=9^7) only [ss, evLit, tab, reduceCtorEq, reduceIte, Nat.reduceEqDiff, Nat.reduceBEq, Int.reduceLE, Int.reduceToNat, Nat.reduceAdd, Nat.reduceLT, Nat.reduceLeDiff, locM hm, List.length_map, hlt, gi, sgC, plC, splice_all, hw, Option.isSome_none]) | exact Vn | ((with_reducible refine Vz ?_); refine Vo rfl rfl rfl (fun _ _ => rfl) ?_ <;> first | rfl | (rw [allP_false hlt bad]; rfl) | skip) | (refine call_pure (ct) ?_) | ((with_reducible refine Vg (fun hg => ?_) (fun hg => ?_)) <;> (try simp only [nb] at hg) <;> simp (maxSteps:=9^7) only [ss, evLit, tab, reduceCtorEq, reduceIte, Nat.reduceEqDiff, Nat.reduceBEq, Int.reduceLE, Int.reduceToNat, Nat.reduceAdd, Nat.reduceLT, Nat.reduceLeDiff, hg, locM hm, List.length_map, hlt, gi, sgC, plC, splice_all, hw, Option.isSome_none]) | ((with_reducible refine Vx ?_); simp only [sb, reduceIte, Nat.reduceEqDiff]) | (refine hK _ ?_; clear hK K) | refine Vt rfl ?_ | refine Vf rfl ?_ | refine Vi rfl (fun hg => ?_) (fun hg => ?_) | clear hK K)
      | some s =>
        obtain ⟨hsm, hsi⟩ := getS_some hg
        have hn := (mayS_sec hmay hsm)
        have hn1 := numb_iff.1 hn.1
        have hn2 := shaped_iff.1 hn.2
        obtain ⟨np, hpt⟩ := Int.eq_ofNat_of_zero_le (a := p.sgs[i].2.1) (by omega)
        have hnp : np < 100 := by omega
        have hnp' : (np : Int) < 100 := by omega
        have hnp9 : np ≤ 99 := by omega
        have hcn : cnt p.secs np = s.ends.length := by unfold cnt; rw [← hpt, hg]
        rw [hg] at ct
        simp only [hpt] at ct
        have okv : okG p (p.sgs.take i) p.sgs[i] = (decide (0 ≤ p.sgs[i].2.2) && decide (p.sgs[i].2.2 < s.ends.length) && (p.sgs.take i).all fun y => !(y.2 == p.sgs[i].2)) := by unfold okG; rw [hg]
        by_cases hb : 0 ≤ p.sgs[i].2.2 ∧ p.sgs[i].2.2 < s.ends.length
        · obtain ⟨nb, hnb⟩ := Int.eq_ofNat_of_zero_le hb.1
          have hb3 : nb < 3 := by omega
          have hb3' : (nb : Int) < 3 := by omega
          have hb0 : decide ((nb : Int) < 0) = false := decide_eq_false (by omega)
          have hb1 : decide ((nb : Int) ≥ (s.ends.length : Int)) = false := decide_eq_false (by omega)
          have hx3 : np * 3 + nb < 300 := by omega
          have hx4 : np * 3 + nb + 1 ≤ 300 := by omega
          have hmk := mark_eq (pre := p.sgs.take i) (fun y hy => by
            rw [List.mem_take_iff_getElem] at hy
            obtain ⟨q, hq', rfl⟩ := hy
            exact okG_end hmay (hq q (by omega) (by omega))) (a := np) hb3
          have hst := markA_set p.sgs i hlt np nb hx3 hpt hnb
          have okv2 : okG p (p.sgs.take i) p.sgs[i] = !mark (p.sgs.take i) (np * 3 + nb) := by
            rw [okv, hmk, decide_eq_true hb.1, decide_eq_true hb.2, Bool.true_and, Bool.true_and, List.not_any_eq_all_not]
            have : p.sgs[i].2 = ((np : Int), (nb : Int)) := by rw [← hpt, ← hnb]
            rw [this]
          clear hmk okv
          repeat' (first | (with_reducible first | refine Vk fun K hK => ?_ | refine V0 ?_ | refine Vb ?_ | refine Vc ?_ | refine Vr ?_ | refine Vs ?_ | apply And.intro | refine Vd 9 [] [[],[3],[],[3],[],[],[2]] [[],[],[],[],[],[],[2]] (by kernel_rfl) (by decide) (by decide) (by kernel_rfl) ?_ | refine Vq (by kernel_rfl) ?_) | ((with_reducible first | refine gE ?_ | refine gR ?_ | refine gD ?_ | refine gF ?_); simp (maxSteps:=9^7) only [ss, evLit, tab, reduceCtorEq, reduceIte, Nat.reduceEqDiff, Nat.reduceBEq, Int.reduceLE, Int.reduceToNat, Nat.reduceAdd, Nat.reduceLT, Nat.reduceLeDiff, locM hm, List.length_map, hlt, gi, sgC, plC, splice_all, hw, Option.isSome_some, hpt, hnb, hnp, hnp', hnp9, hb3, hb3', hb0, hb1, hcn, endsA_len, endsA_pick p.secs np 1 hnp, markA_len, markA_pick _ (np * 3 + nb) 1 hx3, hx3, hx4, hst]) | exact Vn | ((with_reducible refine Vz ?_); refine Vo rfl rfl rfl (fun _ _ => rfl) ?_ <;> first | rfl | (rw [allP_false hlt (by rw [okv2]; simp_all)]; rfl) | skip) | (refine call_pure (ct) ?_) | ((with_reducible refine Vg (fun hg => ?_) (fun hg => ?_)) <;> (try simp only [nb] at hg) <;> simp (maxSteps:=9^7) only [ss, evLit, tab, reduceCtorEq, reduceIte, Nat.reduceEqDiff, Nat.reduceBEq, Int.reduceLE, Int.reduceToNat, Nat.reduceAdd, Nat.reduceLT, Nat.reduceLeDiff, hg, locM hm, List.length_map, hlt, gi, sgC, plC, splice_all, hw, Option.isSome_some, hpt, hnb, hnp, hnp', hnp9, hb3, hb3', hb0, hb1, hcn, endsA_len, endsA_pick p.secs np 1 hnp, markA_len, markA_pick _ (np * 3 + nb) 1 hx3, hx3, hx4, hst]) | ((with_reducible refine Vx ?_); simp only [sb, reduceIte, Nat.reduceEqDiff]) | (refine hK _ ?_; clear hK K) | refine Vt rfl ?_ | refine Vf rfl ?_ | refine Vi rfl (fun hg => ?_) (fun hg => ?_) | clear hK K)
          refine ⟨i + 1, ⟨by omega, next (by rw [okv2]; simp_all)⟩, by omega, ?_⟩
          refine le_move [true, true, true, false] (fun n_ => ?_) (fun n_ => ?_) <;> simp only [patch, sm, plC]
        · have bad : okG p (p.sgs.take i) p.sgs[i] = false := by
            rw [okv]
            have : (decide (0 ≤ p.sgs[i].2.2) && decide (p.sgs[i].2.2 < (s.ends.length : Int))) = false := by rw [Bool.eq_false_iff]; intro h; exact hb (by simpa using h)
            rw [this, Bool.false_and]
          repeat' (first | (with_reducible first | refine Vk fun K hK => ?_ | refine V0 ?_ | refine Vb ?_ | refine Vc ?_ | refine Vr ?_ | refine Vs ?_ | apply And.intro | refine Vq (by kernel_rfl) ?_) | ((with_reducible first | refine gE ?_ | refine gR ?_); simp (maxSteps:=9^7) only [ss, evLit, tab, reduceCtorEq, reduceIte, Nat.reduceEqDiff, Nat.reduceBEq, Int.reduceLE, Int.reduceToNat, Nat.reduceAdd, Nat.reduceLT, Nat.reduceLeDiff, locM hm, List.length_map, hlt, gi, sgC, plC, splice_all, hw, Option.isSome_some, hpt, hnp, hnp', hnp9, hcn, endsA_len, endsA_pick p.secs np 1 hnp]) | exact Vn | ((with_reducible refine Vz ?_); refine Vo rfl rfl rfl (fun _ _ => rfl) ?_ <;> first | rfl | (rw [allP_false hlt bad]; rfl) | skip) | (refine call_pure (ct) ?_) | ((with_reducible refine Vg (fun hg => ?_) (fun hg => ?_)) <;> (try simp only [nb] at hg) <;> simp (maxSteps:=9^7) only [ss, evLit, tab, reduceCtorEq, reduceIte, Nat.reduceEqDiff, Nat.reduceBEq, Int.reduceLE, Int.reduceToNat, Nat.reduceAdd, Nat.reduceLT, Nat.reduceLeDiff, hg, locM hm, List.length_map, hlt, gi, sgC, plC, splice_all, hw, Option.isSome_some, hpt, hnp, hnp', hnp9, hcn, endsA_len, endsA_pick p.secs np 1 hnp]) | ((with_reducible refine Vx ?_); simp only [sb, reduceIte, Nat.reduceEqDiff]) | (refine hK _ ?_; clear hK K) | refine Vt rfl ?_ | refine Vf rfl ?_ | refine Vi rfl (fun hg => ?_) (fun hg => ?_) | clear hK K)
          all_goals (exfalso; simp at *; omega)
    · have hall := allP_true (f := okG p) (l := p.sgs) fun j hj => hq j hj (by omega)
      repeat' (first | (with_reducible first | refine Vk fun K hK => ?_ | refine V0 ?_ | refine Vb ?_ | refine Vc ?_ | refine Vr ?_ | refine Vs ?_ | apply And.intro | refine Vq (by kernel_rfl) ?_) | ((with_reducible first | refine gE ?_ | refine gR ?_); simp (maxSteps:=9^7) only [ss, evLit, tab, reduceCtorEq, reduceIte, Nat.reduceEqDiff, Nat.reduceBEq, Int.reduceLE, Int.reduceToNat, Nat.reduceAdd, Nat.reduceLT, Nat.reduceLeDiff, List.length_map, hlt]) | exact Vn | ((with_reducible refine Vz ?_); refine Vo rfl rfl rfl (fun _ _ => rfl) ?_ <;> first | rfl | (rw [hall]; rfl) | skip) | ((with_reducible refine Vg (fun hg => ?_) (fun hg => ?_)) <;> (try simp only [nb] at hg) <;> simp (maxSteps:=9^7) only [ss, evLit, tab, reduceCtorEq, reduceIte, Nat.reduceEqDiff, Nat.reduceBEq, Int.reduceLE, Int.reduceToNat, Nat.reduceAdd, Nat.reduceLT, Nat.reduceLeDiff, hg, List.length_map, hlt]) | ((with_reducible refine Vx ?_); simp only [sb, reduceIte, Nat.reduceEqDiff]) | (refine hK _ ?_; clear hK K) | refine Vt rfl ?_ | refine Vf rfl ?_ | refine Vi rfl (fun hg => ?_) (fun hg => ?_) | clear hK K)
end Go.Proofs.Ytgdhnngpfieloaa.Pln
end
