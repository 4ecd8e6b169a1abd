/-
  What a route comes to, and its outs; ways compared.
-/
import Derived.Test.YtcfkieacdjcaoaaZGA
import Derived.Test.YtcfkieacdjcaoaaZW5
import Derived.Test.YtcfkieacdjcaoaaZPP
namespace Go.Proofs.Ytcfkieacdjcaoaa.Pln
set_option linter.unusedVariables false
set_option linter.unusedSimpArgs false
open Go Go.VS Tab
set_option maxHeartbeats 8000000
set_option maxRecDepth 4000
theorem may_parts {p : Pl} (h : mayP p = true) : headOk p = true ∧ mayS p.secs = true ∧ ptsOk p = true ∧ sgsOk p = true ∧ allP rises (p.rts.map Rt.id) = true ∧ p.rts.length ≤ 16 ∧ ∀ r, r ∈ p.rts → okR p r = true := by
  unfold mayP at h
  simp only [Bool.and_eq_true, decide_eq_true_eq, List.all_eq_true] at h
  obtain ⟨⟨⟨⟨⟨⟨h1, h2⟩, h3⟩, h4⟩, h5⟩, h6⟩, h7⟩ := h
  exact ⟨h1, h2, h3, h4, h5, h6, h7⟩
theorem lastG_get {l : List (Int × Int × Int)} (hr : ∀ i (hi : i < l.length) j (hj : j < i), (l[j]'(by omega)).1 < l[i].1) (n : Int) : lastG l n = (getG l n).getD (0, 0, 0) := by
  have : ∀ i, i ≤ l.length → lastG (l.take i) n = (getG (l.take i) n).getD (0, 0, 0) := by
    intro i
    induction i with
    | zero => intro _; rfl
    | succ i ih =>
      intro hi
      rw [lastG_succ (by omega), ih (by omega)]
      unfold getG
      rw [List.take_succ_eq_append_getElem (by omega), List.find?_append]
      by_cases h : l[i].1 = n
      · have hno : (l.take i).find? (fun x => x.1 == n) = none := by
          rw [List.find?_eq_none]
          intro x hx
          rw [List.mem_take_iff_getElem] at hx
          obtain ⟨j, hj, rfl⟩ := hx
          have := hr i (by omega) j (by omega)
          simp; omega
        rw [hno]
        simp [h]
      · rw [if_neg (by simpa using h)]
        have : [l[i]].find? (fun x => x.1 == n) = none := by simp [h]
        rw [this]
        cases (l.take i).find? (fun x => x.1 == n) <;> rfl
  have := this l.length (Nat.le_refl _)
  rwa [List.take_length] at this
theorem sgs_rise {p : Pl} (h : sgsOk p = true) : ∀ i (hi : i < p.sgs.length) j (hj : j < i), (p.sgs[j]'(by omega)).1 < p.sgs[i].1 := by
  intro i hi j hj
  unfold sgsOk at h
  rw [Bool.and_eq_true, Bool.and_eq_true] at h
  have h1 := allP_iff.1 h.1.1 i (by simpa using hi)
  simp only [rises, Bool.and_eq_true, List.all_eq_true, decide_eq_true_eq, List.getElem_map] at h1
  have : p.sgs[j].1 ∈ (p.sgs.map Prod.fst).take i := by
    rw [List.mem_take_iff_getElem]
    exact ⟨j, by simp; omega, by simp⟩
  exact h1.2 _ this
theorem entry_of {p : Pl} (h : mayP p = true) {r : Rt} (hr : r ∈ p.rts) : 1 ≤ r.path.length ∧ ∃ en, getG p.sgs r.entry = some en ∧ lastG p.sgs r.entry = en ∧ en ∈ p.sgs ∧ ∀ s, s ∈ p.secs → (s.id == en.2.1) = true → 0 ≤ en.2.2 ∧ en.2.2 < s.ends.length := by
  obtain ⟨_, hmay, _, hsg, _, _, hrs⟩ := may_parts h
  have ho := hrs r hr
  unfold okR at ho
  cases hg : getG p.sgs r.entry with
  | none => rw [hg] at ho; cases ho
  | some en =>
    rw [hg] at ho
    simp only [Bool.and_eq_true, decide_eq_true_eq] at ho
    obtain ⟨⟨⟨⟨⟨⟨⟨⟨_, hp⟩, _⟩, _⟩, _⟩, _⟩, _⟩, _⟩, _⟩ := ho
    have hm := List.mem_of_find?_eq_some hg
    refine ⟨hp, en, rfl, by rw [lastG_get (sgs_rise hsg), hg]; rfl, hm, fun s hs he => ?_⟩
    obtain ⟨i, hi, rfl⟩ := List.getElem_of_mem hm
    unfold sgsOk at hsg
    rw [Bool.and_eq_true] at hsg
    have h1 := allP_iff.1 hsg.2 i hi
    unfold okG at h1
    rw [Bool.and_eq_true] at h1
    cases hgs : getS p.secs p.sgs[i].2.1 with
    | none => rw [hgs] at h1; simp at h1
    | some s' =>
      rw [hgs] at h1
      simp only [Bool.and_eq_true, decide_eq_true_eq] at h1
      obtain ⟨g1, g2⟩ := getS_some hgs
      have : s = s' := id_inj hmay hs g1 (by rw [g2]; simpa using he)
      rw [this]
      exact h1.1
def rtO (p : Pl) (id : Int) : Rt := elD (mayP p) (getR p.rts id) noRt
def rtE (p : Pl) (id : Int) : Int := elE (mayP p) (getR p.rts id)
def ofE (p : Pl) (id : Int) : Int := if rtE p id = 0 then folE p (rtO p id) else rtE p id
def ofW (p : Pl) (id : Int) : Wy := if rtE p id = 0 then folW p (rtO p id) else noWy
def ofO (p : Pl) (id : Int) : List (Int × Int) := if rtE p id = 0 then folO p (rtO p id) else []
theorem rtE_zero {p : Pl} {id : Int} (h : rtE p id = 0) : mayP p = true ∧ rtO p id ∈ p.rts := by
  unfold rtE elE at h
  cases hm : mayP p with
  | false => rw [hm] at h; simp at h
  | true =>
    rw [hm] at h
    cases hg : getR p.rts id with
    | none => rw [hg] at h; simp at h
    | some r =>
      refine ⟨rfl, ?_⟩
      unfold rtO elD
      rw [hm, hg]
      exact List.mem_of_find?_eq_some hg
theorem c_fol {p : Pl} (hs : Sm p) {id : Int} (h : rtE p id = 0) : ACall Try.prog 55 [plA p, rtA (rtO p id)] [] (.tup [wyA (folW p (rtO p id)), .sl 2 ((folO p (rtO p id)).map jnC) .sh, i64 (folE p (rtO p id))]) [] := by
  obtain ⟨hm, hr⟩ := rtE_zero h
  obtain ⟨h1, en, _, h3, _, h5⟩ := entry_of hm hr
  exact c_followed p (rtO p id) hs (hs.rt _ hr) h1 (by rw [h3]; exact h5)
theorem c_of (p : Pl) (hs : Sm p) (id : Int) : ACall Try.prog 27 [plA p, i64 id] [] (.tup [wyA (ofW p id), i64 (ofE p id)]) [] := by
  have c1 : ACall Try.prog 22 [plA p, i64 id] [] (.tup [rtA (rtO p id), i64 (rtE p id)]) [] := c_pRoute p hs id
  by_cases hE : rtE p id = 0
  · have c2 := c_fol hs hE
    have e1 : ofW p id = folW p (rtO p id) := if_pos hE
    have e2 : ofE p id = folE p (rtO p id) := if_pos hE
    rw [e1, e2]
    rw [hE] at c1
    generalize rtO p id = r at *
    generalize folW p r = W at *
    generalize folO p r = O at *
    generalize folE p r = E at *
    simp only [plA, plC, rtA, rtC, wyA, wyC] at c1 c2
    refine acall_of 4 Try.func27 rfl fun n out _ _ => ?_
    simp only [Try.ntmps27, List.length_cons, List.length_nil, List.length_map, List.length_replicate, rep_map, Nat.reduceAdd, Nat.reduceSub, List.replicate, List.cons_append, List.nil_append]
    repeat' (first | (with_reducible first | refine awp_seq_k fun K hK => ?_ | refine awp_ev tab_ok [] ?_ | refine awp_skip ?_ | apply And.intro) | ((with_reducible first | refine gE ?_ | refine gR ?_); simp (maxSteps := 4000000) only [su, evLit, hbT, tab, thenA, blockA, reduceCtorEq, reduceIte, Nat.reduceEqDiff, Nat.reduceBEq, Int.reduceLE, Int.reduceToNat, Nat.reduceAdd, Nat.reduceLT, Nat.reduceLeDiff, plA, plC, rtA, rtC, wyA, wyC, splice_all, Int.reduceBNe]) | (show (_ : Nat) = (_ : Nat); rfl) | ((with_reducible refine awp_ret ?_); (first | refine ret_ct (.inr rfl) rfl rfl rfl (fun _ _ => rfl) ok59 (k := n + 1) (off := 0) rfl (dom_loc _ (by simp)) (look_loc _ (Nat.le_refl _) 1) rfl rfl ?_ | refine ret_ct (.inr rfl) rfl rfl rfl (fun _ _ => rfl) ok59 (k := m + 1) (off := 0) rfl (dom_loc _ (by simp)) (look_loc _ hm 1) rfl rfl ?_) <;> first | rfl | exact AV.le.rfl _ | (simp only [patch, sl, ti59, List.map_nil, plA, plC, rtA, rtC, wyA, wyC, splice_all, Int.reduceBNe]; done) | rfl | skip) | (refine call_pure (c1) ?_) | (refine call_pure (c2) ?_) | (refine hK _ ?_; clear hK K) | refine awp_cond_t rfl ?_ | refine awp_cond_f rfl ?_ | refine awp_if rfl (fun hg => ?_) (fun hg => ?_) | clear hK K)
  · have hb : (rtE p id != 0) = true := by simpa using hE
    have e1 : ofW p id = noWy := if_neg hE
    have e2 : ofE p id = rtE p id := if_neg hE
    rw [e1, e2]
    generalize rtE p id = E at *
    generalize rtO p id = r at *
    simp only [plA, plC, rtA, rtC] at c1
    refine acall_of 4 Try.func27 rfl fun n out _ _ => ?_
    simp only [Try.ntmps27, List.length_cons, List.length_nil, List.length_map, List.length_replicate, rep_map, Nat.reduceAdd, Nat.reduceSub, List.replicate, List.cons_append, List.nil_append]
    repeat' (first | (with_reducible first | refine awp_seq_k fun K hK => ?_ | refine awp_ev tab_ok [] ?_ | refine awp_skip ?_ | apply And.intro) | ((with_reducible first | refine gE ?_ | refine gR ?_); simp (maxSteps := 4000000) only [su, evLit, hbT, tab, thenA, blockA, reduceCtorEq, reduceIte, Nat.reduceEqDiff, Nat.reduceBEq, Int.reduceLE, Int.reduceToNat, Nat.reduceAdd, Nat.reduceLT, Nat.reduceLeDiff, plA, plC, rtA, rtC, wyA, wyC, noWy, splice_all, hb, List.map_nil]) | (show (_ : Nat) = (_ : Nat); rfl) | ((with_reducible refine awp_ret ?_); (first | refine ret_ct (.inr rfl) rfl rfl rfl (fun _ _ => rfl) ok59 (k := n + 1) (off := 0) rfl (dom_loc _ (by simp)) (look_loc _ (Nat.le_refl _) 1) rfl rfl ?_ | refine ret_ct (.inr rfl) rfl rfl rfl (fun _ _ => rfl) ok59 (k := m + 1) (off := 0) rfl (dom_loc _ (by simp)) (look_loc _ hm 1) rfl rfl ?_) <;> first | rfl | exact AV.le.rfl _ | (simp only [patch, sl, ti59, List.map_nil, plA, plC, rtA, rtC, wyA, wyC, noWy, splice_all, hb, List.map_nil]; done) | rfl | skip) | (refine call_pure (c1) ?_) | (refine hK _ ?_; clear hK K) | refine awp_cond_t rfl ?_ | refine awp_cond_f rfl ?_ | refine awp_if rfl (fun hg => ?_) (fun hg => ?_) | clear hK K)
theorem c_outs (p : Pl) (hs : Sm p) (id : Int) : ACall Try.prog 40 [plA p, i64 id] [] (.tup [.sl 2 ((ofO p id).map jnC) .sh, i64 (ofE p id)]) [] := by
  have c1 : ACall Try.prog 22 [plA p, i64 id] [] (.tup [rtA (rtO p id), i64 (rtE p id)]) [] := c_pRoute p hs id
  by_cases hE : rtE p id = 0
  · have c2 := c_fol hs hE
    have e1 : ofO p id = folO p (rtO p id) := if_pos hE
    have e2 : ofE p id = folE p (rtO p id) := if_pos hE
    rw [e1, e2]
    rw [hE] at c1
    generalize rtO p id = r at *
    generalize folW p r = W at *
    generalize folO p r = O at *
    generalize folE p r = E at *
    simp only [plA, plC, rtA, rtC, wyA, wyC] at c1 c2
    refine acall_of 4 Try.func40 rfl fun n out _ _ => ?_
    simp only [Try.ntmps40, List.length_cons, List.length_nil, List.length_map, List.length_replicate, rep_map, Nat.reduceAdd, Nat.reduceSub, List.replicate, List.cons_append, List.nil_append]
    repeat' (first | (with_reducible first | refine awp_seq_k fun K hK => ?_ | refine awp_ev tab_ok [] ?_ | refine awp_skip ?_ | apply And.intro) | ((with_reducible first | refine gE ?_ | refine gR ?_); simp (maxSteps := 4000000) only [su, evLit, hbT, tab, thenA, blockA, reduceCtorEq, reduceIte, Nat.reduceEqDiff, Nat.reduceBEq, Int.reduceLE, Int.reduceToNat, Nat.reduceAdd, Nat.reduceLT, Nat.reduceLeDiff, plA, plC, rtA, rtC, wyA, wyC, splice_all, Int.reduceBNe]) | (show (_ : Nat) = (_ : Nat); rfl) | ((with_reducible refine awp_ret ?_); refine ret_tmps_le (.inr rfl) rfl rfl rfl (fun _ _ => rfl) rfl rfl ?_ ?_ <;> first | rfl | (exact AV.le.rfl _) | (simp only [patch, sl, plA, plC, rtA, rtC, wyA, wyC, splice_all, Int.reduceBNe]; done) | rfl | skip) | (refine call_pure (c1) ?_) | (refine call_pure (c2) ?_) | (refine hK _ ?_; clear hK K) | refine awp_cond_t rfl ?_ | refine awp_cond_f rfl ?_ | refine awp_if rfl (fun hg => ?_) (fun hg => ?_) | clear hK K)
  · have hb : (rtE p id != 0) = true := by simpa using hE
    have e1 : ofO p id = [] := if_neg hE
    have e2 : ofE p id = rtE p id := if_neg hE
    rw [e1, e2]
    generalize rtE p id = E at *
    generalize rtO p id = r at *
    simp only [plA, plC, rtA, rtC] at c1
    refine acall_of 4 Try.func40 rfl fun n out _ _ => ?_
    simp only [Try.ntmps40, List.length_cons, List.length_nil, List.length_map, List.length_replicate, rep_map, Nat.reduceAdd, Nat.reduceSub, List.replicate, List.cons_append, List.nil_append]
    repeat' (first | (with_reducible first | refine awp_seq_k fun K hK => ?_ | refine awp_ev tab_ok [] ?_ | refine awp_skip ?_ | apply And.intro) | ((with_reducible first | refine gE ?_ | refine gR ?_); simp (maxSteps := 4000000) only [su, evLit, hbT, tab, thenA, blockA, reduceCtorEq, reduceIte, Nat.reduceEqDiff, Nat.reduceBEq, Int.reduceLE, Int.reduceToNat, Nat.reduceAdd, Nat.reduceLT, Nat.reduceLeDiff, plA, plC, rtA, rtC, splice_all, hb, List.map_nil]) | (show (_ : Nat) = (_ : Nat); rfl) | ((with_reducible refine awp_ret ?_); refine ret_tmps_le (.inr rfl) rfl rfl rfl (fun _ _ => rfl) rfl rfl ?_ ?_ <;> first | rfl | (exact AV.le.rfl _) | (simp only [patch, sl, plA, plC, rtA, rtC, splice_all, hb, List.map_nil]; done) | rfl | skip) | (refine call_pure (c1) ?_) | (refine hK _ ?_; clear hK K) | refine awp_cond_t rfl ?_ | refine awp_cond_f rfl ?_ | refine awp_if rfl (fun hg => ?_) (fun hg => ?_) | clear hK K)
end Go.Proofs.Ytcfkieacdjcaoaa.Pln
