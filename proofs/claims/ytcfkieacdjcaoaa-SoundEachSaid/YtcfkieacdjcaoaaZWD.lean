/- The layer of abstract values, joined: WD. -/
import Derived.Test.YtcfkieacdjcaoaaZGA
import Derived.Test.YtcfkieacdjcaoaaZW5
import Derived.Test.YtcfkieacdjcaoaaZPP
section
namespace Go.Proofs.Ytcfkieacdjcaoaa.Pln
set_option linter.unusedVariables false
set_option linter.unusedSimpArgs false
open Go Go.VS Tab
set_option maxHeartbeats 8000000
set_option maxRecDepth 4000
theorem may_parts {p : Pl} (h : mayP p = true) : headOk p = true ∧ mayS p.secs = true ∧ ptsOk p = true ∧ sgsOk p = true ∧ allP rises (p.rts.map Rt.id) = true ∧ p.rts.length ≤ 16 ∧ ∀ r, r ∈ p.rts → okR p r = true := by
  unfold mayP at h
  simp only [Bool.and_eq_true, decide_eq_true_eq, List.all_eq_true] at h
  obtain ⟨⟨⟨⟨⟨⟨h1, h2⟩, h3⟩, h4⟩, h5⟩, h6⟩, h7⟩ := h
  exact ⟨h1, h2, h3, h4, h5, h6, h7⟩
theorem lastG_get {l : List (Int × Int × Int)} (hr : ∀ i (hi : i < l.length) j (hj : j < i), (l[j]'(by omega)).1 < l[i].1) (n : Int) : lastG l n = (getG l n).getD (0, 0, 0) := by
  have : ∀ i, i ≤ l.length → lastG (l.take i) n = (getG (l.take i) n).getD (0, 0, 0) := by
    intro i
    induction i with
    | zero => intro _; rfl
    | succ i ih =>
      intro hi
      rw [lastG_succ (by omega), ih (by omega)]
      unfold getG
      rw [List.take_succ_eq_append_getElem (by omega), List.find?_append]
      by_cases h : l[i].1 = n
      · have hno : (l.take i).find? (fun x => x.1 == n) = none := by
          rw [List.find?_eq_none]
          intro x hx
          rw [List.mem_take_iff_getElem] at hx
          obtain ⟨j, hj, rfl⟩ := hx
          have := hr i (by omega) j (by omega)
          simp; omega
        rw [hno]
        simp [h]
      · rw [if_neg (by simpa using h)]
        have : [l[i]].find? (fun x => x.1 == n) = none := by simp [h]
        rw [this]
        cases (l.take i).find? (fun x => x.1 == n) <;> rfl
  have := this l.length (Nat.le_refl _)
  rwa [List.take_length] at this
theorem sgs_rise {p : Pl} (h : sgsOk p = true) : ∀ i (hi : i < p.sgs.length) j (hj : j < i), (p.sgs[j]'(by omega)).1 < p.sgs[i].1 := by
  intro i hi j hj
  unfold sgsOk at h
  rw [Bool.and_eq_true, Bool.and_eq_true] at h
  have h1 := allP_iff.1 h.1.1 i (by simpa using hi)
  simp only [rises, Bool.and_eq_true, List.all_eq_true, decide_eq_true_eq, List.getElem_map] at h1
  have : p.sgs[j].1 ∈ (p.sgs.map Prod.fst).take i := by
    rw [List.mem_take_iff_getElem]
    exact ⟨j, by simp; omega, by simp⟩
  exact h1.2 _ this
theorem entry_of {p : Pl} (h : mayP p = true) {r : Rt} (hr : r ∈ p.rts) : 1 ≤ r.path.length ∧ ∃ en, getG p.sgs r.entry = some en ∧ lastG p.sgs r.entry = en ∧ en ∈ p.sgs ∧ ∀ s, s ∈ p.secs → (s.id == en.2.1) = true → 0 ≤ en.2.2 ∧ en.2.2 < s.ends.length := by
  obtain ⟨_, hmay, _, hsg, _, _, hrs⟩ := may_parts h
  have ho := hrs r hr
  unfold okR at ho
  cases hg : getG p.sgs r.entry with
  | none => rw [hg] at ho; cases ho
  | some en =>
    rw [hg] at ho
    simp only [Bool.and_eq_true, decide_eq_true_eq] at ho
    obtain ⟨⟨⟨⟨⟨⟨⟨⟨_, hp⟩, _⟩, _⟩, _⟩, _⟩, _⟩, _⟩, _⟩ := ho
    have hm := List.mem_of_find?_eq_some hg
    refine ⟨hp, en, rfl, by rw [lastG_get (sgs_rise hsg), hg]; rfl, hm, fun s hs he => ?_⟩
    obtain ⟨i, hi, rfl⟩ := List.getElem_of_mem hm
    unfold sgsOk at hsg
    rw [Bool.and_eq_true] at hsg
    have h1 := allP_iff.1 hsg.2 i hi
    unfold okG at h1
    rw [Bool.and_eq_true] at h1
    cases hgs : getS p.secs p.sgs[i].2.1 with
    | none => rw [hgs] at h1; simp at h1
    | some s' =>
      rw [hgs] at h1
      simp only [Bool.and_eq_true, decide_eq_true_eq] at h1
      obtain ⟨g1, g2⟩ := getS_some hgs
      have : s = s' := id_inj hmay hs g1 (by rw [g2]; simpa using he)
      rw [this]
      exact h1.1
def rtO (p : Pl) (id : Int) : Rt := elD (mayP p) (getR p.rts id) noRt
def rtE (p : Pl) (id : Int) : Int := elE (mayP p) (getR p.rts id)
def ofE (p : Pl) (id : Int) : Int := if rtE p id = 0 then folE p (rtO p id) else rtE p id
def ofW (p : Pl) (id : Int) : Wy := if rtE p id = 0 then folW p (rtO p id) else noWy
def ofO (p : Pl) (id : Int) : List (Int × Int) := if rtE p id = 0 then folO p (rtO p id) else []
theorem rtE_zero {p : Pl} {id : Int} (h : rtE p id = 0) : mayP p = true ∧ rtO p id ∈ p.rts := by
  unfold rtE elE at h
  cases hm : mayP p with
  | false => rw [hm] at h; simp at h
  | true =>
    rw [hm] at h
    cases hg : getR p.rts id with
    | none => rw [hg] at h; simp at h
    | some r =>
      refine ⟨rfl, ?_⟩
      unfold rtO elD
      rw [hm, hg]
      exact List.mem_of_find?_eq_some hg
theorem c_fol {p : Pl} (hs : Sm p) {id : Int} (h : rtE p id = 0) : ACall Try.prog 55 [plA p, rtA (rtO p id)] [] (.tup [wyA (folW p (rtO p id)), .sl 2 ((folO p (rtO p id)).map jnC) .sh, i64 (folE p (rtO p id))]) [] := by
  obtain ⟨hm, hr⟩ := rtE_zero h
  obtain ⟨h1, en, _, h3, _, h5⟩ := entry_of hm hr
  exact c_followed p (rtO p id) hs (hs.rt _ hr) h1 (by rw [h3]; exact h5)
theorem c_of (p : Pl) (hs : Sm p) (id : Int) : ACall Try.prog 27 [plA p, i64 id] [] (.tup [wyA (ofW p id), i64 (ofE p id)]) [] := by
  have c1 : ACall Try.prog 22 [plA p, i64 id] [] (.tup [rtA (rtO p id), i64 (rtE p id)]) [] := c_pRoute p hs id
  by_cases hE : rtE p id = 0
  · have c2 := c_fol hs hE
    have e1 : ofW p id = folW p (rtO p id) := if_pos hE
    have e2 : ofE p id = folE p (rtO p id) := if_pos hE
    rw [e1, e2]
    rw [hE] at c1
    generalize rtO p id = r at *
    generalize folW p r = W at *
    generalize folO p r = O at *
    generalize folE p r = E at *
    simp only [plA, plC, rtA, rtC, wyA, wyC] at c1 c2
    refine acall_of 4 Try.func27 rfl fun n out _ _ => ?_
    simp only [Try.ntmps27, List.length_cons, List.length_nil, List.length_map, List.length_replicate, rep_map, Nat.reduceAdd, Nat.reduceSub, List.replicate, List.cons_append, List.nil_append]
    repeat' (first | (with_reducible first | refine Vk fun K hK => ?_ | refine V0 ?_ | refine Vs ?_ | apply And.intro) | ((with_reducible first | refine gE ?_ | refine gR ?_); simp (maxSteps:=9^7) only [ss, evLit, tab, reduceCtorEq, reduceIte, Nat.reduceEqDiff, Nat.reduceBEq, Int.reduceLE, Int.reduceToNat, Nat.reduceAdd, Nat.reduceLT, Nat.reduceLeDiff, plA, plC, rtA, rtC, wyA, wyC, splice_all, Int.reduceBNe]) | exact Vn | ((with_reducible refine Vz ?_); (first | refine ret_ct (.inr rfl) rfl rfl rfl (fun _ _ => rfl) ok59 (k := n + 1) (off := 0) rfl (dom_loc _ (by simp)) (look_loc _ (Nat.le_refl _) 1) rfl rfl ?_ | refine ret_ct (.inr rfl) rfl rfl rfl (fun _ _ => rfl) ok59 (k := m + 1) (off := 0) rfl (dom_loc _ (by simp)) (look_loc _ hm 1) rfl rfl ?_) <;> first | rfl | exact AV.le.rfl _ | (simp only [patch, sl, ti59, List.map_nil, plA, plC, rtA, rtC, wyA, wyC, splice_all, Int.reduceBNe]; done) | rfl | skip) | (refine call_pure (c1) ?_) | (refine call_pure (c2) ?_) | (refine hK _ ?_; clear hK K) | refine Vt rfl ?_ | refine Vf rfl ?_ | refine Vi rfl (fun hg => ?_) (fun hg => ?_) | clear hK K)
  · have hb : (rtE p id != 0) = true := by simpa using hE
    have e1 : ofW p id = noWy := if_neg hE
    have e2 : ofE p id = rtE p id := if_neg hE
    rw [e1, e2]
    generalize rtE p id = E at *
    generalize rtO p id = r at *
    simp only [plA, plC, rtA, rtC] at c1
    refine acall_of 4 Try.func27 rfl fun n out _ _ => ?_
    simp only [Try.ntmps27, List.length_cons, List.length_nil, List.length_map, List.length_replicate, rep_map, Nat.reduceAdd, Nat.reduceSub, List.replicate, List.cons_append, List.nil_append]
    repeat' (first | (with_reducible first | refine Vk fun K hK => ?_ | refine V0 ?_ | refine Vs ?_ | apply And.intro) | ((with_reducible first | refine gE ?_ | refine gR ?_); simp (maxSteps:=9^7) only [ss, evLit, tab, reduceCtorEq, reduceIte, Nat.reduceEqDiff, Nat.reduceBEq, Int.reduceLE, Int.reduceToNat, Nat.reduceAdd, Nat.reduceLT, Nat.reduceLeDiff, plA, plC, rtA, rtC, wyA, wyC, noWy, splice_all, hb, List.map_nil]) | exact Vn | ((with_reducible refine Vz ?_); (first | refine ret_ct (.inr rfl) rfl rfl rfl (fun _ _ => rfl) ok59 (k := n + 1) (off := 0) rfl (dom_loc _ (by simp)) (look_loc _ (Nat.le_refl _) 1) rfl rfl ?_ | refine ret_ct (.inr rfl) rfl rfl rfl (fun _ _ => rfl) ok59 (k := m + 1) (off := 0) rfl (dom_loc _ (by simp)) (look_loc _ hm 1) rfl rfl ?_) <;> first | rfl | exact AV.le.rfl _ | (simp only [patch, sl, ti59, List.map_nil, plA, plC, rtA, rtC, wyA, wyC, noWy, splice_all, hb, List.map_nil]; done) | rfl | skip) | (refine call_pure (c1) ?_) | (refine hK _ ?_; clear hK K) | refine Vt rfl ?_ | refine Vf rfl ?_ | refine Vi rfl (fun hg => ?_) (fun hg => ?_) | clear hK K)
theorem c_outs (p : Pl) (hs : Sm p) (id : Int) : ACall Try.prog 40 [plA p, i64 id] [] (.tup [.sl 2 ((ofO p id).map jnC) .sh, i64 (ofE p id)]) [] := by
  have c1 : ACall Try.prog 22 [plA p, i64 id] [] (.tup [rtA (rtO p id), i64 (rtE p id)]) [] := c_pRoute p hs id
  by_cases hE : rtE p id = 0
  · have c2 := c_fol hs hE
    have e1 : ofO p id = folO p (rtO p id) := if_pos hE
    have e2 : ofE p id = folE p (rtO p id) := if_pos hE
    rw [e1, e2]
    rw [hE] at c1
    generalize rtO p id = r at *
    generalize folW p r = W at *
    generalize folO p r = O at *
    generalize folE p r = E at *
    simp only [plA, plC, rtA, rtC, wyA, wyC] at c1 c2
    refine acall_of 4 Try.func40 rfl fun n out _ _ => ?_
    simp only [Try.ntmps40, List.length_cons, List.length_nil, List.length_map, List.length_replicate, rep_map, Nat.reduceAdd, Nat.reduceSub, List.replicate, List.cons_append, List.nil_append]
    repeat' (first | (with_reducible first | refine Vk fun K hK => ?_ | refine V0 ?_ | refine Vs ?_ | apply And.intro) | ((with_reducible first | refine gE ?_ | refine gR ?_); simp (maxSteps:=9^7) only [ss, evLit, tab, reduceCtorEq, reduceIte, Nat.reduceEqDiff, Nat.reduceBEq, Int.reduceLE, Int.reduceToNat, Nat.reduceAdd, Nat.reduceLT, Nat.reduceLeDiff, plA, plC, rtA, rtC, wyA, wyC, splice_all, Int.reduceBNe]) | exact Vn | ((with_reducible refine Vz ?_); refine ret_tmps_le (.inr rfl) rfl rfl rfl (fun _ _ => rfl) rfl rfl ?_ ?_ <;> first | rfl | (exact AV.le.rfl _) | (simp only [patch, sl, plA, plC, rtA, rtC, wyA, wyC, splice_all, Int.reduceBNe]; done) | rfl | skip) | (refine call_pure (c1) ?_) | (refine call_pure (c2) ?_) | (refine hK _ ?_; clear hK K) | refine Vt rfl ?_ | refine Vf rfl ?_ | refine Vi rfl (fun hg => ?_) (fun hg => ?_) | clear hK K)
  · have hb : (rtE p id != 0) = true := by simpa using hE
    have e1 : ofO p id = [] := if_neg hE
    have e2 : ofE p id = rtE p id := if_neg hE
    rw [e1, e2]
    generalize rtE p id = E at *
    generalize rtO p id = r at *
    simp only [plA, plC, rtA, rtC] at c1
    refine acall_of 4 Try.func40 rfl fun n out _ _ => ?_
    simp only [Try.ntmps40, List.length_cons, List.length_nil, List.length_map, List.length_replicate, rep_map, Nat.reduceAdd, Nat.reduceSub, List.replicate, List.cons_append, List.nil_append]
    repeat' (first | (with_reducible first | refine Vk fun K hK => ?_ | refine V0 ?_ | refine Vs ?_ | apply And.intro) | ((with_reducible first | refine gE ?_ | refine gR ?_); simp (maxSteps:=9^7) only [ss, evLit, tab, reduceCtorEq, reduceIte, Nat.reduceEqDiff, Nat.reduceBEq, Int.reduceLE, Int.reduceToNat, Nat.reduceAdd, Nat.reduceLT, Nat.reduceLeDiff, plA, plC, rtA, rtC, splice_all, hb, List.map_nil]) | exact Vn | ((with_reducible refine Vz ?_); refine ret_tmps_le (.inr rfl) rfl rfl rfl (fun _ _ => rfl) rfl rfl ?_ ?_ <;> first | rfl | (exact AV.le.rfl _) | (simp only [patch, sl, plA, plC, rtA, rtC, splice_all, hb, List.map_nil]; done) | rfl | skip) | (refine call_pure (c1) ?_) | (refine hK _ ?_; clear hK K) | refine Vt rfl ?_ | refine Vf rfl ?_ | refine Vi rfl (fun hg => ?_) (fun hg => ?_) | clear hK K)
end Go.Proofs.Ytcfkieacdjcaoaa.Pln
end
section
namespace Go.Proofs.Ytcfkieacdjcaoaa.Pln
set_option linter.unusedVariables false
set_option linter.unusedSimpArgs false
open Go Go.VS Tab
set_option maxHeartbeats 4000000
theorem jn_le {l : List Sec} (h : mayS l = true) {s : Sec} (hs : s ∈ l) (e : Nat) : (s.ends.getD e (0, 0)).2 ≤ 2 := by
  by_cases he : e < s.ends.length
  · have hj := (mayS_iff.1 h).2.2 s hs e he
    obtain ⟨a, b, hab⟩ : ∃ a b, s.ends[e] = (a, b) := ⟨_, _, rfl⟩
    rw [joined_eq he hab] at hj
    have gd : s.ends.getD e (0, 0) = (a, b) := by rw [← hab]; simp [List.getD_eq_getElem?_getD, he]
    rw [gd]
    rw [Bool.or_eq_true, decide_eq_true_eq] at hj
    rcases hj with hj | hj
    · show b ≤ 2; omega
    · cases hg : getS l a with
      | none => rw [hg] at hj; cases hj
      | some t =>
        rw [hg] at hj
        simp only [Bool.and_eq_true, decide_eq_true_eq] at hj
        have := shaped_iff.1 (mayS_sec h (getS_some hg).1).2
        show b ≤ 2; omega
  · simp [List.getD_eq_getElem?_getD, he]
theorem thru_le (s : Sec) (a b : Int) : thruL s a b ≤ 2 := by
  unfold thruL
  split
  · unfold lieF
    repeat' split
    all_goals omega
  · decide
structure AskOk (p : Pl) (L : List Int) (i : Nat) (l : List (Int × Int × Int)) : Prop where
  each : ∀ k (hk : k < l.length), ∃ (j : Nat) (s : Sec), j < i ∧ l[k].2.2 = (j : Int) ∧ s ∈ p.secs ∧ s.id = L.getD j 0 ∧ s.pt = l[k].1 ∧ s.pt ≠ 0 ∧ 1 ≤ l[k].2.1 ∧ l[k].2.1 ≤ 2
  rise : ∀ k (hk : k + 1 < l.length), l[k].2.2 < l[k + 1].2.2
theorem AskOk.next {p : Pl} {L : List Int} {i : Nat} {l : List (Int × Int × Int)} (h : AskOk p L i l) : AskOk p L (i + 1) l :=
  ⟨fun k hk => by obtain ⟨j, s, h1, h2⟩ := h.each k hk; exact ⟨j, s, by omega, h2⟩, h.rise⟩
theorem AskOk.snoc {p : Pl} {L : List Int} {i : Nat} {l : List (Int × Int × Int)} (h : AskOk p L i l) {s : Sec} (hs : s ∈ p.secs) (hid : s.id = L.getD i 0) {lie : Int} (h0 : 0 < s.pt) (h1 : 0 < lie) (h2 : lie ≤ 2) : AskOk p L (i + 1) (l ++ [(s.pt, lie, (i : Int))]) := by
  refine ⟨fun k hk => ?_, fun k hk => ?_⟩
  · by_cases hlt : k < l.length
    · rw [List.getElem_append_left hlt]
      exact h.next.each k hlt
    · have : k = l.length := by simp at hk; omega
      subst this
      rw [List.getElem_append_right (Nat.le_refl _)]
      simp only [Nat.sub_self, List.getElem_cons_zero]
      exact ⟨i, s, by omega, rfl, hs, hid, rfl, by omega, by omega, h2⟩
  · by_cases hlt : k + 1 < l.length
    · rw [List.getElem_append_left hlt, List.getElem_append_left (by omega)]
      exact h.rise k hlt
    · have : k + 1 = l.length := by simp at hk; omega
      rw [List.getElem_append_left (by omega), List.getElem_append_right (by omega)]
      simp only [this, Nat.sub_self, List.getElem_cons_zero]
      obtain ⟨j, _, a, b, _⟩ := h.each k (by omega)
      omega
theorem askW_ok {p : Pl} {L : List Int} {i : Nat} {w : Wk} (h : AskOk p L i w.asks) {s : Sec} (hs : s ∈ p.secs) (hid : s.id = L.getD i 0) {lie : Int} (h2 : lie ≤ 2) : AskOk p L (i + 1) (askW w s.pt lie i).asks := by
  unfold askW
  split
  · rename_i hb
    simp only [Bool.and_eq_true, decide_eq_true_eq] at hb
    exact h.snoc hs hid (by omega) (by omega) h2
  · exact h.next
theorem secW_cases (p : Pl) (w : Wk) (id : Int) : ((secW p w id).2.lost = true ∧ (secW p w id).2.asks = w.asks ∧ (secW p w id).2.inn = w.inn) ∨ (getS p.secs id = some (secW p w id).1 ∧ (secW p w id).2 = w) := by
  unfold secW
  split
  · rename_i s hg
    split
    · exact .inl ⟨rfl, rfl, rfl⟩
    · exact .inr ⟨hg, rfl⟩
  · exact .inl ⟨rfl, rfl, rfl⟩
theorem thrW_ok {p : Pl} (hmay : mayS p.secs = true) {L : List Int} {i : Nat} {w : Wk} (h : AskOk p L i w.asks) (hi : w.inn.2 ≤ 2) (f : Int → Int × Int → Bool) : AskOk p L (i + 1) (thrW p w (L.getD i 0) i f).asks ∧ (thrW p w (L.getD i 0) i f).inn.2 ≤ 2 := by
  unfold thrW
  rcases secW_cases p w (L.getD i 0) with ⟨a, b, c⟩ | ⟨a, b⟩
  · generalize secW p w (L.getD i 0) = q at *
    unfold thrF thrEnd
    rw [range_none fun e _ => by unfold thrOk; rw [a]; rfl]
    dsimp only
    rw [b, c]
    exact ⟨h.next, hi⟩
  · rw [b]
    obtain ⟨g1, g2⟩ := getS_some a
    generalize (secW p w (L.getD i 0)).1 = s at *
    unfold thrF
    split
    · rename_i e he
      unfold leave
      dsimp only
      exact ⟨askW_ok h g1 g2 (thru_le _ _ _), jn_le hmay g1 e⟩
    · exact ⟨h.next, hi⟩
theorem stayW_ok {p : Pl} {L : List Int} {i : Nat} {w : Wk} (h : AskOk p L i w.asks) (hi : w.inn.2 ≤ 2) : AskOk p L (i + 1) (stayW p w (L.getD i 0) i).asks ∧ (stayW p w (L.getD i 0) i).inn.2 ≤ 2 := by
  unfold stayW
  rcases secW_cases p w (L.getD i 0) with ⟨a, b, c⟩ | ⟨a, b⟩
  · rw [a, Bool.not_true, Bool.false_and, if_neg (by decide), b, c]
    exact ⟨h.next, hi⟩
  · rw [b]
    obtain ⟨g1, g2⟩ := getS_some a
    generalize (secW p w (L.getD i 0)).1 = s at *
    split
    · obtain ⟨l, e⟩ := askW_keeps w s.pt w.inn.2 i
      exact ⟨askW_ok h g1 g2 hi, by rw [e]; exact hi⟩
    · exact ⟨h.next, hi⟩
theorem inAt_le {l : List Sec} (h : mayS l = true) (g : Int × Int × Int) : (inAt l g).2 ≤ 2 := by
  have : ∀ i, i ≤ l.length → (inAt (l.take i) g).2 ≤ 2 := by
    intro i
    induction i with
    | zero => intro _; rw [List.take_zero]; show (0 : Int) ≤ 2; decide
    | succ i ih =>
      intro hi
      rw [inAt_succ (by omega)]
      split
      · exact jn_le h (List.getElem_mem _) _
      · exact ih (by omega)
  have := this l.length (Nat.le_refl _)
  rwa [List.take_length] at this
theorem runW_ok {p : Pl} (hmay : mayS p.secs = true) (r : Rt) : ∀ i, AskOk p (r.path ++ r.over) i (runW p r i).asks ∧ (runW p r i).inn.2 ≤ 2
  | 0 => ⟨⟨fun k hk => absurd hk (Nat.not_lt_zero _), fun k hk => absurd hk (Nat.not_lt_zero _)⟩, inAt_le hmay _⟩
  | i + 1 => by
    obtain ⟨h1, h2⟩ := runW_ok hmay r i
    show AskOk p _ _ (stepW p r (runW p r i) i).asks ∧ (stepW p r (runW p r i) i).inn.2 ≤ 2
    unfold stepW
    split
    · split
      · exact thrW_ok hmay h1 h2 _
      · exact thrW_ok hmay h1 h2 _
    · split
      · exact stayW_ok h1 h2
      · exact thrW_ok hmay h1 h2 _
theorem flkW_all : ∀ (l : List (Int × Int)) (w : Wk), (∀ f, f ∈ l → 0 < f.1 ∧ 0 < f.2) → (flkW w l).asks = w.asks ++ l.map fun f => (f.1, f.2, -1)
  | [], w, _ => by simp [flkW]
  | f :: l, w, h => by
    obtain ⟨a, b⟩ := h f (List.mem_cons_self ..)
    have e : askW w f.1 f.2 (-1) = { w with asks := w.asks ++ [(f.1, f.2, -1)] } := by
      unfold askW
      rw [if_pos (by simp; omega)]
    have := flkW_all l (askW w f.1 f.2 (-1)) fun g hg => h g (List.mem_cons_of_mem _ hg)
    show (flkW (askW w f.1 f.2 (-1)) l).asks = _
    rw [this, e]
    simp
theorem flank_pos {p : Pl} (h : mayP p = true) {r : Rt} (hr : r ∈ p.rts) : ∀ f, f ∈ r.flanks → 0 < f.1 ∧ 0 < f.2 := by
  obtain ⟨_, _, hpts, _, _, _, hrs⟩ := may_parts h
  have ho := hrs r hr
  unfold okR at ho
  cases hg : getG p.sgs r.entry with
  | none => rw [hg] at ho; cases ho
  | some en =>
    rw [hg] at ho
    rw [Bool.and_eq_true] at ho
    intro f hf
    obtain ⟨i, hi, rfl⟩ := List.getElem_of_mem hf
    have h1 := allP_iff.1 ho.2 i hi
    unfold okF at h1
    simp only [Bool.and_eq_true, Bool.or_eq_true, beq_iff_eq] at h1
    obtain ⟨⟨h2, _⟩, h3⟩ := h1
    obtain ⟨x, hx⟩ := Option.isSome_iff_exists.1 h2
    have hxm := List.mem_of_find?_eq_some hx
    have hx1 : x.1 = r.flanks[i].1 := by simpa using List.find?_some hx
    unfold ptsOk at hpts
    simp only [Bool.and_eq_true] at hpts
    obtain ⟨j, hj, rfl⟩ := List.getElem_of_mem hxm
    have h5 := allP_iff.1 hpts.1.1.1 j (by simpa using hj)
    simp only [rises, Bool.and_eq_true, numb_iff, List.getElem_map] at h5
    omega
end Go.Proofs.Ytcfkieacdjcaoaa.Pln
end
