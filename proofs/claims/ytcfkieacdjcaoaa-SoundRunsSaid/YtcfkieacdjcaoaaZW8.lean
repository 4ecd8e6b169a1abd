/-
  What a route asks, told plainly.
-/
import Derived.Test.YtcfkieacdjcaoaaZW6
namespace Go.Proofs.Ytcfkieacdjcaoaa.Pln
set_option linter.unusedVariables false
set_option linter.unusedSimpArgs false
open Go Go.VS Tab
set_option maxHeartbeats 4000000
theorem sub_len : ∀ {B A : List Int}, B.Nodup → (∀ x, x ∈ B → x ∈ A) → B.length ≤ A.length
  | [], _, _, _ => Nat.zero_le _
  | b :: B, A, hB, h => by
    rw [List.nodup_cons] at hB
    have hb := h b (List.mem_cons_self ..)
    have := sub_len (B := B) (A := A.erase b) hB.2 fun x hx => (List.mem_erase_of_ne (fun e => hB.1 (by rw [← e]; exact hx))).2 (h x (List.mem_cons_of_mem _ hx))
    rw [List.length_erase_of_mem hb] at this
    have := List.length_pos_of_mem hb
    simp only [List.length_cons]; omega
theorem sub_onto {B A : List Int} (hB : B.Nodup) (h : ∀ x, x ∈ B → x ∈ A) (hl : A.length ≤ B.length) {a : Int} (ha : a ∈ A) : a ∈ B := by
  by_cases hm : a ∈ B
  · exact hm
  · have := sub_len (B := a :: B) (A := A) (List.nodup_cons.2 ⟨hm, hB⟩) fun x hx => by
      rcases List.mem_cons.1 hx with rfl | hx
      · exact ha
      · exact h x hx
    simp only [List.length_cons] at this; omega
theorem pt_of {p : Pl} (h : mayP p = true) {s : Sec} (hs : s ∈ p.secs) (h0 : s.pt ≠ 0) : ∃ x, getP p.pts s.pt = some x ∧ x.2 = s.id := by
  obtain ⟨_, hmay, hpts, _⟩ := may_parts h
  unfold ptsOk at hpts
  simp only [Bool.and_eq_true, decide_eq_true_eq] at hpts
  obtain ⟨⟨⟨h1, _⟩, h3⟩, h4⟩ := hpts
  have hr := fun i (hi : i < p.pts.length) => allP_iff.1 h1 i (by simpa using hi)
  simp only [rises, Bool.and_eq_true, numb_iff, List.all_eq_true, decide_eq_true_eq, List.getElem_map] at hr
  have hok : ∀ x, x ∈ p.pts → ∃ t, t ∈ p.secs ∧ t.id = x.2 ∧ t.pt = x.1 := fun x hx => by
    have := List.all_eq_true.1 h4 x hx
    unfold okP at this
    cases hg : getS p.secs x.2 with
    | none => rw [hg] at this; cases this
    | some t =>
      rw [hg] at this
      obtain ⟨a, b⟩ := getS_some hg
      exact ⟨t, a, b, by simpa using this⟩
  have hB : (p.pts.map Prod.fst).Nodup := by
    rw [List.Nodup, List.pairwise_iff_getElem]
    intro i j hi hj hij
    simp only [List.getElem_map]
    have hj' : j < p.pts.length := by simpa using hj
    have hi' : i < p.pts.length := by simpa using hi
    have := (hr j hj').2 (p.pts[i].1) (by
      rw [List.mem_take_iff_getElem]
      exact ⟨i, by simp; omega, by simp⟩)
    omega
  have hA : s.pt ∈ (p.secs.filter fun s => s.pt != 0).map Sec.pt := List.mem_map.2 ⟨s, List.mem_filter.2 ⟨hs, by simpa using h0⟩, rfl⟩
  have hin := sub_onto hB (A := (p.secs.filter fun s => s.pt != 0).map Sec.pt) (fun x hx => by
    obtain ⟨q, hq, rfl⟩ := List.mem_map.1 hx
    obtain ⟨t, a, b, c⟩ := hok q hq
    obtain ⟨i, hi, rfl⟩ := List.getElem_of_mem hq
    have := (hr i hi).1
    exact List.mem_map.2 ⟨t, List.mem_filter.2 ⟨a, by simp; omega⟩, c⟩) (by
    rw [List.length_map, List.length_map, ← List.countP_eq_length_filter, h3]; exact Nat.le_refl _) hA
  obtain ⟨q, hq, hqe⟩ := List.mem_map.1 hin
  cases hg : getP p.pts s.pt with
  | none =>
    unfold getP at hg
    rw [List.find?_eq_none] at hg
    exact absurd hqe (by simpa using hg q hq)
  | some x =>
    have hx := List.mem_of_find?_eq_some hg
    have hx1 : x.1 = s.pt := by simpa using List.find?_some hg
    obtain ⟨t, a, b, c⟩ := hok x hx
    have : t = s := pt_inj hmay a hs (by omega) (by omega)
    exact ⟨x, rfl, by rw [← b, this]⟩
theorem jn_le {l : List Sec} (h : mayS l = true) {s : Sec} (hs : s ∈ l) (e : Nat) : (s.ends.getD e (0, 0)).2 ≤ 2 := by
  by_cases he : e < s.ends.length
  · have hj := (mayS_iff.1 h).2.2 s hs e he
    obtain ⟨a, b, hab⟩ : ∃ a b, s.ends[e] = (a, b) := ⟨_, _, rfl⟩
    rw [joined_eq he hab] at hj
    have gd : s.ends.getD e (0, 0) = (a, b) := by rw [← hab]; simp [List.getD_eq_getElem?_getD, he]
    rw [gd]
    rw [Bool.or_eq_true, decide_eq_true_eq] at hj
    rcases hj with hj | hj
    · show b ≤ 2; omega
    · cases hg : getS l a with
      | none => rw [hg] at hj; cases hj
      | some t =>
        rw [hg] at hj
        simp only [Bool.and_eq_true, decide_eq_true_eq] at hj
        have := shaped_iff.1 (mayS_sec h (getS_some hg).1).2
        show b ≤ 2; omega
  · simp [List.getD_eq_getElem?_getD, he]
theorem thru_le (s : Sec) (a b : Int) : thruL s a b ≤ 2 := by
  unfold thruL
  split
  · unfold lieF
    repeat' split
    all_goals omega
  · decide
structure AskOk (p : Pl) (L : List Int) (i : Nat) (l : List (Int × Int × Int)) : Prop where
  each : ∀ k (hk : k < l.length), ∃ (j : Nat) (s : Sec), j < i ∧ l[k].2.2 = (j : Int) ∧ s ∈ p.secs ∧ s.id = L.getD j 0 ∧ s.pt = l[k].1 ∧ s.pt ≠ 0 ∧ 1 ≤ l[k].2.1 ∧ l[k].2.1 ≤ 2
  rise : ∀ k (hk : k + 1 < l.length), l[k].2.2 < l[k + 1].2.2
theorem AskOk.next {p : Pl} {L : List Int} {i : Nat} {l : List (Int × Int × Int)} (h : AskOk p L i l) : AskOk p L (i + 1) l :=
  ⟨fun k hk => by obtain ⟨j, s, h1, h2⟩ := h.each k hk; exact ⟨j, s, by omega, h2⟩, h.rise⟩
theorem AskOk.snoc {p : Pl} {L : List Int} {i : Nat} {l : List (Int × Int × Int)} (h : AskOk p L i l) {s : Sec} (hs : s ∈ p.secs) (hid : s.id = L.getD i 0) {lie : Int} (h0 : 0 < s.pt) (h1 : 0 < lie) (h2 : lie ≤ 2) : AskOk p L (i + 1) (l ++ [(s.pt, lie, (i : Int))]) := by
  refine ⟨fun k hk => ?_, fun k hk => ?_⟩
  · by_cases hlt : k < l.length
    · rw [List.getElem_append_left hlt]
      exact h.next.each k hlt
    · have : k = l.length := by simp at hk; omega
      subst this
      rw [List.getElem_append_right (Nat.le_refl _)]
      simp only [Nat.sub_self, List.getElem_cons_zero]
      exact ⟨i, s, by omega, rfl, hs, hid, rfl, by omega, by omega, h2⟩
  · by_cases hlt : k + 1 < l.length
    · rw [List.getElem_append_left hlt, List.getElem_append_left (by omega)]
      exact h.rise k hlt
    · have : k + 1 = l.length := by simp at hk; omega
      rw [List.getElem_append_left (by omega), List.getElem_append_right (by omega)]
      simp only [this, Nat.sub_self, List.getElem_cons_zero]
      obtain ⟨j, _, a, b, _⟩ := h.each k (by omega)
      omega
theorem askW_ok {p : Pl} {L : List Int} {i : Nat} {w : Wk} (h : AskOk p L i w.asks) {s : Sec} (hs : s ∈ p.secs) (hid : s.id = L.getD i 0) {lie : Int} (h2 : lie ≤ 2) : AskOk p L (i + 1) (askW w s.pt lie i).asks := by
  unfold askW
  split
  · rename_i hb
    simp only [Bool.and_eq_true, decide_eq_true_eq] at hb
    exact h.snoc hs hid (by omega) (by omega) h2
  · exact h.next
theorem secW_cases (p : Pl) (w : Wk) (id : Int) : ((secW p w id).2.lost = true ∧ (secW p w id).2.asks = w.asks ∧ (secW p w id).2.inn = w.inn) ∨ (getS p.secs id = some (secW p w id).1 ∧ (secW p w id).2 = w) := by
  unfold secW
  split
  · rename_i s hg
    split
    · exact .inl ⟨rfl, rfl, rfl⟩
    · exact .inr ⟨hg, rfl⟩
  · exact .inl ⟨rfl, rfl, rfl⟩
theorem thrW_ok {p : Pl} (hmay : mayS p.secs = true) {L : List Int} {i : Nat} {w : Wk} (h : AskOk p L i w.asks) (hi : w.inn.2 ≤ 2) (f : Int → Int × Int → Bool) : AskOk p L (i + 1) (thrW p w (L.getD i 0) i f).asks ∧ (thrW p w (L.getD i 0) i f).inn.2 ≤ 2 := by
  unfold thrW
  rcases secW_cases p w (L.getD i 0) with ⟨a, b, c⟩ | ⟨a, b⟩
  · generalize secW p w (L.getD i 0) = q at *
    unfold thrF thrEnd
    rw [range_none fun e _ => by unfold thrOk; rw [a]; rfl]
    dsimp only
    rw [b, c]
    exact ⟨h.next, hi⟩
  · rw [b]
    obtain ⟨g1, g2⟩ := getS_some a
    generalize (secW p w (L.getD i 0)).1 = s at *
    unfold thrF
    split
    · rename_i e he
      unfold leave
      dsimp only
      exact ⟨askW_ok h g1 g2 (thru_le _ _ _), jn_le hmay g1 e⟩
    · exact ⟨h.next, hi⟩
theorem stayW_ok {p : Pl} {L : List Int} {i : Nat} {w : Wk} (h : AskOk p L i w.asks) (hi : w.inn.2 ≤ 2) : AskOk p L (i + 1) (stayW p w (L.getD i 0) i).asks ∧ (stayW p w (L.getD i 0) i).inn.2 ≤ 2 := by
  unfold stayW
  rcases secW_cases p w (L.getD i 0) with ⟨a, b, c⟩ | ⟨a, b⟩
  · rw [a, Bool.not_true, Bool.false_and, if_neg (by decide), b, c]
    exact ⟨h.next, hi⟩
  · rw [b]
    obtain ⟨g1, g2⟩ := getS_some a
    generalize (secW p w (L.getD i 0)).1 = s at *
    split
    · obtain ⟨l, e⟩ := askW_keeps w s.pt w.inn.2 i
      exact ⟨askW_ok h g1 g2 hi, by rw [e]; exact hi⟩
    · exact ⟨h.next, hi⟩
theorem inAt_le {l : List Sec} (h : mayS l = true) (g : Int × Int × Int) : (inAt l g).2 ≤ 2 := by
  have : ∀ i, i ≤ l.length → (inAt (l.take i) g).2 ≤ 2 := by
    intro i
    induction i with
    | zero => intro _; rw [List.take_zero]; show (0 : Int) ≤ 2; decide
    | succ i ih =>
      intro hi
      rw [inAt_succ (by omega)]
      split
      · exact jn_le h (List.getElem_mem _) _
      · exact ih (by omega)
  have := this l.length (Nat.le_refl _)
  rwa [List.take_length] at this
theorem runW_ok {p : Pl} (hmay : mayS p.secs = true) (r : Rt) : ∀ i, AskOk p (r.path ++ r.over) i (runW p r i).asks ∧ (runW p r i).inn.2 ≤ 2
  | 0 => ⟨⟨fun k hk => absurd hk (Nat.not_lt_zero _), fun k hk => absurd hk (Nat.not_lt_zero _)⟩, inAt_le hmay _⟩
  | i + 1 => by
    obtain ⟨h1, h2⟩ := runW_ok hmay r i
    show AskOk p _ _ (stepW p r (runW p r i) i).asks ∧ (stepW p r (runW p r i) i).inn.2 ≤ 2
    unfold stepW
    split
    · split
      · exact thrW_ok hmay h1 h2 _
      · exact thrW_ok hmay h1 h2 _
    · split
      · exact stayW_ok h1 h2
      · exact thrW_ok hmay h1 h2 _
theorem flkW_all : ∀ (l : List (Int × Int)) (w : Wk), (∀ f, f ∈ l → 0 < f.1 ∧ 0 < f.2) → (flkW w l).asks = w.asks ++ l.map fun f => (f.1, f.2, -1)
  | [], w, _ => by simp [flkW]
  | f :: l, w, h => by
    obtain ⟨a, b⟩ := h f (List.mem_cons_self ..)
    have e : askW w f.1 f.2 (-1) = { w with asks := w.asks ++ [(f.1, f.2, -1)] } := by
      unfold askW
      rw [if_pos (by simp; omega)]
    have := flkW_all l (askW w f.1 f.2 (-1)) fun g hg => h g (List.mem_cons_of_mem _ hg)
    show (flkW (askW w f.1 f.2 (-1)) l).asks = _
    rw [this, e]
    simp
theorem flank_pos {p : Pl} (h : mayP p = true) {r : Rt} (hr : r ∈ p.rts) : ∀ f, f ∈ r.flanks → 0 < f.1 ∧ 0 < f.2 := by
  obtain ⟨_, _, hpts, _, _, _, hrs⟩ := may_parts h
  have ho := hrs r hr
  unfold okR at ho
  cases hg : getG p.sgs r.entry with
  | none => rw [hg] at ho; cases ho
  | some en =>
    rw [hg] at ho
    rw [Bool.and_eq_true] at ho
    intro f hf
    obtain ⟨i, hi, rfl⟩ := List.getElem_of_mem hf
    have h1 := allP_iff.1 ho.2 i hi
    unfold okF at h1
    simp only [Bool.and_eq_true, Bool.or_eq_true, beq_iff_eq] at h1
    obtain ⟨⟨h2, _⟩, h3⟩ := h1
    obtain ⟨x, hx⟩ := Option.isSome_iff_exists.1 h2
    have hxm := List.mem_of_find?_eq_some hx
    have hx1 : x.1 = r.flanks[i].1 := by simpa using List.find?_some hx
    unfold ptsOk at hpts
    simp only [Bool.and_eq_true] at hpts
    obtain ⟨j, hj, rfl⟩ := List.getElem_of_mem hxm
    have h5 := allP_iff.1 hpts.1.1.1 j (by simpa using hj)
    simp only [rises, Bool.and_eq_true, numb_iff, List.getElem_map] at h5
    omega
theorem ofW_asks {p : Pl} {id : Int} (h : ofE p id = 0) : ∃ (l : List (Int × Int × Int)), mayP p = true ∧ rtE p id = 0 ∧ rtO p id ∈ p.rts ∧ (ofW p id).path = (rtO p id).path ∧ (ofW p id).over = (rtO p id).over ∧ (ofW p id).asks = l ++ (rtO p id).flanks.map (fun f => (f.1, f.2, -1)) ∧
    AskOk p ((rtO p id).path ++ (rtO p id).over) ((rtO p id).path ++ (rtO p id).over).length l := by
  have hE : rtE p id = 0 := by
    unfold ofE at h
    by_cases hE : rtE p id = 0
    · exact hE
    · rw [if_neg hE] at h; exact absurd h hE
  obtain ⟨hm, hr⟩ := rtE_zero hE
  have hf : folE p (rtO p id) = 0 := by unfold ofE at h; rwa [if_pos hE] at h
  have hl : (endW p (rtO p id)).lost = false := by
    unfold folE at hf
    cases hl : (endW p (rtO p id)).lost with
    | true => rw [hl] at hf; simp at hf
    | false => rfl
  have e : ofW p id = ⟨(rtO p id).path, (rtO p id).over, (flkW (endW p (rtO p id)) (rtO p id).flanks).asks, (lastG p.sgs (rtO p id).entry).2.1⟩ := by
    unfold ofW folW
    rw [if_pos hE, hl, if_neg (by decide)]
  refine ⟨(endW p (rtO p id)).asks, hm, hE, hr, by rw [e], by rw [e], ?_, (runW_ok (may_parts hm).2.1 _ _).1⟩
  rw [e]
  exact flkW_all _ _ (flank_pos hm hr)
theorem ofW_none {p : Pl} {id : Int} (h : ofE p id ≠ 0) : (ofW p id).asks = [] := by
  unfold ofE at h
  unfold ofW
  by_cases hE : rtE p id = 0
  · rw [if_pos hE] at h ⊢
    unfold folE at h
    unfold folW
    cases hl : (endW p (rtO p id)).lost with
    | true => rfl
    | false => rw [hl] at h; simp at h
  · rw [if_neg hE]; rfl
end Go.Proofs.Ytcfkieacdjcaoaa.Pln
