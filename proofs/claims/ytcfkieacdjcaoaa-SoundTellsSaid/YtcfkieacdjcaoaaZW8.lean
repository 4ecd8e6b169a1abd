/-
  What a route asks, told plainly.
-/
import Derived.Test.YtcfkieacdjcaoaaZW6
namespace Go.Proofs.Ytcfkieacdjcaoaa.Pln
set_option linter.unusedVariables false
set_option linter.unusedSimpArgs false
open Go Go.VS Tab
set_option maxHeartbeats 4000000
theorem jn_le {l : List Sec} (h : mayS l = true) {s : Sec} (hs : s ∈ l) (e : Nat) : (s.ends.getD e (0, 0)).2 ≤ 2 := by
  by_cases he : e < s.ends.length
  · have hj := (mayS_iff.1 h).2.2 s hs e he
    obtain ⟨a, b, hab⟩ : ∃ a b, s.ends[e] = (a, b) := ⟨_, _, rfl⟩
    rw [joined_eq he hab] at hj
    have gd : s.ends.getD e (0, 0) = (a, b) := by rw [← hab]; simp [List.getD_eq_getElem?_getD, he]
    rw [gd]
    rw [Bool.or_eq_true, decide_eq_true_eq] at hj
    rcases hj with hj | hj
    · show b ≤ 2; omega
    · cases hg : getS l a with
      | none => rw [hg] at hj; cases hj
      | some t =>
        rw [hg] at hj
        simp only [Bool.and_eq_true, decide_eq_true_eq] at hj
        have := shaped_iff.1 (mayS_sec h (getS_some hg).1).2
        show b ≤ 2; omega
  · simp [List.getD_eq_getElem?_getD, he]
theorem thru_le (s : Sec) (a b : Int) : thruL s a b ≤ 2 := by
  unfold thruL
  split
  · unfold lieF
    repeat' split
    all_goals omega
  · decide
structure AskOk (p : Pl) (L : List Int) (i : Nat) (l : List (Int × Int × Int)) : Prop where
  each : ∀ k (hk : k < l.length), ∃ (j : Nat) (s : Sec), j < i ∧ l[k].2.2 = (j : Int) ∧ s ∈ p.secs ∧ s.id = L.getD j 0 ∧ s.pt = l[k].1 ∧ s.pt ≠ 0 ∧ 1 ≤ l[k].2.1 ∧ l[k].2.1 ≤ 2
  rise : ∀ k (hk : k + 1 < l.length), l[k].2.2 < l[k + 1].2.2
theorem AskOk.next {p : Pl} {L : List Int} {i : Nat} {l : List (Int × Int × Int)} (h : AskOk p L i l) : AskOk p L (i + 1) l :=
  ⟨fun k hk => by obtain ⟨j, s, h1, h2⟩ := h.each k hk; exact ⟨j, s, by omega, h2⟩, h.rise⟩
theorem AskOk.snoc {p : Pl} {L : List Int} {i : Nat} {l : List (Int × Int × Int)} (h : AskOk p L i l) {s : Sec} (hs : s ∈ p.secs) (hid : s.id = L.getD i 0) {lie : Int} (h0 : 0 < s.pt) (h1 : 0 < lie) (h2 : lie ≤ 2) : AskOk p L (i + 1) (l ++ [(s.pt, lie, (i : Int))]) := by
  refine ⟨fun k hk => ?_, fun k hk => ?_⟩
  · by_cases hlt : k < l.length
    · rw [List.getElem_append_left hlt]
      exact h.next.each k hlt
    · have : k = l.length := by simp at hk; omega
      subst this
      rw [List.getElem_append_right (Nat.le_refl _)]
      simp only [Nat.sub_self, List.getElem_cons_zero]
      exact ⟨i, s, by omega, rfl, hs, hid, rfl, by omega, by omega, h2⟩
  · by_cases hlt : k + 1 < l.length
    · rw [List.getElem_append_left hlt, List.getElem_append_left (by omega)]
      exact h.rise k hlt
    · have : k + 1 = l.length := by simp at hk; omega
      rw [List.getElem_append_left (by omega), List.getElem_append_right (by omega)]
      simp only [this, Nat.sub_self, List.getElem_cons_zero]
      obtain ⟨j, _, a, b, _⟩ := h.each k (by omega)
      omega
theorem askW_ok {p : Pl} {L : List Int} {i : Nat} {w : Wk} (h : AskOk p L i w.asks) {s : Sec} (hs : s ∈ p.secs) (hid : s.id = L.getD i 0) {lie : Int} (h2 : lie ≤ 2) : AskOk p L (i + 1) (askW w s.pt lie i).asks := by
  unfold askW
  split
  · rename_i hb
    simp only [Bool.and_eq_true, decide_eq_true_eq] at hb
    exact h.snoc hs hid (by omega) (by omega) h2
  · exact h.next
theorem secW_cases (p : Pl) (w : Wk) (id : Int) : ((secW p w id).2.lost = true ∧ (secW p w id).2.asks = w.asks ∧ (secW p w id).2.inn = w.inn) ∨ (getS p.secs id = some (secW p w id).1 ∧ (secW p w id).2 = w) := by
  unfold secW
  split
  · rename_i s hg
    split
    · exact .inl ⟨rfl, rfl, rfl⟩
    · exact .inr ⟨hg, rfl⟩
  · exact .inl ⟨rfl, rfl, rfl⟩
theorem thrW_ok {p : Pl} (hmay : mayS p.secs = true) {L : List Int} {i : Nat} {w : Wk} (h : AskOk p L i w.asks) (hi : w.inn.2 ≤ 2) (f : Int → Int × Int → Bool) : AskOk p L (i + 1) (thrW p w (L.getD i 0) i f).asks ∧ (thrW p w (L.getD i 0) i f).inn.2 ≤ 2 := by
  unfold thrW
  rcases secW_cases p w (L.getD i 0) with ⟨a, b, c⟩ | ⟨a, b⟩
  · generalize secW p w (L.getD i 0) = q at *
    unfold thrF thrEnd
    rw [range_none fun e _ => by unfold thrOk; rw [a]; rfl]
    dsimp only
    rw [b, c]
    exact ⟨h.next, hi⟩
  · rw [b]
    obtain ⟨g1, g2⟩ := getS_some a
    generalize (secW p w (L.getD i 0)).1 = s at *
    unfold thrF
    split
    · rename_i e he
      unfold leave
      dsimp only
      exact ⟨askW_ok h g1 g2 (thru_le _ _ _), jn_le hmay g1 e⟩
    · exact ⟨h.next, hi⟩
theorem stayW_ok {p : Pl} {L : List Int} {i : Nat} {w : Wk} (h : AskOk p L i w.asks) (hi : w.inn.2 ≤ 2) : AskOk p L (i + 1) (stayW p w (L.getD i 0) i).asks ∧ (stayW p w (L.getD i 0) i).inn.2 ≤ 2 := by
  unfold stayW
  rcases secW_cases p w (L.getD i 0) with ⟨a, b, c⟩ | ⟨a, b⟩
  · rw [a, Bool.not_true, Bool.false_and, if_neg (by decide), b, c]
    exact ⟨h.next, hi⟩
  · rw [b]
    obtain ⟨g1, g2⟩ := getS_some a
    generalize (secW p w (L.getD i 0)).1 = s at *
    split
    · obtain ⟨l, e⟩ := askW_keeps w s.pt w.inn.2 i
      exact ⟨askW_ok h g1 g2 hi, by rw [e]; exact hi⟩
    · exact ⟨h.next, hi⟩
theorem inAt_le {l : List Sec} (h : mayS l = true) (g : Int × Int × Int) : (inAt l g).2 ≤ 2 := by
  have : ∀ i, i ≤ l.length → (inAt (l.take i) g).2 ≤ 2 := by
    intro i
    induction i with
    | zero => intro _; rw [List.take_zero]; show (0 : Int) ≤ 2; decide
    | succ i ih =>
      intro hi
      rw [inAt_succ (by omega)]
      split
      · exact jn_le h (List.getElem_mem _) _
      · exact ih (by omega)
  have := this l.length (Nat.le_refl _)
  rwa [List.take_length] at this
theorem runW_ok {p : Pl} (hmay : mayS p.secs = true) (r : Rt) : ∀ i, AskOk p (r.path ++ r.over) i (runW p r i).asks ∧ (runW p r i).inn.2 ≤ 2
  | 0 => ⟨⟨fun k hk => absurd hk (Nat.not_lt_zero _), fun k hk => absurd hk (Nat.not_lt_zero _)⟩, inAt_le hmay _⟩
  | i + 1 => by
    obtain ⟨h1, h2⟩ := runW_ok hmay r i
    show AskOk p _ _ (stepW p r (runW p r i) i).asks ∧ (stepW p r (runW p r i) i).inn.2 ≤ 2
    unfold stepW
    split
    · split
      · exact thrW_ok hmay h1 h2 _
      · exact thrW_ok hmay h1 h2 _
    · split
      · exact stayW_ok h1 h2
      · exact thrW_ok hmay h1 h2 _
theorem flkW_all : ∀ (l : List (Int × Int)) (w : Wk), (∀ f, f ∈ l → 0 < f.1 ∧ 0 < f.2) → (flkW w l).asks = w.asks ++ l.map fun f => (f.1, f.2, -1)
  | [], w, _ => by simp [flkW]
  | f :: l, w, h => by
    obtain ⟨a, b⟩ := h f (List.mem_cons_self ..)
    have e : askW w f.1 f.2 (-1) = { w with asks := w.asks ++ [(f.1, f.2, -1)] } := by
      unfold askW
      rw [if_pos (by simp; omega)]
    have := flkW_all l (askW w f.1 f.2 (-1)) fun g hg => h g (List.mem_cons_of_mem _ hg)
    show (flkW (askW w f.1 f.2 (-1)) l).asks = _
    rw [this, e]
    simp
theorem flank_pos {p : Pl} (h : mayP p = true) {r : Rt} (hr : r ∈ p.rts) : ∀ f, f ∈ r.flanks → 0 < f.1 ∧ 0 < f.2 := by
  obtain ⟨_, _, hpts, _, _, _, hrs⟩ := may_parts h
  have ho := hrs r hr
  unfold okR at ho
  cases hg : getG p.sgs r.entry with
  | none => rw [hg] at ho; cases ho
  | some en =>
    rw [hg] at ho
    rw [Bool.and_eq_true] at ho
    intro f hf
    obtain ⟨i, hi, rfl⟩ := List.getElem_of_mem hf
    have h1 := allP_iff.1 ho.2 i hi
    unfold okF at h1
    simp only [Bool.and_eq_true, Bool.or_eq_true, beq_iff_eq] at h1
    obtain ⟨⟨h2, _⟩, h3⟩ := h1
    obtain ⟨x, hx⟩ := Option.isSome_iff_exists.1 h2
    have hxm := List.mem_of_find?_eq_some hx
    have hx1 : x.1 = r.flanks[i].1 := by simpa using List.find?_some hx
    unfold ptsOk at hpts
    simp only [Bool.and_eq_true] at hpts
    obtain ⟨j, hj, rfl⟩ := List.getElem_of_mem hxm
    have h5 := allP_iff.1 hpts.1.1.1 j (by simpa using hj)
    simp only [rises, Bool.and_eq_true, numb_iff, List.getElem_map] at h5
    omega
end Go.Proofs.Ytcfkieacdjcaoaa.Pln
