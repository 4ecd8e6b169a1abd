/-
  A walk that is not lost, step by step, told plainly.
-/
import Derived.Test.YtdkiciofkifpdaaZW8
import Derived.Test.YtdkiciofkifpdaaZP6
namespace Go.Proofs.Ytdkiciofkifpdaa.Pln
set_option linter.unusedVariables false
set_option linter.unusedSimpArgs false
open Go Go.VS Tab
set_option maxHeartbeats 4000000
theorem secW_ok {p : Pl} {w : Wk} {id : Int} (h : (secW p w id).2.lost = false) : getS p.secs id = some (secW p w id).1 ∧ (secW p w id).2 = w ∧ w.inn.1 = id := by
  unfold secW at h ⊢
  split at h
  · rename_i s hg
    rw [hg]
    by_cases hb : (w.inn.1 != id) = true
    · rw [if_pos hb] at h; cases h
    · rw [if_neg hb]
      exact ⟨rfl, rfl, by simpa using hb⟩
  · cases h
theorem thr_step {p : Pl} {w : Wk} {id at' : Int} {f : Int → Int × Int → Bool} (h : (thrW p w id at' f).lost = false) : w.lost = false ∧ ∃ (s : Sec) (e : Nat), getS p.secs id = some s ∧ w.inn.1 = id ∧ e < s.ends.length ∧ thruE s w.inn.2 e = 0 ∧ f e (s.ends.getD e (0, 0)) = true ∧
    thrW p w id at' f = leave (askW w s.pt (thruL s w.inn.2 e) at') (id, (e : Int)) (s.ends.getD e (0, 0)) := by
  unfold thrW at h ⊢
  cases hl : (secW p w id).2.lost with
  | true =>
    exfalso
    generalize secW p w id = q at *
    unfold thrF thrEnd at h
    rw [range_none fun e _ => by unfold thrOk; rw [hl]; rfl] at h
    cases h
  | false =>
    obtain ⟨a, b, c⟩ := secW_ok hl
    rw [b] at h hl ⊢
    generalize (secW p w id).1 = s at *
    unfold thrF at h ⊢
    cases he : thrEnd s w f with
    | none => rw [he] at h; cases h
    | some e =>
      unfold thrEnd at he
      rw [List.find?_range_eq_some] at he
      obtain ⟨h1, h2, _⟩ := he
      unfold thrOk at h1
      simp only [Bool.not_eq_true', Bool.or_eq_false_iff, Bool.not_eq_false'] at h1
      exact ⟨hl, s, e, a, c, List.mem_range.1 h2, by simpa using h1.2.1, h1.2.2, rfl⟩
theorem stay_step {p : Pl} {w : Wk} {id at' : Int} (h : (stayW p w id at').lost = false) : w.lost = false ∧ ∃ s : Sec, getS p.secs id = some s ∧ w.inn.1 = id ∧ stayW p w id at' = if 0 < w.inn.2 then askW w s.pt w.inn.2 at' else w := by
  unfold stayW at h ⊢
  cases hl : (secW p w id).2.lost with
  | true =>
    exfalso
    rw [hl] at h
    simp at h
    rw [h] at hl; cases hl
  | false =>
    obtain ⟨a, b, c⟩ := secW_ok hl
    rw [b] at h hl ⊢
    generalize (secW p w id).1 = s at *
    refine ⟨hl, s, a, c, ?_⟩
    by_cases h0 : 0 < w.inn.2
    · rw [if_pos h0, if_pos (by simpa using h0)]
    · rw [if_neg h0, if_neg (by simpa using h0)]
theorem step_keep {p : Pl} {r : Rt} {w : Wk} {i : Nat} (h : (stepW p r w i).lost = false) : w.lost = false := by
  unfold stepW at h
  split at h
  · split at h
    · exact (thr_step h).1
    · exact (thr_step h).1
  · split at h
    · exact (stay_step h).1
    · exact (thr_step h).1
theorem run_keep {p : Pl} {r : Rt} {n : Nat} (h : (runW p r n).lost = false) : ∀ i, i ≤ n → (runW p r i).lost = false := by
  induction n with
  | zero => intro i hi; have : i = 0 := by omega
            subst this; exact h
  | succ n ih =>
    intro i hi
    by_cases he : i = n + 1
    · subst he; exact h
    · exact ih (step_keep h) i (by omega)
theorem lie_pos {s : Sec} {a b : Int} (h0 : s.pt ≠ 0) (h : thruE s a b = 0) : 0 < thruL s a b := by
  unfold thruE at h
  by_cases hs : shaped s = true
  · rw [if_pos hs] at h
    by_cases hl : lieF s a b < 0
    · rw [if_pos hl] at h; cases h
    · unfold thruL
      rw [if_pos ⟨hs, by omega⟩]
      unfold lieF at hl ⊢
      rw [if_neg h0] at hl ⊢
      split
      · omega
      · split
        · omega
        · rename_i h1 h2
          rw [if_neg h1, if_neg h2] at hl
          omega
  · rw [if_neg hs] at h; cases h
theorem lie_zero {s : Sec} {a b : Int} (h0 : s.pt = 0) : thruL s a b = 0 := by
  unfold thruL
  split
  · rename_i h
    have := h.2
    unfold lieF at this ⊢
    rw [if_pos h0] at this ⊢
    split
    · rfl
    · rename_i h1
      rw [if_neg h1] at this
      omega
  · rfl
theorem out_of {s : Sec} {a : Int} {e : Nat} (he : e < s.ends.length) (h : thruE s a e = 0) : outL s a (thruL s a e) = e ∧ outE s a (thruL s a e) = 0 := by
  unfold thruE at h
  by_cases hs : shaped s = true
  · rw [if_pos hs] at h
    have hl : 0 ≤ lieF s a e := by
      by_cases hl : lieF s a e < 0
      · rw [if_pos hl] at h; cases h
      · omega
    have ht : thruL s a e = lieF s a e := by unfold thruL; rw [if_pos ⟨hs, hl⟩]
    have hI : outI s a (lieF s a e) = e := by
      unfold outI
      refine idx_some (by simpa using he) (by simp) fun j hj => ?_
      rw [List.getElem_range, beq_eq_false_iff_ne]
      intro hq
      unfold lieF at hq hl
      by_cases h0 : s.pt = 0
      · simp only [if_pos h0] at hq hl
        repeat' split at hq
        all_goals first | omega | (split at hl <;> omega)
      · simp only [if_neg h0] at hq hl
        repeat' split at hq
        all_goals first | omega | (repeat' split at hl) <;> omega
    rw [ht]
    unfold outL outE
    rw [hI, if_pos ⟨hs, hl, by omega⟩, if_pos hs, if_neg (by omega)]
    exact ⟨rfl, rfl⟩
  · rw [if_neg hs] at h; cases h
def lieL (l : List (Int × Int × Int)) (pt at' : Int) : Int := match l.find? (fun a => a.1 == pt && a.2.2 == at') with
  | some a => a.2.1
  | none => 0
theorem askW_app (w : Wk) (a b c : Int) : ∃ t, (askW w a b c).asks = w.asks ++ t := by
  unfold askW
  split
  · exact ⟨_, rfl⟩
  · exact ⟨[], by simp⟩
theorem thrW_app (p : Pl) (w : Wk) (id at' : Int) (f : Int → Int × Int → Bool) : ∃ t, (thrW p w id at' f).asks = w.asks ++ t := by
  obtain ⟨s, l, e⟩ := secW_keeps p w id
  unfold thrW
  rw [e]
  dsimp only
  unfold thrF
  split
  · unfold leave; exact askW_app _ _ _ _
  · exact ⟨[], by simp⟩
theorem stayW_app (p : Pl) (w : Wk) (id at' : Int) : ∃ t, (stayW p w id at').asks = w.asks ++ t := by
  obtain ⟨s, l, e⟩ := secW_keeps p w id
  unfold stayW
  rw [e]
  dsimp only
  split
  · exact askW_app _ _ _ _
  · exact ⟨[], by simp⟩
theorem stepW_app (p : Pl) (r : Rt) (w : Wk) (i : Nat) : ∃ t, (stepW p r w i).asks = w.asks ++ t := by
  unfold stepW
  split
  · split
    · exact thrW_app _ _ _ _ _
    · exact thrW_app _ _ _ _ _
  · split
    · exact stayW_app _ _ _ _
    · exact thrW_app _ _ _ _ _
theorem run_app (p : Pl) (r : Rt) (i : Nat) : ∀ n, i ≤ n → ∃ t, (runW p r n).asks = (runW p r i).asks ++ t
  | 0, h => ⟨[], by have : i = 0 := by omega
                    subst this; simp⟩
  | n + 1, h => by
    by_cases he : i = n + 1
    · subst he; exact ⟨[], by simp⟩
    · obtain ⟨t, ht⟩ := run_app p r i n (by omega)
      obtain ⟨u, hu⟩ := stepW_app p r (runW p r n) n
      exact ⟨t ++ u, by show (stepW p r (runW p r n) n).asks = _; rw [hu, ht, List.append_assoc]⟩
abbrev allL (r : Rt) : List Int := r.path ++ r.over
theorem step_thr {p : Pl} {r : Rt} {i : Nat} (hl : (runW p r (i + 1)).lost = false) (hi : i + 1 = r.path.length ∨ i + 1 ≠ (allL r).length) : ∃ (s : Sec) (e : Nat), getS p.secs ((allL r).getD i 0) = some s ∧ (runW p r i).inn.1 = (allL r).getD i 0 ∧ e < s.ends.length ∧ thruE s (runW p r i).inn.2 e = 0 ∧
    runW p r (i + 1) = leave (askW (runW p r i) s.pt (thruL s (runW p r i).inn.2 e) i) ((allL r).getD i 0, (e : Int)) (s.ends.getD e (0, 0)) ∧
    (i + 1 = r.path.length → (r.ex = 0 → s.ends.getD e (0, 0) = (0, 0)) ∧ (r.ex ≠ 0 → (allL r).getD i 0 = (lastG p.sgs r.ex).2.1 ∧ (e : Int) = (lastG p.sgs r.ex).2.2)) := by
  have hs : runW p r (i + 1) = stepW p r (runW p r i) i := rfl
  rw [hs] at hl ⊢
  unfold stepW at hl ⊢
  by_cases h1 : i + 1 = r.path.length
  · rw [if_pos h1] at hl ⊢
    by_cases h2 : r.ex = 0
    · rw [if_pos h2] at hl ⊢
      obtain ⟨_, s, e, a, b, c, d, f, g⟩ := thr_step hl
      exact ⟨s, e, a, b, c, d, g, fun _ => ⟨fun _ => by simpa using f, fun h => absurd h2 h⟩⟩
    · rw [if_neg h2] at hl ⊢
      obtain ⟨_, s, e, a, b, c, d, f, g⟩ := thr_step hl
      simp only [Bool.and_eq_true, beq_iff_eq] at f
      exact ⟨s, e, a, b, c, d, g, fun _ => ⟨fun h => absurd h h2, fun _ => f⟩⟩
  · have h3 : i + 1 ≠ (r.path ++ r.over).length := by
      rcases hi with h | h
      · exact absurd h h1
      · exact h
    rw [if_neg h1, if_neg h3] at hl ⊢
    obtain ⟨_, s, e, a, b, c, d, f, g⟩ := thr_step hl
    exact ⟨s, e, a, b, c, d, g, fun h => absurd h h1⟩
theorem step_stay {p : Pl} {r : Rt} {i : Nat} (hl : (runW p r (i + 1)).lost = false) (h1 : i + 1 ≠ r.path.length) (h2 : i + 1 = (allL r).length) : ∃ s : Sec, getS p.secs ((allL r).getD i 0) = some s ∧ (runW p r i).inn.1 = (allL r).getD i 0 ∧
    runW p r (i + 1) = if 0 < (runW p r i).inn.2 then askW (runW p r i) s.pt (runW p r i).inn.2 i else runW p r i := by
  have hs : runW p r (i + 1) = stepW p r (runW p r i) i := rfl
  rw [hs] at hl ⊢
  unfold stepW at hl ⊢
  rw [if_neg h1, if_pos h2] at hl ⊢
  obtain ⟨_, s, a, b, c⟩ := stay_step hl
  exact ⟨s, a, b, c⟩
theorem outs_len {p : Pl} {r : Rt} : ∀ n, (runW p r n).lost = false → (∀ i, i < n → i + 1 = r.path.length ∨ i + 1 ≠ (allL r).length) → (runW p r n).outs.length = n
  | 0, _, _ => rfl
  | n + 1, h, hq => by
    obtain ⟨s, e, _, _, _, _, g, _⟩ := step_thr h (hq n (by omega))
    have hn := outs_len n (run_keep h n (by omega)) fun i hi => hq i (by omega)
    obtain ⟨l, hk⟩ := askW_keeps (runW p r n) s.pt (thruL s (runW p r n).inn.2 e) n
    rw [g, hk]
    unfold leave
    simp [hn]
theorem outs_app {p : Pl} {r : Rt} {i : Nat} : ∀ n, i ≤ n → (runW p r n).lost = false → ∃ t, (runW p r n).outs = (runW p r i).outs ++ t
  | 0, h, _ => ⟨[], by have : i = 0 := by omega
                       subst this; simp⟩
  | n + 1, h, hl => by
    by_cases he : i = n + 1
    · subst he; exact ⟨[], by simp⟩
    · obtain ⟨t, ht⟩ := outs_app (p := p) (r := r) (i := i) n (by omega) (run_keep hl n (by omega))
      by_cases hc : n + 1 = r.path.length ∨ n + 1 ≠ (allL r).length
      · obtain ⟨s, e, _, _, _, _, g, _⟩ := step_thr hl hc
        obtain ⟨l, hk⟩ := askW_keeps (runW p r n) s.pt (thruL s (runW p r n).inn.2 e) n
        refine ⟨t ++ [((allL r).getD n 0, (e : Int))], ?_⟩
        rw [g, hk]
        unfold leave
        simp [ht]
      · have hc1 : n + 1 ≠ r.path.length := fun h => hc (.inl h)
        have hc2 : n + 1 = (allL r).length := Classical.byContradiction fun h => hc (.inr h)
        obtain ⟨s, _, _, g⟩ := step_stay hl hc1 hc2
        refine ⟨t, ?_⟩
        rw [g]
        split
        · obtain ⟨l, hk⟩ := askW_keeps (runW p r n) s.pt (runW p r n).inn.2 n
          rw [hk]; exact ht
        · exact ht
theorem lie_at {p : Pl} (hm : mayP p = true) {r : Rt} {i n : Nat} (hn : i + 1 ≤ n) {s : Sec} (hs : getS p.secs ((allL r).getD i 0) = some s) {lie : Int} (h0 : s.pt ≠ 0 → 0 < lie) (hz : s.pt = 0 → lie = 0)
    (hstep : (runW p r (i + 1)).asks = (askW (runW p r i) s.pt lie i).asks) (F : List (Int × Int × Int)) (hF : ∀ a, a ∈ F → 0 < a.1) : lieL ((runW p r n).asks ++ F) s.pt i = lie := by
  obtain ⟨_, hmay, _⟩ := may_parts hm
  obtain ⟨g1, _⟩ := getS_some hs
  have hsh := shaped_iff.1 (mayS_sec hmay g1).2
  obtain ⟨ok1, _⟩ := runW_ok hmay r n
  obtain ⟨ok0, _⟩ := runW_ok hmay r i
  by_cases hp : s.pt = 0
  · rw [hz hp, hp]
    unfold lieL
    have : ((runW p r n).asks ++ F).find? (fun a => a.1 == 0 && a.2.2 == (i : Int)) = none := by
      rw [List.find?_eq_none]
      intro a ha
      have : a.1 ≠ 0 := by
        rcases List.mem_append.1 ha with h | h
        · obtain ⟨k, hk, rfl⟩ := List.getElem_of_mem h
          obtain ⟨_, s', _, _, _, _, e1, e2, _⟩ := ok1.each k hk
          omega
        · have := hF a h; omega
      simp [this]
    rw [this]
  · have hl := h0 hp
    obtain ⟨t, ht⟩ := run_app p r (i + 1) n hn
    have ha : (askW (runW p r i) s.pt lie i).asks = (runW p r i).asks ++ [(s.pt, lie, (i : Int))] := by
      unfold askW; rw [if_pos (by simp; omega)]
    rw [ht, hstep, ha]
    unfold lieL
    have hno : (runW p r i).asks.find? (fun a => a.1 == s.pt && a.2.2 == (i : Int)) = none := by
      rw [List.find?_eq_none]
      intro a ha
      obtain ⟨k, hk, rfl⟩ := List.getElem_of_mem ha
      obtain ⟨j, _, e1, e2, _⟩ := ok0.each k hk
      have : (runW p r i).asks[k].2.2 ≠ (i : Int) := by omega
      simp [this]
    rw [List.append_assoc, List.append_assoc, List.find?_append, hno]
    simp
end Go.Proofs.Ytdkiciofkifpdaa.Pln
