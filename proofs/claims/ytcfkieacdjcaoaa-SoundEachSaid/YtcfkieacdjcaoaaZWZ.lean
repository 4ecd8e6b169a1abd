/- The layer of abstract values, joined: WZ. -/
import Derived.Test.YtcfkieacdjcaoaaZWD
import Derived.Test.YtcfkieacdjcaoaaZGA
import Derived.Test.YtcfkieacdjcaoaaZP5
import Derived.Test.YtcfkieacdjcaoaaZPP
import Derived.Test.YtcfkieacdjcaoaaZPQ
section
namespace Go.Proofs.Ytcfkieacdjcaoaa.Pln
set_option linter.unusedVariables false
set_option linter.unusedSimpArgs false
open Go Go.VS Tab
set_option maxHeartbeats 4000000
theorem secW_ok {p : Pl} {w : Wk} {id : Int} (h : (secW p w id).2.lost = false) : getS p.secs id = some (secW p w id).1 ∧ (secW p w id).2 = w ∧ w.inn.1 = id := by
  unfold secW at h ⊢
  split at h
  · rename_i s hg
    rw [hg]
    by_cases hb : (w.inn.1 != id) = true
    · rw [if_pos hb] at h; cases h
    · rw [if_neg hb]
      exact ⟨rfl, rfl, by simpa using hb⟩
  · cases h
theorem thr_step {p : Pl} {w : Wk} {id at' : Int} {f : Int → Int × Int → Bool} (h : (thrW p w id at' f).lost = false) : w.lost = false ∧ ∃ (s : Sec) (e : Nat), getS p.secs id = some s ∧ w.inn.1 = id ∧ e < s.ends.length ∧ thruE s w.inn.2 e = 0 ∧ f e (s.ends.getD e (0, 0)) = true ∧
    thrW p w id at' f = leave (askW w s.pt (thruL s w.inn.2 e) at') (id, (e : Int)) (s.ends.getD e (0, 0)) := by
  unfold thrW at h ⊢
  cases hl : (secW p w id).2.lost with
  | true =>
    exfalso
    generalize secW p w id = q at *
    unfold thrF thrEnd at h
    rw [range_none fun e _ => by unfold thrOk; rw [hl]; rfl] at h
    cases h
  | false =>
    obtain ⟨a, b, c⟩ := secW_ok hl
    rw [b] at h hl ⊢
    generalize (secW p w id).1 = s at *
    unfold thrF at h ⊢
    cases he : thrEnd s w f with
    | none => rw [he] at h; cases h
    | some e =>
      unfold thrEnd at he
      rw [List.find?_range_eq_some] at he
      obtain ⟨h1, h2, _⟩ := he
      unfold thrOk at h1
      simp only [Bool.not_eq_true', Bool.or_eq_false_iff, Bool.not_eq_false'] at h1
      exact ⟨hl, s, e, a, c, List.mem_range.1 h2, by simpa using h1.2.1, h1.2.2, rfl⟩
theorem stay_step {p : Pl} {w : Wk} {id at' : Int} (h : (stayW p w id at').lost = false) : w.lost = false ∧ ∃ s : Sec, getS p.secs id = some s ∧ w.inn.1 = id ∧ stayW p w id at' = if 0 < w.inn.2 then askW w s.pt w.inn.2 at' else w := by
  unfold stayW at h ⊢
  cases hl : (secW p w id).2.lost with
  | true =>
    exfalso
    rw [hl] at h
    simp at h
    rw [h] at hl; cases hl
  | false =>
    obtain ⟨a, b, c⟩ := secW_ok hl
    rw [b] at h hl ⊢
    generalize (secW p w id).1 = s at *
    refine ⟨hl, s, a, c, ?_⟩
    by_cases h0 : 0 < w.inn.2
    · rw [if_pos h0, if_pos (by simpa using h0)]
    · rw [if_neg h0, if_neg (by simpa using h0)]
theorem step_keep {p : Pl} {r : Rt} {w : Wk} {i : Nat} (h : (stepW p r w i).lost = false) : w.lost = false := by
  unfold stepW at h
  split at h
  · split at h
    · exact (thr_step h).1
    · exact (thr_step h).1
  · split at h
    · exact (stay_step h).1
    · exact (thr_step h).1
theorem run_keep {p : Pl} {r : Rt} {n : Nat} (h : (runW p r n).lost = false) : ∀ i, i ≤ n → (runW p r i).lost = false := by
  induction n with
  | zero => intro i hi; have : i = 0 := by omega
            subst this; exact h
  | succ n ih =>
    intro i hi
    by_cases he : i = n + 1
    · subst he; exact h
    · exact ih (step_keep h) i (by omega)
abbrev allL (r : Rt) : List Int := r.path ++ r.over
theorem step_thr {p : Pl} {r : Rt} {i : Nat} (hl : (runW p r (i + 1)).lost = false) (hi : i + 1 = r.path.length ∨ i + 1 ≠ (allL r).length) : ∃ (s : Sec) (e : Nat), getS p.secs ((allL r).getD i 0) = some s ∧ (runW p r i).inn.1 = (allL r).getD i 0 ∧ e < s.ends.length ∧ thruE s (runW p r i).inn.2 e = 0 ∧
    runW p r (i + 1) = leave (askW (runW p r i) s.pt (thruL s (runW p r i).inn.2 e) i) ((allL r).getD i 0, (e : Int)) (s.ends.getD e (0, 0)) ∧
    (i + 1 = r.path.length → (r.ex = 0 → s.ends.getD e (0, 0) = (0, 0)) ∧ (r.ex ≠ 0 → (allL r).getD i 0 = (lastG p.sgs r.ex).2.1 ∧ (e : Int) = (lastG p.sgs r.ex).2.2)) := by
  have hs : runW p r (i + 1) = stepW p r (runW p r i) i := rfl
  rw [hs] at hl ⊢
  unfold stepW at hl ⊢
  by_cases h1 : i + 1 = r.path.length
  · rw [if_pos h1] at hl ⊢
    by_cases h2 : r.ex = 0
    · rw [if_pos h2] at hl ⊢
      obtain ⟨_, s, e, a, b, c, d, f, g⟩ := thr_step hl
      exact ⟨s, e, a, b, c, d, g, fun _ => ⟨fun _ => by simpa using f, fun h => absurd h2 h⟩⟩
    · rw [if_neg h2] at hl ⊢
      obtain ⟨_, s, e, a, b, c, d, f, g⟩ := thr_step hl
      simp only [Bool.and_eq_true, beq_iff_eq] at f
      exact ⟨s, e, a, b, c, d, g, fun _ => ⟨fun h => absurd h h2, fun _ => f⟩⟩
  · have h3 : i + 1 ≠ (r.path ++ r.over).length := by
      rcases hi with h | h
      · exact absurd h h1
      · exact h
    rw [if_neg h1, if_neg h3] at hl ⊢
    obtain ⟨_, s, e, a, b, c, d, f, g⟩ := thr_step hl
    exact ⟨s, e, a, b, c, d, g, fun h => absurd h h1⟩
theorem step_stay {p : Pl} {r : Rt} {i : Nat} (hl : (runW p r (i + 1)).lost = false) (h1 : i + 1 ≠ r.path.length) (h2 : i + 1 = (allL r).length) : ∃ s : Sec, getS p.secs ((allL r).getD i 0) = some s ∧ (runW p r i).inn.1 = (allL r).getD i 0 ∧
    runW p r (i + 1) = if 0 < (runW p r i).inn.2 then askW (runW p r i) s.pt (runW p r i).inn.2 i else runW p r i := by
  have hs : runW p r (i + 1) = stepW p r (runW p r i) i := rfl
  rw [hs] at hl ⊢
  unfold stepW at hl ⊢
  rw [if_neg h1, if_pos h2] at hl ⊢
  obtain ⟨_, s, a, b, c⟩ := stay_step hl
  exact ⟨s, a, b, c⟩
theorem outs_len {p : Pl} {r : Rt} : ∀ n, (runW p r n).lost = false → (∀ i, i < n → i + 1 = r.path.length ∨ i + 1 ≠ (allL r).length) → (runW p r n).outs.length = n
  | 0, _, _ => rfl
  | n + 1, h, hq => by
    obtain ⟨s, e, _, _, _, _, g, _⟩ := step_thr h (hq n (by omega))
    have hn := outs_len n (run_keep h n (by omega)) fun i hi => hq i (by omega)
    obtain ⟨l, hk⟩ := askW_keeps (runW p r n) s.pt (thruL s (runW p r n).inn.2 e) n
    rw [g, hk]
    unfold leave
    simp [hn]
theorem outs_app {p : Pl} {r : Rt} {i : Nat} : ∀ n, i ≤ n → (runW p r n).lost = false → ∃ t, (runW p r n).outs = (runW p r i).outs ++ t
  | 0, h, _ => ⟨[], by have : i = 0 := by omega
                       subst this; simp⟩
  | n + 1, h, hl => by
    by_cases he : i = n + 1
    · subst he; exact ⟨[], by simp⟩
    · obtain ⟨t, ht⟩ := outs_app (p := p) (r := r) (i := i) n (by omega) (run_keep hl n (by omega))
      by_cases hc : n + 1 = r.path.length ∨ n + 1 ≠ (allL r).length
      · obtain ⟨s, e, _, _, _, _, g, _⟩ := step_thr hl hc
        obtain ⟨l, hk⟩ := askW_keeps (runW p r n) s.pt (thruL s (runW p r n).inn.2 e) n
        refine ⟨t ++ [((allL r).getD n 0, (e : Int))], ?_⟩
        rw [g, hk]
        unfold leave
        simp [ht]
      · have hc1 : n + 1 ≠ r.path.length := fun h => hc (.inl h)
        have hc2 : n + 1 = (allL r).length := Classical.byContradiction fun h => hc (.inr h)
        obtain ⟨s, _, _, g⟩ := step_stay hl hc1 hc2
        refine ⟨t, ?_⟩
        rw [g]
        split
        · obtain ⟨l, hk⟩ := askW_keeps (runW p r n) s.pt (runW p r n).inn.2 n
          rw [hk]; exact ht
        · exact ht
end Go.Proofs.Ytcfkieacdjcaoaa.Pln
end
section
namespace Go.Proofs.Ytcfkieacdjcaoaa.Pln
set_option linter.unusedVariables false
set_option linter.unusedSimpArgs false
open Go Go.VS Tab
set_option maxHeartbeats 4000000
structure Gone (p : Pl) (r : Rt) (W : Wy) (O : List (Int × Int)) : Prop where
  may : mayP p = true
  mem : r ∈ p.rts
  one : 1 ≤ r.path.length
  not : (runW p r (allL r).length).lost = false
  path : W.path = r.path
  over : W.over = r.over
  near : W.near = (lastG p.sgs r.entry).2.1
  asks : W.asks = (runW p r (allL r).length).asks ++ r.flanks.map (fun f => (f.1, f.2, -1))
  outs : O = (runW p r (allL r).length).outs
theorem gone_of {p : Pl} {id : Int} (h : ofE p id = 0) : Gone p (rtO p id) (ofW p id) (ofO p id) ∧ rtE p id = 0 := by
  have hE : rtE p id = 0 := by
    unfold ofE at h
    by_cases hE : rtE p id = 0
    · exact hE
    · rw [if_neg hE] at h; exact absurd h hE
  obtain ⟨hm, hr⟩ := rtE_zero hE
  have hf : folE p (rtO p id) = 0 := by unfold ofE at h; rwa [if_pos hE] at h
  have hl : (endW p (rtO p id)).lost = false := by
    unfold folE at hf
    cases hl : (endW p (rtO p id)).lost with
    | true => rw [hl] at hf; simp at hf
    | false => rfl
  have e : ofW p id = ⟨(rtO p id).path, (rtO p id).over, (flkW (endW p (rtO p id)) (rtO p id).flanks).asks, (lastG p.sgs (rtO p id).entry).2.1⟩ := by
    unfold ofW folW
    rw [if_pos hE, hl, if_neg (by decide)]
  have eo : ofO p id = (endW p (rtO p id)).outs := by
    unfold ofO folO
    rw [if_pos hE, hl, if_neg (by decide)]
  exact ⟨⟨hm, hr, (entry_of hm hr).1, hl, by rw [e], by rw [e], by rw [e], by rw [e]; exact flkW_all _ _ (flank_pos hm hr), eo⟩, hE⟩
end Go.Proofs.Ytcfkieacdjcaoaa.Pln
end
