/-
  A train goes as a route asks, told plainly.
-/
import Derived.Test.YtdkiciofkifpdaaZW16
namespace Go.Proofs.Ytdkiciofkifpdaa.Pln
set_option linter.unusedVariables false
set_option linter.unusedSimpArgs false
open Go Go.VS Tab
set_option maxHeartbeats 4000000
theorem jn_ge {l : List Sec} (h : mayS l = true) {s : Sec} (hs : s ∈ l) (e : Nat) : 0 ≤ (s.ends.getD e (0, 0)).2 := by
  by_cases he : e < s.ends.length
  · have hj := (mayS_iff.1 h).2.2 s hs e he
    obtain ⟨a, b, hab⟩ : ∃ a b, s.ends[e] = (a, b) := ⟨_, _, rfl⟩
    rw [joined_eq he hab] at hj
    have gd : s.ends.getD e (0, 0) = (a, b) := by rw [← hab]; simp [List.getD_eq_getElem?_getD, he]
    rw [gd]
    rw [Bool.or_eq_true, decide_eq_true_eq] at hj
    rcases hj with hj | hj
    · show 0 ≤ b; omega
    · cases hg : getS l a with
      | none => rw [hg] at hj; cases hj
      | some t =>
        rw [hg] at hj
        simp only [Bool.and_eq_true, decide_eq_true_eq] at hj
        show 0 ≤ b; omega
  · simp [List.getD_eq_getElem?_getD, he]
structure Gone (p : Pl) (r : Rt) (W : Wy) (O : List (Int × Int)) : Prop where
  may : mayP p = true
  mem : r ∈ p.rts
  one : 1 ≤ r.path.length
  not : (runW p r (allL r).length).lost = false
  path : W.path = r.path
  over : W.over = r.over
  near : W.near = (lastG p.sgs r.entry).2.1
  asks : W.asks = (runW p r (allL r).length).asks ++ r.flanks.map (fun f => (f.1, f.2, -1))
  outs : O = (runW p r (allL r).length).outs
theorem gone_of {p : Pl} {id : Int} (h : ofE p id = 0) : Gone p (rtO p id) (ofW p id) (ofO p id) ∧ rtE p id = 0 := by
  have hE : rtE p id = 0 := by
    unfold ofE at h
    by_cases hE : rtE p id = 0
    · exact hE
    · rw [if_neg hE] at h; exact absurd h hE
  obtain ⟨hm, hr⟩ := rtE_zero hE
  have hf : folE p (rtO p id) = 0 := by unfold ofE at h; rwa [if_pos hE] at h
  have hl : (endW p (rtO p id)).lost = false := by
    unfold folE at hf
    cases hl : (endW p (rtO p id)).lost with
    | true => rw [hl] at hf; simp at hf
    | false => rfl
  have e : ofW p id = ⟨(rtO p id).path, (rtO p id).over, (flkW (endW p (rtO p id)) (rtO p id).flanks).asks, (lastG p.sgs (rtO p id).entry).2.1⟩ := by
    unfold ofW folW
    rw [if_pos hE, hl, if_neg (by decide)]
  have eo : ofO p id = (endW p (rtO p id)).outs := by
    unfold ofO folO
    rw [if_pos hE, hl, if_neg (by decide)]
  exact ⟨⟨hm, hr, (entry_of hm hr).1, hl, by rw [e], by rw [e], by rw [e], by rw [e]; exact flkW_all _ _ (flank_pos hm hr), eo⟩, hE⟩
theorem flk_pos {p : Pl} {r : Rt} {W : Wy} {O : List (Int × Int)} (g : Gone p r W O) : ∀ a, a ∈ r.flanks.map (fun f : Int × Int => (f.1, f.2, (-1 : Int))) → 0 < a.1 := fun a ha => by
  obtain ⟨f, hf, rfl⟩ := List.mem_map.1 ha
  exact (flank_pos g.may g.mem f hf).1
theorem round_thr {p : Pl} {r : Rt} {W : Wy} {O : List (Int × Int)} (g : Gone p r W O) {i : Nat} (hi : i < (allL r).length) (hk : i + 1 = r.path.length ∨ i + 1 ≠ (allL r).length) : ∃ (s : Sec) (e : Nat), getS p.secs (allL r)[i] = some s ∧ (runW p r i).inn.1 = (allL r)[i] ∧
    outL s (runW p r i).inn.2 (lieL W.asks s.pt i) = e ∧ outE s (runW p r i).inn.2 (lieL W.asks s.pt i) = 0 ∧ (∃ h : i < O.length, O[i] = ((allL r)[i], (e : Int))) ∧ nextD p.secs (allL r)[i] e = (runW p r (i + 1)).inn ∧ nextE p.secs (allL r)[i] e = 0 ∧ stE p (allL r)[i] e = 0 ∧
    (i + 1 = r.path.length → (r.ex = 0 → (runW p r (i + 1)).inn = (0, 0)) ∧ (r.ex ≠ 0 → stL p (allL r)[i] e = r.ex)) := by
  have hl := run_keep g.not (i + 1) (by omega)
  obtain ⟨s, e, a, b, c, d, q, x⟩ := step_thr hl hk
  have gd : (allL r).getD i 0 = (allL r)[i] := by rw [List.getD_eq_getElem?_getD, List.getElem?_eq_getElem hi]; rfl
  have hlie := lie_at g.may (n := (allL r).length) (by omega) a (lie := thruL s (runW p r i).inn.2 e) (fun h => lie_pos h d) (fun h => lie_zero h) (by rw [q]; rfl) _ (flk_pos g)
  rw [← g.asks] at hlie
  rw [gd] at a b q x
  obtain ⟨o1, o2⟩ := out_of c d
  obtain ⟨n1, n2⟩ := next_of g.may a (e := (e : Int)) (by omega) (by omega)
  have hin : (runW p r (i + 1)).inn = s.ends.getD e (0, 0) := by rw [q]; rfl
  refine ⟨s, e, a, b, by rw [hlie]; exact o1, by rw [hlie]; exact o2, ?_, by rw [hin]; exact n1, n2, stE_zero g.may a (by omega) (by omega), fun h => ?_⟩
  · obtain ⟨t, ht⟩ := outs_app (p := p) (r := r) (i := i + 1) (allL r).length (by omega) g.not
    have hlen := outs_len i (run_keep g.not i (by omega)) fun j hj => by
      by_cases h : j + 1 = (allL r).length
      · omega
      · exact .inr h
    obtain ⟨l, hkp⟩ := askW_keeps (runW p r i) s.pt (thruL s (runW p r i).inn.2 e) i
    have ho : O = (runW p r i).outs ++ ([((allL r)[i], (e : Int))] ++ t) := by
      rw [g.outs, ht, q, hkp]; unfold leave; simp
    subst ho
    exact ⟨by simp; omega, by rw [List.getElem_append_right (by omega)]; simp [hlen]⟩
  · obtain ⟨x1, x2⟩ := x h
    refine ⟨fun h0 => by rw [hin]; exact x1 h0, fun h0 => ?_⟩
    obtain ⟨y1, y2⟩ := x2 h0
    rw [y1, y2]
    exact (exit_at g.may g.mem h0).2
theorem round_stay {p : Pl} {r : Rt} {W : Wy} {O : List (Int × Int)} (g : Gone p r W O) {i : Nat} (hi : i + 1 = (allL r).length) (hk : i + 1 ≠ r.path.length) : ∃ (s : Sec), getS p.secs ((allL r)[i]'(by omega)) = some s ∧ (runW p r i).inn.1 = (allL r)[i]'(by omega) ∧ O.length = i ∧ (s.pt = 0 ∨ lieL W.asks s.pt i = (runW p r i).inn.2) := by
  have hl := run_keep g.not (i + 1) (by omega)
  obtain ⟨s, a, b, q⟩ := step_stay hl hk hi
  have gd : (allL r).getD i 0 = (allL r)[i]'(by omega) := by rw [List.getD_eq_getElem?_getD, List.getElem?_eq_getElem (by omega)]; rfl
  have hmay := (may_parts g.may).2.1
  have hlen := outs_len i (run_keep g.not i (by omega)) fun j hj => .inr (by omega)
  have hO : O.length = i := by
    rw [g.outs, ← hi, q]
    split
    · obtain ⟨l, hkp⟩ := askW_keeps (runW p r i) s.pt (runW p r i).inn.2 i
      rw [hkp]; exact hlen
    · exact hlen
  have hge : 0 ≤ (runW p r i).inn.2 := by
    have h1 := g.one
    have hpl : r.path.length ≤ (allL r).length := by simp
    obtain ⟨k, rfl⟩ : ∃ k, i = k + 1 := ⟨i - 1, by omega⟩
    obtain ⟨s', e', a', _, _, _, q', _⟩ := step_thr (p := p) (r := r) (i := k) (run_keep g.not (k + 1) (by omega)) (.inr (by omega))
    rw [q']
    exact jn_ge hmay (getS_some a').1 e'
  rw [gd] at a b
  refine ⟨s, a, b, hO, ?_⟩
  by_cases hp : s.pt = 0
  · exact .inl hp
  · refine .inr ?_
    rw [← gd] at a
    by_cases h0 : 0 < (runW p r i).inn.2
    · rw [if_pos h0] at q
      have := lie_at g.may (n := (allL r).length) (by omega) a (lie := (runW p r i).inn.2) (fun _ => h0) (fun h => absurd h hp) (by rw [q]) _ (flk_pos g)
      rw [← g.asks] at this
      exact this
    · rw [if_neg h0] at q
      have e0 : (runW p r i).inn.2 = 0 := by omega
      rw [e0, g.asks, ← hi, q]
      obtain ⟨ok0, _⟩ := runW_ok hmay r i
      refine lieL_none fun j hj => ?_
      have : (((runW p r i).asks ++ r.flanks.map (fun f => (f.1, f.2, (-1 : Int))))[j]).2.2 ≠ (i : Int) := by
        by_cases hlt : j < (runW p r i).asks.length
        · rw [List.getElem_append_left hlt]
          obtain ⟨j', _, e1, e2, _⟩ := ok0.each j hlt
          omega
        · rw [List.getElem_append_right (by omega)]
          simp
      simp [this]
theorem outs_all {p : Pl} {r : Rt} {W : Wy} {O : List (Int × Int)} (g : Gone p r W O) (h : r.over = []) : O.length = (allL r).length := by
  rw [g.outs]
  refine outs_len _ g.not fun i hi => ?_
  have : (allL r).length = r.path.length := by simp [h]
  omega
end Go.Proofs.Ytdkiciofkifpdaa.Pln
