/-
  What a route comes to hangs on no other route, told plainly.
-/
import Derived.Test.YtcfkieacdjcaoaaZW6
namespace Go.Proofs.Ytcfkieacdjcaoaa.Pln
set_option linter.unusedVariables false
set_option linter.unusedSimpArgs false
open Go Go.VS Tab
set_option maxHeartbeats 4000000
theorem allP_pair {α : Type} {b : α → Bool} {c : α → α → Bool} {l : List α} : allP (fun pre x => b x && pre.all fun y => c y x) l = true ↔ (∀ x, x ∈ l → b x = true) ∧ l.Pairwise fun y x => c y x = true := by
  rw [allP_iff, List.pairwise_iff_getElem]
  constructor
  · intro h
    refine ⟨fun x hx => ?_, fun i j hi hj hij => ?_⟩
    · obtain ⟨i, hi, rfl⟩ := List.getElem_of_mem hx
      have := h i hi
      rw [Bool.and_eq_true] at this
      exact this.1
    · have := h j hj
      rw [Bool.and_eq_true, List.all_eq_true] at this
      exact this.2 _ (mem_take_of hij hi)
  · rintro ⟨h1, h2⟩ i hi
    rw [Bool.and_eq_true, List.all_eq_true]
    refine ⟨h1 _ (List.getElem_mem hi), fun y hy => ?_⟩
    rw [List.mem_take_iff_getElem] at hy
    obtain ⟨j, hj, rfl⟩ := hy
    exact h2 j i (by omega) hi (by omega)
def keepG (r : Rt) (g : Int × Int × Int) : Bool := g.1 == r.entry || g.1 == r.ex
def qP (p : Pl) (r : Rt) : Pl := ⟨1, 0, p.secs, p.pts, p.sgs.filter (keepG r), [r]⟩
theorem rises_eq : rises = fun pre n => numb n && pre.all fun k => decide (k < n) := rfl
theorem sgs_own {p : Pl} (h : sgsOk p = true) (r : Rt) : sgsOk (qP p r) = true := by
  unfold sgsOk at h ⊢
  simp only [Bool.and_eq_true, decide_eq_true_eq] at h ⊢
  obtain ⟨⟨h1, h2⟩, h3⟩ := h
  refine ⟨⟨?_, ?_⟩, ?_⟩
  · rw [rises_eq, allP_pair] at h1 ⊢
    refine ⟨fun x hx => ?_, ?_⟩
    · obtain ⟨g, hg, rfl⟩ := List.mem_map.1 hx
      exact h1.1 _ (List.mem_map.2 ⟨g, (List.mem_filter.1 hg).1, rfl⟩)
    · rw [List.pairwise_map] at h1 ⊢
      exact h1.2.filter _
  · have := List.length_filter_le (keepG r) p.sgs
    show (p.sgs.filter (keepG r)).length ≤ 10
    omega
  · have e : okG (qP p r) = okG p := rfl
    rw [e]
    have e2 : okG p = fun (pre : List (Int × Int × Int)) (x : Int × Int × Int) => (match getS p.secs x.2.1 with
      | none => false
      | some s => decide ((0 : Int) ≤ x.2.2) && decide (x.2.2 < (s.ends.length : Int))) && pre.all fun y => !(y.2 == x.2) := rfl
    rw [e2, allP_pair] at h3 ⊢
    exact ⟨fun x hx => h3.1 x (List.mem_filter.1 hx).1, h3.2.filter _⟩
theorem getG_own (p : Pl) (r : Rt) {n : Int} (h : n = r.entry ∨ n = r.ex) : getG (qP p r).sgs n = getG p.sgs n := by
  unfold getG
  show (p.sgs.filter (keepG r)).find? _ = _
  rw [List.find?_filter]
  congr 1
  funext g
  unfold keepG
  by_cases he : g.1 = n
  · rcases h with h | h <;> simp [he, h]
  · simp [he]
theorem okR_own {p : Pl} {r : Rt} : okR (qP p r) r = okR p r := by
  unfold okR
  rw [getG_own p r (.inl rfl), getG_own p r (.inr rfl)]
  rfl
theorem may_own {p : Pl} (h : mayP p = true) {r : Rt} (hr : r ∈ p.rts) : mayP (qP p r) = true := by
  obtain ⟨_, h2, h3, h4, h5, _, h7⟩ := may_parts h
  have e3 : ptsOk (qP p r) = true := h3
  have hn : numb r.id = true := by
    obtain ⟨i, hi, rfl⟩ := List.getElem_of_mem hr
    have := allP_iff.1 h5 i (by simpa using hi)
    simp only [rises, Bool.and_eq_true, List.getElem_map] at this
    exact this.1
  unfold mayP
  rw [e3, sgs_own h4 r]
  have e1 : headOk (qP p r) = true := rfl
  have e2 : mayS (qP p r).secs = true := h2
  have e5 : allP rises ((qP p r).rts.map Rt.id) = true := by
    show allP rises [r.id] = true
    rw [allP_iff]
    intro i hi
    have : i = 0 := by simp at hi; omega
    subst this
    simp [rises, hn]
  have e6 : decide ((qP p r).rts.length ≤ 16) = true := rfl
  have e7 : (qP p r).rts.all (okR (qP p r)) = true := by
    show [r].all (okR (qP p r)) = true
    simp [okR_own, h7 r hr]
  rw [e1, e2, e5, e6, e7]; rfl
theorem lastG_own {p : Pl} (h : sgsOk p = true) (r : Rt) {n : Int} (hn : n = r.entry ∨ n = r.ex) : lastG (qP p r).sgs n = lastG p.sgs n := by
  rw [lastG_get (sgs_rise (sgs_own h r)), lastG_get (sgs_rise h), getG_own p r hn]
theorem step_own {p : Pl} (h : sgsOk p = true) (r : Rt) (w : Wk) (i : Nat) : stepW (qP p r) r w i = stepW p r w i := by
  unfold stepW
  rw [lastG_own h r (.inr rfl)]
  rfl
theorem run_own {p : Pl} (h : sgsOk p = true) (r : Rt) : ∀ i, runW (qP p r) r i = runW p r i
  | 0 => by unfold runW; rw [lastG_own h r (.inl rfl)]; rfl
  | i + 1 => by
    show stepW (qP p r) r (runW (qP p r) r i) i = stepW p r (runW p r i) i
    rw [run_own h r i, step_own h]
theorem end_own {p : Pl} (h : sgsOk p = true) (r : Rt) : endW (qP p r) r = endW p r := run_own h r _
theorem rtO_id {p : Pl} {id : Int} (h : rtE p id = 0) : (rtO p id).id = id := by
  unfold rtE elE at h
  cases hm : mayP p with
  | false => rw [hm] at h; simp at h
  | true =>
    rw [hm] at h
    cases hg : getR p.rts id with
    | none => rw [hg] at h; simp at h
    | some r =>
      unfold rtO elD
      rw [hm, hg]
      simpa using List.find?_some hg
theorem of_own {p : Pl} {id : Int} (h : rtE p id = 0) : ofW (qP p (rtO p id)) id = ofW p id ∧ ofE (qP p (rtO p id)) id = ofE p id := by
  obtain ⟨hm, hr⟩ := rtE_zero h
  have hid := rtO_id h
  have hsg := (may_parts hm).2.2.2.1
  have hq := may_own hm hr
  have hg : getR (qP p (rtO p id)).rts id = some (rtO p id) := by
    show [rtO p id].find? (fun x => x.id == id) = _
    simp [hid]
  have e1 : rtE (qP p (rtO p id)) id = 0 := by unfold rtE elE; rw [hq, hg]; rfl
  have e2 : rtO (qP p (rtO p id)) id = rtO p id := by
    show elD (mayP (qP p (rtO p id))) (getR (qP p (rtO p id)).rts id) noRt = rtO p id
    rw [hq, hg]; rfl
  unfold ofW ofE
  rw [e1, e2, h, if_pos rfl, if_pos rfl, if_pos rfl, if_pos rfl]
  unfold folW folE
  rw [end_own hsg, lastG_own hsg _ (.inl rfl)]
  exact ⟨rfl, rfl⟩
theorem ofW_small {p : Pl} (hs : Sm p) (id : Int) : (ofW p id).path.length ≤ 1000000 ∧ (ofW p id).over.length ≤ 1000000 ∧ (ofW p id).asks.length ≤ 1000000 := by
  unfold ofW
  by_cases hE : rtE p id = 0
  · rw [if_pos hE]
    obtain ⟨_, hr⟩ := rtE_zero hE
    obtain ⟨b1, b2, b3⟩ := hs.rt _ hr
    unfold folW
    cases hl : (endW p (rtO p id)).lost with
    | true => rw [if_pos rfl]; exact ⟨Nat.zero_le _, Nat.zero_le _, Nat.zero_le _⟩
    | false =>
      rw [if_neg (by decide)]
      have h1 := (flkW_len (endW p (rtO p id)) (rtO p id).flanks).1
      have h2 := (runW_len p (rtO p id) ((rtO p id).path ++ (rtO p id).over).length).1
      rw [List.length_append] at h2
      have h3 : (endW p (rtO p id)).asks.length ≤ (rtO p id).path.length + (rtO p id).over.length := by unfold endW; rw [List.length_append]; exact h2
      exact ⟨by dsimp only; omega, by dsimp only; omega, by dsimp only; omega⟩
  · rw [if_neg hE]; exact ⟨Nat.zero_le _, Nat.zero_le _, Nat.zero_le _⟩
theorem sm_own {p : Pl} (hs : Sm p) {r : Rt} (hr : r ∈ p.rts) : Sm (qP p r) :=
  ⟨hs.secs, hs.ends, hs.pts, by have := hs.sgs; have h2 := List.length_filter_le (keepG r) p.sgs; show (p.sgs.filter (keepG r)).length ≤ 40; omega, by show 1 ≤ 40; omega, fun r' h => by
    have : r' = r := by simpa using (show r' ∈ [r] from h)
    rw [this]; exact hs.rt r hr⟩
end Go.Proofs.Ytcfkieacdjcaoaa.Pln
