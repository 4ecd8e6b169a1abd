/-
  A plan with fewer routes, signals that they name, and a later version, told plainly.
-/
import Derived.Test.YtdkiciofkifpdaaZW25
namespace Go.Proofs.Ytdkiciofkifpdaa.Pln
set_option linter.unusedVariables false
set_option linter.unusedSimpArgs false
open Go Go.VS Tab
set_option maxHeartbeats 4000000
def namedB (l : List Rt) (g : Int × Int × Int) : Bool := l.any fun r => r.entry == g.1 || r.ex == g.1
def lessP (p : Pl) (v w : Int) (l : List Rt) : Pl := ⟨v, w, p.secs, p.pts, p.sgs.filter (namedB l), l⟩
theorem sgs_less {p : Pl} (h : sgsOk p = true) (v w : Int) (l : List Rt) : sgsOk (lessP p v w l) = true := by
  unfold sgsOk at h ⊢
  simp only [Bool.and_eq_true, decide_eq_true_eq] at h ⊢
  obtain ⟨⟨h1, h2⟩, h3⟩ := h
  refine ⟨⟨?_, ?_⟩, ?_⟩
  · rw [rises_eq, allP_pair] at h1 ⊢
    refine ⟨fun x hx => ?_, ?_⟩
    · obtain ⟨g, hg, rfl⟩ := List.mem_map.1 hx
      exact h1.1 _ (List.mem_map.2 ⟨g, (List.mem_filter.1 hg).1, rfl⟩)
    · rw [List.pairwise_map] at h1 ⊢
      exact h1.2.filter _
  · have := List.length_filter_le (namedB l) p.sgs
    show (p.sgs.filter (namedB l)).length ≤ 10
    omega
  · have e : okG (lessP p v w l) = okG p := rfl
    rw [e]
    have e2 : okG p = fun (pre : List (Int × Int × Int)) (x : Int × Int × Int) => (match getS p.secs x.2.1 with
      | none => false
      | some s => decide ((0 : Int) ≤ x.2.2) && decide (x.2.2 < (s.ends.length : Int))) && pre.all fun y => !(y.2 == x.2) := rfl
    rw [e2, allP_pair] at h3 ⊢
    exact ⟨fun x hx => h3.1 x (List.mem_filter.1 hx).1, h3.2.filter _⟩
theorem getG_less (p : Pl) (v w : Int) {l : List Rt} {r : Rt} (hr : r ∈ l) {n : Int} (h : n = r.entry ∨ n = r.ex) : getG (lessP p v w l).sgs n = getG p.sgs n := by
  unfold getG
  show (p.sgs.filter (namedB l)).find? _ = _
  rw [List.find?_filter]
  congr 1
  funext g
  by_cases he : g.1 = n
  · have : namedB l g = true := by
      unfold namedB
      rw [List.any_eq_true]
      refine ⟨r, hr, ?_⟩
      rcases h with h | h <;> simp [he, h]
    simp [he, this]
  · simp [he]
theorem okR_less {p : Pl} (v w : Int) {l : List Rt} {r : Rt} (hr : r ∈ l) : okR (lessP p v w l) r = okR p r := by
  unfold okR
  rw [getG_less p v w hr (.inl rfl), getG_less p v w hr (.inr rfl)]
  rfl
theorem may_less {p : Pl} (h : mayP p = true) {v w : Int} (hv : 1 ≤ v ∧ v ≤ 2147483647 ∧ 0 ≤ w ∧ w < v) {l : List Rt} (hl : l.Sublist p.rts) : mayP (lessP p v w l) = true := by
  obtain ⟨h1, h2, h3, h4, h5, h6, h7⟩ := may_parts h
  have e1 : headOk (lessP p v w l) = true := by
    unfold headOk
    simp only [Bool.and_eq_true, decide_eq_true_eq]
    exact ⟨⟨⟨hv.1, hv.2.1⟩, hv.2.2.1⟩, hv.2.2.2⟩
  have e2 : mayS (lessP p v w l).secs = true := h2
  have e3 : ptsOk (lessP p v w l) = true := h3
  have e4 := sgs_less h4 v w l
  have e5 : allP rises ((lessP p v w l).rts.map Rt.id) = true := by
    rw [rises_eq, allP_pair] at h5 ⊢
    refine ⟨fun x hx => ?_, ?_⟩
    · obtain ⟨r, hr, rfl⟩ := List.mem_map.1 hx
      exact h5.1 _ (List.mem_map.2 ⟨r, hl.subset hr, rfl⟩)
    · exact h5.2.sublist (hl.map Rt.id)
  have e6 : (lessP p v w l).rts.length ≤ 16 := Nat.le_trans hl.length_le h6
  unfold mayP
  rw [e1, e2, e3, e4, e5, decide_eq_true e6]
  simp only [Bool.true_and, List.all_eq_true]
  exact fun r hr => by
    have hr' : r ∈ l := hr
    rw [okR_less v w hr']; exact h7 r (hl.subset hr')
end Go.Proofs.Ytdkiciofkifpdaa.Pln
