/- The layer of abstract values, joined: UA. -/
import Derived.Test.YtcfkieacdjcaoaaZGA
import Derived.Test.YtcfkieacdjcaoaaZTA
import Derived.Test.YtcfkieacdjcaoaaZPQ
section
namespace Go.Proofs.Ytcfkieacdjcaoaa.Pln
set_option linter.unusedVariables false
set_option linter.unusedSimpArgs false
open Go Go.VS Tab
set_option maxHeartbeats 4000000
theorem rts_rise {p : Pl} (h : mayP p = true) : ∀ i (hi : i < p.rts.length) j (hj : j < i), (p.rts[j]'(by omega)).id < p.rts[i].id := by
  obtain ⟨_, _, _, _, h5, _, _⟩ := may_parts h
  intro i hi j hj
  have := allP_iff.1 h5 i (by simpa using hi)
  simp only [rises, Bool.and_eq_true, List.all_eq_true, decide_eq_true_eq, List.getElem_map] at this
  refine this.2 _ ?_
  have hj' : j < (p.rts.map Rt.id).length := by simp; omega
  have := mem_take_of (l := p.rts.map Rt.id) hj hj'
  simpa using this
theorem getR_of {p : Pl} (h : mayP p = true) {r : Rt} (hr : r ∈ p.rts) : getR p.rts r.id = some r := by
  obtain ⟨i, hi, rfl⟩ := List.getElem_of_mem hr
  unfold getR
  refine find_first (f := fun x => x.id == p.rts[i].id) hi (by simp) fun j hj hji => ?_
  have := rts_rise h i hi j hji
  simp; omega
theorem sound_zero {p : Pl} (h : soundE p = 0) : mayP p = true ∧ ∀ r, r ∈ p.rts → folE p r = 0 ∧ soundR p r = true := by
  unfold soundE at h
  by_cases hc : allE p = 0 ∧ p.rts.all (soundR p) = true
  · obtain ⟨h1, h2⟩ := allE_zero hc.1
    exact ⟨h1, fun r hr => ⟨h2 r hr, List.all_eq_true.1 hc.2 r hr⟩⟩
  · rw [if_neg hc] at h; exact absurd h (by decide)
end Go.Proofs.Ytcfkieacdjcaoaa.Pln
end
