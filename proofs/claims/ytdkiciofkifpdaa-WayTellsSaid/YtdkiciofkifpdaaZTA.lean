/- The layer of abstract values, joined: TA. -/
import Derived.Test.YtdkiciofkifpdaaZWZ
import Derived.Test.YtdkiciofkifpdaaZW14
section
namespace Go.Proofs.Ytdkiciofkifpdaa.Pln
set_option linter.unusedVariables false
set_option linter.unusedSimpArgs false
open Go Go.VS Tab
set_option maxHeartbeats 4000000
theorem gone_fol {p : Pl} (hm : mayP p = true) {r : Rt} (hr : r ∈ p.rts) (hf : folE p r = 0) : Gone p r (folW p r) (folO p r) := by
  have hl : (endW p r).lost = false := by
    unfold folE at hf
    cases hl : (endW p r).lost with
    | true => rw [hl] at hf; simp at hf
    | false => rfl
  have e : folW p r = ⟨r.path, r.over, (flkW (endW p r) r.flanks).asks, (lastG p.sgs r.entry).2.1⟩ := by
    unfold folW
    rw [hl, if_neg (by decide)]
  have eo : folO p r = (endW p r).outs := by
    unfold folO
    rw [hl, if_neg (by decide)]
  exact ⟨hm, hr, (entry_of hm hr).1, hl, by rw [e], by rw [e], by rw [e], by rw [e]; exact flkW_all _ _ (flank_pos hm hr), eo⟩
theorem fol_lost {p : Pl} {r : Rt} (h : folE p r ≠ 0) : folW p r = noWy ∧ folO p r = [] := by
  unfold folE at h
  unfold folW folO
  cases hl : (endW p r).lost with
  | true => exact ⟨rfl, rfl⟩
  | false => rw [hl] at h; exact absurd rfl h
end Go.Proofs.Ytdkiciofkifpdaa.Pln
end
