/-
  Plans that may be: their elements' places, told plainly.
-/
import Derived.Test.YtcfkieacdjcaoaaZP23
import Derived.Test.YtcfkieacdjcaoaaZP30
namespace Go.Proofs.Ytcfkieacdjcaoaa.Pln
set_option linter.unusedVariables false
set_option linter.unusedSimpArgs false
open Go Go.VS Tab
set_option maxHeartbeats 2000000
theorem findE_some {l : List Sec} (h : mayS l = true) {n : Int} {s : Sec} (hg : getS l n = some s) : findE l n = 0 ∧ findD l n = s := by
  unfold findE findD
  rw [h, hg]
  exact ⟨rfl, rfl⟩
theorem stE_zero {p : Pl} (h : mayP p = true) {n e : Int} {s : Sec} (hg : getS p.secs n = some s) (h0 : 0 ≤ e) (h1 : e < s.ends.length) : stE p n e = 0 := by
  obtain ⟨_, hmay, _⟩ := mayP_parts h
  obtain ⟨a, b⟩ := findE_some hmay hg
  unfold stE nextE
  rw [h, a, b, if_pos rfl, if_pos rfl, if_pos ⟨h0, h1⟩]
theorem sg_at {p : Pl} (h : mayP p = true) {i : Nat} (hi : i < p.sgs.length) : stE p p.sgs[i].2.1 p.sgs[i].2.2 = 0 ∧ stL p p.sgs[i].2.1 p.sgs[i].2.2 = p.sgs[i].1 := by
  obtain ⟨_, hmay, _, hsg, _⟩ := mayP_parts h
  have hE : stE p p.sgs[i].2.1 p.sgs[i].2.2 = 0 := by
    have hq := hsg
    unfold sgsOk at hq
    rw [Bool.and_eq_true] at hq
    have h1 := allP_iff.1 hq.2 i hi
    unfold okG at h1
    rw [Bool.and_eq_true] at h1
    cases hg : getS p.secs p.sgs[i].2.1 with
    | none => rw [hg] at h1; simp at h1
    | some s =>
      rw [hg] at h1
      simp only [Bool.and_eq_true, decide_eq_true_eq] at h1
      exact stE_zero h hg h1.1.1 h1.1.2
  refine ⟨hE, ?_⟩
  unfold stL
  rw [if_pos hE]
  have : ∀ j, i < j → j ≤ p.sgs.length → atF (p.sgs.take j) p.sgs[i].2.1 p.sgs[i].2.2 = p.sgs[i].1 := by
    intro j
    induction j with
    | zero => intro h; omega
    | succ j ih =>
      intro hj hjl
      rw [atF_succ hsg (by omega)]
      by_cases he : j = i
      · subst he; rw [if_pos (by simp)]
      · rw [if_neg, ih (by omega) (by omega)]
        intro hm
        have hq := hsg
        unfold sgsOk at hq
        rw [Bool.and_eq_true] at hq
        have h1 := allP_iff.1 hq.2 j (by omega)
        unfold okG at h1
        rw [Bool.and_eq_true, List.all_eq_true] at h1
        have h2 := h1.2 p.sgs[i] (mem_take_of (by omega) hi)
        simp only [Bool.and_eq_true, beq_iff_eq] at hm
        have : p.sgs[i].2 = p.sgs[j].2 := Prod.ext (by omega) (by omega)
        simp [this] at h2
  have := this p.sgs.length hi (Nat.le_refl _)
  rwa [List.take_length] at this
end Go.Proofs.Ytcfkieacdjcaoaa.Pln
