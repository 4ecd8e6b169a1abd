/-
  Who stands at an end, told by the program.
-/
import Derived.Test.YtcfkieacdjcaoaaZGA
import Derived.Test.YtcfkieacdjcaoaaZPP
namespace Go.Proofs.Ytcfkieacdjcaoaa.Pln
set_option linter.unusedVariables false
set_option linter.unusedSimpArgs false
open Go Go.VS Tab
set_option maxHeartbeats 8000000
set_option maxRecDepth 4000
def atF (l : List (Int × Int × Int)) (s e : Int) : Int := match l.find? (fun g => g.2.1 == s && g.2.2 == e) with
  | some g => g.1
  | none => 0
theorem atF_succ {p : Pl} (h : sgsOk p = true) {i : Nat} (hi : i < p.sgs.length) (s e : Int) : atF (p.sgs.take (i + 1)) s e = if (p.sgs[i].2.1 == s && p.sgs[i].2.2 == e) = true then p.sgs[i].1 else atF (p.sgs.take i) s e := by
  unfold atF
  rw [List.take_succ_eq_append_getElem hi, List.find?_append]
  by_cases hm : (p.sgs[i].2.1 == s && p.sgs[i].2.2 == e) = true
  · rw [if_pos hm]
    have : (p.sgs.take i).find? (fun g => g.2.1 == s && g.2.2 == e) = none := by
      rw [List.find?_eq_none]
      intro x hx hxe
      unfold sgsOk at h
      rw [Bool.and_eq_true] at h
      have h1 := allP_iff.1 h.2 i hi
      unfold okG at h1
      rw [Bool.and_eq_true, List.all_eq_true] at h1
      have h2 := h1.2 x hx
      simp only [Bool.and_eq_true, beq_iff_eq] at hxe hm
      have : x.2 = p.sgs[i].2 := Prod.ext (by omega) (by omega)
      simp [this] at h2
    rw [this]
    simp [hm]
  · rw [if_neg hm]
    have hm' : (p.sgs[i].2.1 == s && p.sgs[i].2.2 == e) = false := by simpa using hm
    rw [List.find?_cons, hm']
    cases (p.sgs.take i).find? (fun g => g.2.1 == s && g.2.2 == e) <;> rfl
theorem mayP_parts {p : Pl} (h : mayP p = true) : headOk p = true ∧ mayS p.secs = true ∧ ptsOk p = true ∧ sgsOk p = true ∧ allP rises (p.rts.map Rt.id) = true ∧ p.rts.length ≤ 16 ∧ ∀ r, r ∈ p.rts → okR p r = true := by
  unfold mayP at h
  simp only [Bool.and_eq_true, decide_eq_true_eq, List.all_eq_true] at h
  obtain ⟨⟨⟨⟨⟨⟨h1, h2⟩, h3⟩, h4⟩, h5⟩, h6⟩, h7⟩ := h
  exact ⟨h1, h2, h3, h4, h5, h6, h7⟩
def stE (p : Pl) (s e : Int) : Int := if mayP p then nextE p.secs s e else 8
def stL (p : Pl) (s e : Int) : Int := if stE p s e = 0 then atF p.sgs s e else 0
end Go.Proofs.Ytcfkieacdjcaoaa.Pln
