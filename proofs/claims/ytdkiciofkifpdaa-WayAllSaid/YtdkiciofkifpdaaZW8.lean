/-
  What a route asks, told plainly.
-/
import Derived.Test.YtdkiciofkifpdaaZW6
namespace Go.Proofs.Ytdkiciofkifpdaa.Pln
set_option linter.unusedVariables false
set_option linter.unusedSimpArgs false
open Go Go.VS Tab
set_option maxHeartbeats 4000000
structure AskOk (p : Pl) (L : List Int) (i : Nat) (l : List (Int × Int × Int)) : Prop where
  each : ∀ k (hk : k < l.length), ∃ (j : Nat) (s : Sec), j < i ∧ l[k].2.2 = (j : Int) ∧ s ∈ p.secs ∧ s.id = L.getD j 0 ∧ s.pt = l[k].1 ∧ s.pt ≠ 0 ∧ 1 ≤ l[k].2.1 ∧ l[k].2.1 ≤ 2
  rise : ∀ k (hk : k + 1 < l.length), l[k].2.2 < l[k + 1].2.2
theorem AskOk.next {p : Pl} {L : List Int} {i : Nat} {l : List (Int × Int × Int)} (h : AskOk p L i l) : AskOk p L (i + 1) l :=
  ⟨fun k hk => by obtain ⟨j, s, h1, h2⟩ := h.each k hk; exact ⟨j, s, by omega, h2⟩, h.rise⟩
theorem flkW_all : ∀ (l : List (Int × Int)) (w : Wk), (∀ f, f ∈ l → 0 < f.1 ∧ 0 < f.2) → (flkW w l).asks = w.asks ++ l.map fun f => (f.1, f.2, -1)
  | [], w, _ => by simp [flkW]
  | f :: l, w, h => by
    obtain ⟨a, b⟩ := h f (List.mem_cons_self ..)
    have e : askW w f.1 f.2 (-1) = { w with asks := w.asks ++ [(f.1, f.2, -1)] } := by
      unfold askW
      rw [if_pos (by simp; omega)]
    have := flkW_all l (askW w f.1 f.2 (-1)) fun g hg => h g (List.mem_cons_of_mem _ hg)
    show (flkW (askW w f.1 f.2 (-1)) l).asks = _
    rw [this, e]
    simp
theorem flank_pos {p : Pl} (h : mayP p = true) {r : Rt} (hr : r ∈ p.rts) : ∀ f, f ∈ r.flanks → 0 < f.1 ∧ 0 < f.2 := by
  obtain ⟨_, _, hpts, _, _, _, hrs⟩ := may_parts h
  have ho := hrs r hr
  unfold okR at ho
  cases hg : getG p.sgs r.entry with
  | none => rw [hg] at ho; cases ho
  | some en =>
    rw [hg] at ho
    rw [Bool.and_eq_true] at ho
    intro f hf
    obtain ⟨i, hi, rfl⟩ := List.getElem_of_mem hf
    have h1 := allP_iff.1 ho.2 i hi
    unfold okF at h1
    simp only [Bool.and_eq_true, Bool.or_eq_true, beq_iff_eq] at h1
    obtain ⟨⟨h2, _⟩, h3⟩ := h1
    obtain ⟨x, hx⟩ := Option.isSome_iff_exists.1 h2
    have hxm := List.mem_of_find?_eq_some hx
    have hx1 : x.1 = r.flanks[i].1 := by simpa using List.find?_some hx
    unfold ptsOk at hpts
    simp only [Bool.and_eq_true] at hpts
    obtain ⟨j, hj, rfl⟩ := List.getElem_of_mem hxm
    have h5 := allP_iff.1 hpts.1.1.1 j (by simpa using hj)
    simp only [rises, Bool.and_eq_true, numb_iff, List.getElem_map] at h5
    omega
end Go.Proofs.Ytdkiciofkifpdaa.Pln
