/-
  What all routes come to.
-/
import Derived.Test.YtdkiciofkifpdaaZGA
import Derived.Test.YtdkiciofkifpdaaZWD
namespace Go.Proofs.Ytdkiciofkifpdaa.Pln
set_option linter.unusedVariables false
set_option linter.unusedSimpArgs false
open Go Go.VS Tab
set_option maxHeartbeats 8000000
set_option maxRecDepth 4000
theorem ret_ttt {P : Program} {n : Nat} {fn : Func} {out : Nat → Option Res} {gives : List (Nat × Res)} {r r' q q' u u' : AV} {a b c : Tmp} {e : Exit} {σ : AState} (he : e = .normal ∨ e = .ret) (hr : fn.results = #[.tmp a, .tmp b, .tmp c]) (hd : σ.df = []) (h0 : σ.n0 = n)
    (ho : ∀ k, k < n → σ.out k = upd out gives k) (hx : σ.fr.getD a .top = r) (hy : σ.fr.getD b .top = q) (hz : σ.fr.getD c .top = u) (l1 : AV.le r r') (l2 : AV.le q q') (l3 : AV.le u u') : retPost P n fn out gives (.tup [r', q', u']) e σ := by
  refine ⟨he, hd, h0, ho, fun M act hI hs => ?_⟩
  have h1 := hs.ev (.tmp a)
  have h2 := hs.ev (.tmp b)
  have h3 := hs.ev (.tmp c)
  simp only [AState.ev, Act.eval] at h1 h2 h3
  rw [hx] at h1
  rw [hy] at h2
  rw [hz] at h3
  refine ⟨.tuple #[act.tmps.getD a undef, act.tmps.getD b undef, act.tmps.getD c undef], by simp [results, hr], .tup _ _ rfl fun i c v hi hv => ?_⟩
  match i, hi, hv with
  | 0, hi, hv => simp at hi hv; subst hi; subst hv; simpa using h1.le l1
  | 1, hi, hv => simp at hi hv; subst hi; subst hv; simpa using h2.le l2
  | 2, hi, hv => simp at hi hv; subst hi; subst hv; simpa using h3.le l3
theorem find_first {α : Type} {f : α → Bool} {l : List α} {i : Nat} (hi : i < l.length) (hf : f l[i] = true) (hq : ∀ j (hj : j < l.length), j < i → f l[j] = false) : l.find? f = some l[i] := by
  rw [List.find?_eq_some_iff_getElem]
  exact ⟨hf, i, hi, rfl, fun j hj => by simp [hq j (by omega) hj]⟩
theorem find_none' {α : Type} {f : α → Bool} {l : List α} (hq : ∀ j (hj : j < l.length), f l[j] = false) : l.find? f = none := by
  rw [List.find?_eq_none]
  intro x hx
  obtain ⟨i, hi, rfl⟩ := List.getElem_of_mem hx
  simp [hq i hi]
end Go.Proofs.Ytdkiciofkifpdaa.Pln
