/-
 The value-semantics layer: a block that grew, and may be written from now on, wherever it is seen.
-/
import Derived.Test.YtjgbbjooeibppaaZVsBits
namespace Go.VS
set_option linter.unusedVariables false
set_option linter.unusedSimpArgs false
open Go Go.RowKit
inductive Bx (k m : Nat) : AV → AV → Prop
 | same (x : AV) : Bx k m x x
 | vsl : Bx k m (.vsl k m) (.bsl k 0 m false)
 | agg (l l' : List AV) (hl : l.length = l'.length) (h : ∀ (i : Nat) (c c' : AV), l[i]? = some c → l'[i]? = some c' → Bx k m c c') : Bx k m (.agg l) (.agg l')
 | sl (sz : Nat) (els els' : List (List AV)) (md : Md) (hl : els.length = els'.length) (hr : ∀ (i : Nat) (r r' : List AV), els[i]? = some r → els'[i]? = some r' → r.length = r'.length)
   (h : ∀ (i j : Nat) (r r' : List AV) (c c' : AV), els[i]? = some r → els'[i]? = some r' → r[j]? = some c → r'[j]? = some c' → Bx k m c c') : Bx k m (.sl sz els md) (.sl sz els' md)
theorem R.bx {M : Mem} (hI : Inv M) {k : Nat} {e : TypeId} {sz m : Nat} {cs : List AV} (hk : M.st k = some (.vec e sz m cs)) (hm : 0 < m) {x y : AV} {v : Value} (h : R M x v) (hz : Bx k m x y) : R (M.boxVec k e cs) y v := by
 have ex := Ext.boxVec hk
 induction hz generalizing v with
 | same x => exact h.ext ex
 | vsl =>
  have := h.bxv hI hk hm
  simpa [AV.bxv] using this
 | agg l l' hl hh ih =>
  cases h with
  | agg _ vs hvl hf' hc =>
   exact .agg l' vs (hl.symm.trans hvl) hf' fun i c v hi hv => by
    have hil : i < l.length := by rw [hl]; exact (List.getElem?_eq_some_iff.1 hi).1
    have e1 := List.getElem?_eq_getElem hil
    exact ih i _ _ e1 hi (hc i _ v e1 hv)
 | sl sz els els' md hl hr hh ih =>
  cases h with
  | nil _ _ a hn hn' =>
   have : els' = [] := List.eq_nil_of_length_eq_zero (by simpa using hl.symm)
   subst this
   exact .nil _ _ a hn hn'
  | slice _ _ _ a cap hs hcap hsz hst hc hmd =>
   rw [hl]
   refine .slice sz els' md a cap hs (by rw [← hl]; exact hcap) (fun row hrow => ?_) (fun o ho => ex.stb _ _ (hst o (by rw [hl]; exact ho))) (fun i j row c v hi hj hv => ?_) (by rw [← hl]; exact hmd.ext ex)
   ·obtain ⟨i, hi⟩ := List.getElem?_of_mem hrow
    have hil : i < els.length := by rw [hl]; exact (List.getElem?_eq_some_iff.1 hi).1
    rw [← hr i _ _ (List.getElem?_eq_getElem hil) hi]
    exact hsz _ (List.getElem_mem hil)
   ·have hil : i < els.length := by rw [hl]; exact (List.getElem?_eq_some_iff.1 hi).1
    have e1 := List.getElem?_eq_getElem hil
    have hjl : j < (els[i]).length := by rw [hr i _ _ e1 hi]; exact (List.getElem?_eq_some_iff.1 hj).1
    have e2 := List.getElem?_eq_getElem hjl
    exact ih i j _ _ _ _ e1 hi e2 hj (hc i j _ _ v e1 e2 hv)
end Go.VS
