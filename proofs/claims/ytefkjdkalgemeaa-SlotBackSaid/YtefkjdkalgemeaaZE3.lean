/-
  Plain: what is found behind records that are put.
-/
import Derived.Test.YtefkjdkalgemeaaZE1
namespace Go.Proofs.Ytefkjdkalgemeaa
set_option linter.unusedVariables false
set_option linter.unusedSimpArgs false
open Go Go.VS Tab
set_option maxHeartbeats 1000000
def sameR (a b : Rc) : Bool := a.gen == b.gen && a.text == b.text
theorem sameR_iff (a b : Rc) : sameR a b = true ↔ a = b := by
  unfold sameR
  cases a; cases b
  simp
def amongR (l : List Rc) (r : Rc) : Bool := l.any fun x => sameR x r
theorem among_iff (l : List Rc) (r : Rc) : amongR l r = true ↔ r ∈ l := by
  unfold amongR
  rw [List.any_eq_true]
  constructor
  · rintro ⟨x, hx, h⟩
    rw [sameR_iff] at h
    exact h ▸ hx
  · intro h
    exact ⟨r, h, (sameR_iff _ _).2 rfl⟩
theorem gen_ne {a b : BitVec 32} (h : slotN a ≠ slotN b) : a.toNat ≠ b.toNat := fun e => h (by unfold slotN; rw [e])
theorem sort_two (a b : Rc) : sortR (some a) (some b) = if a.gen.toNat < b.gen.toNat then [b, a] else [a, b] := rfl
theorem find_eq {d : Dsk} (hd : may d = true) : findL d = sortR (wholeB d 0) (wholeB d 16) := by unfold findL; rw [if_pos hd]
theorem find_sorted {d : Dsk} (hd : may d = true) {a b : Rc} (h : findL d = [a, b]) : b.gen.toNat < a.gen.toNat ∧ slotN a.gen ≠ slotN b.gen := by
  rw [find_eq hd] at h
  cases h0 : wholeB d 0 with
  | none => rw [h0] at h; cases h1 : wholeB d 16 <;> rw [h1] at h <;> simp [sortR] at h
  | some x =>
    cases h1 : wholeB d 16 with
    | none => rw [h0, h1] at h; simp [sortR] at h
    | some y =>
      rw [h0, h1] at h
      have e0 := whole_slot hd (.inl rfl) h0
      have e1 := whole_slot hd (.inr rfl) h1
      have hne := gen_ne (a := x.gen) (b := y.gen) (by omega)
      rw [sort_two] at h
      split at h
      · injection h with p q
        injection q with q _
        subst p; subst q
        exact ⟨by assumption, by omega⟩
      · injection h with p q
        injection q with q _
        subst p; subst q
        exact ⟨by omega, by omega⟩
theorem find_two {d : Dsk} (hd : may d = true) {r s : Rc} (hr : wholeB d (slotN r.gen) = some r) (hs : wholeB d (slotN s.gen) = some s) (hne : slotN r.gen ≠ slotN s.gen) :
    findL d = if r.gen.toNat < s.gen.toNat then [s, r] else [r, s] := by
  rw [find_eq hd]
  have hg := gen_ne hne
  rcases slot_two r.gen with e | e <;> rcases slot_two s.gen with f | f
  · omega
  · rw [e] at hr; rw [f] at hs; rw [hr, hs]; rfl
  · rw [e] at hr; rw [f] at hs; rw [hr, hs]
    rw [sort_two]
    by_cases h : r.gen.toNat < s.gen.toNat
    · rw [if_pos h, if_neg (by omega)]
    · rw [if_neg h, if_pos (by omega)]
  · omega
theorem put_found {d : Dsk} {r : Rc} (h : putE d r = 0) : r ∈ findL (putD d r) := (mem_find (may_put h)).2 (whole_put h)
theorem put_keeps {d : Dsk} {r s : Rc} (h : putE d r = 0) (hne : slotN s.gen ≠ slotN r.gen) : s ∈ findL (putD d r) ↔ s ∈ findL d := by
  rw [mem_find (may_put h), mem_find (putE_0.1 h).1, whole_other h (slot_two _) hne]
theorem put_both {d : Dsk} {r s : Rc} (h1 : putE d s = 0) (h2 : putE (putD d s) r = 0) (h3 : putE d r = 0) (h4 : putE (putD d r) s = 0) (hne : slotN r.gen ≠ slotN s.gen) :
    findL (putD (putD d s) r) = (if r.gen.toNat < s.gen.toNat then [s, r] else [r, s]) ∧ findL (putD (putD d r) s) = if r.gen.toNat < s.gen.toNat then [s, r] else [r, s] := by
  refine ⟨find_two (may_put h2) (whole_put h2) ?_ hne, find_two (may_put h4) ?_ (whole_put h4) hne⟩
  · rw [whole_other h2 (slot_two _) (Ne.symm hne)]; exact whole_put h1
  · rw [whole_other h4 (slot_two _) hne]; exact whole_put h3
theorem putE_may {d : Dsk} (r : Rc) (h : may d = false) : putE d r = 8 := by unfold putE; rw [h]; rfl
end Go.Proofs.Ytefkjdkalgemeaa
