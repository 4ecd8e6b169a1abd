/-
  Plain: what is found behind records that are put.
-/
import Derived.Test.YtefkjdkalgemeaaZE2
namespace Go.Proofs.Ytefkjdkalgemeaa
set_option linter.unusedVariables false
set_option linter.unusedSimpArgs false
open Go Go.VS Tab
set_option maxHeartbeats 1000000
theorem gen_ne {a b : BitVec 32} (h : slotN a ≠ slotN b) : a.toNat ≠ b.toNat := fun e => h (by unfold slotN; rw [e])
theorem sort_two (a b : Rc) : sortR (some a) (some b) = if a.gen.toNat < b.gen.toNat then [b, a] else [a, b] := rfl
theorem find_eq {d : Dsk} (hd : may d = true) : findL d = sortR (wholeB d 0) (wholeB d 16) := by unfold findL; rw [if_pos hd]
theorem find_sorted {d : Dsk} (hd : may d = true) {a b : Rc} (h : findL d = [a, b]) : b.gen.toNat < a.gen.toNat ∧ slotN a.gen ≠ slotN b.gen := by
  rw [find_eq hd] at h
  cases h0 : wholeB d 0 with
  | none => rw [h0] at h; cases h1 : wholeB d 16 <;> rw [h1] at h <;> simp [sortR] at h
  | some x =>
    cases h1 : wholeB d 16 with
    | none => rw [h0, h1] at h; simp [sortR] at h
    | some y =>
      rw [h0, h1] at h
      have e0 := whole_slot hd (.inl rfl) h0
      have e1 := whole_slot hd (.inr rfl) h1
      have hne := gen_ne (a := x.gen) (b := y.gen) (by omega)
      rw [sort_two] at h
      split at h
      · injection h with p q
        injection q with q _
        subst p; subst q
        exact ⟨by assumption, by omega⟩
      · injection h with p q
        injection q with q _
        subst p; subst q
        exact ⟨by omega, by omega⟩
theorem put_found {d : Dsk} {r : Rc} (h : putE d r = 0) : r ∈ findL (putD d r) := (mem_find (may_put h)).2 (whole_put h)
theorem putE_may {d : Dsk} (r : Rc) (h : may d = false) : putE d r = 8 := by unfold putE; rw [h]; rfl
theorem put_first {d : Dsk} {r : Rc} (h : putE d r = 0) {a : Rc} {l : List Rc} (e : findL (putD d r) = a :: l) : a.gen = r.gen ∨ r.gen.toNat < a.gen.toNat ∧ slotN a.gen ≠ slotN r.gen := by
  have hm := put_found h
  rw [e] at hm
  rcases List.mem_cons.1 hm with h1 | h1
  · exact .inl (by rw [h1])
  · have hl := find_len (putD d r)
    rw [e] at hl
    match l, h1, hl with
    | [b], h1, _ =>
      have : r = b := by simpa using h1
      subst this
      obtain ⟨p, q⟩ := find_sorted (may_put h) e
      exact .inr ⟨p, q⟩
theorem put_some {d : Dsk} {r : Rc} (h : putE d r = 0) : 0 < (findL (putD d r)).length := List.length_pos_of_mem (put_found h)
end Go.Proofs.Ytefkjdkalgemeaa
