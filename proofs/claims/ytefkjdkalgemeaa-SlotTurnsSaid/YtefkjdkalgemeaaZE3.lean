/-
  Plain: what is found behind records that are put.
-/
import Derived.Test.YtefkjdkalgemeaaZE2
namespace Go.Proofs.Ytefkjdkalgemeaa
set_option linter.unusedVariables false
set_option linter.unusedSimpArgs false
open Go Go.VS Tab
set_option maxHeartbeats 1000000
def sameR (a b : Rc) : Bool := a.gen == b.gen && a.text == b.text
theorem sameR_iff (a b : Rc) : sameR a b = true ↔ a = b := by
  unfold sameR
  cases a; cases b
  simp
def amongR (l : List Rc) (r : Rc) : Bool := l.any fun x => sameR x r
theorem among_iff (l : List Rc) (r : Rc) : amongR l r = true ↔ r ∈ l := by
  unfold amongR
  rw [List.any_eq_true]
  constructor
  · rintro ⟨x, hx, h⟩
    rw [sameR_iff] at h
    exact h ▸ hx
  · intro h
    exact ⟨r, h, (sameR_iff _ _).2 rfl⟩
theorem gen_ne {a b : BitVec 32} (h : slotN a ≠ slotN b) : a.toNat ≠ b.toNat := fun e => h (by unfold slotN; rw [e])
theorem sort_two (a b : Rc) : sortR (some a) (some b) = if a.gen.toNat < b.gen.toNat then [b, a] else [a, b] := rfl
theorem find_eq {d : Dsk} (hd : may d = true) : findL d = sortR (wholeB d 0) (wholeB d 16) := by unfold findL; rw [if_pos hd]
theorem find_two {d : Dsk} (hd : may d = true) {r s : Rc} (hr : wholeB d (slotN r.gen) = some r) (hs : wholeB d (slotN s.gen) = some s) (hne : slotN r.gen ≠ slotN s.gen) :
    findL d = if r.gen.toNat < s.gen.toNat then [s, r] else [r, s] := by
  rw [find_eq hd]
  have hg := gen_ne hne
  rcases slot_two r.gen with e | e <;> rcases slot_two s.gen with f | f
  · omega
  · rw [e] at hr; rw [f] at hs; rw [hr, hs]; rfl
  · rw [e] at hr; rw [f] at hs; rw [hr, hs]
    rw [sort_two]
    by_cases h : r.gen.toNat < s.gen.toNat
    · rw [if_pos h, if_neg (by omega)]
    · rw [if_neg h, if_pos (by omega)]
  · omega
theorem putE_may {d : Dsk} (r : Rc) (h : may d = false) : putE d r = 8 := by unfold putE; rw [h]; rfl
theorem whole_same {d t : Dsk} {s : Nat} (h : ∀ i, i < 16 → readB t ((s + i : Nat) : Int) = readB d ((s + i : Nat) : Int)) : wholeB t s = wholeB d s := by
  unfold wholeB
  congr 1
  unfold seenB
  exact List.map_congr_left fun i hi => h i (List.mem_range.1 hi)
end Go.Proofs.Ytefkjdkalgemeaa
