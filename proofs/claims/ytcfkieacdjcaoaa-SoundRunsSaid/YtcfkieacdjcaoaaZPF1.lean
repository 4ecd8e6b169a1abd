/-
  Sections that may be, told plainly.
-/
import Derived.Test.YtcfkieacdjcaoaaZP0
namespace Go.Proofs.Ytcfkieacdjcaoaa.Pln
set_option linter.unusedVariables false
set_option linter.unusedSimpArgs false
open Go Go.VS
set_option maxHeartbeats 1000000
theorem joined_eq {l : List Sec} {s : Sec} {e : Nat} (he : e < s.ends.length) {a b : Int} (hj : s.ends[e] = (a, b)) : joined l s e = (decide (a = 0 ∧ b = 0) || match getS l a with
    | none => false
    | some t => decide (0 ≤ b) && decide (b < t.ends.length) && !(decide (a = s.id ∧ b = e)) && (t.ends.getD b.toNat (0, 0) == (s.id, (e : Int)))) := by
  unfold joined
  have : s.ends.getD e (0, 0) = (a, b) := by rw [← hj]; simp [List.getD_eq_getElem?_getD, he]
  rw [this]
  have e1 : decide ((a, b) = ((0 : Int), (0 : Int))) = decide (a = 0 ∧ b = 0) := by simp
  have e2 : ((a, b) == (s.id, (e : Int))) = decide (a = s.id ∧ b = e) := by
    rw [Bool.eq_iff_iff, beq_iff_eq, decide_eq_true_eq, Prod.mk.injEq]
  rw [e1]
  cases getS l a with
  | none => rfl
  | some t => simp only [e2]
theorem mayS_long {l : List Sec} (h : ¬ l.length ≤ 16) : mayS l = false := by unfold mayS; rw [decide_eq_false h]; rfl
theorem mayS_bad {l : List Sec} {i : Nat} (hi : i < l.length) (h : okS (l.take i) l[i] = false) : mayS l = false := by
  unfold mayS; rw [allP_false hi h]; simp
theorem mayS_unjoined {l : List Sec} {i e : Nat} (hi : i < l.length) (he : e < l[i].ends.length) (h : joined l l[i] e = false) : mayS l = false := by
  unfold mayS
  have : (l.all fun s => (List.range s.ends.length).all (joined l s)) = false := all_false hi (rall_false he h)
  rw [this]; simp
theorem mayS_good {l : List Sec} (h1 : l.length ≤ 16) (h2 : ∀ i (hi : i < l.length), okS (l.take i) l[i] = true) (h3 : ∀ i (hi : i < l.length) e, e < l[i].ends.length → joined l l[i] e = true) : mayS l = true := by
  unfold mayS
  have : (l.all fun s => (List.range s.ends.length).all (joined l s)) = true := all_true fun i hi => rall_true (h3 i hi)
  rw [decide_eq_true h1, allP_true h2, this]; rfl
theorem okS_iff {pre : List Sec} {s : Sec} : okS pre s = true ↔ numb s.id = true ∧ shaped s = true ∧ (∀ k, k ∈ pre → k.id < s.id) ∧ (s.pt = 0 ∨ ∀ k, k ∈ pre → k.pt ≠ s.pt) := by
  simp [okS, and_assoc]
theorem okS_take {l : List Sec} {i : Nat} (hi : i < l.length) : okS (l.take i) l[i] = true ↔ numb l[i].id = true ∧ shaped l[i] = true ∧ ∀ j (hj : j < i), (l[j]'(by omega)).id < l[i].id ∧ (l[i].pt = 0 ∨ (l[j]'(by omega)).pt ≠ l[i].pt) := by
  rw [okS_iff]
  constructor
  · rintro ⟨h1, h2, h3, h4⟩
    refine ⟨h1, h2, fun j hj => ⟨h3 _ (mem_take_of hj (by omega)), h4.imp id fun h => h _ (mem_take_of hj (by omega))⟩⟩
  · rintro ⟨h1, h2, h3⟩
    refine ⟨h1, h2, fun k hk => ?_, ?_⟩
    · rw [List.mem_take_iff_getElem] at hk
      obtain ⟨j, hj, rfl⟩ := hk
      exact (h3 j (by omega)).1
    · by_cases h0 : l[i].pt = 0
      · exact .inl h0
      · refine .inr fun k hk => ?_
        rw [List.mem_take_iff_getElem] at hk
        obtain ⟨j, hj, rfl⟩ := hk
        exact (h3 j (by omega)).2.resolve_left h0
theorem okS_not {l : List Sec} {i j : Nat} (hi : i < l.length) (hj : j < i) (h : ¬ ((l[j]'(by omega)).id < l[i].id ∧ (l[i].pt = 0 ∨ (l[j]'(by omega)).pt ≠ l[i].pt))) : okS (l.take i) l[i] = false := by
  rw [Bool.eq_false_iff]; intro h'; exact h ((okS_take hi).1 h' |>.2.2 j hj)
def findD (l : List Sec) (b : Int) : Sec := if mayS l then (getS l b).getD noSec else noSec
def findE (l : List Sec) (b : Int) : Int := if mayS l then (if (getS l b).isSome then 0 else 6) else 8
def nextD (l : List Sec) (b e : Int) : Int × Int := if findE l b = 0 ∧ 0 ≤ e then (findD l b).ends.getD e.toNat (0, 0) else (0, 0)
def nextE (l : List Sec) (b e : Int) : Int := if findE l b = 0 then (if 0 ≤ e ∧ e < (findD l b).ends.length then 0 else 2) else findE l b
end Go.Proofs.Ytcfkieacdjcaoaa.Pln
