/-
 The law DevReads.
-/
import Derived.Test.YtjgbbjooeibppaaZD15
import Derived.Test.YtjgbbjooeibppaaZD24
namespace Go.Proofs.Ytjgbbjooeibppaa
set_option linter.unusedVariables false
set_option linter.unusedSimpArgs false
open Go Go.VS Tab
set_option maxHeartbeats 2000000
set_option maxRecDepth 4000
theorem Xi1 : Small Xhm := ⟨by decide, by decide, fun b hb => by simp [Xhm] at hb, fun w hw => by simp [Xhm] at hw⟩
theorem Xkb {d : Dsk} {at' : Int} {b : List UInt8} (hd : Small d) (hb : b.length ≤ 1000000) : Small (Xhr d at' b) := by
 unfold Xhr
 by_cases h : Xbb d at' b = 0
 ·rw [if_pos h]
  obtain ⟨hm, _, _, _⟩ : may d = true ∧ True ∧ True ∧ True := by
   refine ⟨?_, trivial, trivial, trivial⟩
   unfold Xbb at h
   by_cases hm : may d = true
   ·exact hm
   ·rw [if_neg hm] at h; omega
  have h2 := ((Xho d).1 hm).2.1
  refine ⟨hd.s, ?_, hd.sb, fun w hw => ?_⟩
  ·show (d.waits ++ _).length ≤ 1000
   rw [List.length_append]; simp; omega
  ·rcases List.mem_append.1 hw with h1 | h1
   ·exact hd.wb w h1
   ·simp at h1; subst h1; exact hb
 ·rw [if_neg h]; exact Xi1
theorem Xku {d : Dsk} (hd : Small d) : Small (Xic d) := by
 unfold Xic
 by_cases hm : may d = true
 ·rw [if_pos hm]
  obtain ⟨d1, d2, d3, d4⟩ := (Xho d).1 hm
  refine ⟨?_, by simp [Xhe], fun b hb => ?_, fun w hw => by simp [Xhe] at hw⟩
  ·show (A0 Xhc d d.waits.length).length ≤ 1000
   rw [Xh8]; exact hd.s
  ·have := Xhb hm (kp := Xhc) (fun i _ => by simp [Xhc]) _ b hb; omega
 ·rw [if_neg hm]; exact Xi1
end Go.Proofs.Ytjgbbjooeibppaa
