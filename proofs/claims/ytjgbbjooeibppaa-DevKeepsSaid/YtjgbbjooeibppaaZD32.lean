/-
 The law DevTears.
-/
import Derived.Test.YtjgbbjooeibppaaZD29
import Derived.Test.YtjgbbjooeibppaaZGA
import Derived.Test.YtjgbbjooeibppaaZD28
import Derived.Test.YtjgbbjooeibppaaZD22
import Derived.Test.YtjgbbjooeibppaaZVsBox
import Derived.Test.YtjgbbjooeibppaaZD26
import Derived.Test.YtjgbbjooeibppaaZD25
namespace Go.Proofs.Ytjgbbjooeibppaa
set_option linter.unusedVariables false
set_option linter.unusedSimpArgs false
open Go Go.VS Tab
set_option maxHeartbeats 4000000
set_option maxRecDepth 4000
theorem Xkd {d : Dsk} {a b : Int} {x : UInt8} (hd : Small d) : Small (Xhg d a b x) := by
 unfold Xhg
 split
 ·rename_i hE
  obtain ⟨hm, ⟨ha1, ha2⟩, hb1, hb2⟩ := Xjx.1 hE
  obtain ⟨h32, hw, hs, _⟩ := (Xho d).1 hm
  refine ⟨by show (Xlk _ _ _ _).length ≤ _; unfold Xlk; rw [List.length_set]; exact hd.s, hd.w, fun r hr => ?_, hd.wb⟩
  unfold Xlk at hr
  rcases List.mem_or_eq_of_mem_set hr with h | h
  ·exact hd.sb r h
  ·rw [h, Xip]
   have hz : a.toNat < d.sectors.length := by omega
   have : d.sectors.getD a.toNat [] = d.sectors[a.toNat] := by simp [List.getD_eq_getElem?_getD, hz]
   rw [this]; exact hd.sb _ (List.getElem_mem hz)
 ·exact Xi1
theorem Xke {d : Dsk} {kp : List Int} (hd : Small d) : Small (Xhq d kp) := by
 unfold Xhq
 split
 ·rename_i hE
  have hm : may d = true := by
   unfold Xhs at hE
   cases h : may d with
   | true => rfl
   | false => rw [h] at hE; simp at hE
  have hk : ∀ i, i < d.waits.length → (kp.getD i 0).toNat ≤ 128 := by
   unfold Xhs at hE
   rw [if_pos hm] at hE
   by_cases hl : kp.length = d.waits.length
   ·rw [if_pos hl] at hE
    by_cases ha : (kp.all fun x => decide (0 ≤ x) && decide (x < 129)) = true
    ·intro i hi
     have hi' : i < kp.length := by omega
     have h5 := List.all_eq_true.1 ha _ (List.getElem_mem hi')
     simp only [Bool.and_eq_true, decide_eq_true_eq] at h5
     have : kp.getD i 0 = kp[i] := by simp [List.getD_eq_getElem?_getD, hi']
     rw [this]; omega
    ·rw [if_neg ha] at hE; exact absurd hE (by decide)
   ·rw [if_neg hl] at hE; exact absurd hE (by decide)
  refine ⟨?_, Nat.zero_le _, fun b hb => ?_, fun w hw => by cases hw⟩
  ·show (A0 _ _ _).length ≤ _
   rw [Xh8]; exact hd.s
  ·have := Xhb hm hk _ b hb; omega
 ·exact Xi1
end Go.Proofs.Ytjgbbjooeibppaa
