/-
  Plain: what is found behind records that are put.
-/
import Derived.Test.YtefkjdkalgemeaaZE2
namespace Go.Proofs.Ytefkjdkalgemeaa
set_option linter.unusedVariables false
set_option linter.unusedSimpArgs false
open Go Go.VS Tab
set_option maxHeartbeats 1000000
theorem sort_two (a b : Rc) : sortR (some a) (some b) = if a.gen.toNat < b.gen.toNat then [b, a] else [a, b] := rfl
theorem find_eq {d : Dsk} (hd : may d = true) : findL d = sortR (wholeB d 0) (wholeB d 16) := by unfold findL; rw [if_pos hd]
theorem putE_may {d : Dsk} (r : Rc) (h : may d = false) : putE d r = 8 := by unfold putE; rw [h]; rfl
end Go.Proofs.Ytefkjdkalgemeaa
