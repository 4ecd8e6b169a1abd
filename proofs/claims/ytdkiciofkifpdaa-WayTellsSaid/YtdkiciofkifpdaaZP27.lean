/-
  The law PlanTells.
-/
import Derived.Test.YtdkiciofkifpdaaZGA
import Derived.Test.YtdkiciofkifpdaaZP26
import Derived.Test.YtdkiciofkifpdaaZW12
import Derived.Test.YtdkiciofkifpdaaZW5
import Derived.Test.YtdkiciofkifpdaaZPQ
namespace Go.Proofs.Ytdkiciofkifpdaa.Pln
set_option linter.unusedVariables false
set_option linter.unusedSimpArgs false
open Go Go.VS Tab
set_option maxHeartbeats 8000000
set_option maxRecDepth 4000
def incL (l : List Int) (i : Nat) : List Int := (l.take i).map (fun x => IntKind.i64.wrap (x + 1)) ++ l.drop i
theorem incL_zero (l : List Int) : incL l 0 = l := rfl
theorem incL_len (l : List Int) (i : Nat) : (incL l i).length = l.length := by unfold incL; simp; omega
theorem incL_at (l : List Int) (i : Nat) (h : i < l.length) : (incL l i)[i]'(by rw [incL_len]; exact h) = l[i] := by
  unfold incL
  rw [List.getElem_append_right (by simp; omega)]
  simp [Nat.min_eq_left (Nat.le_of_lt h)]
theorem incL_set (l : List Int) (i : Nat) (h : i < l.length) : (incL l i).set i (IntKind.i64.wrap (l[i] + 1)) = incL l (i + 1) := by
  unfold incL
  have e : ((l.take i).map fun x => IntKind.i64.wrap (x + 1)).length = i := by simp; omega
  rw [List.take_succ_eq_append_getElem h, List.map_append, List.drop_eq_getElem_cons h, List.set_append_right _ _ (by omega), e, Nat.sub_self, List.set_cons_zero, List.append_assoc]
  rfl
end Go.Proofs.Ytdkiciofkifpdaa.Pln
