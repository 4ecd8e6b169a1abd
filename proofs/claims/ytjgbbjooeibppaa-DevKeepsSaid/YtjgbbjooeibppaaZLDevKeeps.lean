/-
 DevKeeps of the card's laws answers true, whatever the input.
-/
import Derived.Test.YtjgbbjooeibppaaRows
import Derived.Test.YtjgbbjooeibppaaZDLaw0
import Derived.Test.YtjgbbjooeibppaaZFLaw0
import Derived.Test.YtjgbbjooeibppaaZF6
import Derived.Test.YtjgbbjooeibppaaZVsLaw
import Derived.WalkKit
import Derived.ProofKit
import Derived.OpenShut
namespace Go.Proofs.Ytjgbbjooeibppaa.devKeeps
set_option linter.unusedVariables false
set_option linter.unusedSimpArgs false
open Go Go.VS Go.ChangeShapes Go.WideShapes Go.ChangeAt Go.RowKit
theorem own : ownKnob Try.prog.godebug = none := by kernel_rfl
theorem laid : laidOutB Try.prog = true := by kernel_rfl
theorem pars : (Try.f4.params.toList.all fun t => Try.prog.readableRec t && decide (t < Try.prog.types.size)) = true := by kernel_rfl
theorem par (t : TypeId) (h : t ∈ Try.f4.params.toList) : Try.prog.readableRec t = true ∧ t < Try.prog.types.size := by
 have := List.all_eq_true.1 pars t h
 rw [Bool.and_eq_true, decide_eq_true_eq] at this
 exact this
theorem spec (H : Type) (ds : List (DataW H)) (h : ds.length = Try.f4.params.toList.length) : Rows.devKeepsSpec.fn H ds = { results := [.lit (.bool true)], args := ds } := by
 match ds, h with
 | [_, _, _, _], _ => rfl
set_option maxRecDepth 100000 in
theorem lifted (os : Os) (started : os.Started) (H : Type) (enc : TypeId × Value → H) :
  ReturnsInHanded {} Try.checked os 4 .any (Rows.devKeepsSpec.pre6 enc Try.prog Try.f4 Rows.devKeepsRow.domain false) (Rows.devKeepsSpec.post enc Try.prog Try.f4 false true false false) := by
 refine returnsInHanded_of_change_sized (C := Try.checked) own started (by kernel_rfl) Try.func4
  (ChangeSpec.witness6 (enc := enc) (C := Try.checked) false ⟨#[], #[.agg #[.slice none 0 0, .slice none 0 0], .agg #[.slice none 0 0, .slice none 0 0], .int .i64 0, .slice none 0 0], []⟩ 8 (by kernel_rfl) (by kernel_rfl) (by kernel_rfl) (by kernel_rfl)) ?_
 intro W base args ds gs before hval hW _ hsz _
 exact Tx laid par (by kernel_rfl) Try.underlying4 rfl (show Try.f4.params.toList = [43, 43, 3, 44] by kernel_rfl) (.cons Xlf (.cons Xlf (.cons Xny (.cons Hs .nil)))) spec (fun y hy => Xlp y.1 y.2.1 y.2.2.1 y.2.2.2.1 hy.1.1 hy.2.1.1 hy.1.2 hy.2.1.2 hy.2.2.2.1) hval hW hsz
theorem over : Rows.devKeepsRow.holds Try.pinned (OpenSpec.ofChange Rows.devKeepsSpec) :=
 OpenClaim.holds_of_wide 4 Try.f4 rfl rfl rfl rfl rfl rfl rfl ⟨rfl, rfl, rfl, rfl, rfl⟩ rfl rfl rfl rfl rfl (by kernel_rfl) Try.func4 (by kernel_rfl)
  (of_decide_eq_true (by kernel_rfl)) (by unfold Func.isWrapper; first | (rw [if_pos (by decide +kernel)]; kernel_rfl) | (rw [if_neg (by decide +kernel)]; exact ⟨rfl, rfl⟩))
  (fun os started H enc _ => lifted os started H enc)
theorem proved : Rows.DevKeepsSaid := over
#print axioms proved
end Go.Proofs.Ytjgbbjooeibppaa.devKeeps
