/-
  PackNames of the packages' laws answers true, whatever the input.
-/
import Derived.Test.YtgdhnngpfieloaaRows
import Derived.Test.YtgdhnngpfieloaaZK25
import Derived.Test.YtgdhnngpfieloaaZVsLaw
import Derived.WalkKit
import Derived.ProofKit
import Derived.OpenShut
namespace Go.Proofs.Ytgdhnngpfieloaa.packNames
set_option linter.unusedVariables false
set_option linter.unusedSimpArgs false
open Go Go.VS Go.ChangeShapes Go.WideShapes Go.ChangeAt Go.RowKit
theorem own : ownKnob Try.prog.godebug = none := by kernel_rfl
theorem laid : laidOutB Try.prog = true := by kernel_rfl
theorem pars : (Try.f4.params.toList.all fun t => Try.prog.readableRec t && decide (t < Try.prog.types.size)) = true := by kernel_rfl
theorem par (t : TypeId) (h : t ∈ Try.f4.params.toList) : Try.prog.readableRec t = true ∧ t < Try.prog.types.size := by
  have := List.all_eq_true.1 pars t h
  rw [Bool.and_eq_true, decide_eq_true_eq] at this
  exact this
theorem spec (H : Type) (ds : List (DataW H)) (h : ds.length = Try.f4.params.toList.length) : Rows.packNamesSpec.fn H ds = { results := [.lit (.bool true)], args := ds } := by
  match ds, h with
  | [], _ => rfl
set_option maxRecDepth 100000 in
theorem lifted (os : Os) (started : os.Started) (H : Type) (enc : TypeId × Value → H) :
    ReturnsInHanded {} Try.checked os 4 .any (Rows.packNamesSpec.pre6 enc Try.prog Try.f4 Rows.packNamesRow.domain false) (Rows.packNamesSpec.post enc Try.prog Try.f4 false true false false) := by
  refine returnsInHanded_of_change_sized (C := Try.checked) own started (by kernel_rfl) Try.func4
    (ChangeSpec.witness6 (enc := enc) (C := Try.checked) false ⟨#[], #[], []⟩ 8 (by kernel_rfl) (by kernel_rfl) (by kernel_rfl) (by kernel_rfl)) ?_
  intro W base args ds gs before hval hW _ hsz _
  exact law_contract laid par (by kernel_rfl) Try.underlying4 rfl (show Try.f4.params.toList = [] by kernel_rfl) (.nil) spec (fun _ _ => Pln.c_lawPNames12) hval hW hsz
theorem over : Rows.packNamesRow.holds Try.pinned (OpenSpec.ofChange Rows.packNamesSpec) :=
  OpenClaim.holds_of_wide 4 Try.f4 rfl rfl rfl rfl rfl rfl rfl ⟨rfl, rfl, rfl, rfl, rfl⟩ rfl rfl rfl rfl rfl (by kernel_rfl) Try.func4 (by kernel_rfl)
    (of_decide_eq_true (by kernel_rfl)) (by unfold Func.isWrapper; first | (rw [if_pos (by decide +kernel)]; kernel_rfl) | (rw [if_neg (by decide +kernel)]; exact ⟨rfl, rfl⟩))
    (fun os started H enc _ => lifted os started H enc)
theorem proved : Rows.PackNamesSaid := over
#print axioms proved
end Go.Proofs.Ytgdhnngpfieloaa.packNames
