/-
  PackKeys of the packages' laws answers true, whatever the input.
-/
import Derived.Test.YtgdhnngpfieloaaRows
import Derived.Test.YtgdhnngpfieloaaZPT
import Derived.Test.YtgdhnngpfieloaaZK22
import Derived.Test.YtgdhnngpfieloaaZVsLaw
import Derived.WalkKit
import Derived.ProofKit
import Derived.OpenShut
namespace Go.Proofs.Ytgdhnngpfieloaa.packKeys
set_option linter.unusedVariables false
set_option linter.unusedSimpArgs false
open Go Go.VS Go.ChangeShapes Go.WideShapes Go.ChangeAt Go.RowKit
theorem own : ownKnob Try.prog.godebug = none := by kernel_rfl
theorem laid : laidOutB Try.prog = true := by kernel_rfl
theorem pars : (Try.f6.params.toList.all fun t => Try.prog.readableRec t && decide (t < Try.prog.types.size)) = true := by kernel_rfl
theorem par (t : TypeId) (h : t ∈ Try.f6.params.toList) : Try.prog.readableRec t = true ∧ t < Try.prog.types.size := by
  have := List.all_eq_true.1 pars t h
  rw [Bool.and_eq_true, decide_eq_true_eq] at this
  exact this
theorem spec (H : Type) (ds : List (DataW H)) (h : ds.length = Try.f6.params.toList.length) : Rows.packKeysSpec.fn H ds = { results := [.lit (.bool true)], args := ds } := by
  match ds, h with
  | [_, _, _], _ => rfl
set_option maxRecDepth 100000 in
theorem lifted (os : Os) (started : os.Started) (H : Type) (enc : TypeId × Value → H) :
    ReturnsInHanded {} Try.checked os 6 .any (Rows.packKeysSpec.pre6 enc Try.prog Try.f6 Rows.packKeysRow.domain false) (Rows.packKeysSpec.post enc Try.prog Try.f6 false true false false) := by
  refine returnsInHanded_of_change_sized (C := Try.checked) own started (by kernel_rfl) Try.func6
    (ChangeSpec.witness6 (enc := enc) (C := Try.checked) false ⟨#[], #[.slice none 0 0, .agg #[.int .i64 0, .int .i64 0, .slice none 0 0, .slice none 0 0, .slice none 0 0, .slice none 0 0], .slice none 0 0], []⟩ 8 (by kernel_rfl) (by kernel_rfl) (by kernel_rfl) (by kernel_rfl)) ?_
  intro W base args ds gs before hval hW _ hsz _
  exact law_contract laid par (by kernel_rfl) Try.underlying4 rfl (show Try.f6.params.toList = [28, 27, 28] by kernel_rfl) (.cons Pln.arg_bytes (.cons Pln.arg_pl (.cons Pln.arg_bytes .nil))) spec (fun y _ => Pln.c_lawKeys y.1 y.2.1 y.2.2.1) hval hW hsz
theorem over : Rows.packKeysRow.holds Try.pinned (OpenSpec.ofChange Rows.packKeysSpec) :=
  OpenClaim.holds_of_wide 6 Try.f6 rfl rfl rfl rfl rfl rfl rfl ⟨rfl, rfl, rfl, rfl, rfl⟩ rfl rfl rfl rfl rfl (by kernel_rfl) Try.func6 (by kernel_rfl)
    (of_decide_eq_true (by kernel_rfl)) (by unfold Func.isWrapper; first | (rw [if_pos (by decide +kernel)]; kernel_rfl) | (rw [if_neg (by decide +kernel)]; exact ⟨rfl, rfl⟩))
    (fun os started H enc _ => lifted os started H enc)
theorem proved : Rows.PackKeysSaid := over
#print axioms proved
end Go.Proofs.Ytgdhnngpfieloaa.packKeys
