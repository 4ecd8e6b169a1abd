/-
  ConflictTells of the laws of conflicts answers true, whatever the input.
-/
import Derived.Test.YtcfkieacdjcaoaaGreatRows
import Derived.Test.YtcfkieacdjcaoaaGreatZP33
import Derived.Test.YtcfkieacdjcaoaaGreatZR10
import Derived.Test.YtcfkieacdjcaoaaGreatZVsLaw
import Derived.WalkKit
import Derived.ProofKit
import Derived.OpenShut
namespace Go.Proofs.YtcfkieacdjcaoaaGreat.conflictTells
set_option linter.unusedVariables false
set_option linter.unusedSimpArgs false
open Go Go.VS Go.ChangeShapes Go.WideShapes Go.ChangeAt Go.RowKit
theorem own : ownKnob Tryz.prog.godebug = none := by kernel_rfl
theorem laid : laidOutB Tryz.prog = true := by kernel_rfl
theorem pars : (Tryz.f3.params.toList.all fun t => Tryz.prog.readableRec t && decide (t < Tryz.prog.types.size)) = true := by kernel_rfl
theorem par (t : TypeId) (h : t ∈ Tryz.f3.params.toList) : Tryz.prog.readableRec t = true ∧ t < Tryz.prog.types.size := by
  have := List.all_eq_true.1 pars t h
  rw [Bool.and_eq_true, decide_eq_true_eq] at this
  exact this
theorem spec (H : Type) (ds : List (DataW H)) (h : ds.length = Tryz.f3.params.toList.length) : Rows.conflictTellsSpec.fn H ds = { results := [.lit (.bool true)], args := ds } := by
  match ds, h with
  | [_, _, _], _ => rfl
set_option maxRecDepth 100000 in
theorem lifted (os : Os) (started : os.Started) (H : Type) (enc : TypeId × Value → H) :
    ReturnsInHanded {} Tryz.checked os 3 .any (Rows.conflictTellsSpec.pre6 enc Tryz.prog Tryz.f3 Rows.conflictTellsRow.domain false) (Rows.conflictTellsSpec.post enc Tryz.prog Tryz.f3 false true false false) := by
  refine returnsInHanded_of_change_sized (C := Tryz.checked) own started (by kernel_rfl) Tryz.func3
    (ChangeSpec.witness6 (enc := enc) (C := Tryz.checked) false ⟨#[], #[.agg #[.int .i64 0, .int .i64 0, .slice none 0 0, .slice none 0 0, .slice none 0 0, .slice none 0 0], .int .i64 0, .int .i64 0], []⟩ 8 (by kernel_rfl) (by kernel_rfl) (by kernel_rfl) (by kernel_rfl)) ?_
  intro W base args ds gs before hval hW _ hsz _
  exact law_contract laid par (by kernel_rfl) Tryz.underlying4 rfl (show Tryz.f3.params.toList = [27, 3, 3] by kernel_rfl) (.cons Pln.arg_pl (.cons Pln.arg_i (.cons Pln.arg_i .nil))) spec (fun y _ => Pln.c_lawCTells y.1 y.2.1 y.2.2.1) hval hW hsz
theorem over : Rows.conflictTellsRow.holds Tryz.pinned (OpenSpec.ofChange Rows.conflictTellsSpec) :=
  OpenClaim.holds_of_wide 3 Tryz.f3 rfl rfl rfl rfl rfl rfl rfl ⟨rfl, rfl, rfl, rfl, rfl⟩ rfl rfl rfl rfl rfl (by kernel_rfl) Tryz.func3 (by kernel_rfl)
    (of_decide_eq_true (by kernel_rfl)) (by unfold Func.isWrapper; first | (rw [if_pos (by decide +kernel)]; kernel_rfl) | (rw [if_neg (by decide +kernel)]; exact ⟨rfl, rfl⟩))
    (fun os started H enc _ => lifted os started H enc)
theorem proved : Rows.ConflictTellsSaid := over
#print axioms proved
end Go.Proofs.YtcfkieacdjcaoaaGreat.conflictTells
