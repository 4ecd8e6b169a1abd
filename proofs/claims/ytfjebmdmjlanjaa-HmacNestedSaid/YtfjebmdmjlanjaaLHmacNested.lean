/-
  HmacNested of the tags' laws answers true, whatever the input.
-/
import Derived.Test.YtfjebmdmjlanjaaRows
import Derived.Test.YtfjebmdmjlanjaaS22
import Derived.Test.YtfjebmdmjlanjaaVsLaw
import Derived.WalkKit
import Derived.ProofKit
import Derived.OpenShut
namespace Go.Proofs.Ytfjebmdmjlanjaa.hmacNested
open Go Go.VS Go.ChangeShapes Go.WideShapes Go.ChangeAt Go.RowKit

theorem own : ownKnob Try.prog.godebug = none := by kernel_rfl
theorem laid : laidOutB Try.prog = true := by kernel_rfl
theorem pars : (Try.f7.params.toList.all fun t => Try.prog.readableRec t && decide (t < Try.prog.types.size)) = true := by kernel_rfl
theorem par (t : TypeId) (h : t ∈ Try.f7.params.toList) : Try.prog.readableRec t = true ∧ t < Try.prog.types.size := by
  have := List.all_eq_true.1 pars t h
  rw [Bool.and_eq_true, decide_eq_true_eq] at this
  exact this

theorem spec (H : Type) (ds : List (DataW H)) (h : ds.length = Try.f7.params.toList.length) : Rows.hmacNestedSpec.fn H ds = { results := [.lit (.bool true)], args := ds } := by
  match ds, h with
  | [_, _, _], _ => rfl

set_option maxRecDepth 100000 in
theorem lifted (os : Os) (started : os.Started) (H : Type) (enc : TypeId × Value → H) :
    ReturnsInHanded {} Try.checked os 7 .any (Rows.hmacNestedSpec.pre6 enc Try.prog Try.f7 Rows.hmacNestedRow.domain false) (Rows.hmacNestedSpec.post enc Try.prog Try.f7 false true false false) := by
  refine returnsInHanded_of_change (C := Try.checked) own started (by kernel_rfl) Try.func7
    (ChangeSpec.witness6 (enc := enc) (C := Try.checked) false ⟨#[], #[.slice none 0 0, .slice none 0 0, .slice none 0 0], []⟩ 8 (by kernel_rfl) (by kernel_rfl) (by kernel_rfl) (by kernel_rfl)) ?_
  intro W base args ds gs before hval hW _ _
  exact law_contract (deep := false) laid par (by kernel_rfl) Try.underlying4 rfl (show Try.f7.params.toList = [25, 25, 25] by kernel_rfl) (.cons (bytes_arg Try.underlying25 Try.underlying5 (by kernel_rfl)) (.cons (bytes_arg Try.underlying25 Try.underlying5 (by kernel_rfl)) (.cons (bytes_arg Try.underlying25 Try.underlying5 (by kernel_rfl)) .nil))) spec (fun y hy => c_hmacNested y.1.1 y.2.1.1 y.2.2.1.1 y.1.2 y.2.1.2 y.2.2.1.2 hy.1.1 hy.2.1.1 hy.2.2.1.1) (fun h => by cases h) hval hW

theorem over : Rows.hmacNestedRow.holds Try.pinned (OpenSpec.ofChange Rows.hmacNestedSpec) :=
  OpenClaim.holds_of_wide 7 Try.f7 rfl rfl rfl rfl rfl rfl rfl ⟨rfl, rfl, rfl, rfl, rfl⟩ rfl rfl rfl rfl rfl (by kernel_rfl) Try.func7 (by kernel_rfl)
    (of_decide_eq_true (by kernel_rfl)) (by unfold Func.isWrapper; first | (rw [if_pos (by decide +kernel)]; kernel_rfl) | (rw [if_neg (by decide +kernel)]; exact ⟨rfl, rfl⟩))
    (fun os started H enc _ => lifted os started H enc)

theorem proved : Rows.HmacNestedSaid := over
#print axioms proved
end Go.Proofs.Ytfjebmdmjlanjaa.hmacNested
