/-
  ShaTells of the hash's laws answers true, whatever the input.
-/
import Derived.Test.YtfjebmdmjlanjaaRows
import Derived.Test.YtfjebmdmjlanjaaS24
import Derived.Test.YtfjebmdmjlanjaaVsLaw
import Derived.WalkKit
import Derived.ProofKit
import Derived.OpenShut
namespace Go.Proofs.Ytfjebmdmjlanjaa.shaTells
open Go Go.VS Go.ChangeShapes Go.WideShapes Go.ChangeAt Go.RowKit

theorem own : ownKnob Try.prog.godebug = none := by kernel_rfl
theorem laid : laidOutB Try.prog = true := by kernel_rfl
theorem pars : (Try.f4.params.toList.all fun t => Try.prog.readableRec t && decide (t < Try.prog.types.size)) = true := by kernel_rfl
theorem par (t : TypeId) (h : t ∈ Try.f4.params.toList) : Try.prog.readableRec t = true ∧ t < Try.prog.types.size := by
  have := List.all_eq_true.1 pars t h
  rw [Bool.and_eq_true, decide_eq_true_eq] at this
  exact this

theorem spec (H : Type) (ds : List (DataW H)) (h : ds.length = Try.f4.params.toList.length) : Rows.shaTellsSpec.fn H ds = { results := [.lit (.bool true)], args := ds } := by
  match ds, h with
  | [_, _, _], _ => rfl

set_option maxRecDepth 100000 in
theorem lifted (os : Os) (started : os.Started) (H : Type) (enc : TypeId × Value → H) :
    ReturnsInHanded {} Try.checked os 4 .any (Rows.shaTellsSpec.pre6 enc Try.prog Try.f4 Rows.shaTellsRow.domain false) (Rows.shaTellsSpec.post enc Try.prog Try.f4 false true false false) := by
  refine returnsInHanded_of_change (C := Try.checked) own started (by kernel_rfl) Try.func4
    (ChangeSpec.witness6 (enc := enc) (C := Try.checked) false ⟨#[], #[.agg (Array.replicate 8 (.int .u32 0)), .agg (Array.replicate 64 (.int .u8 0)), .slice none 0 0], []⟩ 8 (by kernel_rfl) (by kernel_rfl) (by kernel_rfl) (by kernel_rfl)) ?_
  intro W base args ds gs before hval hW _ _
  exact law_contract (deep := false) laid par (by kernel_rfl) Try.underlying4 rfl (show Try.f4.params.toList = [28, 29, 25] by kernel_rfl) (.cons (u32s_arg Try.underlying28 Try.underlying27 (by kernel_rfl) (by kernel_rfl)) (.cons (u8s_arg Try.underlying29 Try.underlying5 (by kernel_rfl) (by kernel_rfl)) (.cons (bytes_arg Try.underlying25 Try.underlying5 (by kernel_rfl)) .nil))) spec (fun y hy => by
    obtain ⟨l, blk, s, u⟩ := y
    obtain ⟨v, rfl⟩ := v8_of l hy.1
    exact c_lawTells v blk s.1 s.2 hy.2.2.1.1 hy.2.1) (fun h => by cases h) hval hW

theorem over : Rows.shaTellsRow.holds Try.pinned (OpenSpec.ofChange Rows.shaTellsSpec) :=
  OpenClaim.holds_of_wide 4 Try.f4 rfl rfl rfl rfl rfl rfl rfl ⟨rfl, rfl, rfl, rfl, rfl⟩ rfl rfl rfl rfl rfl (by kernel_rfl) Try.func4 (by kernel_rfl)
    (of_decide_eq_true (by kernel_rfl)) (by unfold Func.isWrapper; first | (rw [if_pos (by decide +kernel)]; kernel_rfl) | (rw [if_neg (by decide +kernel)]; exact ⟨rfl, rfl⟩))
    (fun os started H enc _ => lifted os started H enc)

theorem proved : Rows.ShaTellsSaid := over
#print axioms proved
end Go.Proofs.Ytfjebmdmjlanjaa.shaTells
