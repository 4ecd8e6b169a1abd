/- The layer of abstract values, joined. -/
import Derived.Test.YtjgbbjooeibppaaZLaSlotDoes
import Derived.Test.YtjgbbjooeibppaaRows
import Derived.WalkKit
import Derived.ProofKit
import Derived.OpenShut
namespace Go.Proofs.Ytjgbbjooeibppaa.slotDoes
set_option linter.unusedVariables false
set_option linter.unusedSimpArgs false
open Go Go.VS Go.ChangeShapes Go.WideShapes Go.ChangeAt Go.RowKit
theorem over:Rows.slotDoesRow.holds Try.pinned (OpenSpec.ofChange Rows.slotDoesSpec):=
 OpenClaim.holds_of_wide 5 Try.f5 rfl rfl rfl rfl rfl rfl rfl ⟨rfl,rfl,rfl,rfl,rfl⟩ rfl rfl rfl rfl rfl (by kernel_rfl) Try.func5 closed
  (of_decide_eq_true (by kernel_rfl)) (by unfold Func.isWrapper;first|(rw[if_pos (by decide+kernel)];kernel_rfl)|(rw[if_neg (by decide+kernel)];exact⟨rfl,rfl⟩))
  (fun os started H enc _=>lifted os started H enc)
theorem proved:Rows.SlotDoesSaid:=over
#print axioms proved
end Go.Proofs.Ytjgbbjooeibppaa.slotDoes
