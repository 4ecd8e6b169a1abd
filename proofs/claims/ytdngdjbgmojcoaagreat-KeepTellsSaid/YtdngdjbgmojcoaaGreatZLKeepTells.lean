/- The layer of abstract values, joined. -/
import Derived.Test.YtdngdjbgmojcoaaGreatZLaKeepTells
import Derived.Test.YtdngdjbgmojcoaaGreatRows
import Derived.WalkKit
import Derived.ProofKit
import Derived.OpenShut
namespace Go.Proofs.YtdngdjbgmojcoaaGreat.keepTells
set_option linter.all false
open Go Go.VS Go.ChangeShapes Go.WideShapes Go.ChangeAt Go.RowKit
theorem over:Rows.keepTellsRow.holds Tryz.pinned (OpenSpec.ofChange Rows.keepTellsSpec):=
 OpenClaim.holds_of_wide 3 Tryz.f3 rfl rfl rfl rfl rfl rfl rfl ⟨rfl,rfl,rfl,rfl,rfl⟩ rfl rfl rfl rfl rfl (by kernel_rfl) Tryz.func3 closed
  (bf (by kernel_rfl)) (by unfold Func.isWrapper;first|(rw[if_pos (by decide+kernel)];kernel_rfl)|(rw[if_neg (by decide+kernel)];exact⟨rfl,rfl⟩))
  (fun os started H enc _=>lifted os started H enc)
theorem proved:Rows.KeepTellsSaid:=over
#print axioms proved
end Go.Proofs.YtdngdjbgmojcoaaGreat.keepTells
