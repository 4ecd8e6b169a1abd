/- The layer of abstract values, joined. -/
import Derived.Test.YtgpdghbmiihfbaaGreatZLaBootNames
import Derived.Test.YtgpdghbmiihfbaaGreatRows
import Derived.WalkKit
import Derived.ProofKit
import Derived.OpenShut
namespace Go.Proofs.YtgpdghbmiihfbaaGreat.bootNames
set_option linter.all false
open Go Go.VS Go.ChangeShapes Go.WideShapes Go.ChangeAt Go.RowKit
theorem over:Rows.bootNamesRow.holds Tryz.pinned (OpenSpec.ofChange Rows.bootNamesSpec):=
 OpenClaim.holds_of_wide 4 Tryz.f4 rfl rfl rfl rfl rfl rfl rfl ⟨rfl,rfl,rfl,rfl,rfl⟩ rfl rfl rfl rfl rfl (by kernel_rfl) Tryz.func4 closed
  (au (by kernel_rfl)) (by unfold Func.isWrapper;first|(rw[if_pos (by decide+kernel)];kernel_rfl)|(rw[if_neg (by decide+kernel)];exact⟨rfl,rfl⟩))
  (fun os started H enc _=>lifted os started H enc)
theorem proved:Rows.BootNamesSaid:=over
#print axioms proved
end Go.Proofs.YtgpdghbmiihfbaaGreat.bootNames
