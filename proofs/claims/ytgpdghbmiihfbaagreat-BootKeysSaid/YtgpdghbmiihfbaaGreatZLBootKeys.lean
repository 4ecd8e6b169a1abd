/- The layer of abstract values, joined. -/
import Derived.Test.YtgpdghbmiihfbaaGreatZLaBootKeys
import Derived.Test.YtgpdghbmiihfbaaGreatRows
import Derived.WalkKit
import Derived.ProofKit
import Derived.OpenShut
namespace Go.Proofs.YtgpdghbmiihfbaaGreat.bootKeys
set_option linter.all false
open Go Go.VS Go.ChangeShapes Go.WideShapes Go.ChangeAt Go.RowKit
theorem over:Rows.bootKeysRow.holds Tryz.pinned (OpenSpec.ofChange Rows.bootKeysSpec):=
 OpenClaim.holds_of_wide 6 Tryz.f6 rfl rfl rfl rfl rfl rfl rfl ⟨rfl,rfl,rfl,rfl,rfl⟩ rfl rfl rfl rfl rfl (by kernel_rfl) Tryz.func6 closed
  (au (by kernel_rfl)) (by unfold Func.isWrapper;first|(rw[if_pos (by decide+kernel)];kernel_rfl)|(rw[if_neg (by decide+kernel)];exact⟨rfl,rfl⟩))
  (fun os started H enc _=>lifted os started H enc)
theorem proved:Rows.BootKeysSaid:=over
#print axioms proved
end Go.Proofs.YtgpdghbmiihfbaaGreat.bootKeys
