/- The layer of abstract values, joined. -/
import Derived.Test.YtgpdghbmiihfbaaGreatRows
import Derived.Test.YtgpdghbmiihfbaaGreatZMC
import Derived.Test.YtgpdghbmiihfbaaGreatZVsLaw
import Derived.WalkKit
import Derived.ProofKit
import Derived.OpenShut
namespace Go.Proofs.YtgpdghbmiihfbaaGreat.bootKeys
set_option linter.all false
open Go Go.VS Go.ChangeShapes Go.WideShapes Go.ChangeAt Go.RowKit
theorem own:ownKnob Tryz.prog.godebug=none:=by kernel_rfl
theorem laid:laidOutB Tryz.prog=true:=by kernel_rfl
theorem pars:(Tryz.f6.params.toList.all fun t=>Tryz.prog.readableRec t&&decide (t<Tryz.prog.types.size))=true:=by kernel_rfl
theorem par (t:TypeId) (h:t∈Tryz.f6.params.toList):Tryz.prog.readableRec t=true∧t<Tryz.prog.types.size:=by
 have:=bc.1 pars t h;rw[ag,am] at this;exact this
theorem spec (H:Type) (ds:List (DataW H)) (h:ds.length=Tryz.f6.params.toList.length):Rows.bootKeysSpec.fn H ds={results:=[.lit (.bool true)],args:=ds}:=by
 match ds,h with
 |[_,_,_],_=>rfl
set_option maxRecDepth 100000 in
theorem lifted (os:Os) (started:os.Started) (H:Type) (enc:TypeId×Value->H):
  ReturnsInHanded {} Tryz.checked os 6 .any (Rows.bootKeysSpec.pre6 enc Tryz.prog Tryz.f6 Rows.bootKeysRow.domain false) (Rows.bootKeysSpec.post enc Tryz.prog Tryz.f6 false true false false):=by
 refine returnsInHanded_of_change_sized (C:=Tryz.checked) own started (by kernel_rfl) Tryz.func6
  (ChangeSpec.witness6 (enc:=enc) (C:=Tryz.checked) false ⟨#[], #[.agg #[.slice none 0 0,.slice none 0 0],.slice none 0 0,.slice none 0 0],[]⟩ 8 (by kernel_rfl) (by kernel_rfl) (by kernel_rfl) (by kernel_rfl)) ?_
 intro W base args ds gs before hval hW _ hsz _;exact Tx laid par (by kernel_rfl) Tryz.underlying4 rfl (show Tryz.f6.params.toList=[39,22,22] by kernel_rfl) (.cons Pln.Yc2 (.cons Pln.Yc3 (.cons Pln.Yc3 .nil))) spec (fun y h=>Pln.Ybg y.1 y.2.1 y.2.2.1 h.1 h.2.1 h.2.2.1) hval hW hsz
theorem over:Rows.bootKeysRow.holds Tryz.pinned (OpenSpec.ofChange Rows.bootKeysSpec):=
 OpenClaim.holds_of_wide 6 Tryz.f6 rfl rfl rfl rfl rfl rfl rfl ⟨rfl,rfl,rfl,rfl,rfl⟩ rfl rfl rfl rfl rfl (by kernel_rfl) Tryz.func6 (by kernel_rfl)
  (au (by kernel_rfl)) (by unfold Func.isWrapper;first|(rw[if_pos (by decide+kernel)];kernel_rfl)|(rw[if_neg (by decide+kernel)];exact⟨rfl,rfl⟩))
  (fun os started H enc _=>lifted os started H enc)
theorem proved:Rows.BootKeysSaid:=over
#print axioms proved
end Go.Proofs.YtgpdghbmiihfbaaGreat.bootKeys
