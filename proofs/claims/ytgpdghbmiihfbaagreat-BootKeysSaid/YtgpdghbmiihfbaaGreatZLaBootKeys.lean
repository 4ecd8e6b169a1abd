/- The layer of abstract values, joined. -/
import Derived.Test.YtgpdghbmiihfbaaGreatRows
import Derived.Test.YtgpdghbmiihfbaaGreatZMC
import Derived.Test.YtgpdghbmiihfbaaGreatZVsLaw
import Derived.WalkKit
import Derived.ProofKit
import Derived.OpenShut
namespace Go.Proofs.YtgpdghbmiihfbaaGreat.bootKeys
set_option linter.all false
open Go Go.VS Go.ChangeShapes Go.WideShapes Go.ChangeAt Go.RowKit
theorem own:ownKnob Tryz.prog.godebug=none:=by kernel_rfl
theorem laid:laidOutB Tryz.prog=true:=by kernel_rfl
theorem pars:(Tryz.f6.params.toList.all fun t=>Tryz.prog.readableRec t&&decide (t<Tryz.prog.types.size))=true:=by kernel_rfl
theorem par (t:TypeId) (h:t∈Tryz.f6.params.toList):Tryz.prog.readableRec t=true∧t<Tryz.prog.types.size:=by
 have:=bc.1 pars t h;rw[ag,am] at this;exact this
theorem spec (H:Type) (ds:List (DataW H)) (h:ds.length=Tryz.f6.params.toList.length):Rows.bootKeysSpec.fn H ds={results:=[.lit (.bool true)],args:=ds}:=by
 match ds,h with
 |[_,_,_],_=>rfl
set_option maxRecDepth 100000 in
theorem lifted (os:Os) (started:os.Started) (H:Type) (enc:TypeId×Value->H):
  ReturnsInHanded {} Tryz.checked os 6 .any (Rows.bootKeysSpec.pre6 enc Tryz.prog Tryz.f6 Rows.bootKeysRow.domain false) (Rows.bootKeysSpec.post enc Tryz.prog Tryz.f6 false true false false):=by
 refine returnsInHanded_of_change_sized (C:=Tryz.checked) own started (by kernel_rfl) Tryz.func6
  (ChangeSpec.witness6 (enc:=enc) (C:=Tryz.checked) false ⟨#[], #[.agg #[.slice none 0 0,.slice none 0 0],.slice none 0 0,.slice none 0 0],[]⟩ 8 (by kernel_rfl) (by kernel_rfl) (by kernel_rfl) (by kernel_rfl)) ?_
 intro W base args ds gs before hval hW _ hsz _;exact Tx laid par (by kernel_rfl) Tryz.underlying4 rfl (show Tryz.f6.params.toList=[39,22,22] by kernel_rfl) (.cons Pln.Yc2 (.cons Pln.Yc3 (.cons Pln.Yc3 .nil))) spec (fun y h=>Pln.Ybg y.1 y.2.1 y.2.2.1 h.1 h.2.1 h.2.2.1) hval hW hsz
theorem andT {a b : Bool} (h : a = true) (k : b = true) : (a && b) = true := by rw [h, k]; rfl
theorem k0 : (Rows.bootKeysRow.wf (OpenSpec.ofChange Rows.bootKeysSpec)) = true := by kernel_rfl
theorem k2 : (mapsRowed Tryz.prog) = true := by kernel_rfl
theorem k3 : (Tryz.f6.params.all (Tryz.prog.readableRec ·)) = true := by kernel_rfl
theorem k4 : (namedTie Tryz.prog Rows.bootKeysRow.named Rows.bootKeysSpec.vars) = true := by kernel_rfl
theorem k5 : (Rows.bootKeysRow.stops == []) = true := by kernel_rfl
theorem k6 : (Tryz.prog.stops == []) = true := by kernel_rfl
theorem k7 : (Rows.bootKeysRow.knobs == []) = true := by kernel_rfl
theorem k8 : (Tryz.prog.stopKnobs == []) = true := by kernel_rfl
theorem k9 : (Rows.bootKeysRow.inPlace == Tryz.prog.inPlace 6) = true := by kernel_rfl
theorem k10 : (Rows.bootKeysRow.unfollowed == Tryz.prog.unfollowed 6) = true := by kernel_rfl
theorem k11 : (Rows.bootKeysRow.recurses == Tryz.prog.recurses 6) = true := by kernel_rfl
theorem k12 : (Rows.bootKeysRow.named == Tryz.prog.varsNamed 6) = true := by kernel_rfl
theorem k13 : (Rows.bootKeysRow.maps == (Tryz.f6.params.toList ++ Rows.bootKeysSpec.plain.varTypes Tryz.prog).any (Tryz.prog.mapsRec ·)) = true := by kernel_rfl
theorem k14 : (Rows.bootKeysRow.ifaces == (Tryz.f6.params.toList ++ Rows.bootKeysSpec.plain.varTypes Tryz.prog).any (Tryz.prog.ifacesRec ·)) = true := by kernel_rfl
theorem k15 : (Rows.bootKeysRow.mapsOut == Tryz.prog.mapsAmong Tryz.f6.resultTypes.toList) = true := by kernel_rfl
theorem k16 : (Rows.bootKeysRow.loops == (Tryz.f6.params.toList ++ Rows.bootKeysSpec.plain.varTypes Tryz.prog).any (Tryz.prog.loopsFrom ·)) = true := by kernel_rfl
theorem k17 : (Rows.bootKeysRow.wideKeys == (Tryz.f6.params.toList ++ Rows.bootKeysSpec.plain.varTypes Tryz.prog ++ Tryz.f6.resultTypes.toList).any (Tryz.prog.wideKeysFrom ·)) = true := by kernel_rfl
theorem k18 : (Rows.bootKeysSpec.vars.all (Tryz.prog.varReadable ·)) = true := by kernel_rfl
theorem k19 : (Tryz.f6.resultTypes.all (fun t => Tryz.prog.readableRec t && decide (t < Tryz.prog.types.size))) = true := by kernel_rfl
theorem k20 : (Rows.bootKeysRow.ifacesOut == Tryz.f6.resultTypes.toList.any (Tryz.prog.ifacesRec ·)) = true := by kernel_rfl
theorem k21 : (Rows.bootKeysRow.loopsOut == Tryz.f6.resultTypes.toList.any (Tryz.prog.loopsFrom ·)) = true := by kernel_rfl
theorem k22 : (Rows.bootKeysRow.plainKeys == Tryz.prog.plainKeys) = true := by kernel_rfl
theorem k23 : (Rows.bootKeysRow.shortTexts.isNone) = true := by kernel_rfl
theorem k24 : (Tryz.prog.stopsHeard) = true := by kernel_rfl
theorem k25 : (Tryz.prog.mayEnter) = true := by kernel_rfl
theorem k26 : (Rows.bootKeysRow.lifted == Tryz.prog.liftsFinal) = true := by kernel_rfl
theorem k27 : (Tryz.prog.make == some Rows.bootKeysRow.make) = true := by kernel_rfl
theorem k28 : (Rows.bootKeysRow.kinds == (if Rows.bootKeysRow.domain.isEmpty then [] else Tryz.f6.params.toList.map fun t => match Tryz.prog.underlying t with | some (.int k) => some k | _ => none)) = true := by kernel_rfl
theorem k29 : (Rows.bootKeysRow.pinned == Rows.bootKeysRow.pinnedBy) = true := by kernel_rfl
theorem k30 : (Rows.bootKeysRow.veiled == (Tryz.f6.params.toList ++ Rows.bootKeysSpec.plain.varTypes Tryz.prog ++ Tryz.f6.resultTypes.toList).any (Tryz.prog.veiledRec ·)) = true := by kernel_rfl
theorem k31 : (Rows.bootKeysRow.veiledFits Tryz.prog Tryz.f6.params.toList (Tryz.f6.params.toList ++ Rows.bootKeysSpec.plain.varTypes Tryz.prog ++ Tryz.f6.resultTypes.toList)) = true := by kernel_rfl
set_option maxRecDepth 100000 in
theorem closed : joinedFacts Tryz.prog 6 Tryz.f6 Rows.bootKeysSpec Rows.bootKeysRow = true := by unfold joinedFacts; exact (andT (andT (andT (andT (andT (andT (andT (andT (andT (andT (andT (andT (andT (andT (andT (andT (andT (andT (andT (andT (andT (andT (andT (andT (andT (andT (andT (andT (andT (andT (andT k0 laid) k2) k3) k4) k5) k6) k7) k8) k9) k10) k11) k12) k13) k14) k15) k16) k17) k18) k19) k20) k21) k22) k23) k24) k25) k26) k27) k28) k29) k30) k31)
end Go.Proofs.YtgpdghbmiihfbaaGreat.bootKeys
