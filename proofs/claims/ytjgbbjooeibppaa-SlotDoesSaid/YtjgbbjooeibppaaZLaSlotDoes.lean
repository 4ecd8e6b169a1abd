/- The layer of abstract values, joined. -/
import Derived.Test.YtjgbbjooeibppaaRows
import Derived.Test.YtjgbbjooeibppaaZE4
import Derived.Test.YtjgbbjooeibppaaZF0
import Derived.Test.YtjgbbjooeibppaaZIA
import Derived.Test.YtjgbbjooeibppaaZVsLaw
import Derived.WalkKit
import Derived.ProofKit
import Derived.OpenShut
namespace Go.Proofs.Ytjgbbjooeibppaa.slotDoes
set_option linter.unusedVariables false
set_option linter.unusedSimpArgs false
open Go Go.VS Go.ChangeShapes Go.WideShapes Go.ChangeAt Go.RowKit
theorem own:ownKnob Try.prog.godebug=none:=by kernel_rfl
theorem laid:laidOutB Try.prog=true:=by kernel_rfl
theorem pars:(Try.f5.params.toList.all fun t=>Try.prog.readableRec t&&decide (t<Try.prog.types.size))=true:=by kernel_rfl
theorem par (t:TypeId) (h:t∈Try.f5.params.toList):Try.prog.readableRec t=true∧t<Try.prog.types.size:=by
 have:=List.all_eq_true.1 pars t h
 rw[Bool.and_eq_true,decide_eq_true_eq] at this
 exact this
theorem spec (H:Type) (ds:List (DataW H)) (h:ds.length=Try.f5.params.toList.length):Rows.slotDoesSpec.fn H ds={results:=[.lit (.bool true)],args:=ds}:=by
 match ds,h with
 |[_,_],_=>rfl
set_option maxRecDepth 100000 in
theorem lifted (os:Os) (started:os.Started) (H:Type) (enc:TypeId×Value→H):
  ReturnsInHanded {} Try.checked os 5 .any (Rows.slotDoesSpec.pre6 enc Try.prog Try.f5 Rows.slotDoesRow.domain false) (Rows.slotDoesSpec.post enc Try.prog Try.f5 false true false false):=by
 refine returnsInHanded_of_change_sized (C:=Try.checked) own started (by kernel_rfl) Try.func5
  (ChangeSpec.witness6 (enc:=enc) (C:=Try.checked) false ⟨#[], #[.agg #[.slice none 0 0,.slice none 0 0],.agg #[.int .u32 0,.slice none 0 0]],[]⟩ 8 (by kernel_rfl) (by kernel_rfl) (by kernel_rfl) (by kernel_rfl)) ?_
 intro W base args ds gs before hval hW _ hsz _
 exact Tx laid par (by kernel_rfl) Try.underlying4 rfl (show Try.f5.params.toList=[43,60] by kernel_rfl) (.cons Yc2 (.cons Ycq .nil)) spec (fun y hy=>Fl y.1 y.2.1 hy.1 hy.2.1) hval hW hsz
theorem andT {a b : Bool} (h : a = true) (k : b = true) : (a && b) = true := by rw [h, k]; rfl
theorem k0 : (Rows.slotDoesRow.wf (OpenSpec.ofChange Rows.slotDoesSpec)) = true := by kernel_rfl
theorem k2 : (mapsRowed Try.prog) = true := by kernel_rfl
theorem k3 : (Try.f5.params.all (Try.prog.readableRec ·)) = true := by kernel_rfl
theorem k4 : (namedTie Try.prog Rows.slotDoesRow.named Rows.slotDoesSpec.vars) = true := by kernel_rfl
theorem k5 : (Rows.slotDoesRow.stops == []) = true := by kernel_rfl
theorem k6 : (Try.prog.stops == []) = true := by kernel_rfl
theorem k7 : (Rows.slotDoesRow.knobs == []) = true := by kernel_rfl
theorem k8 : (Try.prog.stopKnobs == []) = true := by kernel_rfl
theorem k9 : (Rows.slotDoesRow.inPlace == Try.prog.inPlace 5) = true := by kernel_rfl
theorem k10 : (Rows.slotDoesRow.unfollowed == Try.prog.unfollowed 5) = true := by kernel_rfl
theorem k11 : (Rows.slotDoesRow.recurses == Try.prog.recurses 5) = true := by kernel_rfl
theorem k12 : (Rows.slotDoesRow.named == Try.prog.varsNamed 5) = true := by kernel_rfl
theorem k13 : (Rows.slotDoesRow.maps == (Try.f5.params.toList ++ Rows.slotDoesSpec.plain.varTypes Try.prog).any (Try.prog.mapsRec ·)) = true := by kernel_rfl
theorem k14 : (Rows.slotDoesRow.ifaces == (Try.f5.params.toList ++ Rows.slotDoesSpec.plain.varTypes Try.prog).any (Try.prog.ifacesRec ·)) = true := by kernel_rfl
theorem k15 : (Rows.slotDoesRow.mapsOut == Try.prog.mapsAmong Try.f5.resultTypes.toList) = true := by kernel_rfl
theorem k16 : (Rows.slotDoesRow.loops == (Try.f5.params.toList ++ Rows.slotDoesSpec.plain.varTypes Try.prog).any (Try.prog.loopsFrom ·)) = true := by kernel_rfl
theorem k17 : (Rows.slotDoesRow.wideKeys == (Try.f5.params.toList ++ Rows.slotDoesSpec.plain.varTypes Try.prog ++ Try.f5.resultTypes.toList).any (Try.prog.wideKeysFrom ·)) = true := by kernel_rfl
theorem k18 : (Rows.slotDoesSpec.vars.all (Try.prog.varReadable ·)) = true := by kernel_rfl
theorem k19 : (Try.f5.resultTypes.all (fun t => Try.prog.readableRec t && decide (t < Try.prog.types.size))) = true := by kernel_rfl
theorem k20 : (Rows.slotDoesRow.ifacesOut == Try.f5.resultTypes.toList.any (Try.prog.ifacesRec ·)) = true := by kernel_rfl
theorem k21 : (Rows.slotDoesRow.loopsOut == Try.f5.resultTypes.toList.any (Try.prog.loopsFrom ·)) = true := by kernel_rfl
theorem k22 : (Rows.slotDoesRow.plainKeys == Try.prog.plainKeys) = true := by kernel_rfl
theorem k23 : (Rows.slotDoesRow.shortTexts.isNone) = true := by kernel_rfl
theorem k24 : (Try.prog.stopsHeard) = true := by kernel_rfl
theorem k25 : (Try.prog.mayEnter) = true := by kernel_rfl
theorem k26 : (Rows.slotDoesRow.lifted == Try.prog.liftsFinal) = true := by kernel_rfl
theorem k27 : (Try.prog.make == some Rows.slotDoesRow.make) = true := by kernel_rfl
theorem k28 : (Rows.slotDoesRow.kinds == (if Rows.slotDoesRow.domain.isEmpty then [] else Try.f5.params.toList.map fun t => match Try.prog.underlying t with | some (.int k) => some k | _ => none)) = true := by kernel_rfl
theorem k29 : (Rows.slotDoesRow.pinned == Rows.slotDoesRow.pinnedBy) = true := by kernel_rfl
theorem k30 : (Rows.slotDoesRow.veiled == (Try.f5.params.toList ++ Rows.slotDoesSpec.plain.varTypes Try.prog ++ Try.f5.resultTypes.toList).any (Try.prog.veiledRec ·)) = true := by kernel_rfl
theorem k31 : (Rows.slotDoesRow.veiledFits Try.prog Try.f5.params.toList (Try.f5.params.toList ++ Rows.slotDoesSpec.plain.varTypes Try.prog ++ Try.f5.resultTypes.toList)) = true := by kernel_rfl
set_option maxRecDepth 100000 in
theorem closed : joinedFacts Try.prog 5 Try.f5 Rows.slotDoesSpec Rows.slotDoesRow = true := by unfold joinedFacts; exact (andT (andT (andT (andT (andT (andT (andT (andT (andT (andT (andT (andT (andT (andT (andT (andT (andT (andT (andT (andT (andT (andT (andT (andT (andT (andT (andT (andT (andT (andT (andT k0 laid) k2) k3) k4) k5) k6) k7) k8) k9) k10) k11) k12) k13) k14) k15) k16) k17) k18) k19) k20) k21) k22) k23) k24) k25) k26) k27) k28) k29) k30) k31)
end Go.Proofs.Ytjgbbjooeibppaa.slotDoes
