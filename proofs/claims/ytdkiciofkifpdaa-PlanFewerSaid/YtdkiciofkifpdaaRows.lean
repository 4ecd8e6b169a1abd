/-
  No cell of these rows narrows 'for every input' (looked for: loops, veiled, ifaces, maps, wideKeys, modest, calm, conditions, laid).
  DERIVED. THE GIVEN ROWS OF THIS SEAT. 11 by the template 'for every input the law returns true; each argument reads behind the call as it read before'; 0 by the template 'total and deterministic' (their statements: YtdkiciofkifpdaaTotals.lean).
  GIVEN WITH THE SEED: the statements are not yours to turn. If you find one false, say at which input.
  Laid BY PROGRAM, IN A SANDBOX (cutbox-rows.mjs): the forced cells as the released guide's own fill.sh prints them over the translation f6ce4ce8b5459555… (all of the seat's roots in one cut). By AI agents, Wed Nov 11 2026. No macro, syntax, notation, axiom, sorry.
-/
import Derived.Test.YtdkiciofkifpdaaChecked
import GoSem.Claim
import GoSem.ClaimJoined
import GoSem.ClaimMapViews
import Derived.JoinedTies
import Derived.KernelRfl
namespace Go.Proofs.Ytdkiciofkifpdaa
/- THE CELL 'sum', in the pinned program and in every row, IS THE sha256 OF THE DUMP (.gsa) THAT YtdkiciofkifpdaaProg.lean LOADS. Nothing in Lean hashes anything: it is a label: what it is worth is what the hold of that sum in a sandbox is worth. -/
noncomputable def Try.pinned : Pinned := { name := "ytdkiciofkifpdaa", sum := "f6ce4ce8b545955537710b3dfb95bfc326d44198371ff7f937cff658fd342dc7", checked := Try.checked }
namespace Rows
def none {H : Type} : Left H := { results := [], args := [] }

/-- 'leverframelaw08.PlanSame': WHATEVER THE INPUT: true; the input reads as it did. -/
def planSameSpec : ChangeSpec := { name := "planSame", fn := fun _ => fun
  | [d1, d2] => { results := [.lit (.bool true)], args := [d1, d2] }
  | _ => none }
def planSameRow : OpenClaim := { program := "ytdkiciofkifpdaa", sum := "f6ce4ce8b545955537710b3dfb95bfc326d44198371ff7f937cff658fd342dc7", func := "leverframe/leverframelaw08.PlanSame", spec := "planSame", unfollowed := true, recurses := true, apart := false }
def PlanSameSaid : Prop := planSameRow.holds Try.pinned (OpenSpec.ofChange planSameSpec)

/-- ITS FALSE NEIGHBOUR: 'it returns false'. Refute it at one input. -/
def planSameWrong : ChangeSpec := { name := "planSame", fn := fun _ => fun
  | [d1, d2] => { results := [.lit (.bool false)], args := [d1, d2] }
  | _ => none }
def PlanSameWrongFalsely : Prop := planSameRow.holds Try.pinned (OpenSpec.ofChange planSameWrong)

/-- 'leverframelaw08.PlanPlaces': WHATEVER THE INPUT: true; the input reads as it did. -/
def planPlacesSpec : ChangeSpec := { name := "planPlaces", fn := fun _ => fun
  | [d] => { results := [.lit (.bool true)], args := [d] }
  | _ => none }
def planPlacesRow : OpenClaim := { program := "ytdkiciofkifpdaa", sum := "f6ce4ce8b545955537710b3dfb95bfc326d44198371ff7f937cff658fd342dc7", func := "leverframe/leverframelaw08.PlanPlaces", spec := "planPlaces", unfollowed := true, recurses := true, apart := false }
def PlanPlacesSaid : Prop := planPlacesRow.holds Try.pinned (OpenSpec.ofChange planPlacesSpec)

/-- ITS FALSE NEIGHBOUR: 'it returns false'. Refute it at one input. -/
def planPlacesWrong : ChangeSpec := { name := "planPlaces", fn := fun _ => fun
  | [d] => { results := [.lit (.bool false)], args := [d] }
  | _ => none }
def PlanPlacesWrongFalsely : Prop := planPlacesRow.holds Try.pinned (OpenSpec.ofChange planPlacesWrong)

/-- 'leverframelaw08.PlanFewer': WHATEVER THE INPUT: true; the input reads as it did. -/
def planFewerSpec : ChangeSpec := { name := "planFewer", fn := fun _ => fun
  | [d1, d2] => { results := [.lit (.bool true)], args := [d1, d2] }
  | _ => none }
def planFewerRow : OpenClaim := { program := "ytdkiciofkifpdaa", sum := "f6ce4ce8b545955537710b3dfb95bfc326d44198371ff7f937cff658fd342dc7", func := "leverframe/leverframelaw08.PlanFewer", spec := "planFewer", unfollowed := true, recurses := true, apart := false }
def PlanFewerSaid : Prop := planFewerRow.holds Try.pinned (OpenSpec.ofChange planFewerSpec)

/-- ITS FALSE NEIGHBOUR: 'it returns false'. Refute it at one input. -/
def planFewerWrong : ChangeSpec := { name := "planFewer", fn := fun _ => fun
  | [d1, d2] => { results := [.lit (.bool false)], args := [d1, d2] }
  | _ => none }
def PlanFewerWrongFalsely : Prop := planFewerRow.holds Try.pinned (OpenSpec.ofChange planFewerWrong)

/-- 'leverframelaw08.PlanNames': WHATEVER THE INPUT: true; the input reads as it did. -/
def planNamesSpec : ChangeSpec := { name := "planNames", fn := fun _ => fun
  | [] => { results := [.lit (.bool true)], args := [] }
  | _ => none }
def planNamesRow : OpenClaim := { program := "ytdkiciofkifpdaa", sum := "f6ce4ce8b545955537710b3dfb95bfc326d44198371ff7f937cff658fd342dc7", func := "leverframe/leverframelaw08.PlanNames", spec := "planNames", unfollowed := true, recurses := true, apart := false }
def PlanNamesSaid : Prop := planNamesRow.holds Try.pinned (OpenSpec.ofChange planNamesSpec)

/-- ITS FALSE NEIGHBOUR: 'it returns false'. Refute it at one input. -/
def planNamesWrong : ChangeSpec := { name := "planNames", fn := fun _ => fun
  | [] => { results := [.lit (.bool false)], args := [] }
  | _ => none }
def PlanNamesWrongFalsely : Prop := planNamesRow.holds Try.pinned (OpenSpec.ofChange planNamesWrong)

/-- 'leverframelaw08.PlanTells': WHATEVER THE INPUT: true; the input reads as it did. -/
def planTellsSpec : ChangeSpec := { name := "planTells", fn := fun _ => fun
  | [d1, d2, d3] => { results := [.lit (.bool true)], args := [d1, d2, d3] }
  | _ => none }
def planTellsRow : OpenClaim := { program := "ytdkiciofkifpdaa", sum := "f6ce4ce8b545955537710b3dfb95bfc326d44198371ff7f937cff658fd342dc7", func := "leverframe/leverframelaw08.PlanTells", spec := "planTells", unfollowed := true, recurses := true, apart := false }
def PlanTellsSaid : Prop := planTellsRow.holds Try.pinned (OpenSpec.ofChange planTellsSpec)

/-- ITS FALSE NEIGHBOUR: 'it returns false'. Refute it at one input. -/
def planTellsWrong : ChangeSpec := { name := "planTells", fn := fun _ => fun
  | [d1, d2, d3] => { results := [.lit (.bool false)], args := [d1, d2, d3] }
  | _ => none }
def PlanTellsWrongFalsely : Prop := planTellsRow.holds Try.pinned (OpenSpec.ofChange planTellsWrong)

/-- 'leverframelaw09.WayAll': WHATEVER THE INPUT: true; the input reads as it did. -/
def wayAllSpec : ChangeSpec := { name := "wayAll", fn := fun _ => fun
  | [d] => { results := [.lit (.bool true)], args := [d] }
  | _ => none }
def wayAllRow : OpenClaim := { program := "ytdkiciofkifpdaa", sum := "f6ce4ce8b545955537710b3dfb95bfc326d44198371ff7f937cff658fd342dc7", func := "leverframe/leverframelaw09.WayAll", spec := "wayAll", unfollowed := true, recurses := true, apart := false }
def WayAllSaid : Prop := wayAllRow.holds Try.pinned (OpenSpec.ofChange wayAllSpec)

/-- ITS FALSE NEIGHBOUR: 'it returns false'. Refute it at one input. -/
def wayAllWrong : ChangeSpec := { name := "wayAll", fn := fun _ => fun
  | [d] => { results := [.lit (.bool false)], args := [d] }
  | _ => none }
def WayAllWrongFalsely : Prop := wayAllRow.holds Try.pinned (OpenSpec.ofChange wayAllWrong)

/-- 'leverframelaw09.WayOwn': WHATEVER THE INPUT: true; the input reads as it did. -/
def wayOwnSpec : ChangeSpec := { name := "wayOwn", fn := fun _ => fun
  | [d1, d2] => { results := [.lit (.bool true)], args := [d1, d2] }
  | _ => none }
def wayOwnRow : OpenClaim := { program := "ytdkiciofkifpdaa", sum := "f6ce4ce8b545955537710b3dfb95bfc326d44198371ff7f937cff658fd342dc7", func := "leverframe/leverframelaw09.WayOwn", spec := "wayOwn", unfollowed := true, recurses := true, apart := false }
def WayOwnSaid : Prop := wayOwnRow.holds Try.pinned (OpenSpec.ofChange wayOwnSpec)

/-- ITS FALSE NEIGHBOUR: 'it returns false'. Refute it at one input. -/
def wayOwnWrong : ChangeSpec := { name := "wayOwn", fn := fun _ => fun
  | [d1, d2] => { results := [.lit (.bool false)], args := [d1, d2] }
  | _ => none }
def WayOwnWrongFalsely : Prop := wayOwnRow.holds Try.pinned (OpenSpec.ofChange wayOwnWrong)

/-- 'leverframelaw09.WayAsks': WHATEVER THE INPUT: true; the input reads as it did. -/
def wayAsksSpec : ChangeSpec := { name := "wayAsks", fn := fun _ => fun
  | [d1, d2] => { results := [.lit (.bool true)], args := [d1, d2] }
  | _ => none }
def wayAsksRow : OpenClaim := { program := "ytdkiciofkifpdaa", sum := "f6ce4ce8b545955537710b3dfb95bfc326d44198371ff7f937cff658fd342dc7", func := "leverframe/leverframelaw09.WayAsks", spec := "wayAsks", unfollowed := true, recurses := true, apart := false }
def WayAsksSaid : Prop := wayAsksRow.holds Try.pinned (OpenSpec.ofChange wayAsksSpec)

/-- ITS FALSE NEIGHBOUR: 'it returns false'. Refute it at one input. -/
def wayAsksWrong : ChangeSpec := { name := "wayAsks", fn := fun _ => fun
  | [d1, d2] => { results := [.lit (.bool false)], args := [d1, d2] }
  | _ => none }
def WayAsksWrongFalsely : Prop := wayAsksRow.holds Try.pinned (OpenSpec.ofChange wayAsksWrong)

/-- 'leverframelaw09.WayNames': WHATEVER THE INPUT: true; the input reads as it did. -/
def wayNamesSpec : ChangeSpec := { name := "wayNames", fn := fun _ => fun
  | [] => { results := [.lit (.bool true)], args := [] }
  | _ => none }
def wayNamesRow : OpenClaim := { program := "ytdkiciofkifpdaa", sum := "f6ce4ce8b545955537710b3dfb95bfc326d44198371ff7f937cff658fd342dc7", func := "leverframe/leverframelaw09.WayNames", spec := "wayNames", unfollowed := true, recurses := true, apart := false }
def WayNamesSaid : Prop := wayNamesRow.holds Try.pinned (OpenSpec.ofChange wayNamesSpec)

/-- ITS FALSE NEIGHBOUR: 'it returns false'. Refute it at one input. -/
def wayNamesWrong : ChangeSpec := { name := "wayNames", fn := fun _ => fun
  | [] => { results := [.lit (.bool false)], args := [] }
  | _ => none }
def WayNamesWrongFalsely : Prop := wayNamesRow.holds Try.pinned (OpenSpec.ofChange wayNamesWrong)

/-- 'leverframelaw09.WayTells': WHATEVER THE INPUT: true; the input reads as it did. -/
def wayTellsSpec : ChangeSpec := { name := "wayTells", fn := fun _ => fun
  | [d1, d2, d3] => { results := [.lit (.bool true)], args := [d1, d2, d3] }
  | _ => none }
def wayTellsRow : OpenClaim := { program := "ytdkiciofkifpdaa", sum := "f6ce4ce8b545955537710b3dfb95bfc326d44198371ff7f937cff658fd342dc7", func := "leverframe/leverframelaw09.WayTells", spec := "wayTells", unfollowed := true, recurses := true, apart := false }
def WayTellsSaid : Prop := wayTellsRow.holds Try.pinned (OpenSpec.ofChange wayTellsSpec)

/-- ITS FALSE NEIGHBOUR: 'it returns false'. Refute it at one input. -/
def wayTellsWrong : ChangeSpec := { name := "wayTells", fn := fun _ => fun
  | [d1, d2, d3] => { results := [.lit (.bool false)], args := [d1, d2, d3] }
  | _ => none }
def WayTellsWrongFalsely : Prop := wayTellsRow.holds Try.pinned (OpenSpec.ofChange wayTellsWrong)

/-- 'leverframelaw09.WayGoes': WHATEVER THE INPUT: true; the input reads as it did. -/
def wayGoesSpec : ChangeSpec := { name := "wayGoes", fn := fun _ => fun
  | [d1, d2] => { results := [.lit (.bool true)], args := [d1, d2] }
  | _ => none }
def wayGoesRow : OpenClaim := { program := "ytdkiciofkifpdaa", sum := "f6ce4ce8b545955537710b3dfb95bfc326d44198371ff7f937cff658fd342dc7", func := "leverframe/leverframelaw09.WayGoes", spec := "wayGoes", unfollowed := true, recurses := true, apart := false }
def WayGoesSaid : Prop := wayGoesRow.holds Try.pinned (OpenSpec.ofChange wayGoesSpec)

/-- ITS FALSE NEIGHBOUR: 'it returns false'. Refute it at one input. -/
def wayGoesWrong : ChangeSpec := { name := "wayGoes", fn := fun _ => fun
  | [d1, d2] => { results := [.lit (.bool false)], args := [d1, d2] }
  | _ => none }
def WayGoesWrongFalsely : Prop := wayGoesRow.holds Try.pinned (OpenSpec.ofChange wayGoesWrong)

/- THE SECOND FORM. 'bulk': how many values and letters a reading holds, each counted each time it is reached (what is shared counts as often as it is met; a slice's spare places count too). A statement '..UptoSaid' is the law's where the arguments, and the package variables that the reading takes, are together of bulk at most 1048576: NARROWER than '..Said'. Prove '..Said' where nothing that the law and all that it calls make is longer than what came in: it says more and counts as full. Else prove '..UptoSaid'. A law counts once. -/
mutual
def uptoBulk {H : Type} : DataW H → Nat
  | .lit (.string bytes) => bytes.length + 1
  | .lit _ => 1
  | .nil => 1
  | .ptr d => uptoBulk d + 1
  | .slice elems spare => uptoBulkAll elems + uptoBulkAll spare + 1
  | .agg parts => uptoBulkAll parts + 1
  | .iface _ d => uptoBulk d + 1
  | .map entries => uptoBulkEntries entries + 1
  | .held _ => 1
def uptoBulkAll {H : Type} : List (DataW H) → Nat
  | [] => 0
  | d :: r => uptoBulk d + uptoBulkAll r
def uptoBulkEntries {H : Type} : List (Lit × DataW H) → Nat
  | [] => 0
  | x :: r => uptoBulkEntry x + uptoBulkEntries r
def uptoBulkEntry {H : Type} : Lit × DataW H → Nat
  | (.string bytes, d) => bytes.length + uptoBulk d + 1
  | (_, d) => uptoBulk d + 1
 end
def uptoSmall : (H : Type) → List (DataW H) → Bool := fun _ ds => decide (uptoBulkAll ds ≤ 1048576)
def OpenSpec.upto (s : _root_.Go.ChangeSpec) : _root_.Go.OpenSpec := { _root_.Go.OpenSpec.ofChange s with cond := some uptoSmall }

/-- 'leverframelaw08.PlanSame', WHERE WHAT IT READS IS OF BULK AT MOST 1048576: true; the input reads as it did. -/
def planSameUptoRow : OpenClaim := { program := "ytdkiciofkifpdaa", sum := "f6ce4ce8b545955537710b3dfb95bfc326d44198371ff7f937cff658fd342dc7", func := "leverframe/leverframelaw08.PlanSame", spec := "planSame", unfollowed := true, recurses := true, apart := false, narrowed := true }
def PlanSameUptoSaid : Prop := planSameUptoRow.holds Try.pinned (OpenSpec.upto planSameSpec)

/-- 'leverframelaw08.PlanPlaces', WHERE WHAT IT READS IS OF BULK AT MOST 1048576: true; the input reads as it did. -/
def planPlacesUptoRow : OpenClaim := { program := "ytdkiciofkifpdaa", sum := "f6ce4ce8b545955537710b3dfb95bfc326d44198371ff7f937cff658fd342dc7", func := "leverframe/leverframelaw08.PlanPlaces", spec := "planPlaces", unfollowed := true, recurses := true, apart := false, narrowed := true }
def PlanPlacesUptoSaid : Prop := planPlacesUptoRow.holds Try.pinned (OpenSpec.upto planPlacesSpec)

/-- 'leverframelaw08.PlanFewer', WHERE WHAT IT READS IS OF BULK AT MOST 1048576: true; the input reads as it did. -/
def planFewerUptoRow : OpenClaim := { program := "ytdkiciofkifpdaa", sum := "f6ce4ce8b545955537710b3dfb95bfc326d44198371ff7f937cff658fd342dc7", func := "leverframe/leverframelaw08.PlanFewer", spec := "planFewer", unfollowed := true, recurses := true, apart := false, narrowed := true }
def PlanFewerUptoSaid : Prop := planFewerUptoRow.holds Try.pinned (OpenSpec.upto planFewerSpec)

/-- 'leverframelaw08.PlanNames', WHERE WHAT IT READS IS OF BULK AT MOST 1048576: true; the input reads as it did. -/
def planNamesUptoRow : OpenClaim := { program := "ytdkiciofkifpdaa", sum := "f6ce4ce8b545955537710b3dfb95bfc326d44198371ff7f937cff658fd342dc7", func := "leverframe/leverframelaw08.PlanNames", spec := "planNames", unfollowed := true, recurses := true, apart := false, narrowed := true }
def PlanNamesUptoSaid : Prop := planNamesUptoRow.holds Try.pinned (OpenSpec.upto planNamesSpec)

/-- 'leverframelaw08.PlanTells', WHERE WHAT IT READS IS OF BULK AT MOST 1048576: true; the input reads as it did. -/
def planTellsUptoRow : OpenClaim := { program := "ytdkiciofkifpdaa", sum := "f6ce4ce8b545955537710b3dfb95bfc326d44198371ff7f937cff658fd342dc7", func := "leverframe/leverframelaw08.PlanTells", spec := "planTells", unfollowed := true, recurses := true, apart := false, narrowed := true }
def PlanTellsUptoSaid : Prop := planTellsUptoRow.holds Try.pinned (OpenSpec.upto planTellsSpec)

/-- 'leverframelaw09.WayAll', WHERE WHAT IT READS IS OF BULK AT MOST 1048576: true; the input reads as it did. -/
def wayAllUptoRow : OpenClaim := { program := "ytdkiciofkifpdaa", sum := "f6ce4ce8b545955537710b3dfb95bfc326d44198371ff7f937cff658fd342dc7", func := "leverframe/leverframelaw09.WayAll", spec := "wayAll", unfollowed := true, recurses := true, apart := false, narrowed := true }
def WayAllUptoSaid : Prop := wayAllUptoRow.holds Try.pinned (OpenSpec.upto wayAllSpec)

/-- 'leverframelaw09.WayOwn', WHERE WHAT IT READS IS OF BULK AT MOST 1048576: true; the input reads as it did. -/
def wayOwnUptoRow : OpenClaim := { program := "ytdkiciofkifpdaa", sum := "f6ce4ce8b545955537710b3dfb95bfc326d44198371ff7f937cff658fd342dc7", func := "leverframe/leverframelaw09.WayOwn", spec := "wayOwn", unfollowed := true, recurses := true, apart := false, narrowed := true }
def WayOwnUptoSaid : Prop := wayOwnUptoRow.holds Try.pinned (OpenSpec.upto wayOwnSpec)

/-- 'leverframelaw09.WayAsks', WHERE WHAT IT READS IS OF BULK AT MOST 1048576: true; the input reads as it did. -/
def wayAsksUptoRow : OpenClaim := { program := "ytdkiciofkifpdaa", sum := "f6ce4ce8b545955537710b3dfb95bfc326d44198371ff7f937cff658fd342dc7", func := "leverframe/leverframelaw09.WayAsks", spec := "wayAsks", unfollowed := true, recurses := true, apart := false, narrowed := true }
def WayAsksUptoSaid : Prop := wayAsksUptoRow.holds Try.pinned (OpenSpec.upto wayAsksSpec)

/-- 'leverframelaw09.WayNames', WHERE WHAT IT READS IS OF BULK AT MOST 1048576: true; the input reads as it did. -/
def wayNamesUptoRow : OpenClaim := { program := "ytdkiciofkifpdaa", sum := "f6ce4ce8b545955537710b3dfb95bfc326d44198371ff7f937cff658fd342dc7", func := "leverframe/leverframelaw09.WayNames", spec := "wayNames", unfollowed := true, recurses := true, apart := false, narrowed := true }
def WayNamesUptoSaid : Prop := wayNamesUptoRow.holds Try.pinned (OpenSpec.upto wayNamesSpec)

/-- 'leverframelaw09.WayTells', WHERE WHAT IT READS IS OF BULK AT MOST 1048576: true; the input reads as it did. -/
def wayTellsUptoRow : OpenClaim := { program := "ytdkiciofkifpdaa", sum := "f6ce4ce8b545955537710b3dfb95bfc326d44198371ff7f937cff658fd342dc7", func := "leverframe/leverframelaw09.WayTells", spec := "wayTells", unfollowed := true, recurses := true, apart := false, narrowed := true }
def WayTellsUptoSaid : Prop := wayTellsUptoRow.holds Try.pinned (OpenSpec.upto wayTellsSpec)

/-- 'leverframelaw09.WayGoes', WHERE WHAT IT READS IS OF BULK AT MOST 1048576: true; the input reads as it did. -/
def wayGoesUptoRow : OpenClaim := { program := "ytdkiciofkifpdaa", sum := "f6ce4ce8b545955537710b3dfb95bfc326d44198371ff7f937cff658fd342dc7", func := "leverframe/leverframelaw09.WayGoes", spec := "wayGoes", unfollowed := true, recurses := true, apart := false, narrowed := true }
def WayGoesUptoSaid : Prop := wayGoesUptoRow.holds Try.pinned (OpenSpec.upto wayGoesSpec)

end Rows
end Go.Proofs.Ytdkiciofkifpdaa
