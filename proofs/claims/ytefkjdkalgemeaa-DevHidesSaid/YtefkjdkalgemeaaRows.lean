/-
  No cell of these rows narrows 'for every input' (looked for: loops, veiled, ifaces, maps, wideKeys, modest, calm, conditions, laid).
  DERIVED. THE GIVEN ROWS OF THIS SEAT. 15 by the template 'for every input the law returns true; each argument reads behind the call as it read before'; 0 by the template 'total and deterministic' (their statements: YtefkjdkalgemeaaTotals.lean).
  GIVEN WITH THE SEED: the statements are not yours to turn. If you find one false, say at which input.
  Laid BY PROGRAM, IN A SANDBOX (cutbox-rows.mjs): the forced cells as the released guide's own fill.sh prints them over the translation 1238a4b002f6cb81… (all of the seat's roots in one cut). By AI agents, Wed Nov 11 2026. No macro, syntax, notation, axiom, sorry.
-/
import Derived.Test.YtefkjdkalgemeaaChecked
import GoSem.Claim
import GoSem.ClaimJoined
import GoSem.ClaimMapViews
import Derived.JoinedTies
import Derived.KernelRfl
namespace Go.Proofs.Ytefkjdkalgemeaa
/- THE CELL 'sum', in the pinned program and in every row, IS THE sha256 OF THE DUMP (.gsa) THAT YtefkjdkalgemeaaProg.lean LOADS. Nothing in Lean hashes anything: it is a label: what it is worth is what the hold of that sum in a sandbox is worth. -/
noncomputable def Try.pinned : Pinned := { name := "ytefkjdkalgemeaa", sum := "1238a4b002f6cb8132b417f4e69228cc1ecb9a7d4d5b31f31b9dacc8ab8128b2", checked := Try.checked }
namespace Rows
def none {H : Type} : Left H := { results := [], args := [] }

/-- 'leverframelaw05.DevTears': WHATEVER THE INPUT: true; the input reads as it did. -/
def devTearsSpec : ChangeSpec := { name := "devTears", fn := fun _ => fun
  | [d1, d2, d3, d4, d5] => { results := [.lit (.bool true)], args := [d1, d2, d3, d4, d5] }
  | _ => none }
def devTearsRow : OpenClaim := { program := "ytefkjdkalgemeaa", sum := "1238a4b002f6cb8132b417f4e69228cc1ecb9a7d4d5b31f31b9dacc8ab8128b2", func := "leverframe/leverframelaw05.DevTears", spec := "devTears", unfollowed := true, recurses := true, apart := false }
def DevTearsSaid : Prop := devTearsRow.holds Try.pinned (OpenSpec.ofChange devTearsSpec)

/-- ITS FALSE NEIGHBOUR: 'it returns false'. Refute it at one input. -/
def devTearsWrong : ChangeSpec := { name := "devTears", fn := fun _ => fun
  | [d1, d2, d3, d4, d5] => { results := [.lit (.bool false)], args := [d1, d2, d3, d4, d5] }
  | _ => none }
def DevTearsWrongFalsely : Prop := devTearsRow.holds Try.pinned (OpenSpec.ofChange devTearsWrong)

/-- 'leverframelaw05.DevReads': WHATEVER THE INPUT: true; the input reads as it did. -/
def devReadsSpec : ChangeSpec := { name := "devReads", fn := fun _ => fun
  | [d1, d2, d3] => { results := [.lit (.bool true)], args := [d1, d2, d3] }
  | _ => none }
def devReadsRow : OpenClaim := { program := "ytefkjdkalgemeaa", sum := "1238a4b002f6cb8132b417f4e69228cc1ecb9a7d4d5b31f31b9dacc8ab8128b2", func := "leverframe/leverframelaw05.DevReads", spec := "devReads", unfollowed := true, recurses := true, apart := false }
def DevReadsSaid : Prop := devReadsRow.holds Try.pinned (OpenSpec.ofChange devReadsSpec)

/-- ITS FALSE NEIGHBOUR: 'it returns false'. Refute it at one input. -/
def devReadsWrong : ChangeSpec := { name := "devReads", fn := fun _ => fun
  | [d1, d2, d3] => { results := [.lit (.bool false)], args := [d1, d2, d3] }
  | _ => none }
def DevReadsWrongFalsely : Prop := devReadsRow.holds Try.pinned (OpenSpec.ofChange devReadsWrong)

/-- 'leverframelaw05.DevHides': WHATEVER THE INPUT: true; the input reads as it did. -/
def devHidesSpec : ChangeSpec := { name := "devHides", fn := fun _ => fun
  | [d1, d2, d3, d4] => { results := [.lit (.bool true)], args := [d1, d2, d3, d4] }
  | _ => none }
def devHidesRow : OpenClaim := { program := "ytefkjdkalgemeaa", sum := "1238a4b002f6cb8132b417f4e69228cc1ecb9a7d4d5b31f31b9dacc8ab8128b2", func := "leverframe/leverframelaw05.DevHides", spec := "devHides", unfollowed := true, recurses := true, apart := false }
def DevHidesSaid : Prop := devHidesRow.holds Try.pinned (OpenSpec.ofChange devHidesSpec)

/-- ITS FALSE NEIGHBOUR: 'it returns false'. Refute it at one input. -/
def devHidesWrong : ChangeSpec := { name := "devHides", fn := fun _ => fun
  | [d1, d2, d3, d4] => { results := [.lit (.bool false)], args := [d1, d2, d3, d4] }
  | _ => none }
def DevHidesWrongFalsely : Prop := devHidesRow.holds Try.pinned (OpenSpec.ofChange devHidesWrong)

/-- 'leverframelaw05.DevNames': WHATEVER THE INPUT: true; the input reads as it did. -/
def devNamesSpec : ChangeSpec := { name := "devNames", fn := fun _ => fun
  | [] => { results := [.lit (.bool true)], args := [] }
  | _ => none }
def devNamesRow : OpenClaim := { program := "ytefkjdkalgemeaa", sum := "1238a4b002f6cb8132b417f4e69228cc1ecb9a7d4d5b31f31b9dacc8ab8128b2", func := "leverframe/leverframelaw05.DevNames", spec := "devNames", unfollowed := true, recurses := true, apart := false }
def DevNamesSaid : Prop := devNamesRow.holds Try.pinned (OpenSpec.ofChange devNamesSpec)

/-- ITS FALSE NEIGHBOUR: 'it returns false'. Refute it at one input. -/
def devNamesWrong : ChangeSpec := { name := "devNames", fn := fun _ => fun
  | [] => { results := [.lit (.bool false)], args := [] }
  | _ => none }
def DevNamesWrongFalsely : Prop := devNamesRow.holds Try.pinned (OpenSpec.ofChange devNamesWrong)

/-- 'leverframelaw05.DevSplit': WHATEVER THE INPUT: true; the input reads as it did. -/
def devSplitSpec : ChangeSpec := { name := "devSplit", fn := fun _ => fun
  | [d1, d2, d3] => { results := [.lit (.bool true)], args := [d1, d2, d3] }
  | _ => none }
def devSplitRow : OpenClaim := { program := "ytefkjdkalgemeaa", sum := "1238a4b002f6cb8132b417f4e69228cc1ecb9a7d4d5b31f31b9dacc8ab8128b2", func := "leverframe/leverframelaw05.DevSplit", spec := "devSplit", unfollowed := true, recurses := true, apart := false }
def DevSplitSaid : Prop := devSplitRow.holds Try.pinned (OpenSpec.ofChange devSplitSpec)

/-- ITS FALSE NEIGHBOUR: 'it returns false'. Refute it at one input. -/
def devSplitWrong : ChangeSpec := { name := "devSplit", fn := fun _ => fun
  | [d1, d2, d3] => { results := [.lit (.bool false)], args := [d1, d2, d3] }
  | _ => none }
def DevSplitWrongFalsely : Prop := devSplitRow.holds Try.pinned (OpenSpec.ofChange devSplitWrong)

/-- 'leverframelaw05.DevStill': WHATEVER THE INPUT: true; the input reads as it did. -/
def devStillSpec : ChangeSpec := { name := "devStill", fn := fun _ => fun
  | [d1, d2, d3] => { results := [.lit (.bool true)], args := [d1, d2, d3] }
  | _ => none }
def devStillRow : OpenClaim := { program := "ytefkjdkalgemeaa", sum := "1238a4b002f6cb8132b417f4e69228cc1ecb9a7d4d5b31f31b9dacc8ab8128b2", func := "leverframe/leverframelaw05.DevStill", spec := "devStill", unfollowed := true, recurses := true, apart := false }
def DevStillSaid : Prop := devStillRow.holds Try.pinned (OpenSpec.ofChange devStillSpec)

/-- ITS FALSE NEIGHBOUR: 'it returns false'. Refute it at one input. -/
def devStillWrong : ChangeSpec := { name := "devStill", fn := fun _ => fun
  | [d1, d2, d3] => { results := [.lit (.bool false)], args := [d1, d2, d3] }
  | _ => none }
def DevStillWrongFalsely : Prop := devStillRow.holds Try.pinned (OpenSpec.ofChange devStillWrong)

/-- 'leverframelaw05.DevRoom': WHATEVER THE INPUT: true; the input reads as it did. -/
def devRoomSpec : ChangeSpec := { name := "devRoom", fn := fun _ => fun
  | [d1, d2, d3] => { results := [.lit (.bool true)], args := [d1, d2, d3] }
  | _ => none }
def devRoomRow : OpenClaim := { program := "ytefkjdkalgemeaa", sum := "1238a4b002f6cb8132b417f4e69228cc1ecb9a7d4d5b31f31b9dacc8ab8128b2", func := "leverframe/leverframelaw05.DevRoom", spec := "devRoom", unfollowed := true, recurses := true, apart := false }
def DevRoomSaid : Prop := devRoomRow.holds Try.pinned (OpenSpec.ofChange devRoomSpec)

/-- ITS FALSE NEIGHBOUR: 'it returns false'. Refute it at one input. -/
def devRoomWrong : ChangeSpec := { name := "devRoom", fn := fun _ => fun
  | [d1, d2, d3] => { results := [.lit (.bool false)], args := [d1, d2, d3] }
  | _ => none }
def DevRoomWrongFalsely : Prop := devRoomRow.holds Try.pinned (OpenSpec.ofChange devRoomWrong)

/-- 'leverframelaw05.DevKeeps': WHATEVER THE INPUT: true; the input reads as it did. -/
def devKeepsSpec : ChangeSpec := { name := "devKeeps", fn := fun _ => fun
  | [d1, d2, d3, d4] => { results := [.lit (.bool true)], args := [d1, d2, d3, d4] }
  | _ => none }
def devKeepsRow : OpenClaim := { program := "ytefkjdkalgemeaa", sum := "1238a4b002f6cb8132b417f4e69228cc1ecb9a7d4d5b31f31b9dacc8ab8128b2", func := "leverframe/leverframelaw05.DevKeeps", spec := "devKeeps", unfollowed := true, recurses := true, apart := false }
def DevKeepsSaid : Prop := devKeepsRow.holds Try.pinned (OpenSpec.ofChange devKeepsSpec)

/-- ITS FALSE NEIGHBOUR: 'it returns false'. Refute it at one input. -/
def devKeepsWrong : ChangeSpec := { name := "devKeeps", fn := fun _ => fun
  | [d1, d2, d3, d4] => { results := [.lit (.bool false)], args := [d1, d2, d3, d4] }
  | _ => none }
def DevKeepsWrongFalsely : Prop := devKeepsRow.holds Try.pinned (OpenSpec.ofChange devKeepsWrong)

/-- 'leverframelaw05.DevFlips': WHATEVER THE INPUT: true; the input reads as it did. -/
def devFlipsSpec : ChangeSpec := { name := "devFlips", fn := fun _ => fun
  | [d1, d2, d3, d4, d5] => { results := [.lit (.bool true)], args := [d1, d2, d3, d4, d5] }
  | _ => none }
def devFlipsRow : OpenClaim := { program := "ytefkjdkalgemeaa", sum := "1238a4b002f6cb8132b417f4e69228cc1ecb9a7d4d5b31f31b9dacc8ab8128b2", func := "leverframe/leverframelaw05.DevFlips", spec := "devFlips", unfollowed := true, recurses := true, apart := false }
def DevFlipsSaid : Prop := devFlipsRow.holds Try.pinned (OpenSpec.ofChange devFlipsSpec)

/-- ITS FALSE NEIGHBOUR: 'it returns false'. Refute it at one input. -/
def devFlipsWrong : ChangeSpec := { name := "devFlips", fn := fun _ => fun
  | [d1, d2, d3, d4, d5] => { results := [.lit (.bool false)], args := [d1, d2, d3, d4, d5] }
  | _ => none }
def DevFlipsWrongFalsely : Prop := devFlipsRow.holds Try.pinned (OpenSpec.ofChange devFlipsWrong)

/-- 'leverframelaw06.SlotBack': WHATEVER THE INPUT: true; the input reads as it did. -/
def slotBackSpec : ChangeSpec := { name := "slotBack", fn := fun _ => fun
  | [d1, d2, d3] => { results := [.lit (.bool true)], args := [d1, d2, d3] }
  | _ => none }
def slotBackRow : OpenClaim := { program := "ytefkjdkalgemeaa", sum := "1238a4b002f6cb8132b417f4e69228cc1ecb9a7d4d5b31f31b9dacc8ab8128b2", func := "leverframe/leverframelaw06.SlotBack", spec := "slotBack", unfollowed := true, recurses := true, apart := false }
def SlotBackSaid : Prop := slotBackRow.holds Try.pinned (OpenSpec.ofChange slotBackSpec)

/-- ITS FALSE NEIGHBOUR: 'it returns false'. Refute it at one input. -/
def slotBackWrong : ChangeSpec := { name := "slotBack", fn := fun _ => fun
  | [d1, d2, d3] => { results := [.lit (.bool false)], args := [d1, d2, d3] }
  | _ => none }
def SlotBackWrongFalsely : Prop := slotBackRow.holds Try.pinned (OpenSpec.ofChange slotBackWrong)

/-- 'leverframelaw06.SlotOther': WHATEVER THE INPUT: true; the input reads as it did. -/
def slotOtherSpec : ChangeSpec := { name := "slotOther", fn := fun _ => fun
  | [d1, d2, d3, d4] => { results := [.lit (.bool true)], args := [d1, d2, d3, d4] }
  | _ => none }
def slotOtherRow : OpenClaim := { program := "ytefkjdkalgemeaa", sum := "1238a4b002f6cb8132b417f4e69228cc1ecb9a7d4d5b31f31b9dacc8ab8128b2", func := "leverframe/leverframelaw06.SlotOther", spec := "slotOther", unfollowed := true, recurses := true, apart := false }
def SlotOtherSaid : Prop := slotOtherRow.holds Try.pinned (OpenSpec.ofChange slotOtherSpec)

/-- ITS FALSE NEIGHBOUR: 'it returns false'. Refute it at one input. -/
def slotOtherWrong : ChangeSpec := { name := "slotOther", fn := fun _ => fun
  | [d1, d2, d3, d4] => { results := [.lit (.bool false)], args := [d1, d2, d3, d4] }
  | _ => none }
def SlotOtherWrongFalsely : Prop := slotOtherRow.holds Try.pinned (OpenSpec.ofChange slotOtherWrong)

/-- 'leverframelaw06.SlotDoes': WHATEVER THE INPUT: true; the input reads as it did. -/
def slotDoesSpec : ChangeSpec := { name := "slotDoes", fn := fun _ => fun
  | [d1, d2] => { results := [.lit (.bool true)], args := [d1, d2] }
  | _ => none }
def slotDoesRow : OpenClaim := { program := "ytefkjdkalgemeaa", sum := "1238a4b002f6cb8132b417f4e69228cc1ecb9a7d4d5b31f31b9dacc8ab8128b2", func := "leverframe/leverframelaw06.SlotDoes", spec := "slotDoes", unfollowed := true, recurses := true, apart := false }
def SlotDoesSaid : Prop := slotDoesRow.holds Try.pinned (OpenSpec.ofChange slotDoesSpec)

/-- ITS FALSE NEIGHBOUR: 'it returns false'. Refute it at one input. -/
def slotDoesWrong : ChangeSpec := { name := "slotDoes", fn := fun _ => fun
  | [d1, d2] => { results := [.lit (.bool false)], args := [d1, d2] }
  | _ => none }
def SlotDoesWrongFalsely : Prop := slotDoesRow.holds Try.pinned (OpenSpec.ofChange slotDoesWrong)

/-- 'leverframelaw06.SlotNames': WHATEVER THE INPUT: true; the input reads as it did. -/
def slotNamesSpec : ChangeSpec := { name := "slotNames", fn := fun _ => fun
  | [] => { results := [.lit (.bool true)], args := [] }
  | _ => none }
def slotNamesRow : OpenClaim := { program := "ytefkjdkalgemeaa", sum := "1238a4b002f6cb8132b417f4e69228cc1ecb9a7d4d5b31f31b9dacc8ab8128b2", func := "leverframe/leverframelaw06.SlotNames", spec := "slotNames", unfollowed := true, recurses := true, apart := false }
def SlotNamesSaid : Prop := slotNamesRow.holds Try.pinned (OpenSpec.ofChange slotNamesSpec)

/-- ITS FALSE NEIGHBOUR: 'it returns false'. Refute it at one input. -/
def slotNamesWrong : ChangeSpec := { name := "slotNames", fn := fun _ => fun
  | [] => { results := [.lit (.bool false)], args := [] }
  | _ => none }
def SlotNamesWrongFalsely : Prop := slotNamesRow.holds Try.pinned (OpenSpec.ofChange slotNamesWrong)

/-- 'leverframelaw06.SlotNext': WHATEVER THE INPUT: true; the input reads as it did. -/
def slotNextSpec : ChangeSpec := { name := "slotNext", fn := fun _ => fun
  | [d1, d2, d3] => { results := [.lit (.bool true)], args := [d1, d2, d3] }
  | _ => none }
def slotNextRow : OpenClaim := { program := "ytefkjdkalgemeaa", sum := "1238a4b002f6cb8132b417f4e69228cc1ecb9a7d4d5b31f31b9dacc8ab8128b2", func := "leverframe/leverframelaw06.SlotNext", spec := "slotNext", unfollowed := true, recurses := true, apart := false }
def SlotNextSaid : Prop := slotNextRow.holds Try.pinned (OpenSpec.ofChange slotNextSpec)

/-- ITS FALSE NEIGHBOUR: 'it returns false'. Refute it at one input. -/
def slotNextWrong : ChangeSpec := { name := "slotNext", fn := fun _ => fun
  | [d1, d2, d3] => { results := [.lit (.bool false)], args := [d1, d2, d3] }
  | _ => none }
def SlotNextWrongFalsely : Prop := slotNextRow.holds Try.pinned (OpenSpec.ofChange slotNextWrong)

/-- 'leverframelaw06.SlotTurns': WHATEVER THE INPUT: true; the input reads as it did. -/
def slotTurnsSpec : ChangeSpec := { name := "slotTurns", fn := fun _ => fun
  | [d1, d2] => { results := [.lit (.bool true)], args := [d1, d2] }
  | _ => none }
def slotTurnsRow : OpenClaim := { program := "ytefkjdkalgemeaa", sum := "1238a4b002f6cb8132b417f4e69228cc1ecb9a7d4d5b31f31b9dacc8ab8128b2", func := "leverframe/leverframelaw06.SlotTurns", spec := "slotTurns", unfollowed := true, recurses := true, apart := false }
def SlotTurnsSaid : Prop := slotTurnsRow.holds Try.pinned (OpenSpec.ofChange slotTurnsSpec)

/-- ITS FALSE NEIGHBOUR: 'it returns false'. Refute it at one input. -/
def slotTurnsWrong : ChangeSpec := { name := "slotTurns", fn := fun _ => fun
  | [d1, d2] => { results := [.lit (.bool false)], args := [d1, d2] }
  | _ => none }
def SlotTurnsWrongFalsely : Prop := slotTurnsRow.holds Try.pinned (OpenSpec.ofChange slotTurnsWrong)

/- THE SECOND FORM. 'bulk': how many values and letters a reading holds, each counted each time it is reached (what is shared counts as often as it is met; a slice's spare places count too). A statement '..UptoSaid' is the law's where the arguments, and the package variables that the reading takes, are together of bulk at most 1048576: NARROWER than '..Said'. Prove '..Said' where nothing that the law and all that it calls make is longer than what came in: it says more and counts as full. Else prove '..UptoSaid'. A law counts once. -/
mutual
def uptoBulk {H : Type} : DataW H → Nat
  | .lit (.string bytes) => bytes.length + 1
  | .lit _ => 1
  | .nil => 1
  | .ptr d => uptoBulk d + 1
  | .slice elems spare => uptoBulkAll elems + uptoBulkAll spare + 1
  | .agg parts => uptoBulkAll parts + 1
  | .iface _ d => uptoBulk d + 1
  | .map entries => uptoBulkEntries entries + 1
  | .held _ => 1
def uptoBulkAll {H : Type} : List (DataW H) → Nat
  | [] => 0
  | d :: r => uptoBulk d + uptoBulkAll r
def uptoBulkEntries {H : Type} : List (Lit × DataW H) → Nat
  | [] => 0
  | x :: r => uptoBulkEntry x + uptoBulkEntries r
def uptoBulkEntry {H : Type} : Lit × DataW H → Nat
  | (.string bytes, d) => bytes.length + uptoBulk d + 1
  | (_, d) => uptoBulk d + 1
 end
def uptoSmall : (H : Type) → List (DataW H) → Bool := fun _ ds => decide (uptoBulkAll ds ≤ 1048576)
def OpenSpec.upto (s : _root_.Go.ChangeSpec) : _root_.Go.OpenSpec := { _root_.Go.OpenSpec.ofChange s with cond := some uptoSmall }

/-- 'leverframelaw05.DevTears', WHERE WHAT IT READS IS OF BULK AT MOST 1048576: true; the input reads as it did. -/
def devTearsUptoRow : OpenClaim := { program := "ytefkjdkalgemeaa", sum := "1238a4b002f6cb8132b417f4e69228cc1ecb9a7d4d5b31f31b9dacc8ab8128b2", func := "leverframe/leverframelaw05.DevTears", spec := "devTears", unfollowed := true, recurses := true, apart := false, narrowed := true }
def DevTearsUptoSaid : Prop := devTearsUptoRow.holds Try.pinned (OpenSpec.upto devTearsSpec)

/-- 'leverframelaw05.DevReads', WHERE WHAT IT READS IS OF BULK AT MOST 1048576: true; the input reads as it did. -/
def devReadsUptoRow : OpenClaim := { program := "ytefkjdkalgemeaa", sum := "1238a4b002f6cb8132b417f4e69228cc1ecb9a7d4d5b31f31b9dacc8ab8128b2", func := "leverframe/leverframelaw05.DevReads", spec := "devReads", unfollowed := true, recurses := true, apart := false, narrowed := true }
def DevReadsUptoSaid : Prop := devReadsUptoRow.holds Try.pinned (OpenSpec.upto devReadsSpec)

/-- 'leverframelaw05.DevHides', WHERE WHAT IT READS IS OF BULK AT MOST 1048576: true; the input reads as it did. -/
def devHidesUptoRow : OpenClaim := { program := "ytefkjdkalgemeaa", sum := "1238a4b002f6cb8132b417f4e69228cc1ecb9a7d4d5b31f31b9dacc8ab8128b2", func := "leverframe/leverframelaw05.DevHides", spec := "devHides", unfollowed := true, recurses := true, apart := false, narrowed := true }
def DevHidesUptoSaid : Prop := devHidesUptoRow.holds Try.pinned (OpenSpec.upto devHidesSpec)

/-- 'leverframelaw05.DevNames', WHERE WHAT IT READS IS OF BULK AT MOST 1048576: true; the input reads as it did. -/
def devNamesUptoRow : OpenClaim := { program := "ytefkjdkalgemeaa", sum := "1238a4b002f6cb8132b417f4e69228cc1ecb9a7d4d5b31f31b9dacc8ab8128b2", func := "leverframe/leverframelaw05.DevNames", spec := "devNames", unfollowed := true, recurses := true, apart := false, narrowed := true }
def DevNamesUptoSaid : Prop := devNamesUptoRow.holds Try.pinned (OpenSpec.upto devNamesSpec)

/-- 'leverframelaw05.DevSplit', WHERE WHAT IT READS IS OF BULK AT MOST 1048576: true; the input reads as it did. -/
def devSplitUptoRow : OpenClaim := { program := "ytefkjdkalgemeaa", sum := "1238a4b002f6cb8132b417f4e69228cc1ecb9a7d4d5b31f31b9dacc8ab8128b2", func := "leverframe/leverframelaw05.DevSplit", spec := "devSplit", unfollowed := true, recurses := true, apart := false, narrowed := true }
def DevSplitUptoSaid : Prop := devSplitUptoRow.holds Try.pinned (OpenSpec.upto devSplitSpec)

/-- 'leverframelaw05.DevStill', WHERE WHAT IT READS IS OF BULK AT MOST 1048576: true; the input reads as it did. -/
def devStillUptoRow : OpenClaim := { program := "ytefkjdkalgemeaa", sum := "1238a4b002f6cb8132b417f4e69228cc1ecb9a7d4d5b31f31b9dacc8ab8128b2", func := "leverframe/leverframelaw05.DevStill", spec := "devStill", unfollowed := true, recurses := true, apart := false, narrowed := true }
def DevStillUptoSaid : Prop := devStillUptoRow.holds Try.pinned (OpenSpec.upto devStillSpec)

/-- 'leverframelaw05.DevRoom', WHERE WHAT IT READS IS OF BULK AT MOST 1048576: true; the input reads as it did. -/
def devRoomUptoRow : OpenClaim := { program := "ytefkjdkalgemeaa", sum := "1238a4b002f6cb8132b417f4e69228cc1ecb9a7d4d5b31f31b9dacc8ab8128b2", func := "leverframe/leverframelaw05.DevRoom", spec := "devRoom", unfollowed := true, recurses := true, apart := false, narrowed := true }
def DevRoomUptoSaid : Prop := devRoomUptoRow.holds Try.pinned (OpenSpec.upto devRoomSpec)

/-- 'leverframelaw05.DevKeeps', WHERE WHAT IT READS IS OF BULK AT MOST 1048576: true; the input reads as it did. -/
def devKeepsUptoRow : OpenClaim := { program := "ytefkjdkalgemeaa", sum := "1238a4b002f6cb8132b417f4e69228cc1ecb9a7d4d5b31f31b9dacc8ab8128b2", func := "leverframe/leverframelaw05.DevKeeps", spec := "devKeeps", unfollowed := true, recurses := true, apart := false, narrowed := true }
def DevKeepsUptoSaid : Prop := devKeepsUptoRow.holds Try.pinned (OpenSpec.upto devKeepsSpec)

/-- 'leverframelaw05.DevFlips', WHERE WHAT IT READS IS OF BULK AT MOST 1048576: true; the input reads as it did. -/
def devFlipsUptoRow : OpenClaim := { program := "ytefkjdkalgemeaa", sum := "1238a4b002f6cb8132b417f4e69228cc1ecb9a7d4d5b31f31b9dacc8ab8128b2", func := "leverframe/leverframelaw05.DevFlips", spec := "devFlips", unfollowed := true, recurses := true, apart := false, narrowed := true }
def DevFlipsUptoSaid : Prop := devFlipsUptoRow.holds Try.pinned (OpenSpec.upto devFlipsSpec)

/-- 'leverframelaw06.SlotBack', WHERE WHAT IT READS IS OF BULK AT MOST 1048576: true; the input reads as it did. -/
def slotBackUptoRow : OpenClaim := { program := "ytefkjdkalgemeaa", sum := "1238a4b002f6cb8132b417f4e69228cc1ecb9a7d4d5b31f31b9dacc8ab8128b2", func := "leverframe/leverframelaw06.SlotBack", spec := "slotBack", unfollowed := true, recurses := true, apart := false, narrowed := true }
def SlotBackUptoSaid : Prop := slotBackUptoRow.holds Try.pinned (OpenSpec.upto slotBackSpec)

/-- 'leverframelaw06.SlotOther', WHERE WHAT IT READS IS OF BULK AT MOST 1048576: true; the input reads as it did. -/
def slotOtherUptoRow : OpenClaim := { program := "ytefkjdkalgemeaa", sum := "1238a4b002f6cb8132b417f4e69228cc1ecb9a7d4d5b31f31b9dacc8ab8128b2", func := "leverframe/leverframelaw06.SlotOther", spec := "slotOther", unfollowed := true, recurses := true, apart := false, narrowed := true }
def SlotOtherUptoSaid : Prop := slotOtherUptoRow.holds Try.pinned (OpenSpec.upto slotOtherSpec)

/-- 'leverframelaw06.SlotDoes', WHERE WHAT IT READS IS OF BULK AT MOST 1048576: true; the input reads as it did. -/
def slotDoesUptoRow : OpenClaim := { program := "ytefkjdkalgemeaa", sum := "1238a4b002f6cb8132b417f4e69228cc1ecb9a7d4d5b31f31b9dacc8ab8128b2", func := "leverframe/leverframelaw06.SlotDoes", spec := "slotDoes", unfollowed := true, recurses := true, apart := false, narrowed := true }
def SlotDoesUptoSaid : Prop := slotDoesUptoRow.holds Try.pinned (OpenSpec.upto slotDoesSpec)

/-- 'leverframelaw06.SlotNames', WHERE WHAT IT READS IS OF BULK AT MOST 1048576: true; the input reads as it did. -/
def slotNamesUptoRow : OpenClaim := { program := "ytefkjdkalgemeaa", sum := "1238a4b002f6cb8132b417f4e69228cc1ecb9a7d4d5b31f31b9dacc8ab8128b2", func := "leverframe/leverframelaw06.SlotNames", spec := "slotNames", unfollowed := true, recurses := true, apart := false, narrowed := true }
def SlotNamesUptoSaid : Prop := slotNamesUptoRow.holds Try.pinned (OpenSpec.upto slotNamesSpec)

/-- 'leverframelaw06.SlotNext', WHERE WHAT IT READS IS OF BULK AT MOST 1048576: true; the input reads as it did. -/
def slotNextUptoRow : OpenClaim := { program := "ytefkjdkalgemeaa", sum := "1238a4b002f6cb8132b417f4e69228cc1ecb9a7d4d5b31f31b9dacc8ab8128b2", func := "leverframe/leverframelaw06.SlotNext", spec := "slotNext", unfollowed := true, recurses := true, apart := false, narrowed := true }
def SlotNextUptoSaid : Prop := slotNextUptoRow.holds Try.pinned (OpenSpec.upto slotNextSpec)

/-- 'leverframelaw06.SlotTurns', WHERE WHAT IT READS IS OF BULK AT MOST 1048576: true; the input reads as it did. -/
def slotTurnsUptoRow : OpenClaim := { program := "ytefkjdkalgemeaa", sum := "1238a4b002f6cb8132b417f4e69228cc1ecb9a7d4d5b31f31b9dacc8ab8128b2", func := "leverframe/leverframelaw06.SlotTurns", spec := "slotTurns", unfollowed := true, recurses := true, apart := false, narrowed := true }
def SlotTurnsUptoSaid : Prop := slotTurnsUptoRow.holds Try.pinned (OpenSpec.upto slotTurnsSpec)

end Rows
end Go.Proofs.Ytefkjdkalgemeaa
