/-
  No cell of these rows narrows 'for every input' (looked for: loops, veiled, ifaces, maps, wideKeys, modest, calm, conditions, laid).
  DERIVED. THE GIVEN ROWS OF THIS SEAT. 3 by the template 'for every input the law returns true; each argument reads behind the call as it read before'; 0 by the template 'total and deterministic' (their statements: YtjgbbjooeibppaaTotals.lean).
  GIVEN WITH THE SEED: the statements are not yours to turn. If you find one false, say at which input.
  Laid BY PROGRAM, IN A SANDBOX (cutbox-rows.mjs): the forced cells as the released guide's own fill.sh prints them over the translation 23e2c33da57fd51c… (all of the seat's roots in one cut). By AI agents, Wed Nov 11 2026. No macro, syntax, notation, axiom, sorry.
-/
import Derived.Test.YtjgbbjooeibppaaChecked
import GoSem.Claim
import GoSem.ClaimJoined
import GoSem.ClaimMapViews
import Derived.JoinedTies
import Derived.KernelRfl
namespace Go.Proofs.Ytjgbbjooeibppaa
/- THE CELL 'sum', in the pinned program and in every row, IS THE sha256 OF THE DUMP (.gsa) THAT YtjgbbjooeibppaaProg.lean LOADS. Nothing in Lean hashes anything: it is a label: what it is worth is what the hold of that sum in a sandbox is worth. -/
noncomputable def Try.pinned : Pinned := { name := "ytjgbbjooeibppaa", sum := "23e2c33da57fd51c34bf0f6ceac1a6eec728a8172d9626308e85a03e7eba75fc", checked := Try.checked }
namespace Rows
def none {H : Type} : Left H := { results := [], args := [] }

/-- 'leverframelaw08.PlanSame': WHATEVER THE INPUT: true; the input reads as it did. -/
def planSameSpec : ChangeSpec := { name := "planSame", fn := fun _ => fun
  | [d1, d2] => { results := [.lit (.bool true)], args := [d1, d2] }
  | _ => none }
def planSameRow : OpenClaim := { program := "ytjgbbjooeibppaa", sum := "23e2c33da57fd51c34bf0f6ceac1a6eec728a8172d9626308e85a03e7eba75fc", func := "leverframe/leverframelaw08.PlanSame", spec := "planSame", unfollowed := true, recurses := true, apart := false }
def PlanSameSaid : Prop := planSameRow.holds Try.pinned (OpenSpec.ofChange planSameSpec)

/-- ITS FALSE NEIGHBOUR: 'it returns false'. Refute it at one input. -/
def planSameWrong : ChangeSpec := { name := "planSame", fn := fun _ => fun
  | [d1, d2] => { results := [.lit (.bool false)], args := [d1, d2] }
  | _ => none }
def PlanSameWrongFalsely : Prop := planSameRow.holds Try.pinned (OpenSpec.ofChange planSameWrong)

/-- 'leverframelaw05.DevKeeps': WHATEVER THE INPUT: true; the input reads as it did. -/
def devKeepsSpec : ChangeSpec := { name := "devKeeps", fn := fun _ => fun
  | [d1, d2, d3, d4] => { results := [.lit (.bool true)], args := [d1, d2, d3, d4] }
  | _ => none }
def devKeepsRow : OpenClaim := { program := "ytjgbbjooeibppaa", sum := "23e2c33da57fd51c34bf0f6ceac1a6eec728a8172d9626308e85a03e7eba75fc", func := "leverframe/leverframelaw05.DevKeeps", spec := "devKeeps", unfollowed := true, recurses := true, apart := false }
def DevKeepsSaid : Prop := devKeepsRow.holds Try.pinned (OpenSpec.ofChange devKeepsSpec)

/-- ITS FALSE NEIGHBOUR: 'it returns false'. Refute it at one input. -/
def devKeepsWrong : ChangeSpec := { name := "devKeeps", fn := fun _ => fun
  | [d1, d2, d3, d4] => { results := [.lit (.bool false)], args := [d1, d2, d3, d4] }
  | _ => none }
def DevKeepsWrongFalsely : Prop := devKeepsRow.holds Try.pinned (OpenSpec.ofChange devKeepsWrong)

/-- 'leverframelaw06.SlotDoes': WHATEVER THE INPUT: true; the input reads as it did. -/
def slotDoesSpec : ChangeSpec := { name := "slotDoes", fn := fun _ => fun
  | [d1, d2] => { results := [.lit (.bool true)], args := [d1, d2] }
  | _ => none }
def slotDoesRow : OpenClaim := { program := "ytjgbbjooeibppaa", sum := "23e2c33da57fd51c34bf0f6ceac1a6eec728a8172d9626308e85a03e7eba75fc", func := "leverframe/leverframelaw06.SlotDoes", spec := "slotDoes", unfollowed := true, recurses := true, apart := false }
def SlotDoesSaid : Prop := slotDoesRow.holds Try.pinned (OpenSpec.ofChange slotDoesSpec)

/-- ITS FALSE NEIGHBOUR: 'it returns false'. Refute it at one input. -/
def slotDoesWrong : ChangeSpec := { name := "slotDoes", fn := fun _ => fun
  | [d1, d2] => { results := [.lit (.bool false)], args := [d1, d2] }
  | _ => none }
def SlotDoesWrongFalsely : Prop := slotDoesRow.holds Try.pinned (OpenSpec.ofChange slotDoesWrong)

/- THE SECOND FORM. 'bulk': how many values and letters a reading holds, each counted each time it is reached (what is shared counts as often as it is met; a slice's spare places count too). A statement '..UptoSaid' is the law's where the arguments, and the package variables that the reading takes, are together of bulk at most 1048576: NARROWER than '..Said'. Prove '..Said' where nothing that the law and all that it calls make is longer than what came in: it says more and counts as full. Else prove '..UptoSaid'. A law counts once. -/
mutual
def uptoBulk {H : Type} : DataW H → Nat
  | .lit (.string bytes) => bytes.length + 1
  | .lit _ => 1
  | .nil => 1
  | .ptr d => uptoBulk d + 1
  | .slice elems spare => uptoBulkAll elems + uptoBulkAll spare + 1
  | .agg parts => uptoBulkAll parts + 1
  | .iface _ d => uptoBulk d + 1
  | .map entries => uptoBulkEntries entries + 1
  | .held _ => 1
def uptoBulkAll {H : Type} : List (DataW H) → Nat
  | [] => 0
  | d :: r => uptoBulk d + uptoBulkAll r
def uptoBulkEntries {H : Type} : List (Lit × DataW H) → Nat
  | [] => 0
  | x :: r => uptoBulkEntry x + uptoBulkEntries r
def uptoBulkEntry {H : Type} : Lit × DataW H → Nat
  | (.string bytes, d) => bytes.length + uptoBulk d + 1
  | (_, d) => uptoBulk d + 1
 end
def uptoSmall : (H : Type) → List (DataW H) → Bool := fun _ ds => decide (uptoBulkAll ds ≤ 1048576)
def OpenSpec.upto (s : _root_.Go.ChangeSpec) : _root_.Go.OpenSpec := { _root_.Go.OpenSpec.ofChange s with cond := some uptoSmall }

/-- 'leverframelaw08.PlanSame', WHERE WHAT IT READS IS OF BULK AT MOST 1048576: true; the input reads as it did. -/
def planSameUptoRow : OpenClaim := { program := "ytjgbbjooeibppaa", sum := "23e2c33da57fd51c34bf0f6ceac1a6eec728a8172d9626308e85a03e7eba75fc", func := "leverframe/leverframelaw08.PlanSame", spec := "planSame", unfollowed := true, recurses := true, apart := false, narrowed := true }
def PlanSameUptoSaid : Prop := planSameUptoRow.holds Try.pinned (OpenSpec.upto planSameSpec)

/-- 'leverframelaw05.DevKeeps', WHERE WHAT IT READS IS OF BULK AT MOST 1048576: true; the input reads as it did. -/
def devKeepsUptoRow : OpenClaim := { program := "ytjgbbjooeibppaa", sum := "23e2c33da57fd51c34bf0f6ceac1a6eec728a8172d9626308e85a03e7eba75fc", func := "leverframe/leverframelaw05.DevKeeps", spec := "devKeeps", unfollowed := true, recurses := true, apart := false, narrowed := true }
def DevKeepsUptoSaid : Prop := devKeepsUptoRow.holds Try.pinned (OpenSpec.upto devKeepsSpec)

/-- 'leverframelaw06.SlotDoes', WHERE WHAT IT READS IS OF BULK AT MOST 1048576: true; the input reads as it did. -/
def slotDoesUptoRow : OpenClaim := { program := "ytjgbbjooeibppaa", sum := "23e2c33da57fd51c34bf0f6ceac1a6eec728a8172d9626308e85a03e7eba75fc", func := "leverframe/leverframelaw06.SlotDoes", spec := "slotDoes", unfollowed := true, recurses := true, apart := false, narrowed := true }
def SlotDoesUptoSaid : Prop := slotDoesUptoRow.holds Try.pinned (OpenSpec.upto slotDoesSpec)

end Rows
end Go.Proofs.Ytjgbbjooeibppaa
