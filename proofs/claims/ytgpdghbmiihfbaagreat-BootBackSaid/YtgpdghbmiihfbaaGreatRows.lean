/-
  No cell of these rows narrows 'for every input' (looked for: loops, veiled, ifaces, maps, wideKeys, modest, calm, conditions, laid).
  DERIVED. THE GIVEN ROWS OF THIS SEAT. 4 by the template 'for every input the law returns true; each argument reads behind the call as it read before'; 0 by the template 'total and deterministic' (their statements: YtgpdghbmiihfbaaGreatTotals.lean).
  GIVEN WITH THE SEED: the statements are not yours to turn. If you find one false, say at which input.
  Laid BY PROGRAM, IN A SANDBOX (cutbox-rows.mjs): the forced cells as the released guide's own fill.sh prints them over the translation 7c0f59e86a3376b0… (all of the seat's roots in one cut). By AI agents, Wed Nov 11 2026. No macro, syntax, notation, axiom, sorry.
-/
import Derived.Test.YtgpdghbmiihfbaaGreatChecked
import GoSem.Claim
import GoSem.ClaimJoined
import GoSem.ClaimMapViews
import Derived.JoinedTies
import Derived.KernelRfl
namespace Go.Proofs.YtgpdghbmiihfbaaGreat
/- THE CELL 'sum', in the pinned program and in every row, IS THE sha256 OF THE DUMP (.gsa) THAT YtgpdghbmiihfbaaGreatProg.lean LOADS. Nothing in Lean hashes anything: it is a label: what it is worth is what the hold of that sum in a sandbox is worth. -/
noncomputable def Tryz.pinned : Pinned := { name := "ytgpdghbmiihfbaagreat", sum := "7c0f59e86a3376b0a90dc74270376540289fb6f5b77c03f5bf076abdf984cc99", checked := Tryz.checked }
namespace Rows
def none {H : Type} : Left H := { results := [], args := [] }

/-- 'leverframelaw29.BootDoes': WHATEVER THE INPUT: true; the input reads as it did. -/
def bootDoesSpec : ChangeSpec := { name := "bootDoes", fn := fun _ => fun
  | [d1, d2, d3] => { results := [.lit (.bool true)], args := [d1, d2, d3] }
  | _ => none }
def bootDoesRow : OpenClaim := { program := "ytgpdghbmiihfbaagreat", sum := "7c0f59e86a3376b0a90dc74270376540289fb6f5b77c03f5bf076abdf984cc99", func := "leverframe/leverframelaw29.BootDoes", spec := "bootDoes", unfollowed := true, recurses := true, apart := false }
def BootDoesSaid : Prop := bootDoesRow.holds Tryz.pinned (OpenSpec.ofChange bootDoesSpec)

/-- ITS FALSE NEIGHBOUR: 'it returns false'. Refute it at one input. -/
def bootDoesWrong : ChangeSpec := { name := "bootDoes", fn := fun _ => fun
  | [d1, d2, d3] => { results := [.lit (.bool false)], args := [d1, d2, d3] }
  | _ => none }
def BootDoesWrongFalsely : Prop := bootDoesRow.holds Tryz.pinned (OpenSpec.ofChange bootDoesWrong)

/-- 'leverframelaw29.BootNames': WHATEVER THE INPUT: true; the input reads as it did. -/
def bootNamesSpec : ChangeSpec := { name := "bootNames", fn := fun _ => fun
  | [] => { results := [.lit (.bool true)], args := [] }
  | _ => none }
def bootNamesRow : OpenClaim := { program := "ytgpdghbmiihfbaagreat", sum := "7c0f59e86a3376b0a90dc74270376540289fb6f5b77c03f5bf076abdf984cc99", func := "leverframe/leverframelaw29.BootNames", spec := "bootNames", unfollowed := true, recurses := true, apart := false }
def BootNamesSaid : Prop := bootNamesRow.holds Tryz.pinned (OpenSpec.ofChange bootNamesSpec)

/-- ITS FALSE NEIGHBOUR: 'it returns false'. Refute it at one input. -/
def bootNamesWrong : ChangeSpec := { name := "bootNames", fn := fun _ => fun
  | [] => { results := [.lit (.bool false)], args := [] }
  | _ => none }
def BootNamesWrongFalsely : Prop := bootNamesRow.holds Tryz.pinned (OpenSpec.ofChange bootNamesWrong)

/-- 'leverframelaw29.BootBack': WHATEVER THE INPUT: true; the input reads as it did. -/
def bootBackSpec : ChangeSpec := { name := "bootBack", fn := fun _ => fun
  | [d] => { results := [.lit (.bool true)], args := [d] }
  | _ => none }
def bootBackRow : OpenClaim := { program := "ytgpdghbmiihfbaagreat", sum := "7c0f59e86a3376b0a90dc74270376540289fb6f5b77c03f5bf076abdf984cc99", func := "leverframe/leverframelaw29.BootBack", spec := "bootBack", unfollowed := true, recurses := true, apart := false }
def BootBackSaid : Prop := bootBackRow.holds Tryz.pinned (OpenSpec.ofChange bootBackSpec)

/-- ITS FALSE NEIGHBOUR: 'it returns false'. Refute it at one input. -/
def bootBackWrong : ChangeSpec := { name := "bootBack", fn := fun _ => fun
  | [d] => { results := [.lit (.bool false)], args := [d] }
  | _ => none }
def BootBackWrongFalsely : Prop := bootBackRow.holds Tryz.pinned (OpenSpec.ofChange bootBackWrong)

/-- 'leverframelaw29.BootKeys': WHATEVER THE INPUT: true; the input reads as it did. -/
def bootKeysSpec : ChangeSpec := { name := "bootKeys", fn := fun _ => fun
  | [d1, d2, d3] => { results := [.lit (.bool true)], args := [d1, d2, d3] }
  | _ => none }
def bootKeysRow : OpenClaim := { program := "ytgpdghbmiihfbaagreat", sum := "7c0f59e86a3376b0a90dc74270376540289fb6f5b77c03f5bf076abdf984cc99", func := "leverframe/leverframelaw29.BootKeys", spec := "bootKeys", unfollowed := true, recurses := true, apart := false }
def BootKeysSaid : Prop := bootKeysRow.holds Tryz.pinned (OpenSpec.ofChange bootKeysSpec)

/-- ITS FALSE NEIGHBOUR: 'it returns false'. Refute it at one input. -/
def bootKeysWrong : ChangeSpec := { name := "bootKeys", fn := fun _ => fun
  | [d1, d2, d3] => { results := [.lit (.bool false)], args := [d1, d2, d3] }
  | _ => none }
def BootKeysWrongFalsely : Prop := bootKeysRow.holds Tryz.pinned (OpenSpec.ofChange bootKeysWrong)

/- THE SECOND FORM. 'bulk': how many values and letters a reading holds, each counted each time it is reached (what is shared counts as often as it is met; a slice's spare places count too). A statement '..UptoSaid' is the law's where the arguments, and the package variables that the reading takes, are together of bulk at most 1048576: NARROWER than '..Said'. Prove '..Said' where nothing that the law and all that it calls make is longer than what came in: it says more and counts as full. Else prove '..UptoSaid'. A law counts once. -/
mutual
def uptoBulk {H : Type} : DataW H → Nat
  | .lit (.string bytes) => bytes.length + 1
  | .lit _ => 1
  | .nil => 1
  | .ptr d => uptoBulk d + 1
  | .slice elems spare => uptoBulkAll elems + uptoBulkAll spare + 1
  | .agg parts => uptoBulkAll parts + 1
  | .iface _ d => uptoBulk d + 1
  | .map entries => uptoBulkEntries entries + 1
  | .held _ => 1
def uptoBulkAll {H : Type} : List (DataW H) → Nat
  | [] => 0
  | d :: r => uptoBulk d + uptoBulkAll r
def uptoBulkEntries {H : Type} : List (Lit × DataW H) → Nat
  | [] => 0
  | x :: r => uptoBulkEntry x + uptoBulkEntries r
def uptoBulkEntry {H : Type} : Lit × DataW H → Nat
  | (.string bytes, d) => bytes.length + uptoBulk d + 1
  | (_, d) => uptoBulk d + 1
 end
def uptoSmall : (H : Type) → List (DataW H) → Bool := fun _ ds => decide (uptoBulkAll ds ≤ 1048576)
def OpenSpec.upto (s : _root_.Go.ChangeSpec) : _root_.Go.OpenSpec := { _root_.Go.OpenSpec.ofChange s with cond := some uptoSmall }

/-- 'leverframelaw29.BootDoes', WHERE WHAT IT READS IS OF BULK AT MOST 1048576: true; the input reads as it did. -/
def bootDoesUptoRow : OpenClaim := { program := "ytgpdghbmiihfbaagreat", sum := "7c0f59e86a3376b0a90dc74270376540289fb6f5b77c03f5bf076abdf984cc99", func := "leverframe/leverframelaw29.BootDoes", spec := "bootDoes", unfollowed := true, recurses := true, apart := false, narrowed := true }
def BootDoesUptoSaid : Prop := bootDoesUptoRow.holds Tryz.pinned (OpenSpec.upto bootDoesSpec)

/-- 'leverframelaw29.BootNames', WHERE WHAT IT READS IS OF BULK AT MOST 1048576: true; the input reads as it did. -/
def bootNamesUptoRow : OpenClaim := { program := "ytgpdghbmiihfbaagreat", sum := "7c0f59e86a3376b0a90dc74270376540289fb6f5b77c03f5bf076abdf984cc99", func := "leverframe/leverframelaw29.BootNames", spec := "bootNames", unfollowed := true, recurses := true, apart := false, narrowed := true }
def BootNamesUptoSaid : Prop := bootNamesUptoRow.holds Tryz.pinned (OpenSpec.upto bootNamesSpec)

/-- 'leverframelaw29.BootBack', WHERE WHAT IT READS IS OF BULK AT MOST 1048576: true; the input reads as it did. -/
def bootBackUptoRow : OpenClaim := { program := "ytgpdghbmiihfbaagreat", sum := "7c0f59e86a3376b0a90dc74270376540289fb6f5b77c03f5bf076abdf984cc99", func := "leverframe/leverframelaw29.BootBack", spec := "bootBack", unfollowed := true, recurses := true, apart := false, narrowed := true }
def BootBackUptoSaid : Prop := bootBackUptoRow.holds Tryz.pinned (OpenSpec.upto bootBackSpec)

/-- 'leverframelaw29.BootKeys', WHERE WHAT IT READS IS OF BULK AT MOST 1048576: true; the input reads as it did. -/
def bootKeysUptoRow : OpenClaim := { program := "ytgpdghbmiihfbaagreat", sum := "7c0f59e86a3376b0a90dc74270376540289fb6f5b77c03f5bf076abdf984cc99", func := "leverframe/leverframelaw29.BootKeys", spec := "bootKeys", unfollowed := true, recurses := true, apart := false, narrowed := true }
def BootKeysUptoSaid : Prop := bootKeysUptoRow.holds Tryz.pinned (OpenSpec.upto bootKeysSpec)

end Rows
end Go.Proofs.YtgpdghbmiihfbaaGreat
