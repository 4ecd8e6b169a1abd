/-
  No cell of these rows narrows 'for every input' (looked for: loops, veiled, ifaces, maps, wideKeys, modest, calm, conditions, laid).
  DERIVED. THE GIVEN ROWS OF THIS SEAT. 5 by the template 'for every input the law returns true; each argument reads behind the call as it read before'; 0 by the template 'total and deterministic' (their statements: YtdngdjbgmojcoaaGreatTotals.lean).
  GIVEN WITH THE SEED: the statements are not yours to turn. If you find one false, say at which input.
  Laid BY PROGRAM, IN A SANDBOX (cutbox-rows.mjs): the forced cells as the released guide's own fill.sh prints them over the translation 0337e9f5034b2449… (all of the seat's roots in one cut). By AI agents, Wed Nov 11 2026. No macro, syntax, notation, axiom, sorry.
-/
import Derived.Test.YtdngdjbgmojcoaaGreatChecked
import GoSem.Claim
import GoSem.ClaimJoined
import GoSem.ClaimMapViews
import Derived.JoinedTies
import Derived.KernelRfl
namespace Go.Proofs.YtdngdjbgmojcoaaGreat
/- THE CELL 'sum', in the pinned program and in every row, IS THE sha256 OF THE DUMP (.gsa) THAT YtdngdjbgmojcoaaGreatProg.lean LOADS. Nothing in Lean hashes anything: it is a label: what it is worth is what the hold of that sum in a sandbox is worth. -/
noncomputable def Tryz.pinned : Pinned := { name := "ytdngdjbgmojcoaagreat", sum := "0337e9f5034b244969f269ab605771493e6c28d30eb987216a04e68224dda916", checked := Tryz.checked }
namespace Rows
def none {H : Type} : Left H := { results := [], args := [] }

/-- 'leverframelaw24.KeepTells': WHATEVER THE INPUT: true; the input reads as it did. -/
def keepTellsSpec : ChangeSpec := { name := "keepTells", fn := fun _ => fun
  | [d1, d2] => { results := [.lit (.bool true)], args := [d1, d2] }
  | _ => none }
def keepTellsRow : OpenClaim := { program := "ytdngdjbgmojcoaagreat", sum := "0337e9f5034b244969f269ab605771493e6c28d30eb987216a04e68224dda916", func := "leverframe/leverframelaw24.KeepTells", spec := "keepTells", unfollowed := true, recurses := true, apart := false }
def KeepTellsSaid : Prop := keepTellsRow.holds Tryz.pinned (OpenSpec.ofChange keepTellsSpec)

/-- ITS FALSE NEIGHBOUR: 'it returns false'. Refute it at one input. -/
def keepTellsWrong : ChangeSpec := { name := "keepTells", fn := fun _ => fun
  | [d1, d2] => { results := [.lit (.bool false)], args := [d1, d2] }
  | _ => none }
def KeepTellsWrongFalsely : Prop := keepTellsRow.holds Tryz.pinned (OpenSpec.ofChange keepTellsWrong)

/-- 'leverframelaw24.KeepNames': WHATEVER THE INPUT: true; the input reads as it did. -/
def keepNamesSpec : ChangeSpec := { name := "keepNames", fn := fun _ => fun
  | [] => { results := [.lit (.bool true)], args := [] }
  | _ => none }
def keepNamesRow : OpenClaim := { program := "ytdngdjbgmojcoaagreat", sum := "0337e9f5034b244969f269ab605771493e6c28d30eb987216a04e68224dda916", func := "leverframe/leverframelaw24.KeepNames", spec := "keepNames", unfollowed := true, recurses := true, apart := false }
def KeepNamesSaid : Prop := keepNamesRow.holds Tryz.pinned (OpenSpec.ofChange keepNamesSpec)

/-- ITS FALSE NEIGHBOUR: 'it returns false'. Refute it at one input. -/
def keepNamesWrong : ChangeSpec := { name := "keepNames", fn := fun _ => fun
  | [] => { results := [.lit (.bool false)], args := [] }
  | _ => none }
def KeepNamesWrongFalsely : Prop := keepNamesRow.holds Tryz.pinned (OpenSpec.ofChange keepNamesWrong)

/-- 'leverframelaw24.KeepApart': WHATEVER THE INPUT: true; the input reads as it did. -/
def keepApartSpec : ChangeSpec := { name := "keepApart", fn := fun _ => fun
  | [d1, d2] => { results := [.lit (.bool true)], args := [d1, d2] }
  | _ => none }
def keepApartRow : OpenClaim := { program := "ytdngdjbgmojcoaagreat", sum := "0337e9f5034b244969f269ab605771493e6c28d30eb987216a04e68224dda916", func := "leverframe/leverframelaw24.KeepApart", spec := "keepApart", unfollowed := true, recurses := true, apart := false }
def KeepApartSaid : Prop := keepApartRow.holds Tryz.pinned (OpenSpec.ofChange keepApartSpec)

/-- ITS FALSE NEIGHBOUR: 'it returns false'. Refute it at one input. -/
def keepApartWrong : ChangeSpec := { name := "keepApart", fn := fun _ => fun
  | [d1, d2] => { results := [.lit (.bool false)], args := [d1, d2] }
  | _ => none }
def KeepApartWrongFalsely : Prop := keepApartRow.holds Tryz.pinned (OpenSpec.ofChange keepApartWrong)

/-- 'leverframelaw24.KeepForgets': WHATEVER THE INPUT: true; the input reads as it did. -/
def keepForgetsSpec : ChangeSpec := { name := "keepForgets", fn := fun _ => fun
  | [d1, d2] => { results := [.lit (.bool true)], args := [d1, d2] }
  | _ => none }
def keepForgetsRow : OpenClaim := { program := "ytdngdjbgmojcoaagreat", sum := "0337e9f5034b244969f269ab605771493e6c28d30eb987216a04e68224dda916", func := "leverframe/leverframelaw24.KeepForgets", spec := "keepForgets", unfollowed := true, recurses := true, apart := false }
def KeepForgetsSaid : Prop := keepForgetsRow.holds Tryz.pinned (OpenSpec.ofChange keepForgetsSpec)

/-- ITS FALSE NEIGHBOUR: 'it returns false'. Refute it at one input. -/
def keepForgetsWrong : ChangeSpec := { name := "keepForgets", fn := fun _ => fun
  | [d1, d2] => { results := [.lit (.bool false)], args := [d1, d2] }
  | _ => none }
def KeepForgetsWrongFalsely : Prop := keepForgetsRow.holds Tryz.pinned (OpenSpec.ofChange keepForgetsWrong)

/-- 'leverframelaw24.KeepBack': WHATEVER THE INPUT: true; the input reads as it did. -/
def keepBackSpec : ChangeSpec := { name := "keepBack", fn := fun _ => fun
  | [d1, d2] => { results := [.lit (.bool true)], args := [d1, d2] }
  | _ => none }
def keepBackRow : OpenClaim := { program := "ytdngdjbgmojcoaagreat", sum := "0337e9f5034b244969f269ab605771493e6c28d30eb987216a04e68224dda916", func := "leverframe/leverframelaw24.KeepBack", spec := "keepBack", unfollowed := true, recurses := true, apart := false }
def KeepBackSaid : Prop := keepBackRow.holds Tryz.pinned (OpenSpec.ofChange keepBackSpec)

/-- ITS FALSE NEIGHBOUR: 'it returns false'. Refute it at one input. -/
def keepBackWrong : ChangeSpec := { name := "keepBack", fn := fun _ => fun
  | [d1, d2] => { results := [.lit (.bool false)], args := [d1, d2] }
  | _ => none }
def KeepBackWrongFalsely : Prop := keepBackRow.holds Tryz.pinned (OpenSpec.ofChange keepBackWrong)

/- THE SECOND FORM. 'bulk': how many values and letters a reading holds, each counted each time it is reached (what is shared counts as often as it is met; a slice's spare places count too). A statement '..UptoSaid' is the law's where the arguments, and the package variables that the reading takes, are together of bulk at most 1048576: NARROWER than '..Said'. Prove '..Said' where nothing that the law and all that it calls make is longer than what came in: it says more and counts as full. Else prove '..UptoSaid'. A law counts once. -/
mutual
def uptoBulk {H : Type} : DataW H → Nat
  | .lit (.string bytes) => bytes.length + 1
  | .lit _ => 1
  | .nil => 1
  | .ptr d => uptoBulk d + 1
  | .slice elems spare => uptoBulkAll elems + uptoBulkAll spare + 1
  | .agg parts => uptoBulkAll parts + 1
  | .iface _ d => uptoBulk d + 1
  | .map entries => uptoBulkEntries entries + 1
  | .held _ => 1
def uptoBulkAll {H : Type} : List (DataW H) → Nat
  | [] => 0
  | d :: r => uptoBulk d + uptoBulkAll r
def uptoBulkEntries {H : Type} : List (Lit × DataW H) → Nat
  | [] => 0
  | x :: r => uptoBulkEntry x + uptoBulkEntries r
def uptoBulkEntry {H : Type} : Lit × DataW H → Nat
  | (.string bytes, d) => bytes.length + uptoBulk d + 1
  | (_, d) => uptoBulk d + 1
 end
def uptoSmall : (H : Type) → List (DataW H) → Bool := fun _ ds => decide (uptoBulkAll ds ≤ 1048576)
def OpenSpec.upto (s : _root_.Go.ChangeSpec) : _root_.Go.OpenSpec := { _root_.Go.OpenSpec.ofChange s with cond := some uptoSmall }

/-- 'leverframelaw24.KeepTells', WHERE WHAT IT READS IS OF BULK AT MOST 1048576: true; the input reads as it did. -/
def keepTellsUptoRow : OpenClaim := { program := "ytdngdjbgmojcoaagreat", sum := "0337e9f5034b244969f269ab605771493e6c28d30eb987216a04e68224dda916", func := "leverframe/leverframelaw24.KeepTells", spec := "keepTells", unfollowed := true, recurses := true, apart := false, narrowed := true }
def KeepTellsUptoSaid : Prop := keepTellsUptoRow.holds Tryz.pinned (OpenSpec.upto keepTellsSpec)

/-- 'leverframelaw24.KeepNames', WHERE WHAT IT READS IS OF BULK AT MOST 1048576: true; the input reads as it did. -/
def keepNamesUptoRow : OpenClaim := { program := "ytdngdjbgmojcoaagreat", sum := "0337e9f5034b244969f269ab605771493e6c28d30eb987216a04e68224dda916", func := "leverframe/leverframelaw24.KeepNames", spec := "keepNames", unfollowed := true, recurses := true, apart := false, narrowed := true }
def KeepNamesUptoSaid : Prop := keepNamesUptoRow.holds Tryz.pinned (OpenSpec.upto keepNamesSpec)

/-- 'leverframelaw24.KeepApart', WHERE WHAT IT READS IS OF BULK AT MOST 1048576: true; the input reads as it did. -/
def keepApartUptoRow : OpenClaim := { program := "ytdngdjbgmojcoaagreat", sum := "0337e9f5034b244969f269ab605771493e6c28d30eb987216a04e68224dda916", func := "leverframe/leverframelaw24.KeepApart", spec := "keepApart", unfollowed := true, recurses := true, apart := false, narrowed := true }
def KeepApartUptoSaid : Prop := keepApartUptoRow.holds Tryz.pinned (OpenSpec.upto keepApartSpec)

/-- 'leverframelaw24.KeepForgets', WHERE WHAT IT READS IS OF BULK AT MOST 1048576: true; the input reads as it did. -/
def keepForgetsUptoRow : OpenClaim := { program := "ytdngdjbgmojcoaagreat", sum := "0337e9f5034b244969f269ab605771493e6c28d30eb987216a04e68224dda916", func := "leverframe/leverframelaw24.KeepForgets", spec := "keepForgets", unfollowed := true, recurses := true, apart := false, narrowed := true }
def KeepForgetsUptoSaid : Prop := keepForgetsUptoRow.holds Tryz.pinned (OpenSpec.upto keepForgetsSpec)

/-- 'leverframelaw24.KeepBack', WHERE WHAT IT READS IS OF BULK AT MOST 1048576: true; the input reads as it did. -/
def keepBackUptoRow : OpenClaim := { program := "ytdngdjbgmojcoaagreat", sum := "0337e9f5034b244969f269ab605771493e6c28d30eb987216a04e68224dda916", func := "leverframe/leverframelaw24.KeepBack", spec := "keepBack", unfollowed := true, recurses := true, apart := false, narrowed := true }
def KeepBackUptoSaid : Prop := keepBackUptoRow.holds Tryz.pinned (OpenSpec.upto keepBackSpec)

end Rows
end Go.Proofs.YtdngdjbgmojcoaaGreat
