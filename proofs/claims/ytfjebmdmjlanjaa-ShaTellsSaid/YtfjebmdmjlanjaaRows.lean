/-
  No cell of these rows narrows 'for every input' (looked for: loops, veiled, ifaces, maps, wideKeys, modest, calm, conditions, laid).
  DERIVED. THE GIVEN ROWS OF THIS SEAT. 9 by the template 'for every input the law returns true; each argument reads behind the call as it read before'; 0 by the template 'total and deterministic' (their statements: YtfjebmdmjlanjaaTotals.lean).
  GIVEN WITH THE SEED: the statements are not yours to turn. If you find one false, say at which input.
  Laid BY PROGRAM, IN A SANDBOX (cutbox-rows.mjs): the forced cells as the released guide's own fill.sh prints them over the translation cdc29eb49c5eaa2e… (all of the seat's roots in one cut). By AI agents, Wed Nov 11 2026. No macro, syntax, notation, axiom, sorry.
-/
import Derived.Test.YtfjebmdmjlanjaaChecked
import GoSem.Claim
import GoSem.ClaimJoined
import GoSem.ClaimMapViews
import Derived.JoinedTies
import Derived.KernelRfl
namespace Go.Proofs.Ytfjebmdmjlanjaa
/- THE CELL 'sum', in the pinned program and in every row, IS THE sha256 OF THE DUMP (.gsa) THAT YtfjebmdmjlanjaaProg.lean LOADS. Nothing in Lean hashes anything: it is a label: what it is worth is what the hold of that sum in a sandbox is worth. -/
noncomputable def Try.pinned : Pinned := { name := "ytfjebmdmjlanjaa", sum := "cdc29eb49c5eaa2e6ae5164d258d6205019e65016fa30466c320a0b3eaa557d4", checked := Try.checked }
namespace Rows
def none {H : Type} : Left H := { results := [], args := [] }

/-- 'leverframelaw03.ShaNames': WHATEVER THE INPUT: true; the input reads as it did. -/
def shaNamesSpec : ChangeSpec := { name := "shaNames", fn := fun _ => fun
  | [] => { results := [.lit (.bool true)], args := [] }
  | _ => none }
def shaNamesRow : OpenClaim := { program := "ytfjebmdmjlanjaa", sum := "cdc29eb49c5eaa2e6ae5164d258d6205019e65016fa30466c320a0b3eaa557d4", func := "leverframe/leverframelaw03.ShaNames", spec := "shaNames", unfollowed := true, recurses := true, apart := false }
def ShaNamesSaid : Prop := shaNamesRow.holds Try.pinned (OpenSpec.ofChange shaNamesSpec)

/-- ITS FALSE NEIGHBOUR: 'it returns false'. Refute it at one input. -/
def shaNamesWrong : ChangeSpec := { name := "shaNames", fn := fun _ => fun
  | [] => { results := [.lit (.bool false)], args := [] }
  | _ => none }
def ShaNamesWrongFalsely : Prop := shaNamesRow.holds Try.pinned (OpenSpec.ofChange shaNamesWrong)

/-- 'leverframelaw03.ShaTells': WHATEVER THE INPUT: true; the input reads as it did. -/
def shaTellsSpec : ChangeSpec := { name := "shaTells", fn := fun _ => fun
  | [d1, d2, d3] => { results := [.lit (.bool true)], args := [d1, d2, d3] }
  | _ => none }
def shaTellsRow : OpenClaim := { program := "ytfjebmdmjlanjaa", sum := "cdc29eb49c5eaa2e6ae5164d258d6205019e65016fa30466c320a0b3eaa557d4", func := "leverframe/leverframelaw03.ShaTells", spec := "shaTells", unfollowed := true, recurses := true, apart := false }
def ShaTellsSaid : Prop := shaTellsRow.holds Try.pinned (OpenSpec.ofChange shaTellsSpec)

/-- ITS FALSE NEIGHBOUR: 'it returns false'. Refute it at one input. -/
def shaTellsWrong : ChangeSpec := { name := "shaTells", fn := fun _ => fun
  | [d1, d2, d3] => { results := [.lit (.bool false)], args := [d1, d2, d3] }
  | _ => none }
def ShaTellsWrongFalsely : Prop := shaTellsRow.holds Try.pinned (OpenSpec.ofChange shaTellsWrong)

/-- 'leverframelaw03.ShaBlocks': WHATEVER THE INPUT: true; the input reads as it did. -/
def shaBlocksSpec : ChangeSpec := { name := "shaBlocks", fn := fun _ => fun
  | [d1, d2] => { results := [.lit (.bool true)], args := [d1, d2] }
  | _ => none }
def shaBlocksRow : OpenClaim := { program := "ytfjebmdmjlanjaa", sum := "cdc29eb49c5eaa2e6ae5164d258d6205019e65016fa30466c320a0b3eaa557d4", func := "leverframe/leverframelaw03.ShaBlocks", spec := "shaBlocks", unfollowed := true, recurses := true, apart := false }
def ShaBlocksSaid : Prop := shaBlocksRow.holds Try.pinned (OpenSpec.ofChange shaBlocksSpec)

/-- ITS FALSE NEIGHBOUR: 'it returns false'. Refute it at one input. -/
def shaBlocksWrong : ChangeSpec := { name := "shaBlocks", fn := fun _ => fun
  | [d1, d2] => { results := [.lit (.bool false)], args := [d1, d2] }
  | _ => none }
def ShaBlocksWrongFalsely : Prop := shaBlocksRow.holds Try.pinned (OpenSpec.ofChange shaBlocksWrong)

/-- 'leverframelaw03.ShaFilled': WHATEVER THE INPUT: true; the input reads as it did. -/
def shaFilledSpec : ChangeSpec := { name := "shaFilled", fn := fun _ => fun
  | [d1, d2] => { results := [.lit (.bool true)], args := [d1, d2] }
  | _ => none }
def shaFilledRow : OpenClaim := { program := "ytfjebmdmjlanjaa", sum := "cdc29eb49c5eaa2e6ae5164d258d6205019e65016fa30466c320a0b3eaa557d4", func := "leverframe/leverframelaw03.ShaFilled", spec := "shaFilled", unfollowed := true, recurses := true, apart := false }
def ShaFilledSaid : Prop := shaFilledRow.holds Try.pinned (OpenSpec.ofChange shaFilledSpec)

/-- ITS FALSE NEIGHBOUR: 'it returns false'. Refute it at one input. -/
def shaFilledWrong : ChangeSpec := { name := "shaFilled", fn := fun _ => fun
  | [d1, d2] => { results := [.lit (.bool false)], args := [d1, d2] }
  | _ => none }
def ShaFilledWrongFalsely : Prop := shaFilledRow.holds Try.pinned (OpenSpec.ofChange shaFilledWrong)

/-- 'leverframelaw04.HmacNested': WHATEVER THE INPUT: true; the input reads as it did. -/
def hmacNestedSpec : ChangeSpec := { name := "hmacNested", fn := fun _ => fun
  | [d1, d2, d3] => { results := [.lit (.bool true)], args := [d1, d2, d3] }
  | _ => none }
def hmacNestedRow : OpenClaim := { program := "ytfjebmdmjlanjaa", sum := "cdc29eb49c5eaa2e6ae5164d258d6205019e65016fa30466c320a0b3eaa557d4", func := "leverframe/leverframelaw04.HmacNested", spec := "hmacNested", unfollowed := true, recurses := true, apart := false }
def HmacNestedSaid : Prop := hmacNestedRow.holds Try.pinned (OpenSpec.ofChange hmacNestedSpec)

/-- ITS FALSE NEIGHBOUR: 'it returns false'. Refute it at one input. -/
def hmacNestedWrong : ChangeSpec := { name := "hmacNested", fn := fun _ => fun
  | [d1, d2, d3] => { results := [.lit (.bool false)], args := [d1, d2, d3] }
  | _ => none }
def HmacNestedWrongFalsely : Prop := hmacNestedRow.holds Try.pinned (OpenSpec.ofChange hmacNestedWrong)

/-- 'leverframelaw04.HmacKeys': WHATEVER THE INPUT: true; the input reads as it did. -/
def hmacKeysSpec : ChangeSpec := { name := "hmacKeys", fn := fun _ => fun
  | [d1, d2, d3] => { results := [.lit (.bool true)], args := [d1, d2, d3] }
  | _ => none }
def hmacKeysRow : OpenClaim := { program := "ytfjebmdmjlanjaa", sum := "cdc29eb49c5eaa2e6ae5164d258d6205019e65016fa30466c320a0b3eaa557d4", func := "leverframe/leverframelaw04.HmacKeys", spec := "hmacKeys", unfollowed := true, recurses := true, apart := false }
def HmacKeysSaid : Prop := hmacKeysRow.holds Try.pinned (OpenSpec.ofChange hmacKeysSpec)

/-- ITS FALSE NEIGHBOUR: 'it returns false'. Refute it at one input. -/
def hmacKeysWrong : ChangeSpec := { name := "hmacKeys", fn := fun _ => fun
  | [d1, d2, d3] => { results := [.lit (.bool false)], args := [d1, d2, d3] }
  | _ => none }
def HmacKeysWrongFalsely : Prop := hmacKeysRow.holds Try.pinned (OpenSpec.ofChange hmacKeysWrong)

/-- 'leverframelaw04.HmacNames': WHATEVER THE INPUT: true; the input reads as it did. -/
def hmacNamesSpec : ChangeSpec := { name := "hmacNames", fn := fun _ => fun
  | [] => { results := [.lit (.bool true)], args := [] }
  | _ => none }
def hmacNamesRow : OpenClaim := { program := "ytfjebmdmjlanjaa", sum := "cdc29eb49c5eaa2e6ae5164d258d6205019e65016fa30466c320a0b3eaa557d4", func := "leverframe/leverframelaw04.HmacNames", spec := "hmacNames", unfollowed := true, recurses := true, apart := false }
def HmacNamesSaid : Prop := hmacNamesRow.holds Try.pinned (OpenSpec.ofChange hmacNamesSpec)

/-- ITS FALSE NEIGHBOUR: 'it returns false'. Refute it at one input. -/
def hmacNamesWrong : ChangeSpec := { name := "hmacNames", fn := fun _ => fun
  | [] => { results := [.lit (.bool false)], args := [] }
  | _ => none }
def HmacNamesWrongFalsely : Prop := hmacNamesRow.holds Try.pinned (OpenSpec.ofChange hmacNamesWrong)

/-- 'leverframelaw04.HmacTells': WHATEVER THE INPUT: true; the input reads as it did. -/
def hmacTellsSpec : ChangeSpec := { name := "hmacTells", fn := fun _ => fun
  | [d1, d2, d3, d4] => { results := [.lit (.bool true)], args := [d1, d2, d3, d4] }
  | _ => none }
def hmacTellsRow : OpenClaim := { program := "ytfjebmdmjlanjaa", sum := "cdc29eb49c5eaa2e6ae5164d258d6205019e65016fa30466c320a0b3eaa557d4", func := "leverframe/leverframelaw04.HmacTells", spec := "hmacTells", unfollowed := true, recurses := true, apart := false }
def HmacTellsSaid : Prop := hmacTellsRow.holds Try.pinned (OpenSpec.ofChange hmacTellsSpec)

/-- ITS FALSE NEIGHBOUR: 'it returns false'. Refute it at one input. -/
def hmacTellsWrong : ChangeSpec := { name := "hmacTells", fn := fun _ => fun
  | [d1, d2, d3, d4] => { results := [.lit (.bool false)], args := [d1, d2, d3, d4] }
  | _ => none }
def HmacTellsWrongFalsely : Prop := hmacTellsRow.holds Try.pinned (OpenSpec.ofChange hmacTellsWrong)

/-- 'leverframelaw04.HmacSame': WHATEVER THE INPUT: true; the input reads as it did. -/
def hmacSameSpec : ChangeSpec := { name := "hmacSame", fn := fun _ => fun
  | [d1, d2, d3] => { results := [.lit (.bool true)], args := [d1, d2, d3] }
  | _ => none }
def hmacSameRow : OpenClaim := { program := "ytfjebmdmjlanjaa", sum := "cdc29eb49c5eaa2e6ae5164d258d6205019e65016fa30466c320a0b3eaa557d4", func := "leverframe/leverframelaw04.HmacSame", spec := "hmacSame", unfollowed := true, recurses := true, apart := false }
def HmacSameSaid : Prop := hmacSameRow.holds Try.pinned (OpenSpec.ofChange hmacSameSpec)

/-- ITS FALSE NEIGHBOUR: 'it returns false'. Refute it at one input. -/
def hmacSameWrong : ChangeSpec := { name := "hmacSame", fn := fun _ => fun
  | [d1, d2, d3] => { results := [.lit (.bool false)], args := [d1, d2, d3] }
  | _ => none }
def HmacSameWrongFalsely : Prop := hmacSameRow.holds Try.pinned (OpenSpec.ofChange hmacSameWrong)

/- THE SECOND FORM. 'bulk': how many values and letters a reading holds, each counted each time it is reached (what is shared counts as often as it is met; a slice's spare places count too). A statement '..UptoSaid' is the law's where the arguments, and the package variables that the reading takes, are together of bulk at most 1048576: NARROWER than '..Said'. Prove '..Said' where nothing that the law and all that it calls make is longer than what came in: it says more and counts as full. Else prove '..UptoSaid'. A law counts once. -/
mutual
def uptoBulk {H : Type} : DataW H → Nat
  | .lit (.string bytes) => bytes.length + 1
  | .lit _ => 1
  | .nil => 1
  | .ptr d => uptoBulk d + 1
  | .slice elems spare => uptoBulkAll elems + uptoBulkAll spare + 1
  | .agg parts => uptoBulkAll parts + 1
  | .iface _ d => uptoBulk d + 1
  | .map entries => uptoBulkEntries entries + 1
  | .held _ => 1
def uptoBulkAll {H : Type} : List (DataW H) → Nat
  | [] => 0
  | d :: r => uptoBulk d + uptoBulkAll r
def uptoBulkEntries {H : Type} : List (Lit × DataW H) → Nat
  | [] => 0
  | x :: r => uptoBulkEntry x + uptoBulkEntries r
def uptoBulkEntry {H : Type} : Lit × DataW H → Nat
  | (.string bytes, d) => bytes.length + uptoBulk d + 1
  | (_, d) => uptoBulk d + 1
 end
def uptoSmall : (H : Type) → List (DataW H) → Bool := fun _ ds => decide (uptoBulkAll ds ≤ 1048576)
def OpenSpec.upto (s : _root_.Go.ChangeSpec) : _root_.Go.OpenSpec := { _root_.Go.OpenSpec.ofChange s with cond := some uptoSmall }

/-- 'leverframelaw03.ShaNames', WHERE WHAT IT READS IS OF BULK AT MOST 1048576: true; the input reads as it did. -/
def shaNamesUptoRow : OpenClaim := { program := "ytfjebmdmjlanjaa", sum := "cdc29eb49c5eaa2e6ae5164d258d6205019e65016fa30466c320a0b3eaa557d4", func := "leverframe/leverframelaw03.ShaNames", spec := "shaNames", unfollowed := true, recurses := true, apart := false, narrowed := true }
def ShaNamesUptoSaid : Prop := shaNamesUptoRow.holds Try.pinned (OpenSpec.upto shaNamesSpec)

/-- 'leverframelaw03.ShaTells', WHERE WHAT IT READS IS OF BULK AT MOST 1048576: true; the input reads as it did. -/
def shaTellsUptoRow : OpenClaim := { program := "ytfjebmdmjlanjaa", sum := "cdc29eb49c5eaa2e6ae5164d258d6205019e65016fa30466c320a0b3eaa557d4", func := "leverframe/leverframelaw03.ShaTells", spec := "shaTells", unfollowed := true, recurses := true, apart := false, narrowed := true }
def ShaTellsUptoSaid : Prop := shaTellsUptoRow.holds Try.pinned (OpenSpec.upto shaTellsSpec)

/-- 'leverframelaw03.ShaBlocks', WHERE WHAT IT READS IS OF BULK AT MOST 1048576: true; the input reads as it did. -/
def shaBlocksUptoRow : OpenClaim := { program := "ytfjebmdmjlanjaa", sum := "cdc29eb49c5eaa2e6ae5164d258d6205019e65016fa30466c320a0b3eaa557d4", func := "leverframe/leverframelaw03.ShaBlocks", spec := "shaBlocks", unfollowed := true, recurses := true, apart := false, narrowed := true }
def ShaBlocksUptoSaid : Prop := shaBlocksUptoRow.holds Try.pinned (OpenSpec.upto shaBlocksSpec)

/-- 'leverframelaw03.ShaFilled', WHERE WHAT IT READS IS OF BULK AT MOST 1048576: true; the input reads as it did. -/
def shaFilledUptoRow : OpenClaim := { program := "ytfjebmdmjlanjaa", sum := "cdc29eb49c5eaa2e6ae5164d258d6205019e65016fa30466c320a0b3eaa557d4", func := "leverframe/leverframelaw03.ShaFilled", spec := "shaFilled", unfollowed := true, recurses := true, apart := false, narrowed := true }
def ShaFilledUptoSaid : Prop := shaFilledUptoRow.holds Try.pinned (OpenSpec.upto shaFilledSpec)

/-- 'leverframelaw04.HmacNested', WHERE WHAT IT READS IS OF BULK AT MOST 1048576: true; the input reads as it did. -/
def hmacNestedUptoRow : OpenClaim := { program := "ytfjebmdmjlanjaa", sum := "cdc29eb49c5eaa2e6ae5164d258d6205019e65016fa30466c320a0b3eaa557d4", func := "leverframe/leverframelaw04.HmacNested", spec := "hmacNested", unfollowed := true, recurses := true, apart := false, narrowed := true }
def HmacNestedUptoSaid : Prop := hmacNestedUptoRow.holds Try.pinned (OpenSpec.upto hmacNestedSpec)

/-- 'leverframelaw04.HmacKeys', WHERE WHAT IT READS IS OF BULK AT MOST 1048576: true; the input reads as it did. -/
def hmacKeysUptoRow : OpenClaim := { program := "ytfjebmdmjlanjaa", sum := "cdc29eb49c5eaa2e6ae5164d258d6205019e65016fa30466c320a0b3eaa557d4", func := "leverframe/leverframelaw04.HmacKeys", spec := "hmacKeys", unfollowed := true, recurses := true, apart := false, narrowed := true }
def HmacKeysUptoSaid : Prop := hmacKeysUptoRow.holds Try.pinned (OpenSpec.upto hmacKeysSpec)

/-- 'leverframelaw04.HmacNames', WHERE WHAT IT READS IS OF BULK AT MOST 1048576: true; the input reads as it did. -/
def hmacNamesUptoRow : OpenClaim := { program := "ytfjebmdmjlanjaa", sum := "cdc29eb49c5eaa2e6ae5164d258d6205019e65016fa30466c320a0b3eaa557d4", func := "leverframe/leverframelaw04.HmacNames", spec := "hmacNames", unfollowed := true, recurses := true, apart := false, narrowed := true }
def HmacNamesUptoSaid : Prop := hmacNamesUptoRow.holds Try.pinned (OpenSpec.upto hmacNamesSpec)

/-- 'leverframelaw04.HmacTells', WHERE WHAT IT READS IS OF BULK AT MOST 1048576: true; the input reads as it did. -/
def hmacTellsUptoRow : OpenClaim := { program := "ytfjebmdmjlanjaa", sum := "cdc29eb49c5eaa2e6ae5164d258d6205019e65016fa30466c320a0b3eaa557d4", func := "leverframe/leverframelaw04.HmacTells", spec := "hmacTells", unfollowed := true, recurses := true, apart := false, narrowed := true }
def HmacTellsUptoSaid : Prop := hmacTellsUptoRow.holds Try.pinned (OpenSpec.upto hmacTellsSpec)

/-- 'leverframelaw04.HmacSame', WHERE WHAT IT READS IS OF BULK AT MOST 1048576: true; the input reads as it did. -/
def hmacSameUptoRow : OpenClaim := { program := "ytfjebmdmjlanjaa", sum := "cdc29eb49c5eaa2e6ae5164d258d6205019e65016fa30466c320a0b3eaa557d4", func := "leverframe/leverframelaw04.HmacSame", spec := "hmacSame", unfollowed := true, recurses := true, apart := false, narrowed := true }
def HmacSameUptoSaid : Prop := hmacSameUptoRow.holds Try.pinned (OpenSpec.upto hmacSameSpec)

end Rows
end Go.Proofs.Ytfjebmdmjlanjaa
