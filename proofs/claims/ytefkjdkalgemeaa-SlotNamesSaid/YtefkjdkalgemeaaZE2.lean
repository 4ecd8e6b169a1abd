/-
  Plain: the generation behind another one.
-/
import Derived.Test.YtefkjdkalgemeaaZE1
namespace Go.Proofs.Ytefkjdkalgemeaa
set_option linter.unusedVariables false
set_option linter.unusedSimpArgs false
open Go Go.VS Tab
set_option maxHeartbeats 1000000
def stepN (n next : Nat) : Nat := if next ≤ n then next + (n - next + 2) / 2 * 2 else next
def headB (b : List UInt8) : BitVec 32 := getB (b.take 4)
def tailB (b : List UInt8) : BitVec 32 := getB (b.drop 124)
def nextS (d : Dsk) (s g : Nat) : Nat → Nat
  | 0 => g
  | i + 1 => stepN (tailB (readB d ((s + i : Nat) : Int))).toNat (stepN (headB (readB d ((s + i : Nat) : Int))).toNat (nextS d s g i))
def nextN (d : Dsk) (g : BitVec 32) : Nat := nextS d (slotN (g + 1)) (g.toNat + 1) 16
def nextE (d : Dsk) (g : BitVec 32) : Int := if may d then (if 4294967295 < nextN d g then 9 else 0) else 8
def nextW (d : Dsk) (g : BitVec 32) : BitVec 32 := if nextE d g = 0 then BitVec.ofNat 32 (nextN d g) else 0
end Go.Proofs.Ytefkjdkalgemeaa
