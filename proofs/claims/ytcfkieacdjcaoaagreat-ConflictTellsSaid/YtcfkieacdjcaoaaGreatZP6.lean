/-
  The end at which one comes out.
-/
import Derived.Test.YtcfkieacdjcaoaaGreatZP5
namespace Go.Proofs.YtcfkieacdjcaoaaGreat.Pln
set_option linter.unusedVariables false
set_option linter.unusedSimpArgs false
open Go Go.VS Tab
set_option maxHeartbeats 1000000
set_option maxRecDepth 4000
def outI (s : Sec) (a c : Int) : Int := idx (fun e : Nat => lieF s a e == c) (List.range s.ends.length)
def outL (s : Sec) (a c : Int) : Int := if shaped s ∧ 0 ≤ c ∧ 0 ≤ outI s a c then outI s a c else 0
def outE (s : Sec) (a c : Int) : Int := if shaped s then (if c < 0 ∨ outI s a c < 0 then 2 else 0) else 8
end Go.Proofs.YtcfkieacdjcaoaaGreat.Pln
