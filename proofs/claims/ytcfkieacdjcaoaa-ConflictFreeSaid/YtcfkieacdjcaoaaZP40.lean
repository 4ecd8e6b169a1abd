/-
  Lists of numbers as arguments.
-/
import Derived.Test.YtcfkieacdjcaoaaZP33
namespace Go.Proofs.Ytcfkieacdjcaoaa.Pln
set_option linter.unusedVariables false
set_option linter.unusedSimpArgs false
open Go Go.VS Tab
set_option linter.unusedVariables false
theorem arg_ints : OpensArg Try.prog 32 (fun l : List Int => ints l) (fun _ => True) := .one opens_ints (arg_slice Try.underlying32)
end Go.Proofs.Ytcfkieacdjcaoaa.Pln
