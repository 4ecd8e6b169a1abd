/-
  Bytes as arguments.
-/
import Derived.Test.YtdkiciofkifpdaaZP33
namespace Go.Proofs.Ytdkiciofkifpdaa.Pln
set_option linter.unusedVariables false
set_option linter.unusedSimpArgs false
open Go Go.VS Tab
set_option linter.unusedVariables false
theorem arg_u8 : OpensArg Try.prog 5 (fun a : UInt8 => b8 a) (fun _ => True) := u8_arg Try.underlying5
end Go.Proofs.Ytdkiciofkifpdaa.Pln
