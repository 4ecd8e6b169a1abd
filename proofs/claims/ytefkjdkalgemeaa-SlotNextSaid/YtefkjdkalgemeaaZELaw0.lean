/-
  What records and generations come as.
-/
import Derived.Test.YtefkjdkalgemeaaZDLaw0
import Derived.Test.YtefkjdkalgemeaaZE7
namespace Go.Proofs.Ytefkjdkalgemeaa
open Go Go.VS Tab
set_option linter.unusedVariables false
theorem arg_w32 : OpensArg Try.prog 63 (fun a : BitVec 32 => w32 a) (fun _ => True) := .one (opens_u32 Try.underlying63) (arg_int Try.underlying63)
end Go.Proofs.Ytefkjdkalgemeaa
