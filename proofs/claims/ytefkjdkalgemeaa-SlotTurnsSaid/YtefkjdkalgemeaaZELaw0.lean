/-
  What records and generations come as.
-/
import Derived.Test.YtefkjdkalgemeaaZDLaw0
import Derived.Test.YtefkjdkalgemeaaZE7
namespace Go.Proofs.Ytefkjdkalgemeaa
open Go Go.VS Tab
set_option linter.unusedVariables false
theorem arg_rows : OpensArg Try.prog 22 (fun l : List (List UInt8) => .sl 1 (l.map secC) .sh) (fun _ => True) :=
  .one ((opens_slice Try.underlying22 opens_row (sz := 1) (by kernel_rfl) (by decide) (of_decide_eq_true (by kernel_rfl))).map fun l hl => ⟨l, trivial, rfl⟩) (arg_slice Try.underlying22)
end Go.Proofs.Ytefkjdkalgemeaa
