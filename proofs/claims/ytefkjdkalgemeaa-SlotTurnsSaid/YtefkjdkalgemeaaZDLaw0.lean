/-
  What disks, lists of numbers and bytes come as.
-/
import Derived.Test.YtefkjdkalgemeaaZGA
import Derived.Test.YtefkjdkalgemeaaZD14
import Derived.Test.YtefkjdkalgemeaaZVsLaw
namespace Go.Proofs.Ytefkjdkalgemeaa
open Go Go.VS Tab
set_option linter.unusedVariables false
theorem opens_row : Opens Try.prog 37 (fun l : List UInt8 => secC l) (fun l => l.length ≤ reach) :=
  (opens_bytes Try.underlying37 Try.underlying5 (by kernel_rfl) (of_decide_eq_true (by kernel_rfl))).map fun l hl => ⟨l, hl, rfl⟩
theorem arg_bytes : OpensArg Try.prog 37 bs (fun l => l.length ≤ reach) := bytes_arg Try.underlying37 Try.underlying5 (by kernel_rfl) (of_decide_eq_true (by kernel_rfl))
end Go.Proofs.Ytefkjdkalgemeaa
