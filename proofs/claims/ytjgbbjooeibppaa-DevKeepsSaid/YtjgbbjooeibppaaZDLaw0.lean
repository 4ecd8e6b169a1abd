/-
 What disks, lists of numbers and bytes come as.
-/
import Derived.Test.YtjgbbjooeibppaaZD15
import Derived.Test.YtjgbbjooeibppaaZVsLaw
namespace Go.Proofs.Ytjgbbjooeibppaa
open Go Go.VS Tab
set_option linter.unusedVariables false
theorem Xki : Opens Try.prog 44 (fun l : List UInt8 => Y6 l) (fun l => l.length ≤ Xiv) :=
 (Cr Try.underlying44 Try.underlying5 (by kernel_rfl) (of_decide_eq_true (by kernel_rfl))).map fun l hl => ⟨l, hl, rfl⟩
theorem Xny : OpensArg Try.prog 3 (fun a : Int => i64 a) (fun a => (Lit.int .i64 a).wf = true) := Xnj Try.underlying3
theorem Hs : OpensArg Try.prog 44 bs (fun l => l.length ≤ Xiv) := J8 Try.underlying44 Try.underlying5 (by kernel_rfl) (of_decide_eq_true (by kernel_rfl))
end Go.Proofs.Ytjgbbjooeibppaa
