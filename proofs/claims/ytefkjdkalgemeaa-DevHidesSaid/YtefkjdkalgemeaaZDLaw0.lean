/-
  What disks, lists of numbers and bytes come as.
-/
import Derived.Test.YtefkjdkalgemeaaZD15
import Derived.Test.YtefkjdkalgemeaaZVsLaw
namespace Go.Proofs.Ytefkjdkalgemeaa
open Go Go.VS Tab
set_option linter.unusedVariables false
theorem opens_row : Opens Try.prog 37 (fun l : List UInt8 => secC l) (fun l => l.length ≤ reach) :=
  (opens_bytes Try.underlying37 Try.underlying5 (by kernel_rfl) (of_decide_eq_true (by kernel_rfl))).map fun l hl => ⟨l, hl, rfl⟩
theorem opens_wr : Opens Try.prog 52 wrC (fun w => w.data.length ≤ reach) :=
  (opens_struct Try.underlying52 (tot := 2) (by kernel_rfl) (.cons (s := 1) (opens_int Try.underlying3) rfl (by kernel_rfl) rfl (.cons (s := 1) opens_row rfl (by kernel_rfl) rfl .nil))).map
    fun p hp => ⟨⟨p.1, p.2.1⟩, hp.2.1, rfl⟩
theorem opens_dsk : Opens Try.prog 25 dskC DOk :=
  (opens_struct Try.underlying25 (tot := 2) (by kernel_rfl) (.cons (s := 1) (opens_slice Try.underlying22 opens_row (sz := 1) (by kernel_rfl) (by decide) (of_decide_eq_true (by kernel_rfl))) rfl (by kernel_rfl) rfl
    (.cons (s := 1) (opens_slice Try.underlying23 opens_wr (sz := 2) (by kernel_rfl) (by decide) (of_decide_eq_true (by kernel_rfl))) rfl (by kernel_rfl) rfl .nil))).map
    fun p hp => ⟨⟨p.1, p.2.1⟩, ⟨hp.1.1, hp.2.1.1, hp.1.2, hp.2.1.2⟩, rfl⟩
theorem arg_dsk : OpensArg Try.prog 25 dskA DOk := .agg opens_dsk (arg_agg (.inr ⟨_, Try.underlying25⟩))
theorem arg_ints : OpensArg Try.prog 26 (fun l : List Int => .sl 1 (l.map intC) .sh) (fun l => l.length ≤ reach) :=
  .one ((opens_slice Try.underlying26 (opens_int Try.underlying3) (sz := 1) (by kernel_rfl) (by decide) (of_decide_eq_true (by kernel_rfl))).map fun l hl => ⟨l, hl.1, rfl⟩) (arg_slice Try.underlying26)
theorem arg_i : OpensArg Try.prog 3 (fun a : Int => i64 a) (fun a => (Lit.int .i64 a).wf = true) := int_arg Try.underlying3
end Go.Proofs.Ytefkjdkalgemeaa
