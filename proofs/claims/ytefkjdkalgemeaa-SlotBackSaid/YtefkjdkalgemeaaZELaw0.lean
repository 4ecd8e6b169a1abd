/-
  What records and generations come as.
-/
import Derived.Test.YtefkjdkalgemeaaZDLaw0
import Derived.Test.YtefkjdkalgemeaaZE7
namespace Go.Proofs.Ytefkjdkalgemeaa
open Go Go.VS Tab
set_option linter.unusedVariables false
theorem opens_rc : Opens Try.prog 65 rcC (fun r => r.text.length ≤ reach) :=
  (opens_struct Try.underlying65 (tot := 2) (by kernel_rfl) (.cons (s := 1) (opens_u32 Try.underlying63) rfl (by kernel_rfl) rfl (.cons (s := 1) opens_row rfl (by kernel_rfl) rfl .nil))).map
    fun p hp => ⟨⟨p.1, p.2.1⟩, hp.2.1, rfl⟩
theorem arg_rec : OpensArg Try.prog 65 rcA (fun r => r.text.length ≤ reach) := .agg opens_rc (arg_agg (.inr ⟨_, Try.underlying65⟩))
end Go.Proofs.Ytefkjdkalgemeaa
