/-
  What plans come as.
-/
import Derived.Test.YtdkiciofkifpdaaZPR
import Derived.Test.YtdkiciofkifpdaaZVsLaw
import Derived.Test.YtdkiciofkifpdaaZTab
namespace Go.Proofs.Ytdkiciofkifpdaa.Pln
set_option linter.unusedVariables false
set_option linter.unusedSimpArgs false
open Go Go.VS Tab
set_option linter.unusedVariables false
theorem opens_i : Opens Try.prog 3 intC (fun a => (Lit.int .i64 a).wf = true) := opens_int Try.underlying3
theorem opens_ints : Opens Try.prog 31 (fun l : List Int => [ints l]) (fun _ => True) :=
  (opens_slice Try.underlying31 opens_i (sz := 1) (by kernel_rfl) (by decide) (of_decide_eq_true (by kernel_rfl))).map fun l hl => ⟨l, trivial, rfl⟩
theorem opens_jn : Opens Try.prog 39 jnC (fun _ => True) :=
  (opens_struct Try.underlying39 (tot := 2) (by kernel_rfl) (.cons (s := 1) opens_i rfl (by kernel_rfl) rfl (.cons (s := 1) opens_i rfl (by kernel_rfl) rfl .nil))).map
    fun p hp => ⟨(p.1, p.2.1), trivial, rfl⟩
theorem opens_pt : Opens Try.prog 44 jnC (fun _ => True) :=
  (opens_struct Try.underlying44 (tot := 2) (by kernel_rfl) (.cons (s := 1) opens_i rfl (by kernel_rfl) rfl (.cons (s := 1) opens_i rfl (by kernel_rfl) rfl .nil))).map
    fun p hp => ⟨(p.1, p.2.1), trivial, rfl⟩
theorem opens_fl : Opens Try.prog 85 jnC (fun _ => True) :=
  (opens_struct Try.underlying85 (tot := 2) (by kernel_rfl) (.cons (s := 1) opens_i rfl (by kernel_rfl) rfl (.cons (s := 1) opens_i rfl (by kernel_rfl) rfl .nil))).map
    fun p hp => ⟨(p.1, p.2.1), trivial, rfl⟩
theorem opens_sg : Opens Try.prog 48 sgC (fun _ => True) :=
  (opens_struct Try.underlying48 (tot := 3) (by kernel_rfl) (.cons (s := 1) opens_i rfl (by kernel_rfl) rfl (.cons (s := 1) opens_i rfl (by kernel_rfl) rfl (.cons (s := 1) opens_i rfl (by kernel_rfl) rfl .nil)))).map
    fun p hp => ⟨(p.1, p.2.1, p.2.2.1), trivial, rfl⟩
theorem opens_sec : Opens Try.prog 37 secC (fun _ => True) :=
  (opens_struct Try.underlying37 (tot := 3) (by kernel_rfl) (.cons (s := 1) opens_i rfl (by kernel_rfl) rfl (.cons (s := 1) opens_i rfl (by kernel_rfl) rfl
    (.cons (s := 1) (opens_slice Try.underlying35 opens_jn (sz := 2) (by kernel_rfl) (by decide) (of_decide_eq_true (by kernel_rfl))) rfl (by kernel_rfl) rfl .nil)))).map
    fun p hp => ⟨⟨p.1, p.2.1, p.2.2.1⟩, trivial, rfl⟩
theorem opens_rt : Opens Try.prog 34 rtC (fun _ => True) :=
  (opens_struct Try.underlying34 (tot := 7) (by kernel_rfl) (.cons (s := 1) opens_i rfl (by kernel_rfl) rfl (.cons (s := 1) opens_i rfl (by kernel_rfl) rfl (.cons (s := 1) opens_i rfl (by kernel_rfl) rfl
    (.cons (s := 1) opens_ints rfl (by kernel_rfl) rfl (.cons (s := 1) opens_ints rfl (by kernel_rfl) rfl
    (.cons (s := 1) (opens_slice Try.underlying32 opens_fl (sz := 2) (by kernel_rfl) (by decide) (of_decide_eq_true (by kernel_rfl))) rfl (by kernel_rfl) rfl
    (.cons (s := 1) opens_i rfl (by kernel_rfl) rfl .nil)))))))).map
    fun p hp => ⟨⟨p.1, p.2.1, p.2.2.1, p.2.2.2.1, p.2.2.2.2.1, p.2.2.2.2.2.1, p.2.2.2.2.2.2.1⟩, trivial, rfl⟩
theorem opens_pl : Opens Try.prog 27 plC (fun _ => True) :=
  (opens_struct Try.underlying27 (tot := 6) (by kernel_rfl) (.cons (s := 1) opens_i rfl (by kernel_rfl) rfl (.cons (s := 1) opens_i rfl (by kernel_rfl) rfl
    (.cons (s := 1) (opens_slice Try.underlying22 opens_sec (sz := 3) (by kernel_rfl) (by decide) (of_decide_eq_true (by kernel_rfl))) rfl (by kernel_rfl) rfl
    (.cons (s := 1) (opens_slice Try.underlying23 opens_pt (sz := 2) (by kernel_rfl) (by decide) (of_decide_eq_true (by kernel_rfl))) rfl (by kernel_rfl) rfl
    (.cons (s := 1) (opens_slice Try.underlying24 opens_sg (sz := 3) (by kernel_rfl) (by decide) (of_decide_eq_true (by kernel_rfl))) rfl (by kernel_rfl) rfl
    (.cons (s := 1) (opens_slice Try.underlying25 opens_rt (sz := 7) (by kernel_rfl) (by decide) (of_decide_eq_true (by kernel_rfl))) rfl (by kernel_rfl) rfl .nil))))))).map
    fun p hp => ⟨⟨p.1, p.2.1, p.2.2.1, p.2.2.2.1, p.2.2.2.2.1, p.2.2.2.2.2.1⟩, trivial, rfl⟩
theorem arg_pl : OpensArg Try.prog 27 plA (fun _ => True) := .agg opens_pl (arg_agg (.inr ⟨_, Try.underlying27⟩))
end Go.Proofs.Ytdkiciofkifpdaa.Pln
