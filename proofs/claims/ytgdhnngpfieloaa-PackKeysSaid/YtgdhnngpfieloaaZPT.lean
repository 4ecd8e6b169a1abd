/- The layer of abstract values, joined: PT. -/
import Derived.Test.YtgdhnngpfieloaaZPR
import Derived.Test.YtgdhnngpfieloaaZVsLaw
import Derived.Test.YtgdhnngpfieloaaZTab
section
namespace Go.Proofs.Ytgdhnngpfieloaa.Pln
set_option linter.unusedVariables false
set_option linter.unusedSimpArgs false
open Go Go.VS Tab
set_option linter.unusedVariables false
theorem opens_i : Opens Try.prog 3 intC (fun a => (Lit.int .i64 a).wf = true) := opens_int Try.underlying3
theorem opens_ints : Opens Try.prog 52 (fun l : List Int => [ints l]) (fun _ => True) :=
  (opens_slice Try.underlying52 opens_i (sz := 1) (by kernel_rfl) (by decide) (of_decide_eq_true (by kernel_rfl))).map fun l hl => ⟨l, trivial, rfl⟩
theorem opens_jn : Opens Try.prog 71 jnC (fun _ => True) :=
  (opens_struct Try.underlying71 (tot := 2) (by kernel_rfl) (.cons (s := 1) opens_i rfl (by kernel_rfl) rfl (.cons (s := 1) opens_i rfl (by kernel_rfl) rfl .nil))).map
    fun p hp => ⟨(p.1, p.2.1), trivial, rfl⟩
theorem opens_pt : Opens Try.prog 77 jnC (fun _ => True) :=
  (opens_struct Try.underlying77 (tot := 2) (by kernel_rfl) (.cons (s := 1) opens_i rfl (by kernel_rfl) rfl (.cons (s := 1) opens_i rfl (by kernel_rfl) rfl .nil))).map
    fun p hp => ⟨(p.1, p.2.1), trivial, rfl⟩
theorem opens_fl : Opens Try.prog 87 jnC (fun _ => True) :=
  (opens_struct Try.underlying87 (tot := 2) (by kernel_rfl) (.cons (s := 1) opens_i rfl (by kernel_rfl) rfl (.cons (s := 1) opens_i rfl (by kernel_rfl) rfl .nil))).map
    fun p hp => ⟨(p.1, p.2.1), trivial, rfl⟩
theorem opens_sg : Opens Try.prog 81 sgC (fun _ => True) :=
  (opens_struct Try.underlying81 (tot := 3) (by kernel_rfl) (.cons (s := 1) opens_i rfl (by kernel_rfl) rfl (.cons (s := 1) opens_i rfl (by kernel_rfl) rfl (.cons (s := 1) opens_i rfl (by kernel_rfl) rfl .nil)))).map
    fun p hp => ⟨(p.1, p.2.1, p.2.2.1), trivial, rfl⟩
theorem opens_sec : Opens Try.prog 59 secC (fun _ => True) :=
  (opens_struct Try.underlying59 (tot := 3) (by kernel_rfl) (.cons (s := 1) opens_i rfl (by kernel_rfl) rfl (.cons (s := 1) opens_i rfl (by kernel_rfl) rfl
    (.cons (s := 1) (opens_slice Try.underlying57 opens_jn (sz := 2) (by kernel_rfl) (by decide) (of_decide_eq_true (by kernel_rfl))) rfl (by kernel_rfl) rfl .nil)))).map
    fun p hp => ⟨⟨p.1, p.2.1, p.2.2.1⟩, trivial, rfl⟩
theorem opens_rt : Opens Try.prog 55 rtC (fun _ => True) :=
  (opens_struct Try.underlying55 (tot := 7) (by kernel_rfl) (.cons (s := 1) opens_i rfl (by kernel_rfl) rfl (.cons (s := 1) opens_i rfl (by kernel_rfl) rfl (.cons (s := 1) opens_i rfl (by kernel_rfl) rfl
    (.cons (s := 1) opens_ints rfl (by kernel_rfl) rfl (.cons (s := 1) opens_ints rfl (by kernel_rfl) rfl
    (.cons (s := 1) (opens_slice Try.underlying53 opens_fl (sz := 2) (by kernel_rfl) (by decide) (of_decide_eq_true (by kernel_rfl))) rfl (by kernel_rfl) rfl
    (.cons (s := 1) opens_i rfl (by kernel_rfl) rfl .nil)))))))).map
    fun p hp => ⟨⟨p.1, p.2.1, p.2.2.1, p.2.2.2.1, p.2.2.2.2.1, p.2.2.2.2.2.1, p.2.2.2.2.2.2.1⟩, trivial, rfl⟩
theorem opens_pl : Opens Try.prog 27 plC (fun _ => True) :=
  (opens_struct Try.underlying27 (tot := 6) (by kernel_rfl) (.cons (s := 1) opens_i rfl (by kernel_rfl) rfl (.cons (s := 1) opens_i rfl (by kernel_rfl) rfl
    (.cons (s := 1) (opens_slice Try.underlying22 opens_sec (sz := 3) (by kernel_rfl) (by decide) (of_decide_eq_true (by kernel_rfl))) rfl (by kernel_rfl) rfl
    (.cons (s := 1) (opens_slice Try.underlying23 opens_pt (sz := 2) (by kernel_rfl) (by decide) (of_decide_eq_true (by kernel_rfl))) rfl (by kernel_rfl) rfl
    (.cons (s := 1) (opens_slice Try.underlying24 opens_sg (sz := 3) (by kernel_rfl) (by decide) (of_decide_eq_true (by kernel_rfl))) rfl (by kernel_rfl) rfl
    (.cons (s := 1) (opens_slice Try.underlying25 opens_rt (sz := 7) (by kernel_rfl) (by decide) (of_decide_eq_true (by kernel_rfl))) rfl (by kernel_rfl) rfl .nil))))))).map
    fun p hp => ⟨⟨p.1, p.2.1, p.2.2.1, p.2.2.2.1, p.2.2.2.2.1, p.2.2.2.2.2.1⟩, trivial, rfl⟩
theorem arg_pl : OpensArg Try.prog 27 plA (fun _ => True) := .agg opens_pl (arg_agg (.inr ⟨_, Try.underlying27⟩))
end Go.Proofs.Ytgdhnngpfieloaa.Pln
end
section
namespace Go.Proofs.Ytgdhnngpfieloaa.Pln
set_option linter.unusedVariables false
set_option linter.unusedSimpArgs false
open Go Go.VS Tab
theorem arg_bytes : OpensArg Try.prog 28 (fun l : List UInt8 => .sl 1 (bytesAV l) .sh) (fun l => l.length ≤ reachBytes) := bytes_arg Try.underlying28 Try.underlying5 (by kernel_rfl) (of_decide_eq_true (by kernel_rfl))
end Go.Proofs.Ytgdhnngpfieloaa.Pln
end
