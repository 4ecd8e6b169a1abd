/-
  What plans come as.
-/
import Derived.Test.YtcfkieacdjcaoaaGreatZPR
import Derived.Test.YtcfkieacdjcaoaaGreatZVsLaw
import Derived.Test.YtcfkieacdjcaoaaGreatZTab
namespace Go.Proofs.YtcfkieacdjcaoaaGreat.Pln
set_option linter.unusedVariables false
set_option linter.unusedSimpArgs false
open Go Go.VS Tab
set_option linter.unusedVariables false
theorem opens_i : Opens Tryz.prog 3 intC (fun a => (Lit.int .i64 a).wf = true) := opens_int Tryz.underlying3
theorem opens_ints : Opens Tryz.prog 43 (fun l : List Int => [ints l]) (fun _ => True) :=
  (opens_slice Tryz.underlying43 opens_i (sz := 1) (by kernel_rfl) (by decide) (of_decide_eq_true (by kernel_rfl))).map fun l hl => ⟨l, trivial, rfl⟩
theorem opens_jn : Opens Tryz.prog 96 jnC (fun _ => True) :=
  (opens_struct Tryz.underlying96 (tot := 2) (by kernel_rfl) (.cons (s := 1) opens_i rfl (by kernel_rfl) rfl (.cons (s := 1) opens_i rfl (by kernel_rfl) rfl .nil))).map
    fun p hp => ⟨(p.1, p.2.1), trivial, rfl⟩
theorem opens_pt : Opens Tryz.prog 66 jnC (fun _ => True) :=
  (opens_struct Tryz.underlying66 (tot := 2) (by kernel_rfl) (.cons (s := 1) opens_i rfl (by kernel_rfl) rfl (.cons (s := 1) opens_i rfl (by kernel_rfl) rfl .nil))).map
    fun p hp => ⟨(p.1, p.2.1), trivial, rfl⟩
theorem opens_fl : Opens Tryz.prog 93 jnC (fun _ => True) :=
  (opens_struct Tryz.underlying93 (tot := 2) (by kernel_rfl) (.cons (s := 1) opens_i rfl (by kernel_rfl) rfl (.cons (s := 1) opens_i rfl (by kernel_rfl) rfl .nil))).map
    fun p hp => ⟨(p.1, p.2.1), trivial, rfl⟩
theorem opens_sg : Opens Tryz.prog 68 sgC (fun _ => True) :=
  (opens_struct Tryz.underlying68 (tot := 3) (by kernel_rfl) (.cons (s := 1) opens_i rfl (by kernel_rfl) rfl (.cons (s := 1) opens_i rfl (by kernel_rfl) rfl (.cons (s := 1) opens_i rfl (by kernel_rfl) rfl .nil)))).map
    fun p hp => ⟨(p.1, p.2.1, p.2.2.1), trivial, rfl⟩
theorem opens_sec : Opens Tryz.prog 50 secC (fun _ => True) :=
  (opens_struct Tryz.underlying50 (tot := 3) (by kernel_rfl) (.cons (s := 1) opens_i rfl (by kernel_rfl) rfl (.cons (s := 1) opens_i rfl (by kernel_rfl) rfl
    (.cons (s := 1) (opens_slice Tryz.underlying48 opens_jn (sz := 2) (by kernel_rfl) (by decide) (of_decide_eq_true (by kernel_rfl))) rfl (by kernel_rfl) rfl .nil)))).map
    fun p hp => ⟨⟨p.1, p.2.1, p.2.2.1⟩, trivial, rfl⟩
theorem opens_rt : Opens Tryz.prog 46 rtC (fun _ => True) :=
  (opens_struct Tryz.underlying46 (tot := 7) (by kernel_rfl) (.cons (s := 1) opens_i rfl (by kernel_rfl) rfl (.cons (s := 1) opens_i rfl (by kernel_rfl) rfl (.cons (s := 1) opens_i rfl (by kernel_rfl) rfl
    (.cons (s := 1) opens_ints rfl (by kernel_rfl) rfl (.cons (s := 1) opens_ints rfl (by kernel_rfl) rfl
    (.cons (s := 1) (opens_slice Tryz.underlying44 opens_fl (sz := 2) (by kernel_rfl) (by decide) (of_decide_eq_true (by kernel_rfl))) rfl (by kernel_rfl) rfl
    (.cons (s := 1) opens_i rfl (by kernel_rfl) rfl .nil)))))))).map
    fun p hp => ⟨⟨p.1, p.2.1, p.2.2.1, p.2.2.2.1, p.2.2.2.2.1, p.2.2.2.2.2.1, p.2.2.2.2.2.2.1⟩, trivial, rfl⟩
theorem opens_pl : Opens Tryz.prog 27 plC (fun _ => True) :=
  (opens_struct Tryz.underlying27 (tot := 6) (by kernel_rfl) (.cons (s := 1) opens_i rfl (by kernel_rfl) rfl (.cons (s := 1) opens_i rfl (by kernel_rfl) rfl
    (.cons (s := 1) (opens_slice Tryz.underlying22 opens_sec (sz := 3) (by kernel_rfl) (by decide) (of_decide_eq_true (by kernel_rfl))) rfl (by kernel_rfl) rfl
    (.cons (s := 1) (opens_slice Tryz.underlying23 opens_pt (sz := 2) (by kernel_rfl) (by decide) (of_decide_eq_true (by kernel_rfl))) rfl (by kernel_rfl) rfl
    (.cons (s := 1) (opens_slice Tryz.underlying24 opens_sg (sz := 3) (by kernel_rfl) (by decide) (of_decide_eq_true (by kernel_rfl))) rfl (by kernel_rfl) rfl
    (.cons (s := 1) (opens_slice Tryz.underlying25 opens_rt (sz := 7) (by kernel_rfl) (by decide) (of_decide_eq_true (by kernel_rfl))) rfl (by kernel_rfl) rfl .nil))))))).map
    fun p hp => ⟨⟨p.1, p.2.1, p.2.2.1, p.2.2.2.1, p.2.2.2.2.1, p.2.2.2.2.2.1⟩, trivial, rfl⟩
theorem arg_pl : OpensArg Tryz.prog 27 plA (fun _ => True) := .agg opens_pl (arg_agg (.inr ⟨_, Tryz.underlying27⟩))
theorem arg_i : OpensArg Tryz.prog 3 (fun a : Int => i64 a) (fun a => (Lit.int .i64 a).wf = true) := int_arg Tryz.underlying3
end Go.Proofs.YtcfkieacdjcaoaaGreat.Pln
