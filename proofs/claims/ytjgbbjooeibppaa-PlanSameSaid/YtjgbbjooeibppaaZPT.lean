/- The layer of abstract values, joined: PT. -/
import Derived.Test.YtjgbbjooeibppaaZPR
import Derived.Test.YtjgbbjooeibppaaZVsLaw
import Derived.Test.YtjgbbjooeibppaaZTab
section
namespace Go.Proofs.Ytjgbbjooeibppaa.Pln
set_option linter.unusedVariables false
set_option linter.unusedSimpArgs false
open Go Go.VS Tab
set_option linter.unusedVariables false
theorem Zb : Opens Try.prog 3 Ym (fun a => (Lit.int .i64 a).wf = true) := Tv Try.underlying3
theorem Pp : Opens Try.prog 31 (fun l : List Int => [X62 l]) (fun _ => True) :=
 (Zg Try.underlying31 Zb (sz := 1) (by kernel_rfl) (by decide) (of_decide_eq_true (by kernel_rfl))).map fun l hl => ⟨l, trivial, rfl⟩
theorem X0f : Opens Try.prog 39 jnC (fun _ => True) :=
 (Zh Try.underlying39 (tot := 2) (by kernel_rfl) (.cons (s := 1) Zb rfl (by kernel_rfl) rfl (.cons (s := 1) Zb rfl (by kernel_rfl) rfl .nil))).map
  fun p hp => ⟨(p.1, p.2.1), trivial, rfl⟩
theorem X0g : Opens Try.prog 81 jnC (fun _ => True) :=
 (Zh Try.underlying81 (tot := 2) (by kernel_rfl) (.cons (s := 1) Zb rfl (by kernel_rfl) rfl (.cons (s := 1) Zb rfl (by kernel_rfl) rfl .nil))).map
  fun p hp => ⟨(p.1, p.2.1), trivial, rfl⟩
theorem X0h : Opens Try.prog 96 jnC (fun _ => True) :=
 (Zh Try.underlying96 (tot := 2) (by kernel_rfl) (.cons (s := 1) Zb rfl (by kernel_rfl) rfl (.cons (s := 1) Zb rfl (by kernel_rfl) rfl .nil))).map
  fun p hp => ⟨(p.1, p.2.1), trivial, rfl⟩
theorem X0i : Opens Try.prog 84 sgC (fun _ => True) :=
 (Zh Try.underlying84 (tot := 3) (by kernel_rfl) (.cons (s := 1) Zb rfl (by kernel_rfl) rfl (.cons (s := 1) Zb rfl (by kernel_rfl) rfl (.cons (s := 1) Zb rfl (by kernel_rfl) rfl .nil)))).map
  fun p hp => ⟨(p.1, p.2.1, p.2.2.1), trivial, rfl⟩
theorem Hr : Opens Try.prog 37 Y6 (fun _ => True) :=
 (Zh Try.underlying37 (tot := 3) (by kernel_rfl) (.cons (s := 1) Zb rfl (by kernel_rfl) rfl (.cons (s := 1) Zb rfl (by kernel_rfl) rfl
  (.cons (s := 1) (Zg Try.underlying35 X0f (sz := 2) (by kernel_rfl) (by decide) (of_decide_eq_true (by kernel_rfl))) rfl (by kernel_rfl) rfl .nil)))).map
  fun p hp => ⟨⟨p.1, p.2.1, p.2.2.1⟩, trivial, rfl⟩
theorem X0j : Opens Try.prog 34 rtC (fun _ => True) :=
 (Zh Try.underlying34 (tot := 7) (by kernel_rfl) (.cons (s := 1) Zb rfl (by kernel_rfl) rfl (.cons (s := 1) Zb rfl (by kernel_rfl) rfl (.cons (s := 1) Zb rfl (by kernel_rfl) rfl
  (.cons (s := 1) Pp rfl (by kernel_rfl) rfl (.cons (s := 1) Pp rfl (by kernel_rfl) rfl
  (.cons (s := 1) (Zg Try.underlying32 X0h (sz := 2) (by kernel_rfl) (by decide) (of_decide_eq_true (by kernel_rfl))) rfl (by kernel_rfl) rfl
  (.cons (s := 1) Zb rfl (by kernel_rfl) rfl .nil)))))))).map
  fun p hp => ⟨⟨p.1, p.2.1, p.2.2.1, p.2.2.2.1, p.2.2.2.2.1, p.2.2.2.2.2.1, p.2.2.2.2.2.2.1⟩, trivial, rfl⟩
theorem X0k : Opens Try.prog 27 plC (fun _ => True) :=
 (Zh Try.underlying27 (tot := 6) (by kernel_rfl) (.cons (s := 1) Zb rfl (by kernel_rfl) rfl (.cons (s := 1) Zb rfl (by kernel_rfl) rfl
  (.cons (s := 1) (Zg Try.underlying22 Hr (sz := 3) (by kernel_rfl) (by decide) (of_decide_eq_true (by kernel_rfl))) rfl (by kernel_rfl) rfl
  (.cons (s := 1) (Zg Try.underlying23 X0g (sz := 2) (by kernel_rfl) (by decide) (of_decide_eq_true (by kernel_rfl))) rfl (by kernel_rfl) rfl
  (.cons (s := 1) (Zg Try.underlying24 X0i (sz := 3) (by kernel_rfl) (by decide) (of_decide_eq_true (by kernel_rfl))) rfl (by kernel_rfl) rfl
  (.cons (s := 1) (Zg Try.underlying25 X0j (sz := 7) (by kernel_rfl) (by decide) (of_decide_eq_true (by kernel_rfl))) rfl (by kernel_rfl) rfl .nil))))))).map
  fun p hp => ⟨⟨p.1, p.2.1, p.2.2.1, p.2.2.2.1, p.2.2.2.2.1, p.2.2.2.2.2.1⟩, trivial, rfl⟩
theorem X65 : OpensArg Try.prog 27 plA (fun _ => True) := .agg X0k (X4g (.inr ⟨_, Try.underlying27⟩))
end Go.Proofs.Ytjgbbjooeibppaa.Pln
end
