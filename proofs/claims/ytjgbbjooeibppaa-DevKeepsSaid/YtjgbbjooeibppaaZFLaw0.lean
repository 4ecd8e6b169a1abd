/-
 Disks as arguments, of which the places are numbers of 64 bits.
-/
import Derived.Test.YtjgbbjooeibppaaZF4
import Derived.Test.YtjgbbjooeibppaaZDLaw0
namespace Go.Proofs.Ytjgbbjooeibppaa
open Go Go.VS Tab
set_option linter.unusedVariables false
theorem Xme : Opens Try.prog 76 wrC (fun w => Xm1 w.at' ∧ w.data.length ≤ Xiv) :=
 (Zh Try.underlying76 (tot := 2) (by kernel_rfl) (.cons (s := 1) (Tv Try.underlying3) rfl (by kernel_rfl) rfl (.cons (s := 1) Xki rfl (by kernel_rfl) rfl .nil))).map
  fun p hp => ⟨⟨p.1, p.2.1⟩, ⟨Xnc hp.1, hp.2.1⟩, rfl⟩
theorem Xlq : Opens Try.prog 43 Xha (fun d => DOk d ∧ W64 d) :=
 (Zh Try.underlying43 (tot := 2) (by kernel_rfl) (.cons (s := 1) (Zg Try.underlying40 Xki (sz := 1) (by kernel_rfl) (by decide) (of_decide_eq_true (by kernel_rfl))) rfl (by kernel_rfl) rfl
  (.cons (s := 1) (Zg Try.underlying41 Xme (sz := 2) (by kernel_rfl) (by decide) (of_decide_eq_true (by kernel_rfl))) rfl (by kernel_rfl) rfl .nil))).map
  fun p hp => ⟨⟨p.1, p.2.1⟩, ⟨⟨hp.1.1, hp.2.1.1, hp.1.2, fun w hw => (hp.2.1.2 w hw).2⟩, fun w hw => (hp.2.1.2 w hw).1⟩, rfl⟩
theorem Xlf : OpensArg Try.prog 43 A2 (fun d => DOk d ∧ W64 d) := .agg Xlq (X4g (.inr ⟨_, Try.underlying43⟩))
end Go.Proofs.Ytjgbbjooeibppaa
