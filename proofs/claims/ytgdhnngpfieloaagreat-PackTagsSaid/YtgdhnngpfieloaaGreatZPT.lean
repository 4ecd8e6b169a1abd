/- The layer of abstract values, joined: PT. -/
import Derived.Test.YtgdhnngpfieloaaGreatZPR
import Derived.Test.YtgdhnngpfieloaaGreatZVsLaw
import Derived.Test.YtgdhnngpfieloaaGreatZTab
section
namespace Go.Proofs.YtgdhnngpfieloaaGreat.Pln
set_option linter.unusedVariables false
set_option linter.unusedSimpArgs false
open Go Go.VS Tab
set_option linter.unusedVariables false
theorem Zb : Opens Tryz.prog 3 Ym (fun a => (Lit.int .i64 a).wf = true) := Tv Tryz.underlying3
theorem Pp : Opens Tryz.prog 41 (fun l : List Int => [X62 l]) (fun _ => True) :=
 (Zg Tryz.underlying41 Zb (sz := 1) (by kernel_rfl) (by decide) (of_decide_eq_true (by kernel_rfl))).map fun l hl => ⟨l, trivial, rfl⟩
theorem X0f : Opens Tryz.prog 79 jnC (fun _ => True) :=
 (Zh Tryz.underlying79 (tot := 2) (by kernel_rfl) (.cons (s := 1) Zb rfl (by kernel_rfl) rfl (.cons (s := 1) Zb rfl (by kernel_rfl) rfl .nil))).map
  fun p hp => ⟨(p.1, p.2.1), trivial, rfl⟩
theorem X0g : Opens Tryz.prog 57 jnC (fun _ => True) :=
 (Zh Tryz.underlying57 (tot := 2) (by kernel_rfl) (.cons (s := 1) Zb rfl (by kernel_rfl) rfl (.cons (s := 1) Zb rfl (by kernel_rfl) rfl .nil))).map
  fun p hp => ⟨(p.1, p.2.1), trivial, rfl⟩
theorem X0h : Opens Tryz.prog 91 jnC (fun _ => True) :=
 (Zh Tryz.underlying91 (tot := 2) (by kernel_rfl) (.cons (s := 1) Zb rfl (by kernel_rfl) rfl (.cons (s := 1) Zb rfl (by kernel_rfl) rfl .nil))).map
  fun p hp => ⟨(p.1, p.2.1), trivial, rfl⟩
theorem X0i : Opens Tryz.prog 59 sgC (fun _ => True) :=
 (Zh Tryz.underlying59 (tot := 3) (by kernel_rfl) (.cons (s := 1) Zb rfl (by kernel_rfl) rfl (.cons (s := 1) Zb rfl (by kernel_rfl) rfl (.cons (s := 1) Zb rfl (by kernel_rfl) rfl .nil)))).map
  fun p hp => ⟨(p.1, p.2.1, p.2.2.1), trivial, rfl⟩
theorem Hr : Opens Tryz.prog 63 Y6 (fun _ => True) :=
 (Zh Tryz.underlying63 (tot := 3) (by kernel_rfl) (.cons (s := 1) Zb rfl (by kernel_rfl) rfl (.cons (s := 1) Zb rfl (by kernel_rfl) rfl
  (.cons (s := 1) (Zg Tryz.underlying61 X0f (sz := 2) (by kernel_rfl) (by decide) (of_decide_eq_true (by kernel_rfl))) rfl (by kernel_rfl) rfl .nil)))).map
  fun p hp => ⟨⟨p.1, p.2.1, p.2.2.1⟩, trivial, rfl⟩
theorem X0j : Opens Tryz.prog 44 rtC (fun _ => True) :=
 (Zh Tryz.underlying44 (tot := 7) (by kernel_rfl) (.cons (s := 1) Zb rfl (by kernel_rfl) rfl (.cons (s := 1) Zb rfl (by kernel_rfl) rfl (.cons (s := 1) Zb rfl (by kernel_rfl) rfl
  (.cons (s := 1) Pp rfl (by kernel_rfl) rfl (.cons (s := 1) Pp rfl (by kernel_rfl) rfl
  (.cons (s := 1) (Zg Tryz.underlying42 X0h (sz := 2) (by kernel_rfl) (by decide) (of_decide_eq_true (by kernel_rfl))) rfl (by kernel_rfl) rfl
  (.cons (s := 1) Zb rfl (by kernel_rfl) rfl .nil)))))))).map
  fun p hp => ⟨⟨p.1, p.2.1, p.2.2.1, p.2.2.2.1, p.2.2.2.2.1, p.2.2.2.2.2.1, p.2.2.2.2.2.2.1⟩, trivial, rfl⟩
theorem X0k : Opens Tryz.prog 28 plC (fun _ => True) :=
 (Zh Tryz.underlying28 (tot := 6) (by kernel_rfl) (.cons (s := 1) Zb rfl (by kernel_rfl) rfl (.cons (s := 1) Zb rfl (by kernel_rfl) rfl
  (.cons (s := 1) (Zg Tryz.underlying23 Hr (sz := 3) (by kernel_rfl) (by decide) (of_decide_eq_true (by kernel_rfl))) rfl (by kernel_rfl) rfl
  (.cons (s := 1) (Zg Tryz.underlying24 X0g (sz := 2) (by kernel_rfl) (by decide) (of_decide_eq_true (by kernel_rfl))) rfl (by kernel_rfl) rfl
  (.cons (s := 1) (Zg Tryz.underlying25 X0i (sz := 3) (by kernel_rfl) (by decide) (of_decide_eq_true (by kernel_rfl))) rfl (by kernel_rfl) rfl
  (.cons (s := 1) (Zg Tryz.underlying26 X0j (sz := 7) (by kernel_rfl) (by decide) (of_decide_eq_true (by kernel_rfl))) rfl (by kernel_rfl) rfl .nil))))))).map
  fun p hp => ⟨⟨p.1, p.2.1, p.2.2.1, p.2.2.2.1, p.2.2.2.2.1, p.2.2.2.2.2.1⟩, trivial, rfl⟩
theorem X65 : OpensArg Tryz.prog 28 plA (fun _ => True) := .agg X0k (X4g (.inr ⟨_, Tryz.underlying28⟩))
end Go.Proofs.YtgdhnngpfieloaaGreat.Pln
end
section
namespace Go.Proofs.YtgdhnngpfieloaaGreat.Pln
set_option linter.unusedVariables false
set_option linter.unusedSimpArgs false
open Go Go.VS Tab
theorem Hs : OpensArg Tryz.prog 22 (fun l : List UInt8 => .sl 1 (Xo l) .sh) (fun l => l.length ≤ reachBytes) := J8 Tryz.underlying22 Tryz.underlying5 (by kernel_rfl) (of_decide_eq_true (by kernel_rfl))
end Go.Proofs.YtgdhnngpfieloaaGreat.Pln
end
