/-
 A disk copied, one of its sectors in memory that may be written.
-/
import Derived.Test.YtjgbbjooeibppaaZGA
import Derived.Test.YtjgbbjooeibppaaZD27
namespace Go.Proofs.Ytjgbbjooeibppaa
set_option linter.unusedVariables false
set_option linter.unusedSimpArgs false
open Go Go.VS Tab
set_option maxHeartbeats 1000000
set_option maxRecDepth 4000
theorem X1z (wr : List Nat) (R : AState → Prop) (fr : List AV) (lo : List (Option Res)) (out : Nat → Option Res) (n0 n : Nat) (df : List Deferred) (d : Option Tmp) (r : AV) (x y : Nat) (p q : Res) :
  Lt wr R ⟨fr, lo, out, n0, n, df⟩ d r [(n + x, p), (n + y, q)] = ((wr.contains x = true ∧ wr.contains y = true) ∧ R (AState.next ⟨fr, lo, out, n0, n, df⟩ d r [(n + x, p), (n + y, q)])) := by
 simp only [Lt, List.mem_cons, List.not_mem_nil, or_false, forall_eq_or_imp, forall_eq, List.contains_iff_mem, Nat.add_left_cancel_iff, exists_eq_right', eq_iff_iff]
theorem Xnp (fr : List AV) (lo : List (Option Res)) (out : Nat → Option Res) (n : Nat) (df : List Deferred) (t : Tmp) (r : AV) (x y : Nat) (p q : Res) :
  AState.next ⟨fr, lo, out, n, n, df⟩ (some t) r [(n + x, p), (n + y, q)] = ⟨fr.set t r, (lo.set x (some p)).set y (some q), out, n, n, df⟩ := by
 have h1 : ¬ n + x < n := by omega
 have h2 : ¬ n + y < n := by omega
 simp only [AState.next, AState.put, AState.give, if_neg h1, if_neg h2, Nat.add_sub_cancel_left]
theorem Xn8 (k kz : Nat) (d : Dsk) (hd : Small d) (z : Nat) (hz : z < d.sectors.length) (hz0 : 0 < (d.sectors[z]).length) : Xr Try.prog 16 [A2 d] [(kz, none)]
  (.agg [.sl 1 ((d.sectors.map Y6).set z [.bsl kz 0 (d.sectors[z]).length false]) .sh, .sl 2 (d.waits.map wrC) .sh]) [(kz, .box 5 ((d.sectors[z]).map b8))] := by
 refine Xc 5 Try.func16 rfl fun n out _ _ => ?_
 simp only [Try.ntmps16, List.length_cons, List.length_nil, List.length_map, List.length_replicate, Xf, Nat.reduceAdd, Nat.reduceSub, List.replicate, List.cons_append, List.nil_append]
 rename_i hneeds hgv
 obtain ⟨hkz, _⟩ := hneeds
 obtain ⟨hkzn, _⟩ := hgv
 refine X9 fun K hK => Xn Xj [] ?_
 simp (maxSteps:=9^7) only [ss, X1, tab, simprocAttr, -List.reduceReplicate, A2, Xha]
 repeat' (first | (with_reducible refine hK _ ?_; clear hK K) | with_reducible apply And.intro)
 refine X9 fun K hK => Ny Xj [] [[], [0], [2, 4], [], [0], [3], [], [1]] [[], [], [2, 4], [], [], [3], [], [1]] follows (by kernel_rfl) (by decide) (by decide) (by kernel_rfl) ?_
 simp (maxSteps:=9^7) only [ss, X1, tab, simprocAttr, -List.reduceReplicate]
 repeat' (first | (with_reducible refine hK _ ?_; clear hK K) | with_reducible apply And.intro)
 refine ⟨_, _, _, Xm5 (n + 2) (n + 4) (by omega) d.sectors z hz (by have := hd.s; omega) hd.sb hz0, ?_, ?_, ?_, ?_⟩
 ·exact ⟨X6 _ (Nat.le_refl _) 2, X6 _ (Nat.le_refl _) 4, trivial⟩
 ·exact ⟨Xb _ (by simp), Xb _ (by simp), trivial⟩
 ·intro x hx
  simp only [List.mem_cons, List.not_mem_nil, or_false] at hx
  rcases hx with rfl | rfl
  ·exact ⟨Xb _ (by simp), by simp⟩
  ·exact ⟨Xb _ (by simp), by simp⟩
 simp (maxSteps:=9^7) only [ss, X1, tab, simprocAttr, -List.reduceReplicate, X1z, Xnp]
 refine Sb (Xkc (n + 3) d.waits _ [] wrA wrC (hb0 _ (by decide) (by decide)) (by have := hd.w; omega) (fun _ => rfl) (fun _ => rfl) fun w hw => Xkw w (by have := hd.wb w hw; omega)) (X6 _ (Nat.le_refl _) 3) (Xb _ (by simp)) (by simp) ?_
 simp (maxSteps:=9^7) only [ss, X1, tab, simprocAttr, -List.reduceReplicate]
 repeat' (first | (with_reducible refine hK _ ?_; clear hK K) | with_reducible apply And.intro)
 have hmv : Mv [true] (n + 4) kz (.sl 1 ((d.sectors.map Y6).set z [.bsl (n + 4) 0 (d.sectors[z]).length false]) (.own (n + 2))) (.sl 1 ((d.sectors.map Y6).set z [.bsl kz 0 (d.sectors[z]).length false]) .sh) := Xnv (Xnk z ⟨Mv.bsl (n := n + 4) (n' := kz) 0 0 _ false rfl, trivial⟩)
 refine Yy (Il (i := 4) (k := kz) [] (lo1 := [some (.box 43 (Xha d)), some (.box 43 [.sl 1 ((d.sectors.map Y6).set z [.bsl kz 0 (d.sectors[z]).length false]) .sh, .sl 2 (d.waits.map wrC) .sh]), some (.row 44 1 d.sectors.length), some (.row 76 2 d.waits.length), some (.box 5 ((d.sectors[z]).map b8))]) rfl hkzn hkz ((X1e _).2 trivial) ?_) ?_
 ·simp only [Ty, E8, R0, Ji, X1d, X4j, X1e, Jg, Jf, Xha, hmv, true_and, and_true]
 simp only [E1, s_0, s_s, Wy]
 refine Yd ?_
 exact Xu (.inr rfl) rfl rfl rfl (fun _ _ => rfl) ok43 (k := n + 1) (off := 0) rfl (Xb _ (by simp)) (X6 _ (Nat.le_refl _) 1) rfl (by simp only [E1, sl])
end Go.Proofs.Ytjgbbjooeibppaa
