/-
 Disks, writes; bytes copied, compared; lists made anew.
-/
import Derived.Test.YtjgbbjooeibppaaZGA
import Derived.Test.YtjgbbjooeibppaaZD1
namespace Go.Proofs.Ytjgbbjooeibppaa
set_option linter.unusedVariables false
set_option linter.unusedSimpArgs false
open Go Go.VS Tab
set_option maxHeartbeats 1000000
abbrev bs (l : List UInt8) : AV := .sl 1 (Xo l) .sh
structure Wr where
 at' : Int
 data : List UInt8
structure Dsk where
 sectors : List (List UInt8)
 waits : List Wr
def Y6 (b : List UInt8) : List AV := [bs b]
def wrC (w : Wr) : List AV := [i64 w.at', bs w.data]
def Xha (d : Dsk) : List AV := [.sl 1 (d.sectors.map Y6) .sh, .sl 2 (d.waits.map wrC) .sh]
def wrA (w : Wr) : AV := .agg (wrC w)
def A2 (d : Dsk) : AV := .agg (Xha d)
def Ym (n : Int) : List AV := [i64 n]
theorem X0b (b : List UInt8) : pick false 1 (Y6 b) = some (bs b) := rfl
theorem Xj7 (n : Int) : pick false 1 (Ym n) = some (i64 n) := rfl
theorem Xds (l : List UInt8) (hl : l.length ≤ 100000000) : Xr Try.prog 57 [bs l] [] (bs l) [] := by
 refine Xbz (fun h => ?_) ?_
 ·obtain rfl : l = [] := by simpa [Xo] using h
  refine Xc 0 Try.func57 rfl fun n out _ _ => ?_
  simp only [Try.ntmps57, List.length_cons, List.length_nil, List.length_map, List.length_replicate, Xf, Nat.reduceAdd, Nat.reduceSub, List.replicate, List.cons_append, List.nil_append]
  refine X9 fun K hK => Xn Xj [] ?_
  simp (maxSteps:=9^7) only [ss, X1, tab, simprocAttr, -List.reduceReplicate]
  repeat' (first | (with_reducible refine hK _ ?_; clear hK K) | with_reducible apply And.intro)
  refine X9 fun KB hKB => ?_
  refine X9 fun K hK => Xn Xj [] ?_
  simp (maxSteps:=9^7) only [ss, X1, tab, simprocAttr, -List.reduceReplicate]
  repeat' (first | (with_reducible refine hK _ ?_; clear hK K) | with_reducible apply And.intro)
  refine Wm rfl ?_
  refine X9 fun K hK => Xn Xj [] ?_
  simp (maxSteps:=9^7) only [ss, X1, tab, simprocAttr, -List.reduceReplicate]
  repeat' (first | (with_reducible refine hK _ ?_; clear hK K) | with_reducible apply And.intro)
  refine Yd ?_
  exact Xv (.inr rfl) rfl rfl rfl (fun _ _ => rfl) ((Py _ _).2 trivial) rfl
 ·refine Xc 0 Try.func57 rfl fun n out _ _ => ?_
  simp only [Try.ntmps57, List.length_cons, List.length_nil, List.length_map, List.length_replicate, Xf, Nat.reduceAdd, Nat.reduceSub, List.replicate, List.cons_append, List.nil_append]
  refine X9 fun K hK => Xn Xj [] ?_
  simp (maxSteps:=9^7) only [ss, X1, tab, simprocAttr, -List.reduceReplicate]
  repeat' (first | (with_reducible refine hK _ ?_; clear hK K) | with_reducible apply And.intro)
  refine X9 fun KB hKB => ?_
  refine X9 fun K hK => Xn Xj [] ?_
  simp (maxSteps:=9^7) only [ss, X1, tab, simprocAttr, -List.reduceReplicate]
  repeat' (first | (with_reducible refine hK _ ?_; clear hK K) | with_reducible apply And.intro)
  refine Uy rfl (Z1 (hKB _ ?_))
  refine X9 fun K hK => Xn Xj [] ?_
  simp (maxSteps:=9^7) only [ss, X1, tab, simprocAttr, -List.reduceReplicate, Sm, show l.length ≤ 140737488355328 by omega, show l.length ≤ 9223372036854775807 by omega]
  repeat' (first | (with_reducible refine hK _ ?_; clear hK K) | with_reducible apply And.intro)
  refine Yd ?_
  refine Xv (.inr rfl) rfl rfl rfl (fun _ _ => rfl) (.sh _ _ _) rfl
theorem Xl7 (a b : List UInt8) : Xr Try.prog 52 [bs a, bs b] [] (bool (a == b)) [] := by
 refine Xc 0 Try.func52 rfl fun n out _ _ => ?_
 simp only [Try.ntmps52, List.length_cons, List.length_nil, List.length_map, List.length_replicate, Xf, Nat.reduceAdd, Nat.reduceSub, List.replicate, List.cons_append, List.nil_append]
 refine X9 fun K hK => Xn Xj [] ?_
 simp (maxSteps:=9^7) only [ss, X1, tab, simprocAttr, -List.reduceReplicate]
 repeat' (first | (with_reducible refine hK _ ?_; clear hK K) | with_reducible apply And.intro)
 refine X9 fun K hK => Xn Xj [] ?_
 simp (maxSteps:=9^7) only [ss, X1, tab, simprocAttr, -List.reduceReplicate, Ya, Z5]
 repeat' (first | (with_reducible refine hK _ ?_; clear hK K) | with_reducible apply And.intro)
 refine Yd ?_
 exact Qv (.inr rfl) rfl rfl rfl (fun _ _ => rfl) rfl
end Go.Proofs.Ytjgbbjooeibppaa
