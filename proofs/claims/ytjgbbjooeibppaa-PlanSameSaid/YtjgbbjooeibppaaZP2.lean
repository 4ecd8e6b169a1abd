/-
 Functions of Go's library over lists: where the first is, whether lists are alike, copies.
-/
import Derived.Test.YtjgbbjooeibppaaZGA
import Derived.Test.YtjgbbjooeibppaaZPR
import Derived.Test.YtjgbbjooeibppaaZTab
namespace Go.Proofs.Ytjgbbjooeibppaa.Pln
set_option linter.unusedVariables false
set_option linter.unusedSimpArgs false
open Go Go.VS Tab
set_option maxHeartbeats 1000000
set_option maxRecDepth 4000
theorem Xfa (els : List (List AV)) (hl : els.length ≤ 1000000) : Xr Try.prog 32 [.sl 2 els .sh] [] (.sl 2 els .sh) [] := by
 refine Xbz (fun h => ?_) ?_
 ·subst h
  refine Xc 0 Try.func32 rfl fun n out _ _ => ?_
  simp only [Try.ntmps32, List.length_cons, List.length_nil, List.length_map, List.length_replicate, Xf, Nat.reduceAdd, Nat.reduceSub, List.replicate, List.cons_append, List.nil_append]
  refine X9 fun K hK => Xn Xj [] ?_
  simp (maxSteps:=9^7) only [ss, X1, tab, simprocAttr, -List.reduceReplicate]
  repeat' (first | (with_reducible refine hK _ ?_; clear hK K) | with_reducible apply And.intro)
  refine X9 fun KB hKB => ?_
  refine X9 fun K hK => Xn Xj [] ?_
  simp (maxSteps:=9^7) only [ss, X1, tab, simprocAttr, -List.reduceReplicate]
  repeat' (first | (with_reducible refine hK _ ?_; clear hK K) | with_reducible apply And.intro)
  refine Wm rfl ?_
  refine X9 fun K hK => Xn Xj [] ?_
  simp (maxSteps:=9^7) only [ss, X1, tab, simprocAttr, -List.reduceReplicate]
  repeat' (first | (with_reducible refine hK _ ?_; clear hK K) | with_reducible apply And.intro)
  refine Yd ?_
  exact Xv (.inr rfl) rfl rfl rfl (fun _ _ => rfl) ((Py _ _).2 trivial) rfl
 ·refine Xc 0 Try.func32 rfl fun n out _ _ => ?_
  simp only [Try.ntmps32, List.length_cons, List.length_nil, List.length_map, List.length_replicate, Xf, Nat.reduceAdd, Nat.reduceSub, List.replicate, List.cons_append, List.nil_append]
  refine X9 fun K hK => Xn Xj [] ?_
  simp (maxSteps:=9^7) only [ss, X1, tab, simprocAttr, -List.reduceReplicate]
  repeat' (first | (with_reducible refine hK _ ?_; clear hK K) | with_reducible apply And.intro)
  refine X9 fun KB hKB => ?_
  refine X9 fun K hK => Xn Xj [] ?_
  simp (maxSteps:=9^7) only [ss, X1, tab, simprocAttr, -List.reduceReplicate]
  repeat' (first | (with_reducible refine hK _ ?_; clear hK K) | with_reducible apply And.intro)
  refine Uy rfl (Z1 (hKB _ ?_))
  refine X9 fun K hK => Xn Xj [] ?_
  simp (maxSteps:=9^7) only [ss, X1, tab, simprocAttr, -List.reduceReplicate, show els.length * 8 ≤ 140737488355328 by omega, show els.length * 16 ≤ 140737488355328 by omega, show els.length * 24 ≤ 140737488355328 by omega, show els.length * 40 ≤ 140737488355328 by omega, show els.length * 104 ≤ 140737488355328 by omega, show els.length ≤ 9223372036854775807 by omega]
  repeat' (first | (with_reducible refine hK _ ?_; clear hK K) | with_reducible apply And.intro)
  refine Yd ?_
  refine Xv (.inr rfl) rfl rfl rfl (fun _ _ => rfl) ?_ rfl
  simp only [X4, sl]
theorem Xfb (els : List (List AV)) (hl : els.length ≤ 1000000) : Xr Try.prog 33 [.sl 3 els .sh] [] (.sl 3 els .sh) [] := by
 refine Xbz (fun h => ?_) ?_
 ·subst h
  refine Xc 0 Try.func33 rfl fun n out _ _ => ?_
  simp only [Try.ntmps33, List.length_cons, List.length_nil, List.length_map, List.length_replicate, Xf, Nat.reduceAdd, Nat.reduceSub, List.replicate, List.cons_append, List.nil_append]
  refine X9 fun K hK => Xn Xj [] ?_
  simp (maxSteps:=9^7) only [ss, X1, tab, simprocAttr, -List.reduceReplicate]
  repeat' (first | (with_reducible refine hK _ ?_; clear hK K) | with_reducible apply And.intro)
  refine X9 fun KB hKB => ?_
  refine X9 fun K hK => Xn Xj [] ?_
  simp (maxSteps:=9^7) only [ss, X1, tab, simprocAttr, -List.reduceReplicate]
  repeat' (first | (with_reducible refine hK _ ?_; clear hK K) | with_reducible apply And.intro)
  refine Wm rfl ?_
  refine X9 fun K hK => Xn Xj [] ?_
  simp (maxSteps:=9^7) only [ss, X1, tab, simprocAttr, -List.reduceReplicate]
  repeat' (first | (with_reducible refine hK _ ?_; clear hK K) | with_reducible apply And.intro)
  refine Yd ?_
  exact Xv (.inr rfl) rfl rfl rfl (fun _ _ => rfl) ((Py _ _).2 trivial) rfl
 ·refine Xc 0 Try.func33 rfl fun n out _ _ => ?_
  simp only [Try.ntmps33, List.length_cons, List.length_nil, List.length_map, List.length_replicate, Xf, Nat.reduceAdd, Nat.reduceSub, List.replicate, List.cons_append, List.nil_append]
  refine X9 fun K hK => Xn Xj [] ?_
  simp (maxSteps:=9^7) only [ss, X1, tab, simprocAttr, -List.reduceReplicate]
  repeat' (first | (with_reducible refine hK _ ?_; clear hK K) | with_reducible apply And.intro)
  refine X9 fun KB hKB => ?_
  refine X9 fun K hK => Xn Xj [] ?_
  simp (maxSteps:=9^7) only [ss, X1, tab, simprocAttr, -List.reduceReplicate]
  repeat' (first | (with_reducible refine hK _ ?_; clear hK K) | with_reducible apply And.intro)
  refine Uy rfl (Z1 (hKB _ ?_))
  refine X9 fun K hK => Xn Xj [] ?_
  simp (maxSteps:=9^7) only [ss, X1, tab, simprocAttr, -List.reduceReplicate, show els.length * 8 ≤ 140737488355328 by omega, show els.length * 16 ≤ 140737488355328 by omega, show els.length * 24 ≤ 140737488355328 by omega, show els.length * 40 ≤ 140737488355328 by omega, show els.length * 104 ≤ 140737488355328 by omega, show els.length ≤ 9223372036854775807 by omega]
  repeat' (first | (with_reducible refine hK _ ?_; clear hK K) | with_reducible apply And.intro)
  refine Yd ?_
  refine Xv (.inr rfl) rfl rfl rfl (fun _ _ => rfl) ?_ rfl
  simp only [X4, sl]
theorem Xez (els : List (List AV)) (hl : els.length ≤ 1000000) : Xr Try.prog 76 [.sl 1 els .sh] [] (.sl 1 els .sh) [] := by
 refine Xbz (fun h => ?_) ?_
 ·subst h
  refine Xc 0 Try.func76 rfl fun n out _ _ => ?_
  simp only [Try.ntmps76, List.length_cons, List.length_nil, List.length_map, List.length_replicate, Xf, Nat.reduceAdd, Nat.reduceSub, List.replicate, List.cons_append, List.nil_append]
  refine X9 fun K hK => Xn Xj [] ?_
  simp (maxSteps:=9^7) only [ss, X1, tab, simprocAttr, -List.reduceReplicate]
  repeat' (first | (with_reducible refine hK _ ?_; clear hK K) | with_reducible apply And.intro)
  refine X9 fun KB hKB => ?_
  refine X9 fun K hK => Xn Xj [] ?_
  simp (maxSteps:=9^7) only [ss, X1, tab, simprocAttr, -List.reduceReplicate]
  repeat' (first | (with_reducible refine hK _ ?_; clear hK K) | with_reducible apply And.intro)
  refine Wm rfl ?_
  refine X9 fun K hK => Xn Xj [] ?_
  simp (maxSteps:=9^7) only [ss, X1, tab, simprocAttr, -List.reduceReplicate]
  repeat' (first | (with_reducible refine hK _ ?_; clear hK K) | with_reducible apply And.intro)
  refine Yd ?_
  exact Xv (.inr rfl) rfl rfl rfl (fun _ _ => rfl) ((Py _ _).2 trivial) rfl
 ·refine Xc 0 Try.func76 rfl fun n out _ _ => ?_
  simp only [Try.ntmps76, List.length_cons, List.length_nil, List.length_map, List.length_replicate, Xf, Nat.reduceAdd, Nat.reduceSub, List.replicate, List.cons_append, List.nil_append]
  refine X9 fun K hK => Xn Xj [] ?_
  simp (maxSteps:=9^7) only [ss, X1, tab, simprocAttr, -List.reduceReplicate]
  repeat' (first | (with_reducible refine hK _ ?_; clear hK K) | with_reducible apply And.intro)
  refine X9 fun KB hKB => ?_
  refine X9 fun K hK => Xn Xj [] ?_
  simp (maxSteps:=9^7) only [ss, X1, tab, simprocAttr, -List.reduceReplicate]
  repeat' (first | (with_reducible refine hK _ ?_; clear hK K) | with_reducible apply And.intro)
  refine Uy rfl (Z1 (hKB _ ?_))
  refine X9 fun K hK => Xn Xj [] ?_
  simp (maxSteps:=9^7) only [ss, X1, tab, simprocAttr, -List.reduceReplicate, show els.length * 8 ≤ 140737488355328 by omega, show els.length * 16 ≤ 140737488355328 by omega, show els.length * 24 ≤ 140737488355328 by omega, show els.length * 40 ≤ 140737488355328 by omega, show els.length * 104 ≤ 140737488355328 by omega, show els.length ≤ 9223372036854775807 by omega]
  repeat' (first | (with_reducible refine hK _ ?_; clear hK K) | with_reducible apply And.intro)
  refine Yd ?_
  refine Xv (.inr rfl) rfl rfl rfl (fun _ _ => rfl) ?_ rfl
  simp only [X4, sl]
theorem Xfc (els : List (List AV)) (hl : els.length ≤ 1000000) : Xr Try.prog 77 [.sl 2 els .sh] [] (.sl 2 els .sh) [] := by
 refine Xbz (fun h => ?_) ?_
 ·subst h
  refine Xc 0 Try.func77 rfl fun n out _ _ => ?_
  simp only [Try.ntmps77, List.length_cons, List.length_nil, List.length_map, List.length_replicate, Xf, Nat.reduceAdd, Nat.reduceSub, List.replicate, List.cons_append, List.nil_append]
  refine X9 fun K hK => Xn Xj [] ?_
  simp (maxSteps:=9^7) only [ss, X1, tab, simprocAttr, -List.reduceReplicate]
  repeat' (first | (with_reducible refine hK _ ?_; clear hK K) | with_reducible apply And.intro)
  refine X9 fun KB hKB => ?_
  refine X9 fun K hK => Xn Xj [] ?_
  simp (maxSteps:=9^7) only [ss, X1, tab, simprocAttr, -List.reduceReplicate]
  repeat' (first | (with_reducible refine hK _ ?_; clear hK K) | with_reducible apply And.intro)
  refine Wm rfl ?_
  refine X9 fun K hK => Xn Xj [] ?_
  simp (maxSteps:=9^7) only [ss, X1, tab, simprocAttr, -List.reduceReplicate]
  repeat' (first | (with_reducible refine hK _ ?_; clear hK K) | with_reducible apply And.intro)
  refine Yd ?_
  exact Xv (.inr rfl) rfl rfl rfl (fun _ _ => rfl) ((Py _ _).2 trivial) rfl
 ·refine Xc 0 Try.func77 rfl fun n out _ _ => ?_
  simp only [Try.ntmps77, List.length_cons, List.length_nil, List.length_map, List.length_replicate, Xf, Nat.reduceAdd, Nat.reduceSub, List.replicate, List.cons_append, List.nil_append]
  refine X9 fun K hK => Xn Xj [] ?_
  simp (maxSteps:=9^7) only [ss, X1, tab, simprocAttr, -List.reduceReplicate]
  repeat' (first | (with_reducible refine hK _ ?_; clear hK K) | with_reducible apply And.intro)
  refine X9 fun KB hKB => ?_
  refine X9 fun K hK => Xn Xj [] ?_
  simp (maxSteps:=9^7) only [ss, X1, tab, simprocAttr, -List.reduceReplicate]
  repeat' (first | (with_reducible refine hK _ ?_; clear hK K) | with_reducible apply And.intro)
  refine Uy rfl (Z1 (hKB _ ?_))
  refine X9 fun K hK => Xn Xj [] ?_
  simp (maxSteps:=9^7) only [ss, X1, tab, simprocAttr, -List.reduceReplicate, show els.length * 8 ≤ 140737488355328 by omega, show els.length * 16 ≤ 140737488355328 by omega, show els.length * 24 ≤ 140737488355328 by omega, show els.length * 40 ≤ 140737488355328 by omega, show els.length * 104 ≤ 140737488355328 by omega, show els.length ≤ 9223372036854775807 by omega]
  repeat' (first | (with_reducible refine hK _ ?_; clear hK K) | with_reducible apply And.intro)
  refine Yd ?_
  refine Xv (.inr rfl) rfl rfl rfl (fun _ _ => rfl) ?_ rfl
  simp only [X4, sl]
theorem X32 (a b : Int × Int) : (a == b) = ((a.1 == b.1) && (a.2 == b.2)) := rfl
theorem Xgy (a b : Int × Int × Int) : (a == b) = ((a.1 == b.1) && ((a.2.1 == b.2.1) && (a.2.2 == b.2.2))) := rfl
theorem Mu {α : Type} [BEq α] [LawfulBEq α] {l m : List α} (h : l.length ≠ m.length) : (l == m) = false := by
 rw [beq_eq_false_iff_ne]; rintro rfl; exact h rfl
theorem Ua {α : Type} [BEq α] [LawfulBEq α] {l m : List α} (h : l.length = m.length) (hp : ∀ i (hi : i < l.length) (hi' : i < m.length), l[i] = m[i]) : (l == m) = true := by
 rw [beq_iff_eq]; exact List.ext_getElem h hp
theorem Ut {α : Type} [BEq α] [LawfulBEq α] {l m : List α} {i : Nat} (hi : i < l.length) (hi' : i < m.length) (h : l[i] ≠ m[i]) : (l == m) = false := by
 rw [beq_eq_false_iff_ne]; rintro rfl; exact h rfl
end Go.Proofs.Ytjgbbjooeibppaa.Pln
