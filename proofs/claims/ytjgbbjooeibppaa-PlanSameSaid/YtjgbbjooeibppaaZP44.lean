/-
 The program's comparison of plans; lists copied into boxes.
-/
import Derived.Test.YtjgbbjooeibppaaZGA
import Derived.Test.YtjgbbjooeibppaaZP45
import Derived.Test.YtjgbbjooeibppaaZPJ
import Derived.Test.YtjgbbjooeibppaaZP3
import Derived.Test.YtjgbbjooeibppaaZR5
namespace Go.Proofs.Ytjgbbjooeibppaa.Pln
set_option linter.unusedVariables false
set_option linter.unusedSimpArgs false
open Go Go.VS Tab
set_option maxHeartbeats 8000000
set_option maxRecDepth 4000
theorem Xfy (a b : Sec) (hl : a.ends.length ≤ 1000000) : Xr Try.prog 39 [Qh a, Qh b] [] (bool (Mw a b)) [] := by
 have c := Xga a.ends b.ends (by omega)
 unfold Mw
 generalize (a.ends == b.ends) = E at *
 refine Xc 2 Try.func39 rfl fun n out _ _ => ?_
 simp only [Try.ntmps39, List.length_cons, List.length_nil, List.length_map, List.length_replicate, Xf, Nat.reduceAdd, Nat.reduceSub, List.replicate, List.cons_append, List.nil_append]
 repeat' (first | (with_reducible first | refine Vk fun K hK => ?_ | refine V0 ?_ | refine Vs ?_ | apply And.intro) | ((with_reducible first | refine gE ?_ | refine gR ?_); simp (maxSteps:=9^7) only [ss, X1, tab, simprocAttr, -List.reduceReplicate, Qh, Y6]) | exact Vn | ((with_reducible refine Vz ?_); refine Vo rfl rfl rfl (fun _ _ => rfl) ?_ <;> first | rfl | (simp only [g_0, g_s]; refine congrArg VS.bool ?_; simp_all; done) | skip) | (refine X3 (c) ?_) | ((with_reducible refine Vg (fun hg => ?_) (fun hg => ?_)) <;> (try simp only [nb] at hg) <;> simp (maxSteps:=9^7) only [ss, X1, tab, simprocAttr, -List.reduceReplicate, hg, Qh, Y6]) | (refine hK _ ?_; clear hK K) | clear hK K)
theorem Xfz (a b : Rt) (h : a.path.length ≤ 1000000 ∧ a.over.length ≤ 1000000 ∧ a.flanks.length ≤ 1000000) : Xr Try.prog 42 [rtA a, rtA b] [] (bool (Ks a b)) [] := by
 have c1 := Xf5 a.path b.path (by omega)
 have c2 := Xf5 a.over b.over (by omega)
 have c3 := Xgc a.flanks b.flanks (by omega)
 unfold Ks
 generalize (a.path == b.path) = P1 at *
 generalize (a.over == b.over) = P2 at *
 generalize (a.flanks == b.flanks) = P3 at *
 refine Xc 2 Try.func42 rfl fun n out _ _ => ?_
 simp only [Try.ntmps42, List.length_cons, List.length_nil, List.length_map, List.length_replicate, Xf, Nat.reduceAdd, Nat.reduceSub, List.replicate, List.cons_append, List.nil_append]
 repeat' (first | (with_reducible first | refine Vk fun K hK => ?_ | refine V0 ?_ | refine Vs ?_ | apply And.intro) | ((with_reducible first | refine gE ?_ | refine gR ?_); simp (maxSteps:=9^7) only [ss, X1, tab, simprocAttr, -List.reduceReplicate, rtA, rtC]) | exact Vn | ((with_reducible refine Vz ?_); refine Vo rfl rfl rfl (fun _ _ => rfl) ?_ <;> first | rfl | (simp only [g_0, g_s]; refine congrArg VS.bool ?_; simp_all; done) | skip) | (refine X3 (c1) ?_) | (refine X3 (c2) ?_) | (refine X3 (c3) ?_) | ((with_reducible refine Vg (fun hg => ?_) (fun hg => ?_)) <;> (try simp only [nb] at hg) <;> simp (maxSteps:=9^7) only [ss, X1, tab, simprocAttr, -List.reduceReplicate, hg, rtA, rtC]) | (refine hK _ ?_; clear hK K) | clear hK K)
theorem Xgf (a b : Pl) (ha : Sm a) : Xr Try.prog 8 [plA a, plA b] [] (bool (Sy a b)) [] := by
 have hB1 : Xd Try.prog 39 = True := hb0 _ (by decide) (by decide)
 have hB2 : Xd Try.prog 42 = True := hb0 _ (by decide) (by decide)
 have q1 := ha.secs
 have q2 := ha.pts
 have q3 := ha.sgs
 have q4 := ha.rts
 have c1 := Xeq a.secs b.secs 39 [] Mw hB1 (by omega) fun x hx y _ => Xfy x y (by have := ha.ends x hx; omega)
 have c2 := Xf0 a.rts b.rts 42 [] Ks hB2 (by omega) fun x hx y _ => Xfz x y (by obtain ⟨x, y, z⟩ := ha.rt _ hx; omega)
 have c3 := Xgb a.pts b.pts (by omega)
 have c4 := Xgd a.sgs b.sgs (by omega)
 unfold Sy Lw
 generalize (Fv Mw a.secs b.secs) = P1 at *
 generalize (Fv Ks a.rts b.rts) = P2 at *
 generalize (a.pts == b.pts) = P3 at *
 generalize (a.sgs == b.sgs) = P4 at *
 refine Xc 2 Try.func8 rfl fun n out _ _ => ?_
 simp only [Try.ntmps8, List.length_cons, List.length_nil, List.length_map, List.length_replicate, Xf, Nat.reduceAdd, Nat.reduceSub, List.replicate, List.cons_append, List.nil_append]
 repeat' (first | (with_reducible first | refine Vk fun K hK => ?_ | refine V0 ?_ | refine Vs ?_ | apply And.intro) | ((with_reducible first | refine gE ?_ | refine gR ?_); simp (maxSteps:=9^7) only [ss, X1, tab, simprocAttr, -List.reduceReplicate, plA, plC, hB1, hB2]) | exact Vn | ((with_reducible refine Vz ?_); refine Vo rfl rfl rfl (fun _ _ => rfl) ?_ <;> first | rfl | (simp only [g_0, g_s]; refine congrArg VS.bool ?_; simp_all; done) | skip) | (refine X3 (c1) ?_) | (refine X3 (c2) ?_) | (refine X3 (c3) ?_) | (refine X3 (c4) ?_) | ((with_reducible refine Vg (fun hg => ?_) (fun hg => ?_)) <;> (try simp only [nb] at hg) <;> simp (maxSteps:=9^7) only [ss, X1, tab, simprocAttr, -List.reduceReplicate, hg, plA, plC, hB1, hB2]) | (refine hK _ ?_; clear hK K) | clear hK K)
theorem Xer (k : Nat) (els : List (List AV)) (hl : els.length ≤ 1000000) : Xr Try.prog 34 [.sl 3 els .sh] [(k, none)] (.bsl k 0 els.length false) [(k, bxD 37 els)] := by
 by_cases h0 : els.length = 0
 ·have e0 : els = [] := List.eq_nil_of_length_eq_zero h0
  subst e0
  refine C1 (sz := 3) (Xbz (fun h => ?_) ?_)
  ·refine Xc 0 Try.func34 rfl fun n out _ _ => ?_
   simp only [Try.ntmps34, List.length_cons, List.length_nil, List.length_map, List.length_replicate, Xf, Nat.reduceAdd, Nat.reduceSub, List.replicate, List.cons_append, List.nil_append]
   refine X9 fun K hK => Xn Xj [] ?_
   simp (maxSteps:=9^7) only [ss, X1, tab, simprocAttr, -List.reduceReplicate]
   repeat' (first | (with_reducible refine hK _ ?_; clear hK K) | with_reducible apply And.intro)
   refine X9 fun KB hKB => ?_
   refine X9 fun K hK => Xn Xj [] ?_
   simp (maxSteps:=9^7) only [ss, X1, tab, simprocAttr, -List.reduceReplicate]
   repeat' (first | (with_reducible refine hK _ ?_; clear hK K) | with_reducible apply And.intro)
   refine Wm rfl ?_
   refine X9 fun K hK => Xn Xj [] ?_
   simp (maxSteps:=9^7) only [ss, X1, tab, simprocAttr, -List.reduceReplicate]
   repeat' (first | (with_reducible refine hK _ ?_; clear hK K) | with_reducible apply And.intro)
   refine Yd ?_
   exact Xv (.inr rfl) rfl rfl rfl (fun _ _ => rfl) ((Cp _ _).2 trivial) rfl
  ·refine Xc 0 Try.func34 rfl fun n out _ _ => ?_
   simp only [Try.ntmps34, List.length_cons, List.length_nil, List.length_map, List.length_replicate, Xf, Nat.reduceAdd, Nat.reduceSub, List.replicate, List.cons_append, List.nil_append]
   refine X9 fun K hK => Xn Xj [] ?_
   simp (maxSteps:=9^7) only [ss, X1, tab, simprocAttr, -List.reduceReplicate]
   repeat' (first | (with_reducible refine hK _ ?_; clear hK K) | with_reducible apply And.intro)
   refine X9 fun KB hKB => ?_
   refine X9 fun K hK => Xn Xj [] ?_
   simp (maxSteps:=9^7) only [ss, X1, tab, simprocAttr, -List.reduceReplicate]
   repeat' (first | (with_reducible refine hK _ ?_; clear hK K) | with_reducible apply And.intro)
   refine Uy rfl (Z1 (hKB _ ?_))
   refine X9 fun K hK => Xn Xj [] ?_
   simp (maxSteps:=9^7) only [ss, X1, tab, simprocAttr, -List.reduceReplicate, List.length_nil]
   repeat' (first | (with_reducible refine hK _ ?_; clear hK K) | with_reducible apply And.intro)
   refine Yd ?_
   exact Xv (.inr rfl) rfl rfl rfl (fun _ _ => rfl) (.rfl _) rfl
 ·have h1 : 0 < els.length := by omega
  have hne : els ≠ [] := fun h => by rw [h] at h1; exact absurd h1 (by decide)
  rw [K1 h1]
  refine Xbz (fun h => absurd h hne) ?_
  refine Xc 1 Try.func34 rfl fun n out _ _ => ?_
  simp only [Try.ntmps34, List.length_cons, List.length_nil, List.length_map, List.length_replicate, Xf, Nat.reduceAdd, Nat.reduceSub, List.replicate, List.cons_append, List.nil_append]
  rename_i hneeds hgv
  obtain ⟨hk, _⟩ := hneeds
  obtain ⟨hkn, _⟩ := hgv
  refine X9 fun K hK => Xn Xj [] ?_
  simp (maxSteps:=9^7) only [ss, X1, tab, simprocAttr, -List.reduceReplicate]
  repeat' (first | (with_reducible refine hK _ ?_; clear hK K) | with_reducible apply And.intro)
  refine X9 fun KB hKB => ?_
  refine X9 fun K hK => Xn Xj [] ?_
  simp (maxSteps:=9^7) only [ss, X1, tab, simprocAttr, -List.reduceReplicate]
  repeat' (first | (with_reducible refine hK _ ?_; clear hK K) | with_reducible apply And.intro)
  refine Uy rfl (Z1 (hKB _ ?_))
  clear hKB KB
  refine X9 fun K hK => Xn Xj [(1007, none)] ?_
  simp (maxSteps:=9^7) only [ss, X1, tab, simprocAttr, -List.reduceReplicate, show els.length * 8 ≤ 140737488355328 by omega, show els.length * 16 ≤ 140737488355328 by omega, show els.length * 24 ≤ 140737488355328 by omega, show els.length * 40 ≤ 140737488355328 by omega, show els.length * 104 ≤ 140737488355328 by omega, show els.length ≤ 9223372036854775807 by omega, hne]
  repeat' (first | (with_reducible refine hK _ ?_; clear hK K) | with_reducible apply And.intro)
  refine Yy (Xf9 (i := 0) (m := els.length) (sz := 3) (e := 37) (cs := els.flatten) rfl h1) ?_
  simp only [List.map_cons, List.map_nil, AV.bxv, s_0, s_s, reduceCtorEq, if_true, if_false, Nat.reduceEqDiff, reduceIte, and_self]
  refine Yy (Ja (i := 0) (k := k) rfl (by exact hkn) (by exact hk)) ?_
  simp only [List.map_cons, List.map_nil, Option.map_some, Option.map_none, Res.ren1, AV.ren1, Nat.add_left_cancel_iff, Nat.reduceEqDiff, Nat.one_ne_zero, reduceIte, Wy, s_0, s_s]
  refine Yd ?_
  exact Qv (.inr rfl) rfl rfl rfl (fun _ _ => rfl) rfl
theorem Xf1 (k : Nat) (els : List (List AV)) (hl : els.length ≤ 1000000) : Xr Try.prog 35 [.sl 7 els .sh] [(k, none)] (.bsl k 0 els.length false) [(k, bxD 34 els)] := by
 by_cases h0 : els.length = 0
 ·have e0 : els = [] := List.eq_nil_of_length_eq_zero h0
  subst e0
  refine C1 (sz := 7) (Xbz (fun h => ?_) ?_)
  ·refine Xc 0 Try.func35 rfl fun n out _ _ => ?_
   simp only [Try.ntmps35, List.length_cons, List.length_nil, List.length_map, List.length_replicate, Xf, Nat.reduceAdd, Nat.reduceSub, List.replicate, List.cons_append, List.nil_append]
   refine X9 fun K hK => Xn Xj [] ?_
   simp (maxSteps:=9^7) only [ss, X1, tab, simprocAttr, -List.reduceReplicate]
   repeat' (first | (with_reducible refine hK _ ?_; clear hK K) | with_reducible apply And.intro)
   refine X9 fun KB hKB => ?_
   refine X9 fun K hK => Xn Xj [] ?_
   simp (maxSteps:=9^7) only [ss, X1, tab, simprocAttr, -List.reduceReplicate]
   repeat' (first | (with_reducible refine hK _ ?_; clear hK K) | with_reducible apply And.intro)
   refine Wm rfl ?_
   refine X9 fun K hK => Xn Xj [] ?_
   simp (maxSteps:=9^7) only [ss, X1, tab, simprocAttr, -List.reduceReplicate]
   repeat' (first | (with_reducible refine hK _ ?_; clear hK K) | with_reducible apply And.intro)
   refine Yd ?_
   exact Xv (.inr rfl) rfl rfl rfl (fun _ _ => rfl) ((Cp _ _).2 trivial) rfl
  ·refine Xc 0 Try.func35 rfl fun n out _ _ => ?_
   simp only [Try.ntmps35, List.length_cons, List.length_nil, List.length_map, List.length_replicate, Xf, Nat.reduceAdd, Nat.reduceSub, List.replicate, List.cons_append, List.nil_append]
   refine X9 fun K hK => Xn Xj [] ?_
   simp (maxSteps:=9^7) only [ss, X1, tab, simprocAttr, -List.reduceReplicate]
   repeat' (first | (with_reducible refine hK _ ?_; clear hK K) | with_reducible apply And.intro)
   refine X9 fun KB hKB => ?_
   refine X9 fun K hK => Xn Xj [] ?_
   simp (maxSteps:=9^7) only [ss, X1, tab, simprocAttr, -List.reduceReplicate]
   repeat' (first | (with_reducible refine hK _ ?_; clear hK K) | with_reducible apply And.intro)
   refine Uy rfl (Z1 (hKB _ ?_))
   refine X9 fun K hK => Xn Xj [] ?_
   simp (maxSteps:=9^7) only [ss, X1, tab, simprocAttr, -List.reduceReplicate, List.length_nil]
   repeat' (first | (with_reducible refine hK _ ?_; clear hK K) | with_reducible apply And.intro)
   refine Yd ?_
   exact Xv (.inr rfl) rfl rfl rfl (fun _ _ => rfl) (.rfl _) rfl
 ·have h1 : 0 < els.length := by omega
  have hne : els ≠ [] := fun h => by rw [h] at h1; exact absurd h1 (by decide)
  rw [K1 h1]
  refine Xbz (fun h => absurd h hne) ?_
  refine Xc 1 Try.func35 rfl fun n out _ _ => ?_
  simp only [Try.ntmps35, List.length_cons, List.length_nil, List.length_map, List.length_replicate, Xf, Nat.reduceAdd, Nat.reduceSub, List.replicate, List.cons_append, List.nil_append]
  rename_i hneeds hgv
  obtain ⟨hk, _⟩ := hneeds
  obtain ⟨hkn, _⟩ := hgv
  refine X9 fun K hK => Xn Xj [] ?_
  simp (maxSteps:=9^7) only [ss, X1, tab, simprocAttr, -List.reduceReplicate]
  repeat' (first | (with_reducible refine hK _ ?_; clear hK K) | with_reducible apply And.intro)
  refine X9 fun KB hKB => ?_
  refine X9 fun K hK => Xn Xj [] ?_
  simp (maxSteps:=9^7) only [ss, X1, tab, simprocAttr, -List.reduceReplicate]
  repeat' (first | (with_reducible refine hK _ ?_; clear hK K) | with_reducible apply And.intro)
  refine Uy rfl (Z1 (hKB _ ?_))
  clear hKB KB
  refine X9 fun K hK => Xn Xj [(1007, none)] ?_
  simp (maxSteps:=9^7) only [ss, X1, tab, simprocAttr, -List.reduceReplicate, show els.length * 8 ≤ 140737488355328 by omega, show els.length * 16 ≤ 140737488355328 by omega, show els.length * 24 ≤ 140737488355328 by omega, show els.length * 40 ≤ 140737488355328 by omega, show els.length * 104 ≤ 140737488355328 by omega, show els.length ≤ 9223372036854775807 by omega, hne]
  repeat' (first | (with_reducible refine hK _ ?_; clear hK K) | with_reducible apply And.intro)
  refine Yy (Xf9 (i := 0) (m := els.length) (sz := 7) (e := 34) (cs := els.flatten) rfl h1) ?_
  simp only [List.map_cons, List.map_nil, AV.bxv, s_0, s_s, reduceCtorEq, if_true, if_false, Nat.reduceEqDiff, reduceIte, and_self]
  refine Yy (Ja (i := 0) (k := k) rfl (by exact hkn) (by exact hk)) ?_
  simp only [List.map_cons, List.map_nil, Option.map_some, Option.map_none, Res.ren1, AV.ren1, Nat.add_left_cancel_iff, Nat.reduceEqDiff, Nat.one_ne_zero, reduceIte, Wy, s_0, s_s]
  refine Yd ?_
  exact Qv (.inr rfl) rfl rfl rfl (fun _ _ => rfl) rfl
theorem Xf2 (k : Nat) (els : List (List AV)) (hl : els.length ≤ 1000000) : Xr Try.prog 36 [.sl 2 els .sh] [(k, none)] (.bsl k 0 els.length false) [(k, bxD 39 els)] := by
 by_cases h0 : els.length = 0
 ·have e0 : els = [] := List.eq_nil_of_length_eq_zero h0
  subst e0
  refine C1 (sz := 2) (Xbz (fun h => ?_) ?_)
  ·refine Xc 0 Try.func36 rfl fun n out _ _ => ?_
   simp only [Try.ntmps36, List.length_cons, List.length_nil, List.length_map, List.length_replicate, Xf, Nat.reduceAdd, Nat.reduceSub, List.replicate, List.cons_append, List.nil_append]
   refine X9 fun K hK => Xn Xj [] ?_
   simp (maxSteps:=9^7) only [ss, X1, tab, simprocAttr, -List.reduceReplicate]
   repeat' (first | (with_reducible refine hK _ ?_; clear hK K) | with_reducible apply And.intro)
   refine X9 fun KB hKB => ?_
   refine X9 fun K hK => Xn Xj [] ?_
   simp (maxSteps:=9^7) only [ss, X1, tab, simprocAttr, -List.reduceReplicate]
   repeat' (first | (with_reducible refine hK _ ?_; clear hK K) | with_reducible apply And.intro)
   refine Wm rfl ?_
   refine X9 fun K hK => Xn Xj [] ?_
   simp (maxSteps:=9^7) only [ss, X1, tab, simprocAttr, -List.reduceReplicate]
   repeat' (first | (with_reducible refine hK _ ?_; clear hK K) | with_reducible apply And.intro)
   refine Yd ?_
   exact Xv (.inr rfl) rfl rfl rfl (fun _ _ => rfl) ((Cp _ _).2 trivial) rfl
  ·refine Xc 0 Try.func36 rfl fun n out _ _ => ?_
   simp only [Try.ntmps36, List.length_cons, List.length_nil, List.length_map, List.length_replicate, Xf, Nat.reduceAdd, Nat.reduceSub, List.replicate, List.cons_append, List.nil_append]
   refine X9 fun K hK => Xn Xj [] ?_
   simp (maxSteps:=9^7) only [ss, X1, tab, simprocAttr, -List.reduceReplicate]
   repeat' (first | (with_reducible refine hK _ ?_; clear hK K) | with_reducible apply And.intro)
   refine X9 fun KB hKB => ?_
   refine X9 fun K hK => Xn Xj [] ?_
   simp (maxSteps:=9^7) only [ss, X1, tab, simprocAttr, -List.reduceReplicate]
   repeat' (first | (with_reducible refine hK _ ?_; clear hK K) | with_reducible apply And.intro)
   refine Uy rfl (Z1 (hKB _ ?_))
   refine X9 fun K hK => Xn Xj [] ?_
   simp (maxSteps:=9^7) only [ss, X1, tab, simprocAttr, -List.reduceReplicate, List.length_nil]
   repeat' (first | (with_reducible refine hK _ ?_; clear hK K) | with_reducible apply And.intro)
   refine Yd ?_
   exact Xv (.inr rfl) rfl rfl rfl (fun _ _ => rfl) (.rfl _) rfl
 ·have h1 : 0 < els.length := by omega
  have hne : els ≠ [] := fun h => by rw [h] at h1; exact absurd h1 (by decide)
  rw [K1 h1]
  refine Xbz (fun h => absurd h hne) ?_
  refine Xc 1 Try.func36 rfl fun n out _ _ => ?_
  simp only [Try.ntmps36, List.length_cons, List.length_nil, List.length_map, List.length_replicate, Xf, Nat.reduceAdd, Nat.reduceSub, List.replicate, List.cons_append, List.nil_append]
  rename_i hneeds hgv
  obtain ⟨hk, _⟩ := hneeds
  obtain ⟨hkn, _⟩ := hgv
  refine X9 fun K hK => Xn Xj [] ?_
  simp (maxSteps:=9^7) only [ss, X1, tab, simprocAttr, -List.reduceReplicate]
  repeat' (first | (with_reducible refine hK _ ?_; clear hK K) | with_reducible apply And.intro)
  refine X9 fun KB hKB => ?_
  refine X9 fun K hK => Xn Xj [] ?_
  simp (maxSteps:=9^7) only [ss, X1, tab, simprocAttr, -List.reduceReplicate]
  repeat' (first | (with_reducible refine hK _ ?_; clear hK K) | with_reducible apply And.intro)
  refine Uy rfl (Z1 (hKB _ ?_))
  clear hKB KB
  refine X9 fun K hK => Xn Xj [(1007, none)] ?_
  simp (maxSteps:=9^7) only [ss, X1, tab, simprocAttr, -List.reduceReplicate, show els.length * 8 ≤ 140737488355328 by omega, show els.length * 16 ≤ 140737488355328 by omega, show els.length * 24 ≤ 140737488355328 by omega, show els.length * 40 ≤ 140737488355328 by omega, show els.length * 104 ≤ 140737488355328 by omega, show els.length ≤ 9223372036854775807 by omega, hne]
  repeat' (first | (with_reducible refine hK _ ?_; clear hK K) | with_reducible apply And.intro)
  refine Yy (Xf9 (i := 0) (m := els.length) (sz := 2) (e := 39) (cs := els.flatten) rfl h1) ?_
  simp only [List.map_cons, List.map_nil, AV.bxv, s_0, s_s, reduceCtorEq, if_true, if_false, Nat.reduceEqDiff, reduceIte, and_self]
  refine Yy (Ja (i := 0) (k := k) rfl (by exact hkn) (by exact hk)) ?_
  simp only [List.map_cons, List.map_nil, Option.map_some, Option.map_none, Res.ren1, AV.ren1, Nat.add_left_cancel_iff, Nat.reduceEqDiff, Nat.one_ne_zero, reduceIte, Wy, s_0, s_s]
  refine Yd ?_
  exact Qv (.inr rfl) rfl rfl rfl (fun _ _ => rfl) rfl
theorem Xes (k : Nat) (els : List (List AV)) (hl : els.length ≤ 1000000) : Xr Try.prog 76 [.sl 1 els .sh] [(k, none)] (.bsl k 0 els.length false) [(k, bxD 3 els)] := by
 by_cases h0 : els.length = 0
 ·have e0 : els = [] := List.eq_nil_of_length_eq_zero h0
  subst e0
  refine C1 (sz := 1) (Xbz (fun h => ?_) ?_)
  ·refine Xc 0 Try.func76 rfl fun n out _ _ => ?_
   simp only [Try.ntmps76, List.length_cons, List.length_nil, List.length_map, List.length_replicate, Xf, Nat.reduceAdd, Nat.reduceSub, List.replicate, List.cons_append, List.nil_append]
   refine X9 fun K hK => Xn Xj [] ?_
   simp (maxSteps:=9^7) only [ss, X1, tab, simprocAttr, -List.reduceReplicate]
   repeat' (first | (with_reducible refine hK _ ?_; clear hK K) | with_reducible apply And.intro)
   refine X9 fun KB hKB => ?_
   refine X9 fun K hK => Xn Xj [] ?_
   simp (maxSteps:=9^7) only [ss, X1, tab, simprocAttr, -List.reduceReplicate]
   repeat' (first | (with_reducible refine hK _ ?_; clear hK K) | with_reducible apply And.intro)
   refine Wm rfl ?_
   refine X9 fun K hK => Xn Xj [] ?_
   simp (maxSteps:=9^7) only [ss, X1, tab, simprocAttr, -List.reduceReplicate]
   repeat' (first | (with_reducible refine hK _ ?_; clear hK K) | with_reducible apply And.intro)
   refine Yd ?_
   exact Xv (.inr rfl) rfl rfl rfl (fun _ _ => rfl) ((Cp _ _).2 trivial) rfl
  ·refine Xc 0 Try.func76 rfl fun n out _ _ => ?_
   simp only [Try.ntmps76, List.length_cons, List.length_nil, List.length_map, List.length_replicate, Xf, Nat.reduceAdd, Nat.reduceSub, List.replicate, List.cons_append, List.nil_append]
   refine X9 fun K hK => Xn Xj [] ?_
   simp (maxSteps:=9^7) only [ss, X1, tab, simprocAttr, -List.reduceReplicate]
   repeat' (first | (with_reducible refine hK _ ?_; clear hK K) | with_reducible apply And.intro)
   refine X9 fun KB hKB => ?_
   refine X9 fun K hK => Xn Xj [] ?_
   simp (maxSteps:=9^7) only [ss, X1, tab, simprocAttr, -List.reduceReplicate]
   repeat' (first | (with_reducible refine hK _ ?_; clear hK K) | with_reducible apply And.intro)
   refine Uy rfl (Z1 (hKB _ ?_))
   refine X9 fun K hK => Xn Xj [] ?_
   simp (maxSteps:=9^7) only [ss, X1, tab, simprocAttr, -List.reduceReplicate, List.length_nil]
   repeat' (first | (with_reducible refine hK _ ?_; clear hK K) | with_reducible apply And.intro)
   refine Yd ?_
   exact Xv (.inr rfl) rfl rfl rfl (fun _ _ => rfl) (.rfl _) rfl
 ·have h1 : 0 < els.length := by omega
  have hne : els ≠ [] := fun h => by rw [h] at h1; exact absurd h1 (by decide)
  rw [K1 h1]
  refine Xbz (fun h => absurd h hne) ?_
  refine Xc 1 Try.func76 rfl fun n out _ _ => ?_
  simp only [Try.ntmps76, List.length_cons, List.length_nil, List.length_map, List.length_replicate, Xf, Nat.reduceAdd, Nat.reduceSub, List.replicate, List.cons_append, List.nil_append]
  rename_i hneeds hgv
  obtain ⟨hk, _⟩ := hneeds
  obtain ⟨hkn, _⟩ := hgv
  refine X9 fun K hK => Xn Xj [] ?_
  simp (maxSteps:=9^7) only [ss, X1, tab, simprocAttr, -List.reduceReplicate]
  repeat' (first | (with_reducible refine hK _ ?_; clear hK K) | with_reducible apply And.intro)
  refine X9 fun KB hKB => ?_
  refine X9 fun K hK => Xn Xj [] ?_
  simp (maxSteps:=9^7) only [ss, X1, tab, simprocAttr, -List.reduceReplicate]
  repeat' (first | (with_reducible refine hK _ ?_; clear hK K) | with_reducible apply And.intro)
  refine Uy rfl (Z1 (hKB _ ?_))
  clear hKB KB
  refine X9 fun K hK => Xn Xj [(1007, none)] ?_
  simp (maxSteps:=9^7) only [ss, X1, tab, simprocAttr, -List.reduceReplicate, show els.length * 8 ≤ 140737488355328 by omega, show els.length * 16 ≤ 140737488355328 by omega, show els.length * 24 ≤ 140737488355328 by omega, show els.length * 40 ≤ 140737488355328 by omega, show els.length * 104 ≤ 140737488355328 by omega, show els.length ≤ 9223372036854775807 by omega, hne]
  repeat' (first | (with_reducible refine hK _ ?_; clear hK K) | with_reducible apply And.intro)
  refine Yy (Xf9 (i := 0) (m := els.length) (sz := 1) (e := 3) (cs := els.flatten) rfl h1) ?_
  simp only [List.map_cons, List.map_nil, AV.bxv, s_0, s_s, reduceCtorEq, if_true, if_false, Nat.reduceEqDiff, reduceIte, and_self]
  refine Yy (Ja (i := 0) (k := k) rfl (by exact hkn) (by exact hk)) ?_
  simp only [List.map_cons, List.map_nil, Option.map_some, Option.map_none, Res.ren1, AV.ren1, Nat.add_left_cancel_iff, Nat.reduceEqDiff, Nat.one_ne_zero, reduceIte, Wy, s_0, s_s]
  refine Yd ?_
  exact Qv (.inr rfl) rfl rfl rfl (fun _ _ => rfl) rfl
end Go.Proofs.Ytjgbbjooeibppaa.Pln
