/-
 Rows copied into memory that may be written.
-/
import Derived.Test.YtjgbbjooeibppaaZGA
import Derived.Test.YtjgbbjooeibppaaZD26
namespace Go.Proofs.Ytjgbbjooeibppaa
set_option linter.unusedVariables false
set_option linter.unusedSimpArgs false
open Go Go.VS Tab
set_option maxHeartbeats 1000000
set_option maxRecDepth 4000
theorem Xl8 (k : Nat) (l : List UInt8) (hl : l.length ≤ 100000000) (h0 : 0 < l.length) : Xr Try.prog 57 [bs l] [(k, none)] (.bsl k 0 l.length false) [(k, .box 5 (l.map b8))] := by
 have hne : Xo l ≠ [] := fun h => by simp [Xo] at h; subst h; simp at h0
 have hfl : (Xo l).flatten = l.map b8 := by
  clear h0 hl hne
  induction l with
  | nil => rfl
  | cons x xs ih => exact congrArg (b8 x :: ·) ih
 refine Xbz (fun h => absurd h hne) ?_
 refine Xc 1 Try.func57 rfl fun n out _ _ => ?_
 simp only [Try.ntmps57, List.length_cons, List.length_nil, List.length_map, List.length_replicate, Xf, Nat.reduceAdd, Nat.reduceSub, List.replicate, List.cons_append, List.nil_append]
 rename_i hneeds hgv
 obtain ⟨hk, _⟩ := hneeds
 obtain ⟨hkn, _⟩ := hgv
 refine X9 fun K hK => Xn Xj [] ?_
 simp (maxSteps:=9^7) only [ss, X1, tab, simprocAttr, -List.reduceReplicate]
 repeat' (first | (with_reducible refine hK _ ?_; clear hK K) | with_reducible apply And.intro)
 refine X9 fun KB hKB => ?_
 refine X9 fun K hK => Xn Xj [] ?_
 simp (maxSteps:=9^7) only [ss, X1, tab, simprocAttr, -List.reduceReplicate]
 repeat' (first | (with_reducible refine hK _ ?_; clear hK K) | with_reducible apply And.intro)
 refine Uy rfl (Z1 (hKB _ ?_))
 clear hKB KB
 refine X9 fun K hK => Xn Xj [(1007, none)] ?_
 simp (maxSteps:=9^7) only [ss, X1, tab, simprocAttr, -List.reduceReplicate, Sm, show l.length ≤ 140737488355328 by omega, show l.length ≤ 9223372036854775807 by omega, hne, hfl]
 repeat' (first | (with_reducible refine hK _ ?_; clear hK K) | with_reducible apply And.intro)
 refine Yy (Xf9 (i := 0) (m := l.length) (sz := 1) (e := 5) (cs := l.map b8) rfl h0) ?_
 simp only [List.map_cons, List.map_nil, AV.bxv, s_0, s_s, reduceCtorEq, if_true, if_false, Nat.reduceEqDiff, reduceIte, and_self]
 refine Yy (Ja (i := 0) (k := k) rfl (by exact hkn) (by exact hk)) ?_
 simp only [List.map_cons, List.map_nil, Option.map_some, Option.map_none, Res.ren1, AV.ren1, Nat.add_left_cancel_iff, Nat.reduceEqDiff, Nat.one_ne_zero, reduceIte, Wy, s_0, s_s]
 refine Yd ?_
 exact Qv (.inr rfl) rfl rfl rfl (fun _ _ => rfl) rfl
theorem Xmk {k kz : Nat} (h : k ≠ kz) (s : Nat → Option Res) (r r' B : Res) : Xw (Xw (Xw s k r) kz B) k r' = Xw (Xw s kz B) k r' := by
 funext x
 simp only [Xw]
 by_cases h1 : x = k
 ·simp [h1]
 ·simp [h1]
theorem Xm5 (k kz : Nat) (hkk : k ≠ kz) (l : List (List UInt8)) (z : Nat) (hz : z < l.length) (hl : l.length ≤ 1000000) (hs : ∀ b, b ∈ l → b.length ≤ 1000000) (hz0 : 0 < (l[z]).length) :
  Xr Try.prog 56 [.sl 1 (l.map Y6) .sh, .fn (.func 57) []] [(k, none), (kz, none)] (.sl 1 ((l.map Y6).set z [.bsl kz 0 (l[z]).length false]) (.own k)) [(kz, .box 5 ((l[z]).map b8)), (k, .row 44 1 l.length)] := by
 obtain ⟨E, hE⟩ : ∃ E, E = (l.map Y6).set z [.bsl kz 0 (l[z]).length false] := ⟨_, rfl⟩
 have hEl : E.length = l.length := by rw [hE]; simp
 obtain ⟨B, hB⟩ : ∃ B, B = Res.box 5 ((l[z]).map b8) := ⟨_, rfl⟩
 rw [← hE, ← hB]
 refine Xc 0 Try.func56 rfl fun n out _ _ => ?_
 simp only [Try.ntmps56, List.length_cons, List.length_nil, List.length_map, List.length_replicate, Xf, Nat.reduceAdd, Nat.reduceSub, List.replicate, List.cons_append, List.nil_append]
 rename_i hneeds hgv
 obtain ⟨hk, hk2, _⟩ := hneeds
 obtain ⟨hkn2, hkn, _⟩ := hgv
 refine X9 fun K hK => Xn Xj [] ?_
 simp (maxSteps:=9^7) only [ss, X1, tab, simprocAttr, -List.reduceReplicate]
 repeat' (first | (with_reducible refine hK _ ?_; clear hK K) | with_reducible apply And.intro)
 refine X9 fun KB hKB => ?_
 refine X9 fun K hK => Xn Xj [] ?_
 simp (maxSteps:=9^7) only [ss, X1, tab, simprocAttr, -List.reduceReplicate]
 repeat' (first | (with_reducible refine hK _ ?_; clear hK K) | with_reducible apply And.intro)
 refine Yy (X3x (k := k) 44 1 (by rw [X7 hkn]; trivial) (by rw [X8 hkn]; exact hk)) ?_
 rw [X79 hkn]
 refine Xe ?_
 refine Xz (fun i : Nat => [(9, i64 (i : Int)), (4, .sl 1 (E.take i) (.own k)), (6, .top), (10, .top), (11, .top), (12, .top), (13, .top), (14, .top), (15, .top), (16, .top), (17, .top), (18, .top), (19, .top)]) (fun i => []) (fun i => Xw (if i ≤ z then out else Xw out kz B) k (.row 44 1 i)) (fun i => i ≤ l.length) (fun i => l.length - i) 0 (Nat.zero_le _) ?_ fun i hi => ?_
 ·refine Rt ?_ ?_ (by first | rfl | (simp only [List.take_zero, Nat.zero_le]; rfl) | simp only [List.take_zero, Nat.zero_le]) rfl rfl rfl <;> simp only [E1, sl, List.take_zero, Nat.zero_le]
 simp only [E1, s_0, s_s]
 refine X9 fun K hK => Xn Xj [] ?_
 simp (maxSteps:=9^7) only [ss, X1, tab, simprocAttr, -List.reduceReplicate, List.take_zero, Nat.zero_le]
 repeat' (first | (with_reducible refine hK _ ?_; clear hK K) | with_reducible apply And.intro)
 refine X9 fun KC hKC => ?_
 refine Uz rfl (fun ht => Z1 (hKC _ ?_)) (fun hf => Qi (id ?_))
 rotate_left
 ·simp only [Qd, Z4, if_true]
  refine hKB _ ?_
  clear hKB KB hKC KC
  have h_ib : i = l.length := by have := of_decide_eq_false hf; omega
  subst h_ib
  rw [List.take_of_length_le (by omega), if_neg (by omega)]
  refine Yd ?_
  exact Qv (.inr rfl) rfl rfl rfl (fun _ _ => rfl) rfl
 clear hKC KC
 have hlt : i < l.length := by have := of_decide_eq_true ht; omega
 refine X9 fun KC hKC => Xe ?_
 have hiE : i < E.length := by omega
 have hbC : Xd Try.prog 57 = True := hb0 _ (by decide) (by decide)
 have hsn : E.take i ++ [E[i]] = E.take (i + 1) := (List.take_succ_eq_append_getElem hiE).symm
 refine X9 fun K hK => Xn Xj [] ?_
 simp (maxSteps:=9^7) only [ss, X1, tab, simprocAttr, -List.reduceReplicate, hlt, List.length_map, Xg Y6 l i [] hlt, Y6]
 repeat' (first | (with_reducible refine hK _ ?_; clear hK K) | with_reducible apply And.intro)
 by_cases hiz : i = z
 ·subst hiz
  have hEi : E[i] = [.bsl kz 0 (l[i]).length false] := by subst hE; simp
  rw [hEi] at hsn
  rw [if_pos (Nat.le_refl i)]
  have lit : ∀ (σ : AState) (K : AV → List (Nat × Res) → Prop), X1 tab σ K none 40 1 [(0, .bsl kz 0 (l[i]).length false)] = K (.sl 1 [[.bsl kz 0 (l[i]).length false]] .full) [] := fun σ K => Yk (T := tab) (ti := ti40) (te := ti44) rfl rfl rfl (by decide) (by decide) rfl rfl
  refine Xn Xj [] ?_
  simp (maxSteps:=9^7) only [ss, tab, simprocAttr, -List.reduceReplicate, hbC]
  refine Sb (Xl8 kz l[i] (by have := hs _ (List.getElem_mem hlt); omega) hz0) ?_ ?_ (by simp) ?_
  ·rw [X8 hkn2, Zp _ _ hkk.symm]; exact hk2
  ·rw [X7 hkn2]; trivial
  rw [← hB]
  simp (maxSteps:=9^7) only [ss, tab, simprocAttr, -List.reduceReplicate, lit, X8 hkn, X7 hkn, Cz hkn, Cz hkn2, Xt, Jp, Zp _ _ hkk, Xmk hkk, List.length_map, List.length_take, hEl, Nat.min_eq_left hi, show (i + 1) ≤ 140737488355328 by omega, show i + 1 ≤ 9223372036854775807 by omega, hsn]
  repeat refine And.intro (by omega) ?_
  refine hKC _ ?_
  clear hKC KC
  refine Xn Xj [] ?_
  simp (maxSteps:=9^7) only [ss, X1, tab, simprocAttr, -List.reduceReplicate, Yl (n := i) 1 1 rfl (by omega)]
  refine ⟨i + 1, by omega, by omega, ?_⟩
  rw [if_neg (by omega)]
  refine Rt ?_ ?_ rfl rfl rfl rfl <;> simp only [E1, sl]
 ·have hEi : E[i] = Y6 l[i] := by subst hE; rw [List.getElem_set_ne (by omega)]; simp
  rw [hEi] at hsn
  have hoo : (if i + 1 ≤ z then out else Xw out kz B) = (if i ≤ z then out else Xw out kz B) := by
   by_cases h : i ≤ z
   ·rw [if_pos h, if_pos (by omega)]
   ·rw [if_neg h, if_neg (by omega)]
  generalize (if i ≤ z then out else Xw out kz B) = O at hoo ⊢
  simp only [Y6] at hsn
  have lit : ∀ (σ : AState) (K : AV → List (Nat × Res) → Prop), X1 tab σ K none 40 1 [(0, bs l[i])] = K (.sl 1 [[bs l[i]]] .full) [] := fun σ K => Yk (T := tab) (ti := ti40) (te := ti44) rfl rfl rfl (by decide) (by decide) rfl rfl
  refine Xn Xj [] ?_
  simp (maxSteps:=9^7) only [ss, tab, simprocAttr, -List.reduceReplicate, hbC]
  refine Pl (Xds l[i] (by have := hs _ (List.getElem_mem hlt); omega)) ?_
  simp (maxSteps:=9^7) only [ss, tab, simprocAttr, -List.reduceReplicate, lit, X8 hkn, X7 hkn, Cz hkn, Xt, Jp, List.length_map, List.length_take, hEl, Nat.min_eq_left hi, show (i + 1) ≤ 140737488355328 by omega, show i + 1 ≤ 9223372036854775807 by omega, hsn]
  repeat refine And.intro (by omega) ?_
  refine hKC _ ?_
  clear hKC KC
  refine Xn Xj [] ?_
  simp (maxSteps:=9^7) only [ss, X1, tab, simprocAttr, -List.reduceReplicate, Yl (n := i) 1 1 rfl (by omega)]
  refine ⟨i + 1, by omega, by omega, ?_⟩
  rw [hoo]
  refine Rt ?_ ?_ rfl rfl rfl rfl <;> simp only [E1, sl]
end Go.Proofs.Ytjgbbjooeibppaa
