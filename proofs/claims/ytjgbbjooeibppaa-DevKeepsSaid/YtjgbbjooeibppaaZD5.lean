/-
 Lists of rows made anew; disks copied; a disk of noughts.
-/
import Derived.Test.YtjgbbjooeibppaaZGA
import Derived.Test.YtjgbbjooeibppaaZD4
namespace Go.Proofs.Ytjgbbjooeibppaa
set_option linter.unusedVariables false
set_option linter.unusedSimpArgs false
open Go Go.VS Tab
set_option maxHeartbeats 1000000
set_option maxRecDepth 4000
theorem Xl9 (k : Nat) (l : List (List UInt8)) (fid : FuncId) (caps : List AV) (val : List UInt8 → AV) (g : List UInt8 → List AV) (hb : Xd Try.prog fid = True) (hl : l.length ≤ 1000000)
  (hg : ∀ x, (val x).parts = some (g x)) (hgl : ∀ x, (g x).length = 1) (hp : ∀ x, x ∈ l → Xr Try.prog fid (bs x :: caps) [] (val x) []) :
  Xr Try.prog 56 [.sl 1 (l.map Y6) .sh, .fn (.func fid) caps] [(k, none)] (.sl 1 (l.map g) (.own k)) [(k, .row 44 1 l.length)] := by
 refine Xc 0 Try.func56 rfl fun n out _ _ => ?_
 simp only [Try.ntmps56, List.length_cons, List.length_nil, List.length_map, List.length_replicate, Xf, Nat.reduceAdd, Nat.reduceSub, List.replicate, List.cons_append, List.nil_append]
 rename_i hneeds hgv
 obtain ⟨hk, _⟩ := hneeds
 obtain ⟨hkn, _⟩ := hgv
 refine X9 fun K hK => Xn Xj [] ?_
 simp (maxSteps:=9^7) only [ss, X1, tab, simprocAttr, -List.reduceReplicate]
 repeat' (first | (with_reducible refine hK _ ?_; clear hK K) | with_reducible apply And.intro)
 refine X9 fun KB hKB => ?_
 refine X9 fun K hK => Xn Xj [] ?_
 simp (maxSteps:=9^7) only [ss, X1, tab, simprocAttr, -List.reduceReplicate]
 repeat' (first | (with_reducible refine hK _ ?_; clear hK K) | with_reducible apply And.intro)
 refine Yy (X3x (k := k) 44 1 (by rw [X7 hkn]; trivial) (by rw [X8 hkn]; exact hk)) ?_
 rw [X79 hkn]
 refine Xe ?_
 refine Xz (fun i : Nat => [(9, i64 (i : Int)), (4, .sl 1 ((l.take i).map g) (.own k)), (6, .top), (10, .top), (11, .top), (12, .top), (13, .top), (14, .top), (15, .top), (16, .top), (17, .top), (18, .top), (19, .top)]) (fun i => []) (fun i => Xw out k (.row 44 1 i)) (fun i => i ≤ l.length) (fun i => l.length - i) 0 (Nat.zero_le _) ?_ fun i hi => ?_
 ·refine Rt ?_ ?_ (by first | rfl | (simp only [List.take_zero, List.map_nil]; rfl) | simp only [List.take_zero, List.map_nil]) rfl rfl rfl <;> simp only [E1, sl, List.take_zero, List.map_nil]
 simp only [E1, s_0, s_s]
 refine X9 fun K hK => Xn Xj [] ?_
 simp (maxSteps:=9^7) only [ss, X1, tab, simprocAttr, -List.reduceReplicate, List.take_zero, List.map_nil]
 repeat' (first | (with_reducible refine hK _ ?_; clear hK K) | with_reducible apply And.intro)
 refine X9 fun KC hKC => ?_
 refine Uz rfl (fun ht => Z1 (hKC _ ?_)) (fun hf => Qi (id ?_))
 rotate_left
 ·simp only [Qd, Z4, if_true]
  refine hKB _ ?_
  clear hKB KB hKC KC
  have h_ib : i = l.length := by have := of_decide_eq_false hf; omega
  subst h_ib
  rw [List.take_length]
  refine Yd ?_
  exact Qv (.inr rfl) rfl rfl rfl (fun _ _ => rfl) rfl
 clear hKC KC
 have hlt : i < l.length := by have := of_decide_eq_true ht; omega
 refine X9 fun KC hKC => Xe ?_
 refine X9 fun K hK => Xn Xj [] ?_
 simp (maxSteps:=9^7) only [ss, X1, tab, simprocAttr, -List.reduceReplicate, hlt, List.length_map, Xg Y6 l i [] hlt, Y6]
 repeat' (first | (with_reducible refine hK _ ?_; clear hK K) | with_reducible apply And.intro)
 have lit : ∀ (σ : AState) (K : AV → List (Nat × Res) → Prop), X1 tab σ K none 40 1 [(0, val l[i])] = K (.sl 1 [g l[i]] .full) [] := fun σ K => Yk (T := tab) (ti := ti40) (te := ti44) rfl rfl rfl (by decide) (by decide) (hg _) (hgl _)
 refine Xn Xj [] ?_
 simp (maxSteps:=9^7) only [ss, tab, simprocAttr, -List.reduceReplicate, hb]
 refine Pl (hp _ (List.getElem_mem hlt)) ?_
 simp (maxSteps:=9^7) only [ss, tab, simprocAttr, -List.reduceReplicate, lit, X8 hkn, X7 hkn, Cz hkn, Xt, Jp, List.length_map, List.length_take, Nat.min_eq_left hi, show (i + 1) ≤ 140737488355328 by omega, show i + 1 ≤ 9223372036854775807 by omega, Ds g l i hlt]
 repeat refine And.intro (by omega) ?_
 refine hKC _ ?_
 clear hKC KC
 refine Xn Xj [] ?_
 simp (maxSteps:=9^7) only [ss, X1, tab, simprocAttr, -List.reduceReplicate, Yl (n := i) 1 1 rfl (by omega)]
 refine ⟨i + 1, by omega, by omega, ?_⟩
 refine Rt ?_ ?_ rfl rfl rfl rfl <;> simp only [E1, sl]
theorem Xm8 {α : Type} (g : α → List AV) (l : List α) (i : Nat) (h : i < l.length) : (l.take i).flatMap g ++ g l[i] = (l.take (i + 1)).flatMap g := by
 rw [List.take_succ_eq_append_getElem h, List.flatMap_append]; simp
theorem Xkf (k : Nat) (l : List (List UInt8)) (fid : FuncId) (caps : List AV) (val : List UInt8 → AV) (g : List UInt8 → List AV) (hb : Xd Try.prog fid = True) (hl : l.length ≤ 1000000) (h0 : 0 < l.length)
  (hg : ∀ x, (val x).parts = some (g x)) (hgl : ∀ x, (g x).length = 1) (hp : ∀ x, x ∈ l → Xr Try.prog fid (bs x :: caps) [] (val x) []) :
  Xr Try.prog 56 [.sl 1 (l.map Y6) .sh, .fn (.func fid) caps] [(k, none)] (.bsl k 0 l.length false) [(k, .box 44 (l.flatMap g))] := by
 refine Xc 1 Try.func56 rfl fun n out _ _ => ?_
 simp only [Try.ntmps56, List.length_cons, List.length_nil, List.length_map, List.length_replicate, Xf, Nat.reduceAdd, Nat.reduceSub, List.replicate, List.cons_append, List.nil_append]
 rename_i hneeds hgv
 obtain ⟨hk, _⟩ := hneeds
 obtain ⟨hkn, _⟩ := hgv
 refine X9 fun K hK => Xn Xj [] ?_
 simp (maxSteps:=9^7) only [ss, X1, tab, simprocAttr, -List.reduceReplicate]
 repeat' (first | (with_reducible refine hK _ ?_; clear hK K) | with_reducible apply And.intro)
 refine X9 fun KB hKB => ?_
 refine X9 fun K hK => Xn Xj [] ?_
 simp (maxSteps:=9^7) only [ss, X1, tab, simprocAttr, -List.reduceReplicate]
 repeat' (first | (with_reducible refine hK _ ?_; clear hK K) | with_reducible apply And.intro)
 refine Yy (Xnt (i := 0) (t := 4) (sz := 1) 44 rfl rfl (.inl rfl)) ?_
 simp only [s_0, s_s]
 refine Xe ?_
 refine Xz (fun i : Nat => [(9, i64 (i : Int)), (4, .vsl (n + 0) i), (6, .top), (10, .top), (11, .top), (12, .top), (13, .top), (14, .top), (15, .top), (16, .top), (17, .top), (18, .top), (19, .top)]) (fun i => [some (.vec 44 1 i ((l.take i).flatMap g))]) (fun i => out) (fun i => i ≤ l.length) (fun i => l.length - i) 0 (Nat.zero_le _) ?_ fun i hi => ?_
 ·refine Rt ?_ ?_ (by first | rfl | (simp only [List.take_zero, List.flatMap_nil]; rfl) | simp only [List.take_zero, List.flatMap_nil]) rfl rfl rfl <;> simp only [E1, sl, List.take_zero, List.flatMap_nil]
 simp only [E1, s_0, s_s]
 refine X9 fun K hK => Xn Xj [] ?_
 simp (maxSteps:=9^7) only [ss, X1, tab, simprocAttr, -List.reduceReplicate, List.take_zero, List.flatMap_nil]
 repeat' (first | (with_reducible refine hK _ ?_; clear hK K) | with_reducible apply And.intro)
 refine X9 fun KC hKC => ?_
 refine Uz rfl (fun ht => Z1 (hKC _ ?_)) (fun hf => Qi (id ?_))
 rotate_left
 ·simp only [Qd, Z4, if_true]
  refine hKB _ ?_
  clear hKB KB hKC KC
  have h_ib : i = l.length := by have := of_decide_eq_false hf; omega
  subst h_ib
  rw [List.take_length]
  refine Yy (Xf9 (i := 0) (m := l.length) (sz := 1) (e := 44) (cs := l.flatMap g) rfl h0) ?_
  simp only [List.map_cons, List.map_nil, AV.bxv, s_0, s_s, reduceCtorEq, if_true, if_false, Nat.reduceEqDiff, reduceIte, and_self]
  refine Yy (Ja (i := 0) (k := k) rfl (by exact hkn) (by exact hk)) ?_
  simp only [List.map_cons, List.map_nil, Option.map_some, Option.map_none, Res.ren1, AV.ren1, Nat.add_left_cancel_iff, Nat.reduceEqDiff, Nat.one_ne_zero, reduceIte, Wy, s_0, s_s]
  refine Yd ?_
  exact Qv (.inr rfl) rfl rfl rfl (fun _ _ => rfl) rfl
 clear hKC KC
 have hlt : i < l.length := by have := of_decide_eq_true ht; omega
 refine X9 fun KC hKC => Xe ?_
 refine X9 fun K hK => Xn Xj [] ?_
 simp (maxSteps:=9^7) only [ss, X1, tab, simprocAttr, -List.reduceReplicate, hlt, List.length_map, Xg Y6 l i [] hlt, Y6]
 repeat' (first | (with_reducible refine hK _ ?_; clear hK K) | with_reducible apply And.intro)
 have lit : ∀ (σ : AState) (K : AV → List (Nat × Res) → Prop), X1 tab σ K none 40 1 [(0, val l[i])] = K (.sl 1 [g l[i]] .full) [] := fun σ K => Yk (T := tab) (ti := ti40) (te := ti44) rfl rfl rfl (by decide) (by decide) (hg _) (hgl _)
 refine Xn Xj [] ?_
 simp (maxSteps:=9^7) only [ss, tab, simprocAttr, -List.reduceReplicate, hb]
 refine Pl (hp _ (List.getElem_mem hlt)) ?_
 simp (maxSteps:=9^7) only [ss, tab, simprocAttr, -List.reduceReplicate, lit, show (i + 1) ≤ 140737488355328 by omega, show i + 1 ≤ 9223372036854775807 by omega, List.flatten_cons, List.flatten_nil, List.append_nil, Xm8 g l i hlt]
 repeat refine And.intro (by omega) ?_
 refine hKC _ ?_
 clear hKC KC
 refine Xn Xj [] ?_
 simp (maxSteps:=9^7) only [ss, X1, tab, simprocAttr, -List.reduceReplicate, Yl (n := i) 1 1 rfl (by omega)]
 refine ⟨i + 1, by omega, by omega, ?_⟩
 refine Rt ?_ ?_ rfl rfl rfl rfl <;> simp only [E1, sl]
end Go.Proofs.Ytjgbbjooeibppaa
