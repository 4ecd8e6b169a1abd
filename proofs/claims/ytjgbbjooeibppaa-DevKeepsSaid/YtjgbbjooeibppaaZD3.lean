/-
 Lists made anew, thing by thing.
-/
import Derived.Test.YtjgbbjooeibppaaZGA
import Derived.Test.YtjgbbjooeibppaaZD2
namespace Go.Proofs.Ytjgbbjooeibppaa
set_option linter.unusedVariables false
set_option linter.unusedSimpArgs false
open Go Go.VS Tab
set_option maxHeartbeats 1000000
theorem Ds {α β : Type} (g : α → β) (l : List α) (i : Nat) (h : i < l.length) : (l.take i).map g ++ [g l[i]] = (l.take (i + 1)).map g := by
 rw [List.take_succ_eq_append_getElem h, List.map_append]; rfl
theorem Xm6 (k : Nat) (l : List Wr) (fid : FuncId) (caps : List AV) (val : Wr → AV) (g : Wr → List AV) (hb : Xd Try.prog fid = True) (hl : l.length ≤ 1000000)
  (hg : ∀ x, (val x).parts = some (g x)) (hgl : ∀ x, (g x).length = 1) (hp : ∀ x, x ∈ l → Xr Try.prog fid (wrA x :: caps) [] (val x) []) :
  Xr Try.prog 84 [.sl 2 (l.map wrC) .sh, .fn (.func fid) caps] [(k, none)] (.sl 1 (l.map g) (.own k)) [(k, .row 44 1 l.length)] := by
 refine Xc 1 Try.func84 rfl fun n out _ _ => ?_
 simp only [Try.ntmps84, List.length_cons, List.length_nil, List.length_map, List.length_replicate, Xf, Nat.reduceAdd, Nat.reduceSub, List.replicate, List.cons_append, List.nil_append]
 rename_i hneeds hgv
 obtain ⟨hk, _⟩ := hneeds
 obtain ⟨hkn, _⟩ := hgv
 refine X9 fun K hK => Xn Xj [] ?_
 simp (maxSteps:=9^7) only [ss, X1, tab, simprocAttr, -List.reduceReplicate]
 repeat' (first | (with_reducible refine hK _ ?_; clear hK K) | with_reducible apply And.intro)
 refine X9 fun KB hKB => ?_
 refine X9 fun K hK => Xn Xj [] ?_
 simp (maxSteps:=9^7) only [ss, X1, tab, simprocAttr, -List.reduceReplicate]
 repeat' (first | (with_reducible refine hK _ ?_; clear hK K) | with_reducible apply And.intro)
 refine Yy (X3x (k := k) 44 1 (by rw [X7 hkn]; trivial) (by rw [X8 hkn]; exact hk)) ?_
 rw [X79 hkn]
 refine Xe ?_
 refine Xl (fun m (i : Nat) => [(9, i64 (i : Int)), (4, .sl 1 ((l.take i).map g) (.own k)), (6, .top), (10, .top), (11, .top), (12, .top), (13, .top), (14, .top), (15, .top), (16, .top), (17, .top), (18, .top), (19, .top)]) (fun m i => [none]) (fun i => Xw out k (.row 44 1 i)) (fun i => i ≤ l.length) (fun i => l.length - i) 0 (Nat.zero_le _) ?_ fun m i hm hi => ?_
 ·refine Rt ?_ ?_ (by first | rfl | (simp only [List.take_zero, List.map_nil]; rfl) | simp only [List.take_zero, List.map_nil]) rfl rfl rfl <;> simp only [E1, sl, List.take_zero, List.map_nil]
 simp only [E1, s_0, s_s]
 refine X9 fun K hK => Xn Xj [] ?_
 simp (maxSteps:=9^7) only [ss, X1, tab, simprocAttr, -List.reduceReplicate, List.take_zero, List.map_nil]
 repeat' (first | (with_reducible refine hK _ ?_; clear hK K) | with_reducible apply And.intro)
 refine X9 fun KC hKC => ?_
 refine Uz rfl (fun ht => Z1 (hKC _ ?_)) (fun hf => Qi (id ?_))
 rotate_left
 ·simp only [Qd, Z4, if_true]
  refine hKB _ ?_
  clear hKB KB hKC KC
  have h_ib : i = l.length := by have := of_decide_eq_false hf; omega
  subst h_ib
  rw [List.take_length]
  refine Yd ?_
  exact Qv (.inr rfl) rfl rfl rfl (fun _ _ => rfl) rfl
 clear hKC KC
 have hlt : i < l.length := by have := of_decide_eq_true ht; omega
 refine X9 fun KC hKC => Xe ?_
 refine X9 fun K hK => Xn Xj [] ?_
 simp (maxSteps:=9^7) only [ss, X1, tab, simprocAttr, -List.reduceReplicate, Xi hm, hlt, List.length_map, Xg wrC l i [] hlt, X0, wrC]
 repeat' (first | (with_reducible refine hK _ ?_; clear hK K) | with_reducible apply And.intro)
 have lit : ∀ (σ : AState) (K : AV → List (Nat × Res) → Prop), X1 tab σ K none 40 1 [(0, val l[i])] = K (.sl 1 [g l[i]] .full) [] := fun σ K => Yk (T := tab) (ti := ti40) (te := ti44) rfl rfl rfl (by decide) (by decide) (hg _) (hgl _)
 refine Xn Xj [] ?_
 simp (maxSteps:=9^7) only [ss, tab, simprocAttr, -List.reduceReplicate, Xi hm, hb]
 refine Pl (hp _ (List.getElem_mem hlt)) ?_
 simp (maxSteps:=9^7) only [ss, tab, simprocAttr, -List.reduceReplicate, Xi hm, lit, X8 hkn, X7 hkn, Cz hkn, Xt, Jp, List.length_map, List.length_take, Nat.min_eq_left hi, show (i + 1) ≤ 140737488355328 by omega, show i + 1 ≤ 9223372036854775807 by omega, Ds g l i hlt]
 repeat refine And.intro (by omega) ?_
 refine hKC _ ?_
 clear hKC KC
 refine Xn Xj [] ?_
 simp (maxSteps:=9^7) only [ss, X1, tab, simprocAttr, -List.reduceReplicate, Xi hm, Yl (n := i) 1 1 rfl (by omega)]
 refine ⟨i + 1, by omega, by omega, ?_⟩
 refine Xx [false] (fun n_ => ?_) (fun n_ => ?_) <;> simp only [E1, sm]
theorem Xm7 (k : Nat) (l : List Wr) (fid : FuncId) (caps : List AV) (val : Wr → AV) (g : Wr → List AV) (hb : Xd Try.prog fid = True) (hl : l.length ≤ 1000000)
  (hg : ∀ x, (val x).parts = some (g x)) (hgl : ∀ x, (g x).length = 1) (hp : ∀ x, x ∈ l → Xr Try.prog fid (wrA x :: caps) [] (val x) []) :
  Xr Try.prog 87 [.sl 2 (l.map wrC) .sh, .fn (.func fid) caps] [(k, none)] (.sl 1 (l.map g) (.own k)) [(k, .row 3 1 l.length)] := by
 refine Xc 1 Try.func87 rfl fun n out _ _ => ?_
 simp only [Try.ntmps87, List.length_cons, List.length_nil, List.length_map, List.length_replicate, Xf, Nat.reduceAdd, Nat.reduceSub, List.replicate, List.cons_append, List.nil_append]
 rename_i hneeds hgv
 obtain ⟨hk, _⟩ := hneeds
 obtain ⟨hkn, _⟩ := hgv
 refine X9 fun K hK => Xn Xj [] ?_
 simp (maxSteps:=9^7) only [ss, X1, tab, simprocAttr, -List.reduceReplicate]
 repeat' (first | (with_reducible refine hK _ ?_; clear hK K) | with_reducible apply And.intro)
 refine X9 fun KB hKB => ?_
 refine X9 fun K hK => Xn Xj [] ?_
 simp (maxSteps:=9^7) only [ss, X1, tab, simprocAttr, -List.reduceReplicate]
 repeat' (first | (with_reducible refine hK _ ?_; clear hK K) | with_reducible apply And.intro)
 refine Yy (X3x (k := k) 3 1 (by rw [X7 hkn]; trivial) (by rw [X8 hkn]; exact hk)) ?_
 rw [X79 hkn]
 refine Xe ?_
 refine Xl (fun m (i : Nat) => [(9, i64 (i : Int)), (4, .sl 1 ((l.take i).map g) (.own k)), (6, .top), (10, .top), (11, .top), (12, .top), (13, .top), (14, .top), (15, .top), (16, .top), (17, .top), (18, .top), (19, .top)]) (fun m i => [none]) (fun i => Xw out k (.row 3 1 i)) (fun i => i ≤ l.length) (fun i => l.length - i) 0 (Nat.zero_le _) ?_ fun m i hm hi => ?_
 ·refine Rt ?_ ?_ (by first | rfl | (simp only [List.take_zero, List.map_nil]; rfl) | simp only [List.take_zero, List.map_nil]) rfl rfl rfl <;> simp only [E1, sl, List.take_zero, List.map_nil]
 simp only [E1, s_0, s_s]
 refine X9 fun K hK => Xn Xj [] ?_
 simp (maxSteps:=9^7) only [ss, X1, tab, simprocAttr, -List.reduceReplicate, List.take_zero, List.map_nil]
 repeat' (first | (with_reducible refine hK _ ?_; clear hK K) | with_reducible apply And.intro)
 refine X9 fun KC hKC => ?_
 refine Uz rfl (fun ht => Z1 (hKC _ ?_)) (fun hf => Qi (id ?_))
 rotate_left
 ·simp only [Qd, Z4, if_true]
  refine hKB _ ?_
  clear hKB KB hKC KC
  have h_ib : i = l.length := by have := of_decide_eq_false hf; omega
  subst h_ib
  rw [List.take_length]
  refine Yd ?_
  exact Qv (.inr rfl) rfl rfl rfl (fun _ _ => rfl) rfl
 clear hKC KC
 have hlt : i < l.length := by have := of_decide_eq_true ht; omega
 refine X9 fun KC hKC => Xe ?_
 refine X9 fun K hK => Xn Xj [] ?_
 simp (maxSteps:=9^7) only [ss, X1, tab, simprocAttr, -List.reduceReplicate, Xi hm, hlt, List.length_map, Xg wrC l i [] hlt, X0, wrC]
 repeat' (first | (with_reducible refine hK _ ?_; clear hK K) | with_reducible apply And.intro)
 have lit : ∀ (σ : AState) (K : AV → List (Nat × Res) → Prop), X1 tab σ K none 31 1 [(0, val l[i])] = K (.sl 1 [g l[i]] .full) [] := fun σ K => Yk (T := tab) (ti := ti31) (te := ti3) rfl rfl rfl (by decide) (by decide) (hg _) (hgl _)
 refine Xn Xj [] ?_
 simp (maxSteps:=9^7) only [ss, tab, simprocAttr, -List.reduceReplicate, Xi hm, hb]
 refine Pl (hp _ (List.getElem_mem hlt)) ?_
 simp (maxSteps:=9^7) only [ss, tab, simprocAttr, -List.reduceReplicate, Xi hm, lit, X8 hkn, X7 hkn, Cz hkn, Xt, Jp, List.length_map, List.length_take, Nat.min_eq_left hi, show (i + 1) ≤ 140737488355328 by omega, show i + 1 ≤ 9223372036854775807 by omega, Ds g l i hlt]
 repeat refine And.intro (by omega) ?_
 refine hKC _ ?_
 clear hKC KC
 refine Xn Xj [] ?_
 simp (maxSteps:=9^7) only [ss, X1, tab, simprocAttr, -List.reduceReplicate, Xi hm, Yl (n := i) 1 1 rfl (by omega)]
 refine ⟨i + 1, by omega, by omega, ?_⟩
 refine Xx [false] (fun n_ => ?_) (fun n_ => ?_) <;> simp only [E1, sm]
theorem Xkc (k : Nat) (l : List Wr) (fid : FuncId) (caps : List AV) (val : Wr → AV) (g : Wr → List AV) (hb : Xd Try.prog fid = True) (hl : l.length ≤ 1000000)
  (hg : ∀ x, (val x).parts = some (g x)) (hgl : ∀ x, (g x).length = 2) (hp : ∀ x, x ∈ l → Xr Try.prog fid (wrA x :: caps) [] (val x) []) :
  Xr Try.prog 58 [.sl 2 (l.map wrC) .sh, .fn (.func fid) caps] [(k, none)] (.sl 2 (l.map g) (.own k)) [(k, .row 76 2 l.length)] := by
 refine Xc 1 Try.func58 rfl fun n out _ _ => ?_
 simp only [Try.ntmps58, List.length_cons, List.length_nil, List.length_map, List.length_replicate, Xf, Nat.reduceAdd, Nat.reduceSub, List.replicate, List.cons_append, List.nil_append]
 rename_i hneeds hgv
 obtain ⟨hk, _⟩ := hneeds
 obtain ⟨hkn, _⟩ := hgv
 refine X9 fun K hK => Xn Xj [] ?_
 simp (maxSteps:=9^7) only [ss, X1, tab, simprocAttr, -List.reduceReplicate]
 repeat' (first | (with_reducible refine hK _ ?_; clear hK K) | with_reducible apply And.intro)
 refine X9 fun KB hKB => ?_
 refine X9 fun K hK => Xn Xj [] ?_
 simp (maxSteps:=9^7) only [ss, X1, tab, simprocAttr, -List.reduceReplicate]
 repeat' (first | (with_reducible refine hK _ ?_; clear hK K) | with_reducible apply And.intro)
 refine Yy (X3x (k := k) 76 2 (by rw [X7 hkn]; trivial) (by rw [X8 hkn]; exact hk)) ?_
 rw [X79 hkn]
 refine Xe ?_
 refine Xl (fun m (i : Nat) => [(9, i64 (i : Int)), (4, .sl 2 ((l.take i).map g) (.own k)), (6, .top), (10, .top), (11, .top), (12, .top), (13, .top), (14, .top), (15, .top), (16, .top), (17, .top), (18, .top), (19, .top)]) (fun m i => [none]) (fun i => Xw out k (.row 76 2 i)) (fun i => i ≤ l.length) (fun i => l.length - i) 0 (Nat.zero_le _) ?_ fun m i hm hi => ?_
 ·refine Rt ?_ ?_ (by first | rfl | (simp only [List.take_zero, List.map_nil]; rfl) | simp only [List.take_zero, List.map_nil]) rfl rfl rfl <;> simp only [E1, sl, List.take_zero, List.map_nil]
 simp only [E1, s_0, s_s]
 refine X9 fun K hK => Xn Xj [] ?_
 simp (maxSteps:=9^7) only [ss, X1, tab, simprocAttr, -List.reduceReplicate, List.take_zero, List.map_nil]
 repeat' (first | (with_reducible refine hK _ ?_; clear hK K) | with_reducible apply And.intro)
 refine X9 fun KC hKC => ?_
 refine Uz rfl (fun ht => Z1 (hKC _ ?_)) (fun hf => Qi (id ?_))
 rotate_left
 ·simp only [Qd, Z4, if_true]
  refine hKB _ ?_
  clear hKB KB hKC KC
  have h_ib : i = l.length := by have := of_decide_eq_false hf; omega
  subst h_ib
  rw [List.take_length]
  refine Yd ?_
  exact Qv (.inr rfl) rfl rfl rfl (fun _ _ => rfl) rfl
 clear hKC KC
 have hlt : i < l.length := by have := of_decide_eq_true ht; omega
 refine X9 fun KC hKC => Xe ?_
 refine X9 fun K hK => Xn Xj [] ?_
 simp (maxSteps:=9^7) only [ss, X1, tab, simprocAttr, -List.reduceReplicate, Xi hm, hlt, List.length_map, Xg wrC l i [] hlt, X0, wrC]
 repeat' (first | (with_reducible refine hK _ ?_; clear hK K) | with_reducible apply And.intro)
 have lit : ∀ (σ : AState) (K : AV → List (Nat × Res) → Prop), X1 tab σ K none 41 1 [(0, val l[i])] = K (.sl 2 [g l[i]] .full) [] := fun σ K => Yk (T := tab) (ti := ti41) (te := ti76) rfl rfl rfl (by decide) (by decide) (hg _) (hgl _)
 refine Xn Xj [] ?_
 simp (maxSteps:=9^7) only [ss, tab, simprocAttr, -List.reduceReplicate, Xi hm, hb]
 refine Pl (hp _ (List.getElem_mem hlt)) ?_
 simp (maxSteps:=9^7) only [ss, tab, simprocAttr, -List.reduceReplicate, Xi hm, lit, X8 hkn, X7 hkn, Cz hkn, Xt, Jp, List.length_map, List.length_take, Nat.min_eq_left hi, show (i + 1) ≤ 140737488355328 by omega, show i + 1 ≤ 9223372036854775807 by omega, Ds g l i hlt]
 repeat refine And.intro (by omega) ?_
 refine hKC _ ?_
 clear hKC KC
 refine Xn Xj [] ?_
 simp (maxSteps:=9^7) only [ss, X1, tab, simprocAttr, -List.reduceReplicate, Xi hm, Yl (n := i) 1 1 rfl (by omega)]
 refine ⟨i + 1, by omega, by omega, ?_⟩
 refine Xx [false] (fun n_ => ?_) (fun n_ => ?_) <;> simp only [E1, sm]
end Go.Proofs.Ytjgbbjooeibppaa
