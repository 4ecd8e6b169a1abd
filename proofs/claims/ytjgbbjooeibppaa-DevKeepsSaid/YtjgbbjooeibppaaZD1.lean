/-
 Functions of Go's library over lists: where the first is of which something holds.
-/
import Derived.Test.YtjgbbjooeibppaaZGA
import Derived.Test.YtjgbbjooeibppaaZVsBits
import Derived.Test.YtjgbbjooeibppaaZTab
namespace Go.Proofs.Ytjgbbjooeibppaa
set_option linter.unusedVariables false
set_option linter.unusedSimpArgs false
open Go Go.VS Tab
set_option maxHeartbeats 1000000
def idx {α : Type} (p : α → Bool) (l : List α) : Int := match l.findIdx? p with
 | some i => i
 | none => -1
theorem Kn {α : Type} {p : α → Bool} {l : List α} (h : ∀ i (hi : i < l.length), p l[i] = false) : idx p l = -1 := by
 have : l.findIdx? p = none := by
  rw [List.findIdx?_eq_none_iff]
  intro x hx
  obtain ⟨i, hi, rfl⟩ := List.getElem_of_mem hx
  exact h i hi
 rw [idx, this]
theorem Ko {α : Type} {p : α → Bool} {l : List α} {i : Nat} (hi : i < l.length) (hp : p l[i] = true) (h : ∀ j (hj : j < i), p (l[j]'(by omega)) = false) : idx p l = i := by
 have : l.findIdx? p = some i := by
  rw [List.findIdx?_eq_some_iff_getElem]
  exact ⟨hi, hp, fun j hj => by simp [h j hj]⟩
 rw [idx, this]
theorem X3h {α : Type} (p : α → Bool) (l : List α) : decide (idx p l ≥ 0) = l.any p := by
 unfold idx
 cases h : l.findIdx? p with
 | none =>
  rw [List.findIdx?_eq_none_iff] at h
  have : l.any p = false := by rw [List.any_eq_false]; intro x hx; simp [h x hx]
  rw [this]; rfl
 | some i =>
  rw [List.findIdx?_eq_some_iff_getElem] at h
  obtain ⟨hi, hp, _⟩ := h
  have : l.any p = true := List.any_eq_true.2 ⟨_, List.getElem_mem hi, hp⟩
  rw [this]
  simp
theorem Xg {α β : Type} (f : α → β) (l : List α) (i : Nat) (d : β) (h : i < l.length) : (l.map f).getD i d = f l[i] := by
 simp [List.getD_eq_getElem?_getD, h]
theorem Xj3 {α : Type} (f : α → List AV) (cell : α → AV) (l : List α) (fid : FuncId) (caps : List AV) (p : α → Bool) (hb : Xd Try.prog fid = True) (hl : l.length ≤ 1000000000)
  (hcell : ∀ x, pick false 1 (f x) = some (cell x)) (hp : ∀ x, x ∈ l → Xr Try.prog fid (cell x :: caps) [] (bool (p x)) []) :
  Xr Try.prog 104 [.sl 1 (l.map f) .sh, .fn (.func fid) caps] [] (i64 (idx p l)) [] := by
 refine Xc 0 Try.func104 rfl fun n out _ _ => ?_
 simp only [Try.ntmps104, List.length_cons, List.length_nil, List.length_map, List.length_replicate, Xf, Nat.reduceAdd, Nat.reduceSub, List.replicate, List.cons_append, List.nil_append]
 refine X9 fun K hK => Xn Xj [] ?_
 simp (maxSteps:=9^7) only [ss, X1, tab, simprocAttr, -List.reduceReplicate]
 repeat' (first | (with_reducible refine hK _ ?_; clear hK K) | with_reducible apply And.intro)
 refine X9 fun KB hKB => ?_
 refine X9 fun K hK => Xn Xj [] ?_
 simp (maxSteps:=9^7) only [ss, X1, tab, simprocAttr, -List.reduceReplicate]
 repeat' (first | (with_reducible refine hK _ ?_; clear hK K) | with_reducible apply And.intro)
 refine Xe ?_
 refine Xz (fun i : Nat => [(8, i64 (i : Int)), (4, .top), (5, .top), (9, .top), (10, .top), (11, .top), (12, .top), (13, .top), (14, .top), (15, .top), (16, .top), (17, .top), (18, .top)]) (fun i => []) (fun i => out) (fun i => i ≤ l.length ∧ (∀ j (hj : j < l.length), j < i → p l[j] = false)) (fun i => l.length - i) 0 ⟨Nat.zero_le _, by intros; omega⟩ ?_ fun i hi => ?_
 ·refine Rt ?_ ?_ rfl rfl rfl rfl <;> simp only [E1, sl]
 obtain ⟨hi, hq⟩ := hi
 simp only [E1, s_0, s_s]
 refine X9 fun K hK => Xn Xj [] ?_
 simp (maxSteps:=9^7) only [ss, X1, tab, simprocAttr, -List.reduceReplicate]
 repeat' (first | (with_reducible refine hK _ ?_; clear hK K) | with_reducible apply And.intro)
 refine X9 fun KC hKC => ?_
 refine Uz rfl (fun ht => Z1 (hKC _ ?_)) (fun hf => Qi (id ?_))
 rotate_left
 ·simp only [Qd, Z4, if_true]
  refine hKB _ ?_
  clear hKB KB hKC KC
  have h_ib : i = l.length := by have := of_decide_eq_false hf; omega
  subst h_ib
  have e := Kn (p := p) (l := l) fun i hi => hq i hi hi
  rw [e]
  refine X9 fun K hK => Xn Xj [] ?_
  simp (maxSteps:=9^7) only [ss, X1, tab, simprocAttr, -List.reduceReplicate]
  repeat' (first | (with_reducible refine hK _ ?_; clear hK K) | with_reducible apply And.intro)
  refine Yd ?_
  exact Qv (.inr rfl) rfl rfl rfl (fun _ _ => rfl) rfl
 clear hKC KC
 have hlt : i < l.length := by have := of_decide_eq_true ht; omega
 refine X9 fun KC hKC => Xe ?_
 refine X9 fun K hK => Xn Xj [] ?_
 simp (maxSteps:=9^7) only [ss, X1, tab, simprocAttr, -List.reduceReplicate]
 repeat' (first | (with_reducible refine hK _ ?_; clear hK K) | with_reducible apply And.intro)
 refine X9 fun K hK => Xn Xj [] ?_
 simp (maxSteps:=9^7) only [ss, X1, tab, simprocAttr, -List.reduceReplicate, hlt, List.length_map, Xg f l i [] hlt, hcell, hb]
 repeat' (first | (with_reducible refine hK _ ?_; clear hK K) | with_reducible apply And.intro)
 refine Pl (hp _ (List.getElem_mem hlt)) ?_
 simp (maxSteps:=9^7) only [ss, X1, tab, simprocAttr, -List.reduceReplicate]
 repeat' (first | (with_reducible refine hK _ ?_; clear hK K) | with_reducible apply And.intro)
 refine Uz rfl (fun ht => ?_) (fun hf => Z1 ?_)
 ·have e := Ko hlt ht fun j hj => hq j (by omega) hj
  refine X9 fun K hK => Xn Xj [] ?_
  simp (maxSteps:=9^7) only [ss, X1, tab, simprocAttr, -List.reduceReplicate]
  repeat' (first | (with_reducible refine hK _ ?_; clear hK K) | with_reducible apply And.intro)
  rw [← e]
  refine Yd ?_
  exact Qv (.inr rfl) rfl rfl rfl (fun _ _ => rfl) rfl
 repeat refine And.intro (by omega) ?_
 refine hKC _ ?_
 clear hKC KC
 refine Xn Xj [] ?_
 simp (maxSteps:=9^7) only [ss, X1, tab, simprocAttr, -List.reduceReplicate, Yl (n := i) 1 1 rfl (by omega)]
 refine ⟨i + 1, ⟨by omega, ?_⟩, by omega, ?_⟩
 ·intro j hj hji
  by_cases h : j = i
  ·subst h; exact hf
  ·exact hq j hj (by omega)
 refine Rt ?_ ?_ rfl rfl rfl rfl <;> simp only [E1, sl]
theorem Xig {α : Type} (f : α → List AV) (cell : α → AV) (l : List α) (fid : FuncId) (caps : List AV) (p : α → Bool) (hb : Xd Try.prog fid = True) (hl : l.length ≤ 1000000000)
  (hcell : ∀ x, pick false 1 (f x) = some (cell x)) (hp : ∀ x, x ∈ l → Xr Try.prog fid (cell x :: caps) [] (bool (p x)) []) :
  Xr Try.prog 85 [.sl 1 (l.map f) .sh, .fn (.func fid) caps] [] (bool (l.any p)) [] := by
 refine Xc 0 Try.func85 rfl fun n out _ _ => ?_
 simp only [Try.ntmps85, List.length_cons, List.length_nil, List.length_map, List.length_replicate, Xf, Nat.reduceAdd, Nat.reduceSub, List.replicate, List.cons_append, List.nil_append]
 refine X9 fun K hK => Xn Xj [] ?_
 simp (maxSteps:=9^7) only [ss, X1, tab, simprocAttr, -List.reduceReplicate]
 repeat' (first | (with_reducible refine hK _ ?_; clear hK K) | with_reducible apply And.intro)
 refine X9 fun K hK => Xn Xj [] ?_
 simp (maxSteps:=9^7) only [ss, X1, tab, simprocAttr, -List.reduceReplicate]
 repeat' (first | (with_reducible refine hK _ ?_; clear hK K) | with_reducible apply And.intro)
 refine Pl (Xj3 f cell l fid caps p hb hl hcell hp) ?_
 simp (maxSteps:=9^7) only [ss, X1, tab, simprocAttr, -List.reduceReplicate]
 repeat' (first | (with_reducible refine hK _ ?_; clear hK K) | with_reducible apply And.intro)
 rw [X3h]
 refine Yd ?_
 exact Qv (.inr rfl) rfl rfl rfl (fun _ _ => rfl) rfl
theorem Xj4 {α : Type} (f : α → List AV) (cell : α → AV) (l : List α) (fid : FuncId) (caps : List AV) (p : α → Bool) (hb : Xd Try.prog fid = True) (hl : l.length ≤ 1000000000)
  (hcell : ∀ x, pick false 1 (f x) = some (cell x)) (hp : ∀ x, x ∈ l → Xr Try.prog fid (cell x :: caps) [] (bool (p x)) []) :
  Xr Try.prog 91 [.sl 1 (l.map f) .sh, .fn (.func fid) caps] [] (i64 (idx p l)) [] := by
 refine Xc 0 Try.func91 rfl fun n out _ _ => ?_
 simp only [Try.ntmps91, List.length_cons, List.length_nil, List.length_map, List.length_replicate, Xf, Nat.reduceAdd, Nat.reduceSub, List.replicate, List.cons_append, List.nil_append]
 refine X9 fun K hK => Xn Xj [] ?_
 simp (maxSteps:=9^7) only [ss, X1, tab, simprocAttr, -List.reduceReplicate]
 repeat' (first | (with_reducible refine hK _ ?_; clear hK K) | with_reducible apply And.intro)
 refine X9 fun KB hKB => ?_
 refine X9 fun K hK => Xn Xj [] ?_
 simp (maxSteps:=9^7) only [ss, X1, tab, simprocAttr, -List.reduceReplicate]
 repeat' (first | (with_reducible refine hK _ ?_; clear hK K) | with_reducible apply And.intro)
 refine Xe ?_
 refine Xz (fun i : Nat => [(8, i64 (i : Int)), (4, .top), (5, .top), (9, .top), (10, .top), (11, .top), (12, .top), (13, .top), (14, .top), (15, .top), (16, .top), (17, .top), (18, .top)]) (fun i => []) (fun i => out) (fun i => i ≤ l.length ∧ (∀ j (hj : j < l.length), j < i → p l[j] = false)) (fun i => l.length - i) 0 ⟨Nat.zero_le _, by intros; omega⟩ ?_ fun i hi => ?_
 ·refine Rt ?_ ?_ rfl rfl rfl rfl <;> simp only [E1, sl]
 obtain ⟨hi, hq⟩ := hi
 simp only [E1, s_0, s_s]
 refine X9 fun K hK => Xn Xj [] ?_
 simp (maxSteps:=9^7) only [ss, X1, tab, simprocAttr, -List.reduceReplicate]
 repeat' (first | (with_reducible refine hK _ ?_; clear hK K) | with_reducible apply And.intro)
 refine X9 fun KC hKC => ?_
 refine Uz rfl (fun ht => Z1 (hKC _ ?_)) (fun hf => Qi (id ?_))
 rotate_left
 ·simp only [Qd, Z4, if_true]
  refine hKB _ ?_
  clear hKB KB hKC KC
  have h_ib : i = l.length := by have := of_decide_eq_false hf; omega
  subst h_ib
  have e := Kn (p := p) (l := l) fun i hi => hq i hi hi
  rw [e]
  refine X9 fun K hK => Xn Xj [] ?_
  simp (maxSteps:=9^7) only [ss, X1, tab, simprocAttr, -List.reduceReplicate]
  repeat' (first | (with_reducible refine hK _ ?_; clear hK K) | with_reducible apply And.intro)
  refine Yd ?_
  exact Qv (.inr rfl) rfl rfl rfl (fun _ _ => rfl) rfl
 clear hKC KC
 have hlt : i < l.length := by have := of_decide_eq_true ht; omega
 refine X9 fun KC hKC => Xe ?_
 refine X9 fun K hK => Xn Xj [] ?_
 simp (maxSteps:=9^7) only [ss, X1, tab, simprocAttr, -List.reduceReplicate]
 repeat' (first | (with_reducible refine hK _ ?_; clear hK K) | with_reducible apply And.intro)
 refine X9 fun K hK => Xn Xj [] ?_
 simp (maxSteps:=9^7) only [ss, X1, tab, simprocAttr, -List.reduceReplicate, hlt, List.length_map, Xg f l i [] hlt, hcell, hb]
 repeat' (first | (with_reducible refine hK _ ?_; clear hK K) | with_reducible apply And.intro)
 refine Pl (hp _ (List.getElem_mem hlt)) ?_
 simp (maxSteps:=9^7) only [ss, X1, tab, simprocAttr, -List.reduceReplicate]
 repeat' (first | (with_reducible refine hK _ ?_; clear hK K) | with_reducible apply And.intro)
 refine Uz rfl (fun ht => ?_) (fun hf => Z1 ?_)
 ·have e := Ko hlt ht fun j hj => hq j (by omega) hj
  refine X9 fun K hK => Xn Xj [] ?_
  simp (maxSteps:=9^7) only [ss, X1, tab, simprocAttr, -List.reduceReplicate]
  repeat' (first | (with_reducible refine hK _ ?_; clear hK K) | with_reducible apply And.intro)
  rw [← e]
  refine Yd ?_
  exact Qv (.inr rfl) rfl rfl rfl (fun _ _ => rfl) rfl
 repeat refine And.intro (by omega) ?_
 refine hKC _ ?_
 clear hKC KC
 refine Xn Xj [] ?_
 simp (maxSteps:=9^7) only [ss, X1, tab, simprocAttr, -List.reduceReplicate, Yl (n := i) 1 1 rfl (by omega)]
 refine ⟨i + 1, ⟨by omega, ?_⟩, by omega, ?_⟩
 ·intro j hj hji
  by_cases h : j = i
  ·subst h; exact hf
  ·exact hq j hj (by omega)
 refine Rt ?_ ?_ rfl rfl rfl rfl <;> simp only [E1, sl]
theorem Xhl {α : Type} (f : α → List AV) (cell : α → AV) (l : List α) (fid : FuncId) (caps : List AV) (p : α → Bool) (hb : Xd Try.prog fid = True) (hl : l.length ≤ 1000000000)
  (hcell : ∀ x, pick false 1 (f x) = some (cell x)) (hp : ∀ x, x ∈ l → Xr Try.prog fid (cell x :: caps) [] (bool (p x)) []) :
  Xr Try.prog 65 [.sl 1 (l.map f) .sh, .fn (.func fid) caps] [] (bool (l.any p)) [] := by
 refine Xc 0 Try.func65 rfl fun n out _ _ => ?_
 simp only [Try.ntmps65, List.length_cons, List.length_nil, List.length_map, List.length_replicate, Xf, Nat.reduceAdd, Nat.reduceSub, List.replicate, List.cons_append, List.nil_append]
 refine X9 fun K hK => Xn Xj [] ?_
 simp (maxSteps:=9^7) only [ss, X1, tab, simprocAttr, -List.reduceReplicate]
 repeat' (first | (with_reducible refine hK _ ?_; clear hK K) | with_reducible apply And.intro)
 refine X9 fun K hK => Xn Xj [] ?_
 simp (maxSteps:=9^7) only [ss, X1, tab, simprocAttr, -List.reduceReplicate]
 repeat' (first | (with_reducible refine hK _ ?_; clear hK K) | with_reducible apply And.intro)
 refine Pl (Xj4 f cell l fid caps p hb hl hcell hp) ?_
 simp (maxSteps:=9^7) only [ss, X1, tab, simprocAttr, -List.reduceReplicate]
 repeat' (first | (with_reducible refine hK _ ?_; clear hK K) | with_reducible apply And.intro)
 rw [X3h]
 refine Yd ?_
 exact Qv (.inr rfl) rfl rfl rfl (fun _ _ => rfl) rfl
end Go.Proofs.Ytjgbbjooeibppaa
