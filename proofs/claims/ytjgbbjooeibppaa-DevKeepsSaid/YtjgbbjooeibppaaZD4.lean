/-
 Lists compared; disks compared and copied.
-/
import Derived.Test.YtjgbbjooeibppaaZGA
import Derived.Test.YtjgbbjooeibppaaZD3
namespace Go.Proofs.Ytjgbbjooeibppaa
set_option linter.unusedVariables false
set_option linter.unusedSimpArgs false
open Go Go.VS Tab
set_option maxHeartbeats 1000000
set_option maxRecDepth 4000
def Fv {α β : Type} (p : α → β → Bool) : List α → List β → Bool
 | [], [] => true
 | x :: l, y :: m => p x y && Fv p l m
 | _, _ => false
theorem Rj {α β : Type} {p : α → β → Bool} : ∀ {l : List α} {m : List β}, l.length ≠ m.length → Fv p l m = false
 | [], [], h => (h rfl).elim
 | x :: l, y :: m, h => by rw [Fv, Rj (by simpa using h), Bool.and_false]
 | [], _ :: _, _ => rfl
 | _ :: _, [], _ => rfl
theorem W2 {α β : Type} {p : α → β → Bool} : ∀ {l : List α} {m : List β}, l.length = m.length → (∀ i (hi : i < l.length) (hi' : i < m.length), p l[i] m[i] = true) → Fv p l m = true
 | [], [], _, _ => rfl
 | x :: l, y :: m, h, hp => by
  rw [Fv, W2 (by simpa using h) fun i hi hi' => hp (i + 1) (by simpa using hi) (by simpa using hi'), Bool.and_true]
  exact hp 0 (by simp) (by simp)
 | [], _ :: _, h, _ => by simp at h
 | _ :: _, [], h, _ => by simp at h
theorem Lk {α β : Type} {p : α → β → Bool} : ∀ {l : List α} {m : List β} {i : Nat} (hi : i < l.length) (hi' : i < m.length), p l[i] m[i] = false → Fv p l m = false
 | x :: l, y :: m, 0, _, _, h => by
  have h' : p x y = false := h
  simp [Fv, h']
 | x :: l, y :: m, i + 1, hi, hi', h => by
  have h' := Lk (p := p) (l := l) (m := m) (i := i) (by simpa using hi) (by simpa using hi') h
  simp [Fv, h']
 | [], _, _, hi, _, _ => by simp at hi
 | _ :: _, [], _, _, hi', _ => by simp at hi'
theorem Xjy (l m' : List (Wr)) (fid : FuncId) (caps : List AV) (p : Wr → Wr → Bool) (hb : Xd Try.prog fid = True) (hl : l.length ≤ 1000000000)
  (hp : ∀ x, x ∈ l → ∀ y, y ∈ m' → Xr Try.prog fid (wrA x :: wrA y :: caps) [] (bool (p x y)) []) :
  Xr Try.prog 53 [.sl 2 (l.map wrC) .sh, .sl 2 (m'.map wrC) .sh, .fn (.func fid) caps] [] (bool (Fv p l m')) [] := by
 refine Xc 2 Try.func53 rfl fun n out _ _ => ?_
 simp only [Try.ntmps53, List.length_cons, List.length_nil, List.length_map, List.length_replicate, Xf, Nat.reduceAdd, Nat.reduceSub, List.replicate, List.cons_append, List.nil_append]
 refine X9 fun K hK => Xn Xj [] ?_
 simp (maxSteps:=9^7) only [ss, X1, tab, simprocAttr, -List.reduceReplicate]
 repeat' (first | (with_reducible refine hK _ ?_; clear hK K) | with_reducible apply And.intro)
 refine X9 fun KA hKA => ?_
 refine X9 fun K hK => Xn Xj [] ?_
 simp (maxSteps:=9^7) only [ss, X1, tab, simprocAttr, -List.reduceReplicate, List.length_map]
 repeat' (first | (with_reducible refine hK _ ?_; clear hK K) | with_reducible apply And.intro)
 refine Uz rfl (fun ht => ?_) (fun hf => Z1 (hKA _ ?_))
 ·have e := Rj (p := p) (l := l) (m := m') (by intro h; rw [h] at ht; simp at ht)
  rw [e]
  refine X9 fun K hK => Xn Xj [] ?_
  simp (maxSteps:=9^7) only [ss, X1, tab, simprocAttr, -List.reduceReplicate]
  repeat' (first | (with_reducible refine hK _ ?_; clear hK K) | with_reducible apply And.intro)
  refine Yd ?_
  exact Qv (.inr rfl) rfl rfl rfl (fun _ _ => rfl) rfl
 clear hKA KA
 have hlen : l.length = m'.length := by
  have h1 : ((l.length : Int) != (m'.length : Int)) = false := hf
  simp at h1; omega
 refine X9 fun KB hKB => ?_
 refine X9 fun K hK => Xn Xj [] ?_
 simp (maxSteps:=9^7) only [ss, X1, tab, simprocAttr, -List.reduceReplicate]
 repeat' (first | (with_reducible refine hK _ ?_; clear hK K) | with_reducible apply And.intro)
 refine Xe ?_
 refine Xl (fun m (i : Nat) => [(17, i64 (i : Int)), (6, .top), (7, .top), (8, .top), (9, .top), (18, .top), (19, .top), (20, .top), (21, .top), (22, .top), (23, .top), (24, .top), (25, .top), (26, .top), (27, .top), (28, .top), (29, .top), (30, .top), (31, .top)]) (fun m i => [none, none]) (fun i => out) (fun i => i ≤ l.length ∧ (∀ j (hj : j < l.length) (hj' : j < m'.length), j < i → p l[j] m'[j] = true)) (fun i => l.length - i) 0 ⟨Nat.zero_le _, by intros; omega⟩ ?_ fun m i hm hi => ?_
 ·refine Rt ?_ ?_ rfl rfl rfl rfl <;> simp only [E1, sl]
 obtain ⟨hi, hq⟩ := hi
 simp only [E1, s_0, s_s]
 refine X9 fun K hK => Xn Xj [] ?_
 simp (maxSteps:=9^7) only [ss, X1, tab, simprocAttr, -List.reduceReplicate]
 repeat' (first | (with_reducible refine hK _ ?_; clear hK K) | with_reducible apply And.intro)
 refine X9 fun KC hKC => ?_
 refine Uz rfl (fun ht => Z1 (hKC _ ?_)) (fun hf => Qi (id ?_))
 rotate_left
 ·simp only [Qd, Z4, if_true]
  refine hKB _ ?_
  clear hKB KB hKC KC
  have h_ib : i = l.length := by have := of_decide_eq_false hf; omega
  subst h_ib
  have e := W2 (p := p) hlen fun i hi hi' => hq i hi hi' hi
  rw [e]
  refine X9 fun K hK => Xn Xj [] ?_
  simp (maxSteps:=9^7) only [ss, X1, tab, simprocAttr, -List.reduceReplicate]
  repeat' (first | (with_reducible refine hK _ ?_; clear hK K) | with_reducible apply And.intro)
  refine Yd ?_
  exact Qv (.inr rfl) rfl rfl rfl (fun _ _ => rfl) rfl
 clear hKC KC
 have hlt : i < l.length := by have := of_decide_eq_true ht; omega
 refine X9 fun KC hKC => Xe ?_
 have hlt' : i < m'.length := by omega
 refine X9 fun K hK => Xn Xj [] ?_
 simp (maxSteps:=9^7) only [ss, X1, tab, simprocAttr, -List.reduceReplicate, Xi hm, hlt, List.length_map, Xg wrC l i [] hlt, X0, wrC]
 repeat' (first | (with_reducible refine hK _ ?_; clear hK K) | with_reducible apply And.intro)
 refine X9 fun K hK => Xn Xj [] ?_
 simp (maxSteps:=9^7) only [ss, X1, tab, simprocAttr, -List.reduceReplicate, Xi hm, hlt', List.length_map, Xg wrC m' i [] hlt', X0, wrC]
 repeat' (first | (with_reducible refine hK _ ?_; clear hK K) | with_reducible apply And.intro)
 refine X9 fun K hK => Xn Xj [] ?_
 simp (maxSteps:=9^7) only [ss, X1, tab, simprocAttr, -List.reduceReplicate, Xi hm, hb]
 repeat' (first | (with_reducible refine hK _ ?_; clear hK K) | with_reducible apply And.intro)
 refine Pl (hp _ (List.getElem_mem hlt) _ (List.getElem_mem hlt')) ?_
 simp (maxSteps:=9^7) only [ss, X1, tab, simprocAttr, -List.reduceReplicate, Xi hm]
 repeat' (first | (with_reducible refine hK _ ?_; clear hK K) | with_reducible apply And.intro)
 refine Uz rfl (fun ht => ?_) (fun hf => Z1 ?_)
 ·have e := Lk hlt hlt' (by simpa using ht)
  refine X9 fun K hK => Xn Xj [] ?_
  simp (maxSteps:=9^7) only [ss, X1, tab, simprocAttr, -List.reduceReplicate, Xi hm]
  repeat' (first | (with_reducible refine hK _ ?_; clear hK K) | with_reducible apply And.intro)
  rw [← e]
  refine Yd ?_
  exact Qv (.inr rfl) rfl rfl rfl (fun _ _ => rfl) rfl
 repeat refine And.intro (by omega) ?_
 refine hKC _ ?_
 clear hKC KC
 refine Xn Xj [] ?_
 simp (maxSteps:=9^7) only [ss, X1, tab, simprocAttr, -List.reduceReplicate, Xi hm, Yl (n := i) 1 1 rfl (by omega)]
 refine ⟨i + 1, ⟨by omega, ?_⟩, by omega, ?_⟩
 ·intro j hj hj' hji
  by_cases h : j = i
  ·subst h; simpa using hf
  ·exact hq j hj hj' (by omega)
 refine Xx [false, false] (fun n_ => ?_) (fun n_ => ?_) <;> simp only [E1, sm]
theorem Xjz (l m' : List (List UInt8)) (fid : FuncId) (caps : List AV) (p : List UInt8 → List UInt8 → Bool) (hb : Xd Try.prog fid = True) (hl : l.length ≤ 1000000000)
  (hp : ∀ x, x ∈ l → ∀ y, y ∈ m' → Xr Try.prog fid (bs x :: bs y :: caps) [] (bool (p x y)) []) :
  Xr Try.prog 54 [.sl 1 (l.map Y6) .sh, .sl 1 (m'.map Y6) .sh, .fn (.func fid) caps] [] (bool (Fv p l m')) [] := by
 refine Xc 0 Try.func54 rfl fun n out _ _ => ?_
 simp only [Try.ntmps54, List.length_cons, List.length_nil, List.length_map, List.length_replicate, Xf, Nat.reduceAdd, Nat.reduceSub, List.replicate, List.cons_append, List.nil_append]
 refine X9 fun K hK => Xn Xj [] ?_
 simp (maxSteps:=9^7) only [ss, X1, tab, simprocAttr, -List.reduceReplicate]
 repeat' (first | (with_reducible refine hK _ ?_; clear hK K) | with_reducible apply And.intro)
 refine X9 fun KA hKA => ?_
 refine X9 fun K hK => Xn Xj [] ?_
 simp (maxSteps:=9^7) only [ss, X1, tab, simprocAttr, -List.reduceReplicate, List.length_map]
 repeat' (first | (with_reducible refine hK _ ?_; clear hK K) | with_reducible apply And.intro)
 refine Uz rfl (fun ht => ?_) (fun hf => Z1 (hKA _ ?_))
 ·have e := Rj (p := p) (l := l) (m := m') (by intro h; rw [h] at ht; simp at ht)
  rw [e]
  refine X9 fun K hK => Xn Xj [] ?_
  simp (maxSteps:=9^7) only [ss, X1, tab, simprocAttr, -List.reduceReplicate]
  repeat' (first | (with_reducible refine hK _ ?_; clear hK K) | with_reducible apply And.intro)
  refine Yd ?_
  exact Qv (.inr rfl) rfl rfl rfl (fun _ _ => rfl) rfl
 clear hKA KA
 have hlen : l.length = m'.length := by
  have h1 : ((l.length : Int) != (m'.length : Int)) = false := hf
  simp at h1; omega
 refine X9 fun KB hKB => ?_
 refine X9 fun K hK => Xn Xj [] ?_
 simp (maxSteps:=9^7) only [ss, X1, tab, simprocAttr, -List.reduceReplicate]
 repeat' (first | (with_reducible refine hK _ ?_; clear hK K) | with_reducible apply And.intro)
 refine Xe ?_
 refine Xz (fun i : Nat => [(17, i64 (i : Int)), (6, .top), (7, .top), (8, .top), (9, .top), (18, .top), (19, .top), (20, .top), (21, .top), (22, .top), (23, .top), (24, .top), (25, .top), (26, .top), (27, .top), (28, .top), (29, .top), (30, .top), (31, .top)]) (fun i => []) (fun i => out) (fun i => i ≤ l.length ∧ (∀ j (hj : j < l.length) (hj' : j < m'.length), j < i → p l[j] m'[j] = true)) (fun i => l.length - i) 0 ⟨Nat.zero_le _, by intros; omega⟩ ?_ fun i hi => ?_
 ·refine Rt ?_ ?_ rfl rfl rfl rfl <;> simp only [E1, sl]
 obtain ⟨hi, hq⟩ := hi
 simp only [E1, s_0, s_s]
 refine X9 fun K hK => Xn Xj [] ?_
 simp (maxSteps:=9^7) only [ss, X1, tab, simprocAttr, -List.reduceReplicate]
 repeat' (first | (with_reducible refine hK _ ?_; clear hK K) | with_reducible apply And.intro)
 refine X9 fun KC hKC => ?_
 refine Uz rfl (fun ht => Z1 (hKC _ ?_)) (fun hf => Qi (id ?_))
 rotate_left
 ·simp only [Qd, Z4, if_true]
  refine hKB _ ?_
  clear hKB KB hKC KC
  have h_ib : i = l.length := by have := of_decide_eq_false hf; omega
  subst h_ib
  have e := W2 (p := p) hlen fun i hi hi' => hq i hi hi' hi
  rw [e]
  refine X9 fun K hK => Xn Xj [] ?_
  simp (maxSteps:=9^7) only [ss, X1, tab, simprocAttr, -List.reduceReplicate]
  repeat' (first | (with_reducible refine hK _ ?_; clear hK K) | with_reducible apply And.intro)
  refine Yd ?_
  exact Qv (.inr rfl) rfl rfl rfl (fun _ _ => rfl) rfl
 clear hKC KC
 have hlt : i < l.length := by have := of_decide_eq_true ht; omega
 refine X9 fun KC hKC => Xe ?_
 have hlt' : i < m'.length := by omega
 refine X9 fun K hK => Xn Xj [] ?_
 simp (maxSteps:=9^7) only [ss, X1, tab, simprocAttr, -List.reduceReplicate, hlt, List.length_map, Xg Y6 l i [] hlt, X0, Y6]
 repeat' (first | (with_reducible refine hK _ ?_; clear hK K) | with_reducible apply And.intro)
 refine X9 fun K hK => Xn Xj [] ?_
 simp (maxSteps:=9^7) only [ss, X1, tab, simprocAttr, -List.reduceReplicate, hlt', List.length_map, Xg Y6 m' i [] hlt', X0, Y6]
 repeat' (first | (with_reducible refine hK _ ?_; clear hK K) | with_reducible apply And.intro)
 refine X9 fun K hK => Xn Xj [] ?_
 simp (maxSteps:=9^7) only [ss, X1, tab, simprocAttr, -List.reduceReplicate, hb]
 repeat' (first | (with_reducible refine hK _ ?_; clear hK K) | with_reducible apply And.intro)
 refine Pl (hp _ (List.getElem_mem hlt) _ (List.getElem_mem hlt')) ?_
 simp (maxSteps:=9^7) only [ss, X1, tab, simprocAttr, -List.reduceReplicate]
 repeat' (first | (with_reducible refine hK _ ?_; clear hK K) | with_reducible apply And.intro)
 refine Uz rfl (fun ht => ?_) (fun hf => Z1 ?_)
 ·have e := Lk hlt hlt' (by simpa using ht)
  refine X9 fun K hK => Xn Xj [] ?_
  simp (maxSteps:=9^7) only [ss, X1, tab, simprocAttr, -List.reduceReplicate]
  repeat' (first | (with_reducible refine hK _ ?_; clear hK K) | with_reducible apply And.intro)
  rw [← e]
  refine Yd ?_
  exact Qv (.inr rfl) rfl rfl rfl (fun _ _ => rfl) rfl
 repeat refine And.intro (by omega) ?_
 refine hKC _ ?_
 clear hKC KC
 refine Xn Xj [] ?_
 simp (maxSteps:=9^7) only [ss, X1, tab, simprocAttr, -List.reduceReplicate, Yl (n := i) 1 1 rfl (by omega)]
 refine ⟨i + 1, ⟨by omega, ?_⟩, by omega, ?_⟩
 ·intro j hj hj' hji
  by_cases h : j = i
  ·subst h; simpa using hf
  ·exact hq j hj hj' (by omega)
 refine Rt ?_ ?_ rfl rfl rfl rfl <;> simp only [E1, sl]
theorem Xna (x y : Wr) : Xr Try.prog 51 [wrA x, wrA y] [] (bool (x.at' == y.at' && x.data == y.data)) [] := by
 refine Xc 2 Try.func51 rfl fun n out _ _ => ?_
 simp only [Try.ntmps51, List.length_cons, List.length_nil, List.length_map, List.length_replicate, Xf, Nat.reduceAdd, Nat.reduceSub, List.replicate, List.cons_append, List.nil_append]
 refine X9 fun K hK => Xn Xj [] ?_
 simp (maxSteps:=9^7) only [ss, X1, tab, simprocAttr, -List.reduceReplicate, wrA, wrC]
 repeat' (first | (with_reducible refine hK _ ?_; clear hK K) | with_reducible apply And.intro)
 by_cases h : x.at' = y.at'
 ·have e : (x.at' == y.at') = true := by simp [h]
  rw [e, Bool.true_and]
  refine X9 fun K hK => Xn Xj [] ?_
  simp (maxSteps:=9^7) only [ss, X1, tab, simprocAttr, -List.reduceReplicate, e]
  repeat' (first | (with_reducible refine hK _ ?_; clear hK K) | with_reducible apply And.intro)
  refine Pl (Xl7 _ _) ?_
  simp (maxSteps:=9^7) only [ss, X1, tab, simprocAttr, -List.reduceReplicate]
  repeat' (first | (with_reducible refine hK _ ?_; clear hK K) | with_reducible apply And.intro)
  refine Yd ?_
  exact Qv (.inr rfl) rfl rfl rfl (fun _ _ => rfl) rfl
 ·have e : (x.at' == y.at') = false := by simp [h]
  rw [e, Bool.false_and]
  refine X9 fun K hK => Xn Xj [] ?_
  simp (maxSteps:=9^7) only [ss, X1, tab, simprocAttr, -List.reduceReplicate, e]
  repeat' (first | (with_reducible refine hK _ ?_; clear hK K) | with_reducible apply And.intro)
  refine Yd ?_
  exact Qv (.inr rfl) rfl rfl rfl (fun _ _ => rfl) rfl
def Xk0 (a b : Dsk) : Bool := Fv (fun x y => x.at' == y.at' && x.data == y.data) a.waits b.waits && Fv (fun x y => x == y) a.sectors b.sectors
theorem Xe9 (a b : Dsk) (h1 : a.waits.length ≤ 1000000) (h2 : a.sectors.length ≤ 1000000) : Xr Try.prog 13 [A2 a, A2 b] [] (bool (Xk0 a b)) [] := by
 refine Xc 2 Try.func13 rfl fun n out _ _ => ?_
 simp only [Try.ntmps13, List.length_cons, List.length_nil, List.length_map, List.length_replicate, Xf, Nat.reduceAdd, Nat.reduceSub, List.replicate, List.cons_append, List.nil_append]
 refine X9 fun K hK => Xn Xj [] ?_
 simp (maxSteps:=9^7) only [ss, X1, tab, simprocAttr, -List.reduceReplicate, A2, Xha]
 repeat' (first | (with_reducible refine hK _ ?_; clear hK K) | with_reducible apply And.intro)
 refine X9 fun K hK => Xn Xj [] ?_
 simp (maxSteps:=9^7) only [ss, X1, tab, simprocAttr, -List.reduceReplicate]
 repeat' (first | (with_reducible refine hK _ ?_; clear hK K) | with_reducible apply And.intro)
 refine X9 fun K hK => Xn Xj [] ?_
 simp (maxSteps:=9^7) only [ss, X1, tab, simprocAttr, -List.reduceReplicate]
 repeat' (first | (with_reducible refine hK _ ?_; clear hK K) | with_reducible apply And.intro)
 refine Pl (Xjy a.waits b.waits _ [] (fun x y => x.at' == y.at' && x.data == y.data) (hb0 _ (by decide) (by decide)) (by omega) fun x _ y _ => Xna x y) ?_
 simp (maxSteps:=9^7) only [ss, X1, tab, simprocAttr, -List.reduceReplicate]
 cases hw : Fv (fun x y : Wr => x.at' == y.at' && x.data == y.data) a.waits b.waits with
 | false =>
  have e : Xk0 a b = false := by unfold Xk0; rw [hw]; rfl
  simp (maxSteps:=9^7) only [ss, X1, tab, simprocAttr, -List.reduceReplicate]
  repeat' (first | (with_reducible refine hK _ ?_; clear hK K) | with_reducible apply And.intro)
  rw [e]
  refine Yd ?_
  exact Qv (.inr rfl) rfl rfl rfl (fun _ _ => rfl) rfl
 | true =>
  have e : Xk0 a b = Fv (fun x y => x == y) a.sectors b.sectors := by unfold Xk0; rw [hw]; rfl
  simp (maxSteps:=9^7) only [ss, X1, tab, simprocAttr, -List.reduceReplicate]
  refine Pl (Xjz a.sectors b.sectors _ [] (fun x y => x == y) (hb0 _ (by decide) (by decide)) (by omega) fun x _ y _ => Xl7 x y) ?_
  simp (maxSteps:=9^7) only [ss, X1, tab, simprocAttr, -List.reduceReplicate]
  repeat' (first | (with_reducible refine hK _ ?_; clear hK K) | with_reducible apply And.intro)
  rw [e]
  refine Yd ?_
  exact Qv (.inr rfl) rfl rfl rfl (fun _ _ => rfl) rfl
end Go.Proofs.Ytjgbbjooeibppaa
