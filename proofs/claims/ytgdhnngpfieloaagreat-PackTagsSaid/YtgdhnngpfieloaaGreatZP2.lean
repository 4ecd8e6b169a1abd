/-
 Functions of Go's library over lists: where the first is, whether lists are alike, copies.
-/
import Derived.Test.YtgdhnngpfieloaaGreatZGA
import Derived.Test.YtgdhnngpfieloaaGreatZP1
namespace Go.Proofs.YtgdhnngpfieloaaGreat.Pln
set_option linter.unusedVariables false
set_option linter.unusedSimpArgs false
open Go Go.VS Tab
set_option maxHeartbeats 1000000
set_option maxRecDepth 4000
theorem Sl (l : List (Int × Int)) (fid : FuncId) (caps : List AV) (p : Int × Int → Bool) (hb : Xd Tryz.prog fid = True) (hl : l.length ≤ 1000000000)
  (hp : ∀ x, x ∈ l → Xr Tryz.prog fid (jnA x :: caps) [] (bool (p x)) []) :
  Xr Tryz.prog 120 [.sl 2 (l.map jnC) .sh, .fn (.func fid) caps] [] (i64 (idx p l)) [] := by
 refine Xc 0 Tryz.func120 rfl fun n out _ _ => ?_
 simp only [Tryz.ntmps120, List.length_cons, List.length_nil, List.length_map, List.length_replicate, Xf, Nat.reduceAdd, Nat.reduceSub, List.replicate, List.cons_append, List.nil_append]
 refine X9 fun K hK => Xn Xj [] ?_
 simp (maxSteps:=9^7) only [ss, X1, tab, simprocAttr, -List.reduceReplicate]
 (refine hK _ ?_; clear hK K)
 refine X9 fun KB hKB => ?_
 refine X9 fun K hK => Xn Xj [] ?_
 simp (maxSteps:=9^7) only [ss, X1, tab, simprocAttr, -List.reduceReplicate]
 (refine hK _ ?_; clear hK K)
 refine Xe ?_
 refine Xz (fun i : Nat => [(8, i64 (i : Int)), (4, .top), (5, .top), (9, .top), (10, .top), (11, .top), (12, .top), (13, .top), (14, .top), (15, .top), (16, .top), (17, .top), (18, .top)]) (fun i => []) (fun i => out) (fun i => i ≤ l.length ∧ (∀ j (hj : j < l.length), j < i → p l[j] = false)) (fun i => l.length - i) 0 ⟨Nat.zero_le _, by intros; omega⟩ ?_ fun i hi => ?_
 ·refine X2 ?_ ?_ rfl rfl rfl rfl <;> simp only [X4, sl]
 obtain ⟨hi, hq⟩ := hi
 simp only [X4, s_0, s_s]
 refine X9 fun K hK => Xn Xj [] ?_
 simp (maxSteps:=9^7) only [ss, X1, tab, simprocAttr, -List.reduceReplicate]
 (refine hK _ ?_; clear hK K)
 refine X9 fun KC hKC => ?_
 refine Uz rfl (fun ht => Z1 (hKC _ ?_)) (fun hf => Qi (id ?_))
 rotate_left
 ·simp only [Qd, Z4, if_true]
  refine hKB _ ?_
  clear hKB KB hKC KC
  have h_ib : i = l.length := by have := of_decide_eq_false hf; omega
  subst h_ib
  have e := Kn (p := p) (l := l) fun i hi => hq i hi hi
  rw [e]
  refine X9 fun K hK => Xn Xj [] ?_
  simp (maxSteps:=9^7) only [ss, X1, tab, simprocAttr, -List.reduceReplicate]
  (refine hK _ ?_; clear hK K)
  refine Yd ?_
  exact Qv (.inr rfl) rfl rfl rfl (fun _ _ => rfl) rfl
 clear hKC KC
 have hlt : i < l.length := by have := of_decide_eq_true ht; omega
 refine X9 fun KC hKC => Xe ?_
 refine X9 fun K hK => Xn Xj [] ?_
 simp (maxSteps:=9^7) only [ss, X1, tab, simprocAttr, -List.reduceReplicate]
 (refine hK _ ?_; clear hK K)
 refine X9 fun K hK => Xn Xj [] ?_
 simp (maxSteps:=9^7) only [ss, X1, tab, simprocAttr, -List.reduceReplicate, hlt, List.length_map, Xg jnC l i [] hlt, jnC, hb]
 skip
 refine X3 (hp _ (List.getElem_mem hlt)) ?_
 simp (maxSteps:=9^7) only [ss, X1, tab, simprocAttr, -List.reduceReplicate]
 (refine hK _ ?_; clear hK K)
 refine Uz rfl (fun ht => ?_) (fun hf => Z1 ?_)
 ·have e := Ko hlt ht fun j hj => hq j (by omega) hj
  refine X9 fun K hK => Xn Xj [] ?_
  simp (maxSteps:=9^7) only [ss, X1, tab, simprocAttr, -List.reduceReplicate]
  (refine hK _ ?_; clear hK K)
  rw [← e]
  refine Yd ?_
  exact Qv (.inr rfl) rfl rfl rfl (fun _ _ => rfl) rfl
 repeat refine And.intro (by omega) ?_
 refine hKC _ ?_
 clear hKC KC
 refine Xn Xj [] ?_
 simp (maxSteps:=9^7) only [ss, X1, tab, simprocAttr, -List.reduceReplicate, Yl (n := i) 1 1 rfl (by omega)]
 refine ⟨i + 1, ⟨by omega, ?_⟩, by omega, ?_⟩
 ·intro j hj hji
  by_cases h : j = i
  ·subst h; exact hf
  ·exact hq j hj (by omega)
 refine X2 ?_ ?_ rfl rfl rfl rfl <;> simp only [X4, sl]
theorem H3 (l : List (Int × Int × Int)) (fid : FuncId) (caps : List AV) (p : Int × Int × Int → Bool) (hb : Xd Tryz.prog fid = True) (hl : l.length ≤ 1000000000)
  (hp : ∀ x, x ∈ l → Xr Tryz.prog fid (sgA x :: caps) [] (bool (p x)) []) :
  Xr Tryz.prog 122 [.sl 3 (l.map sgC) .sh, .fn (.func fid) caps] [] (i64 (idx p l)) [] := by
 refine Xc 0 Tryz.func122 rfl fun n out _ _ => ?_
 simp only [Tryz.ntmps122, List.length_cons, List.length_nil, List.length_map, List.length_replicate, Xf, Nat.reduceAdd, Nat.reduceSub, List.replicate, List.cons_append, List.nil_append]
 refine X9 fun K hK => Xn Xj [] ?_
 simp (maxSteps:=9^7) only [ss, X1, tab, simprocAttr, -List.reduceReplicate]
 (refine hK _ ?_; clear hK K)
 refine X9 fun KB hKB => ?_
 refine X9 fun K hK => Xn Xj [] ?_
 simp (maxSteps:=9^7) only [ss, X1, tab, simprocAttr, -List.reduceReplicate]
 (refine hK _ ?_; clear hK K)
 refine Xe ?_
 refine Xz (fun i : Nat => [(8, i64 (i : Int)), (4, .top), (5, .top), (9, .top), (10, .top), (11, .top), (12, .top), (13, .top), (14, .top), (15, .top), (16, .top), (17, .top), (18, .top)]) (fun i => []) (fun i => out) (fun i => i ≤ l.length ∧ (∀ j (hj : j < l.length), j < i → p l[j] = false)) (fun i => l.length - i) 0 ⟨Nat.zero_le _, by intros; omega⟩ ?_ fun i hi => ?_
 ·refine X2 ?_ ?_ rfl rfl rfl rfl <;> simp only [X4, sl]
 obtain ⟨hi, hq⟩ := hi
 simp only [X4, s_0, s_s]
 refine X9 fun K hK => Xn Xj [] ?_
 simp (maxSteps:=9^7) only [ss, X1, tab, simprocAttr, -List.reduceReplicate]
 (refine hK _ ?_; clear hK K)
 refine X9 fun KC hKC => ?_
 refine Uz rfl (fun ht => Z1 (hKC _ ?_)) (fun hf => Qi (id ?_))
 rotate_left
 ·simp only [Qd, Z4, if_true]
  refine hKB _ ?_
  clear hKB KB hKC KC
  have h_ib : i = l.length := by have := of_decide_eq_false hf; omega
  subst h_ib
  have e := Kn (p := p) (l := l) fun i hi => hq i hi hi
  rw [e]
  refine X9 fun K hK => Xn Xj [] ?_
  simp (maxSteps:=9^7) only [ss, X1, tab, simprocAttr, -List.reduceReplicate]
  (refine hK _ ?_; clear hK K)
  refine Yd ?_
  exact Qv (.inr rfl) rfl rfl rfl (fun _ _ => rfl) rfl
 clear hKC KC
 have hlt : i < l.length := by have := of_decide_eq_true ht; omega
 refine X9 fun KC hKC => Xe ?_
 refine X9 fun K hK => Xn Xj [] ?_
 simp (maxSteps:=9^7) only [ss, X1, tab, simprocAttr, -List.reduceReplicate]
 (refine hK _ ?_; clear hK K)
 refine X9 fun K hK => Xn Xj [] ?_
 simp (maxSteps:=9^7) only [ss, X1, tab, simprocAttr, -List.reduceReplicate, hlt, List.length_map, Xg sgC l i [] hlt, sgC, hb]
 skip
 refine X3 (hp _ (List.getElem_mem hlt)) ?_
 simp (maxSteps:=9^7) only [ss, X1, tab, simprocAttr, -List.reduceReplicate]
 (refine hK _ ?_; clear hK K)
 refine Uz rfl (fun ht => ?_) (fun hf => Z1 ?_)
 ·have e := Ko hlt ht fun j hj => hq j (by omega) hj
  refine X9 fun K hK => Xn Xj [] ?_
  simp (maxSteps:=9^7) only [ss, X1, tab, simprocAttr, -List.reduceReplicate]
  (refine hK _ ?_; clear hK K)
  rw [← e]
  refine Yd ?_
  exact Qv (.inr rfl) rfl rfl rfl (fun _ _ => rfl) rfl
 repeat refine And.intro (by omega) ?_
 refine hKC _ ?_
 clear hKC KC
 refine Xn Xj [] ?_
 simp (maxSteps:=9^7) only [ss, X1, tab, simprocAttr, -List.reduceReplicate, Yl (n := i) 1 1 rfl (by omega)]
 refine ⟨i + 1, ⟨by omega, ?_⟩, by omega, ?_⟩
 ·intro j hj hji
  by_cases h : j = i
  ·subst h; exact hf
  ·exact hq j hj (by omega)
 refine X2 ?_ ?_ rfl rfl rfl rfl <;> simp only [X4, sl]
theorem Aw (l : List (Int × Int)) (fid : FuncId) (caps : List AV) (p : Int × Int → Bool) (hb : Xd Tryz.prog fid = True) (hl : l.length ≤ 1000000000)
  (hp : ∀ x, x ∈ l → Xr Tryz.prog fid (jnA x :: caps) [] (bool (p x)) []) :
  Xr Tryz.prog 96 [.sl 2 (l.map jnC) .sh, .fn (.func fid) caps] [] (bool (l.any p)) [] := by
 refine Xc 0 Tryz.func96 rfl fun n out _ _ => ?_
 simp only [Tryz.ntmps96, List.length_cons, List.length_nil, List.length_map, List.length_replicate, Xf, Nat.reduceAdd, Nat.reduceSub, List.replicate, List.cons_append, List.nil_append]
 repeat' (first | (with_reducible first | refine Vk fun K hK => ?_ | refine V0 ?_) | ((with_reducible first | refine gE ?_ | refine gR ?_); simp (maxSteps:=9^7) only [ss, X1, tab, simprocAttr, -List.reduceReplicate]) | ((with_reducible refine Vz ?_); refine Vo rfl rfl rfl (fun _ _ => rfl) ?_ <;> first | rfl | (rw [← X3h]; rfl) | skip) | (refine X3 (Sl l fid caps p hb hl hp) ?_) | (refine hK _ ?_; clear hK K))
theorem X32 (a b : Int × Int) : (a == b) = ((a.1 == b.1) && (a.2 == b.2)) := rfl
theorem Mu {α : Type} [BEq α] [LawfulBEq α] {l m : List α} (h : l.length ≠ m.length) : (l == m) = false := by
 rw [beq_eq_false_iff_ne]; rintro rfl; exact h rfl
theorem Ua {α : Type} [BEq α] [LawfulBEq α] {l m : List α} (h : l.length = m.length) (hp : ∀ i (hi : i < l.length) (hi' : i < m.length), l[i] = m[i]) : (l == m) = true := by
 rw [beq_iff_eq]; exact List.ext_getElem h hp
theorem Ut {α : Type} [BEq α] [LawfulBEq α] {l m : List α} {i : Nat} (hi : i < l.length) (hi' : i < m.length) (h : l[i] ≠ m[i]) : (l == m) = false := by
 rw [beq_eq_false_iff_ne]; rintro rfl; exact h rfl
end Go.Proofs.YtgdhnngpfieloaaGreat.Pln
