/- The layer of abstract values, joined: PM. -/
import Derived.Test.YtgdhnngpfieloaaGreatZGA
import Derived.Test.YtgdhnngpfieloaaGreatZP4
import Derived.Test.YtgdhnngpfieloaaGreatZPR
section
namespace Go.Proofs.YtgdhnngpfieloaaGreat.Pln
set_option linter.unusedVariables false
set_option linter.unusedSimpArgs false
open Go Go.VS Tab
set_option maxHeartbeats 2000000
set_option maxRecDepth 4000
theorem X39 (l : List Sec) (b : Int) (hl : l.length ≤ 1000000000) : Xr Tryz.prog 80 [P9 l, i64 b] [] (i64 (idx (fun s => s.id == b) l)) [] := by
 refine Xc 0 Tryz.func80 rfl fun n out _ _ => ?_
 simp only [Tryz.ntmps80, List.length_cons, List.length_nil, List.length_map, List.length_replicate, Xf, Nat.reduceAdd, Nat.reduceSub, List.replicate, List.cons_append, List.nil_append]
 repeat' (first | (with_reducible first | refine Vk fun K hK => ?_ | refine V0 ?_) | ((with_reducible refine gE ?_); simp (maxSteps:=9^7) only [ss, X1, tab, simprocAttr, -List.reduceReplicate]) | (refine hK _ ?_; clear hK K))
 refine Xe ?_
 refine Xz (fun i : Nat => [(5, i64 (i : Int)), (4, .top), (6, .top), (7, .top), (8, .top), (9, .top), (10, .top), (11, .top), (12, .top), (13, .top), (14, .top), (15, .top), (16, .top), (17, .top), (18, .top), (19, .top)]) (fun i => []) (fun i => out) (fun i => i ≤ l.length ∧ (∀ j (hj : j < l.length), j < i → (l[j].id == b) = false)) (fun i => l.length - i) 0 ⟨Nat.zero_le _, by intros; omega⟩ ?_ fun i hi => ?_
 ·refine X2 ?_ ?_ (by first | rfl | (simp only [List.length_map]; rfl) | simp only [List.length_map]) rfl rfl rfl <;> simp only [X4, sl, List.length_map]
 obtain ⟨hi, hq⟩ := hi
 simp only [X4, s_0, s_s]
 refine X9 fun KC hKC => ?_
 refine X9 fun K hK => Xn Xj [] ?_
 simp (maxSteps:=9^7) only [ss, X1, tab, simprocAttr, -List.reduceReplicate, List.length_map]
 (refine hK _ ?_; clear hK K)
 refine Uz rfl (fun ht => Z1 (hKC _ ?_)) (fun hf => Qi (id ?_))
 rotate_left
 ·simp only [Qd, Z4, if_true]
  refine hK _ ?_
  clear hK K hKC KC
  have h_ib : i = l.length := by have := of_decide_eq_false hf; omega
  subst h_ib
  have e := Kn (p := fun s : Sec => s.id == b) (l := l) fun i hi => hq i hi (by omega)
  rw [e]
  repeat' (first | (with_reducible first | refine Vk fun K hK => ?_ | refine V0 ?_) | ((with_reducible refine gE ?_); simp (maxSteps:=9^7) only [ss, X1, tab, simprocAttr, -List.reduceReplicate]) | ((with_reducible refine Vz ?_); refine Vo rfl rfl rfl (fun _ _ => rfl) ?_ <;> first | rfl | skip) | (refine hK _ ?_; clear hK K))
 clear hKC KC
 have hlt : i < l.length := by have := of_decide_eq_true ht; omega
 refine X9 fun KC hKC => Xe ?_
 refine X9 fun K hK => Xn Xj [] ?_
 simp (maxSteps:=9^7) only [ss, X1, tab, simprocAttr, -List.reduceReplicate, hlt, List.length_map, Xg Y6 l i [] hlt, Y6]
 (refine hK _ ?_; clear hK K)
 refine Uz rfl (fun ht => ?_) (fun hf => Z1 ?_)
 ·have e := Ko (p := fun s : Sec => s.id == b) hlt ht fun j hj => hq j (by omega) hj
  refine X9 fun K hK => Xn Xj [] ?_
  simp (maxSteps:=9^7) only [ss, X1, tab, simprocAttr, -List.reduceReplicate]
  (refine hK _ ?_; clear hK K)
  rw [← e]
  refine Yd ?_
  exact Qv (.inr rfl) rfl rfl rfl (fun _ _ => rfl) rfl
 repeat refine And.intro (by omega) ?_
 refine hKC _ ?_
 clear hKC KC
 refine Xn Xj [] ?_
 simp (maxSteps:=9^7) only [ss, X1, tab, simprocAttr, -List.reduceReplicate, Yl (n := i) 1 1 rfl (by omega)]
 refine ⟨i + 1, ⟨by omega, ?_⟩, by omega, ?_⟩
 ·intro j hj hji
  by_cases h : j = i
  ·subst h; exact hf
  ·exact hq j hj (by omega)
 refine X2 ?_ ?_ rfl rfl rfl rfl <;> simp only [X4, sl]
theorem X05 (l : List Sec) (s : Sec) (e : Nat) (hl : l.length ≤ 1000000) (he : e < s.ends.length) : Xr Tryz.prog 79 [P9 l, Qh s, i64 (e : Int)] [] (bool (Yb l s e)) [] := by
 obtain ⟨a, b, hj⟩ : ∃ a b, s.ends[e] = (a, b) := ⟨_, _, rfl⟩
 rw [Su he hj]
 have ge := Xg jnC s.ends e [] he
 by_cases h0 : a = 0 ∧ b = 0
 ·obtain ⟨rfl, rfl⟩ := h0
  refine Xc 3 Tryz.func79 rfl fun n out _ _ => ?_
  simp only [Tryz.ntmps79, List.length_cons, List.length_nil, List.length_map, List.length_replicate, Xf, Nat.reduceAdd, Nat.reduceSub, List.replicate, List.cons_append, List.nil_append]
  repeat' (first | (with_reducible first | refine Vk fun K hK => ?_ | refine V0 ?_) | ((with_reducible refine gE ?_); simp (maxSteps:=9^7) only [ss, X1, tab, simprocAttr, -List.reduceReplicate, Qh, Y6, List.length_map, he, ge, jnC, hj, X0]) | ((with_reducible refine Vz ?_); refine Vo rfl rfl rfl (fun _ _ => rfl) ?_ <;> first | rfl | (first | rfl | (simp only [g_0, g_s]; refine congrArg VS.bool ?_; rw [Bool.eq_iff_iff]; first | (simp [] at * <;> omega) | (simp_all [] <;> omega))) | skip) | (refine hK _ ?_; clear hK K) | refine Vt rfl ?_)
 have hsp : (decide (a = 0 ∧ b = 0)) = false := decide_eq_false h0
 rw [hsp, Bool.false_or]
 rcases Ze (fun s : Sec => s.id == a) l with ⟨h1, h2, h3⟩ | ⟨i, hi, h1, h2, h3, h4⟩
 ·have h2' : Qt l a = none := h2
  rw [h2']
  refine Xc 3 Tryz.func79 rfl fun n out _ _ => ?_
  simp only [Tryz.ntmps79, List.length_cons, List.length_nil, List.length_map, List.length_replicate, Xf, Nat.reduceAdd, Nat.reduceSub, List.replicate, List.cons_append, List.nil_append]
  repeat' (first | (with_reducible first | refine Vk fun K hK => ?_ | refine V0 ?_ | refine Vs ?_ | refine Vq (by kernel_rfl) ?_) | ((with_reducible first | refine gE ?_ | refine gR ?_); simp (maxSteps:=9^7) only [ss, X1, tab, simprocAttr, -List.reduceReplicate, Qh, Y6, List.length_map, he, ge, jnC, hj, X0, h1, Int.reduceNeg]) | ((with_reducible refine Vz ?_); refine Vo rfl rfl rfl (fun _ _ => rfl) ?_ <;> first | rfl | (first | rfl | (simp only [g_0, g_s]; refine congrArg VS.bool ?_; rw [Bool.eq_iff_iff]; first | (simp [] at * <;> omega) | (simp_all [] <;> omega))) | skip) | (refine X3 (X39 l _ (by omega)) ?_) | ((with_reducible refine Vg (fun hg => ?_) (fun hg => ?_)) <;> (try simp only [nb] at hg) <;> simp (maxSteps:=9^7) only [ss, X1, tab, simprocAttr, -List.reduceReplicate, hg, Qh, Y6, List.length_map, he, ge, jnC, hj, X0, h1, Int.reduceNeg]) | (refine hK _ ?_; clear hK K) | refine Vt rfl ?_ | refine Vf rfl ?_ | refine Vi rfl (fun hg => ?_) (fun hg => ?_))
  all_goals (exfalso; simp at *; omega)
 ·have h2' : Qt l a = some l[i] := h2
  rw [h2']
  have gi := Xg Y6 l i [] hi
  have hi0 : decide ((i : Int) < 0) = false := decide_eq_false (by omega)
  by_cases hr : 0 ≤ b ∧ b < l[i].ends.length
  ·obtain ⟨nb, rfl⟩ := Int.eq_ofNat_of_zero_le hr.1
   have hnb : nb < l[i].ends.length := by omega
   have gb := Xg jnC l[i].ends nb [] hnb
   have gd : l[i].ends.getD (nb : Int).toNat (0, 0) = l[i].ends[nb] := by simp [List.getD_eq_getElem?_getD, hnb]
   have hb0 : decide ((nb : Int) < 0) = false := decide_eq_false (by omega)
   have hb1 : decide ((nb : Int) ≥ (l[i].ends.length : Int)) = false := decide_eq_false (by omega)
   simp only [gd, X32, decide_eq_true hr.1, decide_eq_true hr.2, Bool.true_and]
   refine Xc 3 Tryz.func79 rfl fun n out _ _ => ?_
   simp only [Tryz.ntmps79, List.length_cons, List.length_nil, List.length_map, List.length_replicate, Xf, Nat.reduceAdd, Nat.reduceSub, List.replicate, List.cons_append, List.nil_append]
   repeat' (first | (with_reducible first | refine Vk fun K hK => ?_ | refine V0 ?_ | refine Vs ?_ | refine Vd 7 [] [[],[],[],[],[],[],[1],[],[],[2],[2]] [[],[],[],[],[],[],[],[],[],[2],[2]] (by kernel_rfl) (by decide) (by decide) (by kernel_rfl) ?_ | refine Vq (by kernel_rfl) ?_) | ((with_reducible first | refine gE ?_ | refine gR ?_ | refine gD ?_); simp (maxSteps:=9^7) only [ss, X1, tab, simprocAttr, -List.reduceReplicate, Qh, Y6, List.length_map, he, ge, jnC, hj, X0, h1, hi, gi, hi0, hb0, hb1, hnb, gb]) | ((with_reducible refine Vz ?_); refine Vo rfl rfl rfl (fun _ _ => rfl) ?_ <;> first | rfl | (first | rfl | (simp only [g_0, g_s]; refine congrArg VS.bool ?_; rw [Bool.eq_iff_iff]; first | (simp [] at * <;> omega) | (simp_all [] <;> omega))) | skip) | (refine X3 (X39 l _ (by omega)) ?_) | ((with_reducible refine Vg (fun hg => ?_) (fun hg => ?_)) <;> (try simp only [nb] at hg) <;> simp (maxSteps:=9^7) only [ss, X1, tab, simprocAttr, -List.reduceReplicate, hg, Qh, Y6, List.length_map, he, ge, jnC, hj, X0, h1, hi, gi, hi0, hb0, hb1, hnb, gb]) | (refine hK _ ?_; clear hK K) | refine Vf rfl ?_ | refine Vi rfl (fun hg => ?_) (fun hg => ?_))
  ·have hf : (decide (0 ≤ b) && decide (b < (l[i].ends.length : Int)) && !(decide (a = s.id ∧ b = e)) && (l[i].ends.getD b.toNat (0, 0) == (s.id, (e : Int)))) = false := by
    have : (decide (0 ≤ b) && decide (b < (l[i].ends.length : Int))) = false := by simp; omega
    rw [this]; rfl
   simp only [hf]
   refine Xc 3 Tryz.func79 rfl fun n out _ _ => ?_
   simp only [Tryz.ntmps79, List.length_cons, List.length_nil, List.length_map, List.length_replicate, Xf, Nat.reduceAdd, Nat.reduceSub, List.replicate, List.cons_append, List.nil_append]
   repeat' (first | (with_reducible first | refine Vk fun K hK => ?_ | refine V0 ?_ | refine Vs ?_ | apply And.intro | refine Vq (by kernel_rfl) ?_) | ((with_reducible first | refine gE ?_ | refine gR ?_); simp (maxSteps:=9^7) only [ss, X1, tab, simprocAttr, -List.reduceReplicate, Qh, Y6, List.length_map, he, ge, jnC, hj, X0, h1, hi, gi, hi0]) | ((with_reducible refine Vz ?_); refine Vo rfl rfl rfl (fun _ _ => rfl) ?_ <;> first | rfl | (first | rfl | (simp only [g_0, g_s]; refine congrArg VS.bool ?_; rw [Bool.eq_iff_iff]; first | (simp [] at * <;> omega) | (simp_all [] <;> omega))) | skip) | (refine X3 (X39 l _ (by omega)) ?_) | ((with_reducible refine Vg (fun hg => ?_) (fun hg => ?_)) <;> (try simp only [nb] at hg) <;> simp (maxSteps:=9^7) only [ss, X1, tab, simprocAttr, -List.reduceReplicate, hg, Qh, Y6, List.length_map, he, ge, jnC, hj, X0, h1, hi, gi, hi0]) | (refine hK _ ?_; clear hK K) | refine Vt rfl ?_ | refine Vf rfl ?_ | refine Vi rfl (fun hg => ?_) (fun hg => ?_) | clear hK K)
   all_goals (exfalso; simp at *; omega)
end Go.Proofs.YtgdhnngpfieloaaGreat.Pln
end
section
namespace Go.Proofs.YtgdhnngpfieloaaGreat.Pln
set_option linter.unusedVariables false
set_option linter.unusedSimpArgs false
open Go Go.VS Tab
set_option maxHeartbeats 2000000
set_option maxRecDepth 4000
theorem X3a (l : List Sec) (hl : l.length ≤ 1000) (he : ∀ s, s ∈ l → s.ends.length ≤ 1000) : Xr Tryz.prog 26 [P9 l] [] (bool (Uq l)) [] := by
 refine Xc 1 Tryz.func26 rfl fun n out _ _ => ?_
 simp only [Tryz.ntmps26, List.length_cons, List.length_nil, List.length_map, List.length_replicate, Xf, Nat.reduceAdd, Nat.reduceSub, List.replicate, List.cons_append, List.nil_append]
 repeat' (first | (with_reducible first | refine Vk fun K hK => ?_ | refine V0 ?_ | refine Vs ?_) | ((with_reducible refine gE ?_); simp (maxSteps:=9^7) only [ss, X1, tab, simprocAttr, -List.reduceReplicate, List.length_map]) | ((with_reducible refine Vz ?_); refine Vo rfl rfl rfl (fun _ _ => rfl) ?_ <;> first | rfl | (rw [Sv (by simp at hg; omega)]; rfl) | skip) | (refine hK _ ?_; clear hK K) | refine Vi rfl (fun hg => ?_) (fun hg => ?_))
 have hl16 : l.length ≤ 16 := by simp at hg; omega
 refine Xe ?_
 refine Xl (fun m (i : Nat) => [(3, i64 (i : Int)), (2, .top), (4, .top), (5, .top), (11, .top), (12, .top), (13, .top), (14, .top), (15, .top), (16, .top), (17, .top), (18, .top), (19, .top), (20, .top), (21, .top), (22, .top), (23, .top), (24, .top), (25, .top), (26, .top), (27, .top), (28, .top), (29, .top), (30, .top), (31, .top), (32, .top), (33, .top), (34, .top), (35, .top), (36, .top), (37, .top), (38, .top), (39, .top), (40, .top), (41, .top), (42, .top), (43, .top), (44, .top), (45, .top), (46, .top), (47, .top), (48, .top), (49, .top), (50, .top), (51, .top), (52, .top), (53, .top), (54, .top), (55, .top), (56, .top), (57, .top), (58, .top), (59, .top), (60, .top), (61, .top)]) (fun m i => [none]) (fun i => out) (fun i => i ≤ l.length ∧ (∀ j (hj : j < l.length), j < i → okS (l.take j) l[j] = true)) (fun i => l.length - i) 0 ⟨Nat.zero_le _, by intros; omega⟩ ?_ fun m i hm hi => ?_
 ·refine X2 ?_ ?_ (by first | rfl | (simp only [List.length_map]; rfl) | simp only [List.length_map]) rfl rfl rfl <;> simp only [X4, sl, List.length_map]
 obtain ⟨hi, hq⟩ := hi
 simp only [X4, s_0, s_s]
 refine X9 fun KC hKC => ?_
 refine X9 fun K hK => Xn Xj [] ?_
 simp (maxSteps:=9^7) only [ss, X1, tab, simprocAttr, -List.reduceReplicate, List.length_map]
 (refine hK _ ?_; clear hK K)
 refine Uz rfl (fun ht => Z1 (hKC _ ?_)) (fun hf => Qi (id ?_))
 rotate_left
 ·simp only [Qd, Z4, if_true]
  refine hK _ ?_
  clear hK K hKC KC
  have h_ib : i = l.length := by have := of_decide_eq_false hf; omega
  subst h_ib
  repeat' (first | (with_reducible first | refine Vk fun K hK => ?_ | refine V0 ?_) | ((with_reducible refine gE ?_); simp (maxSteps:=9^7) only [ss, X1, tab, simprocAttr, -List.reduceReplicate]) | (refine hK _ ?_; clear hK K))
  have hok : ∀ j (hj : j < l.length), okS (l.take j) l[j] = true := fun j hj => hq j hj hj
  clear hq hf
  refine Xe ?_
  refine Xz (fun i : Nat => [(6, i64 (i : Int)), (2, .top), (7, .top), (62, .top), (63, .top), (64, .top), (65, .top), (66, .top), (67, .top), (68, .top), (69, .top), (70, .top), (71, .top), (72, .top), (73, .top), (74, .top), (75, .top), (76, .top), (77, .top), (78, .top), (79, .top), (80, .top), (81, .top), (82, .top), (83, .top), (84, .top), (85, .top)]) (fun i => [none]) (fun i => out) (fun i => i ≤ l.length ∧ (∀ j (hj : j < l.length), j < i → ∀ e, e < l[j].ends.length → Yb l l[j] e = true)) (fun i => l.length - i) 0 ⟨Nat.zero_le _, by intros; omega⟩ ?_ fun i hi => ?_
  ·refine X2 ?_ ?_ (by first | rfl | (simp only [List.length_map]; rfl) | simp only [List.length_map]) rfl rfl rfl <;> simp only [X4, sl, List.length_map]
  obtain ⟨hi, hq⟩ := hi
  simp only [X4, s_0, s_s]
  refine X9 fun KC hKC => ?_
  refine X9 fun K hK => Xn Xj [] ?_
  simp (maxSteps:=9^7) only [ss, X1, tab, simprocAttr, -List.reduceReplicate, List.length_map]
  (refine hK _ ?_; clear hK K)
  refine Uz rfl (fun ht => Z1 (hKC _ ?_)) (fun hf => Qi (id ?_))
  rotate_left
  ·simp only [Qd, Z4, if_true]
   refine hK _ ?_
   clear hK K hKC KC
   have h_ib : i = l.length := by have := of_decide_eq_false hf; omega
   subst h_ib
   rw [Sw hl16 hok fun j hj => hq j hj hj]
   repeat' (first | (with_reducible first | refine Vk fun K hK => ?_ | refine V0 ?_) | ((with_reducible refine gE ?_); simp (maxSteps:=9^7) only [ss, X1, tab, simprocAttr, -List.reduceReplicate]) | ((with_reducible refine Vz ?_); refine Vo rfl rfl rfl (fun _ _ => rfl) ?_ <;> first | rfl | skip) | (refine hK _ ?_; clear hK K))
  clear hKC KC
  have hlt : i < l.length := by have := of_decide_eq_true ht; omega
  refine X9 fun KC hKC => Xe ?_
  repeat' (first | (with_reducible first | refine Vk fun K hK => ?_ | refine V0 ?_) | ((with_reducible refine gE ?_); simp (maxSteps:=9^7) only [ss, X1, tab, simprocAttr, -List.reduceReplicate]) | (refine hK _ ?_; clear hK K))
  have hel := he _ (List.getElem_mem hlt)
  have hq0 := hq
  clear hq
  have hlti := hlt
  refine Xe ?_
  refine Xz (fun e : Nat => [(7, i64 (e : Int)), (2, .top), (68, .top), (69, .top), (70, .top), (71, .top), (72, .top), (73, .top), (74, .top), (75, .top), (76, .top), (77, .top), (78, .top), (79, .top), (80, .top), (81, .top), (82, .top), (83, .top), (84, .top), (85, .top)]) (fun e => [none]) (fun e => out) (fun e => e ≤ l[i].ends.length ∧ (∀ e', e' < e → Yb l l[i] e' = true)) (fun e => l[i].ends.length - e) 0 ⟨Nat.zero_le _, by intros; omega⟩ ?_ fun e he => ?_
  ·refine X2 ?_ ?_ (by first | rfl | (simp only [List.length_map, hlt, Xg Y6 l i [] hlt, Y6]; rfl) | simp only [List.length_map, hlt, Xg Y6 l i [] hlt, Y6]) rfl rfl rfl <;> simp only [X4, sl, List.length_map, hlt, Xg Y6 l i [] hlt, Y6]
  obtain ⟨he, hq⟩ := he
  simp only [X4, s_0, s_s]
  refine X9 fun KC hKC => ?_
  refine X9 fun K hK => Xn Xj [] ?_
  simp (maxSteps:=9^7) only [ss, X1, tab, simprocAttr, -List.reduceReplicate, List.length_map, hlt, Xg Y6 l i [] hlt, Y6]
  (refine hK _ ?_; clear hK K)
  refine Uz rfl (fun ht => Z1 (hKC _ ?_)) (fun hf => Qi (id ?_))
  rotate_left
  ·simp only [Qd, Z4, if_true]
   clear hKC KC
   have h_ib : l[i].ends.length = e := by have := of_decide_eq_false hf; omega
   subst h_ib
   repeat refine And.intro (by omega) ?_
   refine hKC _ ?_
   clear hKC KC
   refine Xn Xj [] ?_
   simp (maxSteps:=9^7) only [ss, X1, tab, simprocAttr, -List.reduceReplicate, Yl (n := i) 1 1 rfl (by omega)]
   refine ⟨i + 1, ⟨by omega, ?_⟩, by omega, ?_⟩
   ·intro j hj hji e' he'
    by_cases h : j = i
    ·subst h; exact hq e' he'
    ·exact hq0 j hj (by omega) e' he'
   refine X2 ?_ ?_ rfl rfl rfl rfl <;> simp only [X4, sl]
  clear hKC KC
  have hlt : e < l[i].ends.length := by have := of_decide_eq_true ht; omega
  refine X9 fun KC hKC => Xe ?_
  have hlte := hlt
  replace hlt := hlti
  repeat' (first | (with_reducible first | refine Vk fun K hK => ?_ | refine V0 ?_ | refine Vs ?_) | ((with_reducible first | refine gE ?_ | refine gR ?_); simp (maxSteps:=9^7) only [ss, X1, tab, simprocAttr, -List.reduceReplicate, Xi hm, List.length_map, hlt, Xg Y6 l i [] hlt, Qh, Y6]) | ((with_reducible refine Vz ?_); refine Vo rfl rfl rfl (fun _ _ => rfl) ?_ <;> first | rfl | (rw [U2 hlt hlte (by simpa using hg)]; rfl) | skip) | (refine X3 (X05 l l[i] e (by omega) hlte) ?_) | (refine hK _ ?_; clear hK K) | refine Vi rfl (fun hg => ?_) (fun hg => ?_))
  repeat refine And.intro (by omega) ?_
  refine hKC _ ?_
  clear hKC KC
  refine Xn Xj [] ?_
  simp (maxSteps:=9^7) only [ss, X1, tab, simprocAttr, -List.reduceReplicate, Yl (n := e) 1 1 rfl (by omega)]
  refine ⟨e + 1, ⟨by omega, ?_⟩, by omega, ?_⟩
  ·intro e' he'
   by_cases h : e' = e
   ·subst h; simpa using hg
   ·exact hq e' (by omega)
  refine X2 ?_ ?_ rfl rfl rfl rfl <;> simp only [X4, sl, hlt, decide_true]
 clear hKC KC
 have hlt : i < l.length := by have := of_decide_eq_true ht; omega
 refine X9 fun KC hKC => Xe ?_
 repeat' (first | (with_reducible first | refine Vk fun K hK => ?_ | refine V0 ?_ | refine Vs ?_) | ((with_reducible first | refine gE ?_ | refine gR ?_); simp (maxSteps:=9^7) only [ss, X1, tab, simprocAttr, -List.reduceReplicate, Xi hm, List.length_map, hlt, Xg Y6 l i [] hlt, Qh, Y6, X0]) | ((with_reducible refine Vz ?_); refine Vo rfl rfl rfl (fun _ _ => rfl) ?_ <;> first | rfl | (rw [Kr hlt (by rw [Bool.eq_false_iff]; intro h; first | (simp [okS, Uk] at *; omega) | (simp_all [okS, Uk]))]; rfl) | skip) | (refine X3 (Gx _) ?_) | ((with_reducible refine Vg (fun hg => ?_) (fun hg => ?_)) <;> (try simp only [nb] at hg) <;> simp (maxSteps:=9^7) only [ss, X1, tab, simprocAttr, -List.reduceReplicate, hg, Xi hm, List.length_map, hlt, Xg Y6 l i [] hlt, Qh, Y6, X0]) | (refine hK _ ?_; clear hK K) | refine Vt rfl ?_ | refine Vi rfl (fun hg => ?_) (fun hg => ?_))
 have hq0 := hq
 clear hq
 have hlti := hlt
 have hnum : Uk l[i].id = true ∧ Qc l[i] = true := by
  constructor
  ·simp [Uk] at *; omega
  ·simpa using hg
 refine Xe ?_
 refine Xz (fun k : Nat => [(5, i64 (k : Int)), (2, .top), (34, .top), (35, .top), (36, .top), (37, .top), (38, .top), (39, .top), (40, .top), (41, .top), (42, .top), (43, .top), (44, .top), (45, .top), (46, .top), (47, .top), (48, .top), (49, .top), (50, .top), (51, .top), (52, .top), (53, .top), (54, .top), (55, .top), (56, .top), (57, .top), (58, .top), (59, .top), (60, .top), (61, .top)]) (fun k => [some (.box 63 [i64 l[i].id, i64 l[i].pt, .sl 2 (l[i].ends.map jnC) .sh])]) (fun k => out) (fun k => k ≤ i ∧ (∀ j (hj : j < l.length), j < k → l[j].id < l[i].id ∧ (l[i].pt = 0 ∨ l[j].pt ≠ l[i].pt))) (fun k => i - k) 0 ⟨Nat.zero_le _, by intros; omega⟩ ?_ fun k hk => ?_
 ·refine X2 ?_ ?_ rfl rfl rfl rfl <;> simp only [X4, sl]
 obtain ⟨hk, hq⟩ := hk
 simp only [X4, s_0, s_s]
 refine X9 fun KC hKC => ?_
 refine X9 fun K hK => Xn Xj [] ?_
 simp (maxSteps:=9^7) only [ss, X1, tab, simprocAttr, -List.reduceReplicate]
 (refine hK _ ?_; clear hK K)
 refine Uz rfl (fun ht => Z1 (hKC _ ?_)) (fun hf => Qi (id ?_))
 rotate_left
 ·simp only [Qd, Z4, if_true]
  clear hKC KC
  have h_ib : i = k := by have := of_decide_eq_false hf; omega
  subst h_ib
  repeat refine And.intro (by omega) ?_
  refine hKC _ ?_
  clear hKC KC
  refine Xn Xj [] ?_
  simp (maxSteps:=9^7) only [ss, X1, tab, simprocAttr, -List.reduceReplicate, Yl (n := i) 1 1 rfl (by omega)]
  refine ⟨i + 1, ⟨by omega, ?_⟩, by omega, ?_⟩
  ·intro j hj hji
   by_cases h : j = i
   ·subst h
    exact (Ui hj).2 ⟨hnum.1, hnum.2, fun k hk => hq k (by omega) hk⟩
   ·exact hq0 j hj (by omega)
  refine Xx [false] (fun n_ => ?_) (fun n_ => ?_) <;> simp only [X4, sm]
 clear hKC KC
 have hlt : k < i := by have := of_decide_eq_true ht; omega
 refine X9 fun KC hKC => Xe ?_
 have hltk := hlt
 replace hlt := hlti
 have hkl : k < l.length := by omega
 repeat' (first | (with_reducible first | refine Vk fun K hK => ?_ | refine V0 ?_ | refine Vs ?_ | refine Vq (by kernel_rfl) ?_) | ((with_reducible refine gE ?_); simp (maxSteps:=9^7) only [ss, X1, tab, simprocAttr, -List.reduceReplicate, Xi hm, List.length_map, hlt, hkl, Xg Y6 l i [] hlt, Xg Y6 l k [] hkl, Qh, Y6]) | ((with_reducible refine Vz ?_); refine Vo rfl rfl rfl (fun _ _ => rfl) ?_ <;> first | rfl | (rw [Kr hlt (X3i hlt hltk (by simp at *; omega))]; rfl) | skip) | ((with_reducible refine Vg (fun hg => ?_) (fun hg => ?_)) <;> (try simp only [nb] at hg) <;> simp (maxSteps:=9^7) only [ss, X1, tab, simprocAttr, -List.reduceReplicate, hg, Xi hm, List.length_map, hlt, hkl, Xg Y6 l i [] hlt, Xg Y6 l k [] hkl, Qh, Y6]) | (refine hK _ ?_; clear hK K) | refine Vt rfl ?_ | refine Vf rfl ?_ | refine Vi rfl (fun hg => ?_) (fun hg => ?_))
 ·repeat refine And.intro (by omega) ?_
  refine hKC _ ?_
  clear hKC KC
  refine Xn Xj [] ?_
  simp (maxSteps:=9^7) only [ss, X1, tab, simprocAttr, -List.reduceReplicate, Yl (n := k) 1 1 rfl (by omega)]
  refine ⟨k + 1, ⟨by omega, ?_⟩, by omega, ?_⟩
  ·intro j hj hji
   by_cases h : j = k
   ·subst h; simp at *; omega
   ·exact hq j hj (by omega)
  refine X2 ?_ ?_ rfl rfl rfl rfl <;> simp only [X4, sl]
 ·repeat refine And.intro (by omega) ?_
  refine hKC _ ?_
  clear hKC KC
  refine Xn Xj [] ?_
  simp (maxSteps:=9^7) only [ss, X1, tab, simprocAttr, -List.reduceReplicate, Yl (n := k) 1 1 rfl (by omega)]
  refine ⟨k + 1, ⟨by omega, ?_⟩, by omega, ?_⟩
  ·intro j hj hji
   by_cases h : j = k
   ·subst h; simp at *; omega
   ·exact hq j hj (by omega)
  refine X2 ?_ ?_ rfl rfl rfl rfl <;> simp only [X4, sl]
end Go.Proofs.YtgdhnngpfieloaaGreat.Pln
end
