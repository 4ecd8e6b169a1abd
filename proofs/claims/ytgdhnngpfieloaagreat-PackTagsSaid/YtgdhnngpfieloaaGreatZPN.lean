/- The layer of abstract values, joined: PN. -/
import Derived.Test.YtgdhnngpfieloaaGreatZGA
import Derived.Test.YtgdhnngpfieloaaGreatZP4
import Derived.Test.YtgdhnngpfieloaaGreatZPR
section
namespace Go.Proofs.YtgdhnngpfieloaaGreat.Pln
set_option linter.unusedVariables false
set_option linter.unusedSimpArgs false
open Go Go.VS Tab
set_option maxHeartbeats 4000000
set_option maxRecDepth 4000
theorem W3 (a b c d : Int) : Nk [i64 a, i64 b] [i64 c, i64 d] = some (a == c && b == d) := by simp [Nk]
theorem Qg (n : Nat) : (List.replicate n (Value.bool false)).map Yq = List.replicate n (bool false) := by simp [X29]
theorem W4 {α : Type} (n : Nat) (a : α) : List.replicate n a = (List.range n).map fun _ => a := by rw [List.map_const', List.length_range]
theorem Q0 (f : Nat → AV) (n j : Nat) (h : j < n) (x : AV) : Yf ((List.range n).map f) j [x] = (List.range n).map fun k => if k = j then x else f k := by
 have e := F7 (fun x : AV => x) ((List.range n).map f) j x (by simpa using h)
 simp only [List.map_id'] at e
 rw [e, Ho]
theorem Uu (f : Nat → AV) (n j s : Nat) (h : j < n) : pick false s (List.drop j ((List.range n).map f)) = some (f j) := by
 have e := X0z s f (List.range n) j 0 (by simpa using h)
 rw [e]
 simp [List.getD_eq_getElem?_getD, h]
def Fw (pre : List Sec) (k : Nat) : Bool := decide (0 < k) && pre.any fun t => t.pt == (k : Int)
def Mb (pre : List Sec) : List AV := (List.range 100).map fun k => bool (Fw pre k)
theorem N2 : Mb [] = List.replicate 100 (bool false) := by
 rw [W4, Mb]; simp [Fw]
theorem Kj (pre : List Sec) : (Mb pre).length = 100 := by simp [Mb]
theorem Wj (pre : List Sec) (j s : Nat) (h : j < 100) : pick false s (List.drop j (Mb pre)) = some (bool (Fw pre j)) := Uu _ _ _ _ h
theorem So (l : List Sec) (i : Nat) (hi : i < l.length) (j : Nat) (hj : j < 100) (hp : l[i].pt = j) (hf : Fw (l.take i) j = false) : Yf (Mb (l.take i)) j [.val (.bool (decide ((j : Int) > 0)))] = Mb (l.take (i + 1)) := by
 rw [Mb, Q0 _ _ _ hj, Mb]
 apply List.map_congr_left
 intro k hk
 have e : Fw (l.take (i + 1)) k = (Fw (l.take i) k || (decide (0 < k) && l[i].pt == (k : Int))) := by
  rw [Fw, Fw, List.take_succ_eq_append_getElem hi, List.any_append]
  cases decide (0 < k) <;> simp
 by_cases hkj : k = j
 ·subst hkj
  rw [if_pos rfl, e, hf, hp]
  congr 2; simp
 ·rw [if_neg hkj, e, hp]
  have : ((j : Int) == (k : Int)) = false := by simp; omega
  rw [this]; simp
theorem X5x {l : List Sec} {i : Nat} (hi : i < l.length) (hq : ∀ j (hj : j < l.length), j < i → okS (l.take j) l[j] = true) {j : Nat} (hp : l[i].pt = j) : okS (l.take i) l[i] = (Uk l[i].id && Qc l[i] && (decide (i = 0) || decide ((l[i - 1]'(by omega)).id < l[i].id)) && !Fw (l.take i) j) := by
 have h1 := Bs Sec.id l i hi fun j hj k hk => ((Ui (by omega)).1 (hq j (by omega) hj)).2.2 k hk |>.1
 unfold okS
 rw [h1]
 have e : (decide (l[i].pt = 0) || (l.take i).all fun k => !(k.pt == l[i].pt)) = !Fw (l.take i) j := by
  unfold Fw
  rw [hp]
  cases j with
  | zero => simp
  | succ j =>
   have : decide (((j + 1 : Nat) : Int) = 0) = false := decide_eq_false (by omega)
   rw [this]
   simp [List.not_any_eq_all_not]
 rw [e]
theorem Sp {l : List Sec} (hq : ∀ j (hj : j < l.length), okS (l.take j) l[j] = true) : Pk l := fun i hi j hj => ((Ui hi).1 (hq i hi)).2.2 j hj |>.1
theorem X06 (l : List Sec) (hl : l.length ≤ 1000) (he : ∀ s, s ∈ l → s.ends.length ≤ 1000) : Xr Tryz.prog 53 [P9 l] [] (i64 (if Uq l then 0 else 8)) [] := by
 refine Xc 5 Tryz.func53 rfl fun n out _ _ => ?_
 simp only [Tryz.ntmps53, List.length_cons, List.length_nil, List.length_map, List.length_replicate, Xf, Nat.reduceAdd, Nat.reduceSub, List.replicate, List.cons_append, List.nil_append]
 repeat' (first | (with_reducible first | refine Vk fun K hK => ?_ | refine V0 ?_ | refine Vs ?_) | ((with_reducible refine gE ?_); simp (maxSteps:=9^7) only [ss, X1, tab, simprocAttr, -List.reduceReplicate, List.length_map, Qg]) | ((with_reducible refine Vz ?_); refine Vo rfl rfl rfl (fun _ _ => rfl) ?_ <;> first | rfl | (rw [Sv (by simp at hg; omega)]; rfl) | skip) | (refine hK _ ?_; clear hK K) | refine Vi rfl (fun hg => ?_) (fun hg => ?_))
 have hl16 : l.length ≤ 16 := by simp at hg; omega
 refine Xe ?_
 refine Xl (fun m (i : Nat) => [(18, i64 (i : Int)), (3, .ptr (m + 0) 0), (2, .top), (4, .top), (5, .top), (19, .top), (20, .top), (21, .top), (22, .top), (23, .top), (24, .top), (25, .top), (26, .top), (27, .top), (28, .top), (29, .top), (30, .top), (31, .top), (32, .top), (33, .top), (34, .top), (35, .top), (36, .top), (37, .top), (38, .top), (39, .top), (40, .top), (41, .top), (42, .top), (43, .top), (44, .top), (45, .top), (46, .top), (47, .top), (48, .top), (49, .top), (50, .top), (51, .top), (52, .top), (53, .top), (54, .top), (55, .top), (56, .top), (57, .top), (58, .top), (59, .top)]) (fun m i => [some (.box 147 (Mb (l.take i))), none, none, none, none]) (fun i => out) (fun i => i ≤ l.length ∧ (∀ j (hj : j < l.length), j < i → okS (l.take j) l[j] = true)) (fun i => l.length - i) 0 ⟨Nat.zero_le _, by intros; omega⟩ ?_ fun m i hm hi => ?_
 ·refine X2 ?_ ?_ (by first | rfl | (simp only [List.length_map, List.take_zero, N2, Qg]; rfl) | simp only [List.length_map, List.take_zero, N2, Qg]) rfl rfl rfl <;> simp only [X4, sl, List.length_map, List.take_zero, N2, Qg]
 obtain ⟨hi, hq⟩ := hi
 simp only [X4, s_0, s_s]
 have hw := Yl (n := i) 1 1 rfl (by omega)
 by_cases hlt : i < l.length
 ·have gi := Xg Y6 l i [] hlt
  cases hs : Qc l[i] with
  | false =>
   repeat' (first | (with_reducible first | refine Vk fun K hK => ?_ | refine V0 ?_ | refine Vb ?_ | refine Vs ?_ | refine Vq (by kernel_rfl) ?_) | ((with_reducible first | refine gE ?_ | refine gR ?_); simp (maxSteps:=9^7) only [ss, X1, tab, simprocAttr, -List.reduceReplicate, Xi hm, List.length_map, hlt, gi, Qh, Y6, X0, hs]) | ((with_reducible refine Vz ?_); refine Vo rfl rfl rfl (fun _ _ => rfl) ?_ <;> first | rfl | (rw [Kr hlt (by rw [Bool.eq_false_iff, Ne, Hp]; intro h; simp_all)]; rfl) | skip) | (refine X3 (Wh _) ?_) | (refine X3 (Di _) ?_) | ((with_reducible refine Vg (fun hg => ?_) (fun hg => ?_)) <;> (try simp only [nb] at hg) <;> simp (maxSteps:=9^7) only [ss, X1, tab, simprocAttr, -List.reduceReplicate, hg, Xi hm, List.length_map, hlt, gi, Qh, Y6, X0, hs]) | (refine hK _ ?_; clear hK K) | refine Vt rfl ?_)
  | true =>
   obtain ⟨np, hnp, hpt⟩ : ∃ np : Nat, np < 100 ∧ l[i].pt = np := by
    rw [Uv] at hs
    obtain ⟨np, h⟩ := Int.eq_ofNat_of_zero_le (a := l[i].pt) (by omega)
    exact ⟨np, by omega, h⟩
   have key := X5x hlt hq hpt
   rw [hs, Bool.and_true] at key
   have hnp' : (np : Int) < 100 := by omega
   have csh := Di l[i]
   simp only [Qh, Y6, hpt, hs] at csh
   have hnp9 : np ≤ 99 := by omega
   have next : Fw (l.take i) np = false → Uk l[i].id = true → (decide (i = 0) || decide ((l[i - 1]'(by omega)).id < l[i].id)) = true → ∀ j (hj : j < l.length), j < i + 1 → okS (l.take j) l[j] = true := fun h1 h2 h3 j hj hji => by
    by_cases h : j = i
    ·subst h; rw [key, h1, h2, h3]; rfl
    ·exact hq j hj (by omega)
   by_cases h0 : i = 0
   ·have hd0 : decide ((i : Int) > 0) = false := decide_eq_false (by omega)
    rw [decide_eq_true h0, Bool.true_or, Bool.and_true] at key
    repeat' (first | (with_reducible first | refine Vk fun K hK => ?_ | refine V0 ?_ | refine Vb ?_ | refine Vs ?_ | refine Vq (by kernel_rfl) ?_) | ((with_reducible first | refine gE ?_ | refine gR ?_); simp (maxSteps:=9^7) only [ss, X1, tab, simprocAttr, -List.reduceReplicate, Xi hm, List.length_map, hlt, gi, Qh, Y6, X0, hs, hd0, hpt, hnp, hnp', hnp9, Wj _ np 1 hnp, Kj, hw]) | ((with_reducible refine Vz ?_); refine Vo rfl rfl rfl (fun _ _ => rfl) ?_ <;> first | rfl | (rw [Kr hlt (by rw [key]; simp_all)]; rfl) | skip) | (refine X3 (Wh _) ?_) | (refine X3 (csh) ?_) | ((with_reducible refine Vg (fun hg => ?_) (fun hg => ?_)) <;> (try simp only [nb] at hg) <;> simp (maxSteps:=9^7) only [ss, X1, tab, simprocAttr, -List.reduceReplicate, hg, Xi hm, List.length_map, hlt, gi, Qh, Y6, X0, hs, hd0, hpt, hnp, hnp', hnp9, Wj _ np 1 hnp, Kj, hw]) | (refine hK _ ?_; clear hK K) | refine Vt rfl ?_ | refine Vi rfl (fun hg => ?_) (fun hg => ?_) | clear hK K)
    rw [So l i hlt np hnp hpt hg]
    refine ⟨i + 1, ⟨by omega, next hg (by simp_all) (by simp [h0])⟩, by omega, ?_⟩
    refine Xx [true, false, false, false, false] (fun n_ => ?_) (fun n_ => ?_) <;> simp only [X4, sm]
   ·have hd0 : decide ((i : Int) > 0) = true := decide_eq_true (by omega)
    have hs1 := X25 (n := i) 1 1 rfl (by omega) (by omega)
    have hl1 : i - 1 < l.length := by omega
    have g1 := Xg Y6 l (i - 1) [] hl1
    rw [decide_eq_false h0, Bool.false_or] at key
    repeat' (first | (with_reducible first | refine Vk fun K hK => ?_ | refine V0 ?_ | refine Vb ?_ | refine Vs ?_ | refine Vq (by kernel_rfl) ?_) | ((with_reducible first | refine gE ?_ | refine gR ?_); simp (maxSteps:=9^7) only [ss, X1, tab, simprocAttr, -List.reduceReplicate, Xi hm, List.length_map, hlt, gi, Qh, Y6, X0, hs, hd0, hs1, hl1, g1, hpt, hnp, hnp', hnp9, Wj _ np 1 hnp, Kj, hw]) | ((with_reducible refine Vz ?_); refine Vo rfl rfl rfl (fun _ _ => rfl) ?_ <;> first | rfl | (rw [Kr hlt (by rw [key]; simp at *; first | (simp_all; done) | (intros; omega))]; rfl) | skip) | (refine X3 (Wh _) ?_) | (refine X3 (csh) ?_) | ((with_reducible refine Vg (fun hg => ?_) (fun hg => ?_)) <;> (try simp only [nb] at hg) <;> simp (maxSteps:=9^7) only [ss, X1, tab, simprocAttr, -List.reduceReplicate, hg, Xi hm, List.length_map, hlt, gi, Qh, Y6, X0, hs, hd0, hs1, hl1, g1, hpt, hnp, hnp', hnp9, Wj _ np 1 hnp, Kj, hw]) | (refine hK _ ?_; clear hK K) | refine Vt rfl ?_ | refine Vi rfl (fun hg => ?_) (fun hg => ?_) | clear hK K)
    rw [So l i hlt np hnp hpt hg]
    refine ⟨i + 1, ⟨by omega, next hg (by simp_all) (by simp at *; omega)⟩, by omega, ?_⟩
    refine Xx [true, false, false, false, false] (fun n_ => ?_) (fun n_ => ?_) <;> simp only [X4, sm]
 ·obtain rfl : i = l.length := by omega
  have hok : ∀ j (hj : j < l.length), okS (l.take j) l[j] = true := fun j hj => hq j hj hj
  have hr := Sp hok
  clear hq
  repeat' (first | (with_reducible first | refine Vk fun K hK => ?_ | refine V0 ?_) | ((with_reducible refine gE ?_); simp (maxSteps:=9^7) only [ss, X1, tab, simprocAttr, -List.reduceReplicate, List.length_map, hlt]) | ((with_reducible refine Vx ?_); simp only [sb, reduceIte, Nat.reduceEqDiff]) | (refine hK _ ?_; clear hK K) | refine Vf rfl ?_ | clear hK K)
  refine Xe ?_
  refine Xl (fun m (i : Nat) => [(62, i64 (i : Int)), (3, .top), (2, .top), (7, .top), (8, .top), (9, .top), (10, .top), (11, .top), (12, .top), (63, .top), (64, .top), (65, .top), (66, .top), (67, .top), (68, .top), (69, .top), (70, .top), (71, .top), (72, .top), (73, .top), (74, .top), (75, .top), (76, .top), (77, .top), (78, .top), (79, .top), (80, .top), (81, .top), (82, .top), (83, .top), (84, .top), (85, .top), (86, .top), (87, .top), (88, .top), (89, .top), (90, .top), (91, .top), (92, .top), (93, .top), (94, .top), (95, .top), (96, .top), (97, .top), (98, .top), (99, .top), (100, .top), (101, .top), (102, .top), (103, .top), (104, .top), (105, .top), (106, .top), (107, .top), (108, .top), (109, .top), (110, .top), (111, .top), (112, .top), (113, .top), (114, .top), (115, .top), (116, .top), (117, .top), (118, .top), (119, .top), (120, .top), (121, .top), (122, .top), (123, .top), (124, .top), (125, .top)]) (fun m i => [some (.box 147 (Mb l)), none, none, none, none]) (fun i => out) (fun i => i ≤ l.length ∧ (∀ j (hj : j < l.length), j < i → ∀ e, e < l[j].ends.length → Yb l l[j] e = true)) (fun i => l.length - i) 0 ⟨Nat.zero_le _, by intros; omega⟩ ?_ fun m i hm hi => ?_
  ·refine X2 ?_ ?_ (by first | rfl | (simp only [List.length_map, List.take_length]; rfl) | simp only [List.length_map, List.take_length]) rfl rfl rfl <;> simp only [X4, sl, List.length_map, List.take_length]
  obtain ⟨hi, hq⟩ := hi
  simp only [X4, s_0, s_s]
  have hw := Yl (n := i) 1 1 rfl (by omega)
  by_cases hlti : i < l.length
  ·have gi := Xg Y6 l i [] hlti
   have hel := he _ (List.getElem_mem hlti)
   have hq0 := hq
   clear hq
   repeat' (first | (with_reducible first | refine Vk fun K hK => ?_ | refine V0 ?_ | refine Vb ?_ | refine Vs ?_) | ((with_reducible refine gE ?_); simp (maxSteps:=9^7) only [ss, X1, tab, simprocAttr, -List.reduceReplicate, Xi hm, List.length_map, hlti, gi, Y6, X0]) | (refine hK _ ?_; clear hK K) | refine Vt rfl ?_)
   refine Xe ?_
   refine Xl (fun m (e : Nat) => [(69, i64 (e : Int)), (7, .ptr (m + 1) 0), (2, .top), (8, .top), (9, .top), (10, .top), (11, .top), (12, .top), (70, .top), (71, .top), (72, .top), (73, .top), (74, .top), (75, .top), (76, .top), (77, .top), (78, .top), (79, .top), (80, .top), (81, .top), (82, .top), (83, .top), (84, .top), (85, .top), (86, .top), (87, .top), (88, .top), (89, .top), (90, .top), (91, .top), (92, .top), (93, .top), (94, .top), (95, .top), (96, .top), (97, .top), (98, .top), (99, .top), (100, .top), (101, .top), (102, .top), (103, .top), (104, .top), (105, .top), (106, .top), (107, .top), (108, .top), (109, .top), (110, .top), (111, .top), (112, .top), (113, .top), (114, .top), (115, .top), (116, .top), (117, .top), (118, .top), (119, .top), (120, .top), (121, .top), (122, .top), (123, .top), (124, .top)]) (fun m e => [some (.box 147 (Mb l)), some (.box 63 [i64 l[i].id, i64 l[i].pt, .sl 2 (l[i].ends.map jnC) .sh]), none, none, none]) (fun e => out) (fun e => e ≤ l[i].ends.length ∧ (∀ e', e' < e → Yb l l[i] e' = true)) (fun e => l[i].ends.length - e) 0 ⟨Nat.zero_le _, by intros; omega⟩ ?_ fun m e hm he => ?_
   ·refine X2 ?_ ?_ rfl rfl rfl rfl <;> simp only [X4, sl]
   obtain ⟨he, hq⟩ := he
   simp only [X4, s_0, s_s]
   have hw2 := Yl (n := e) 1 1 rfl (by omega)
   by_cases hlte : e < l[i].ends.length
   ·obtain ⟨a, b, hj⟩ : ∃ a b, l[i].ends[e] = (a, b) := ⟨_, _, rfl⟩
    have hje := Su (l := l) hlte hj
    have ge := Xg jnC l[i].ends e [] hlte
    have fin : Yb l l[i] e = true → ∀ e', e' < e + 1 → Yb l l[i] e' = true := fun h e' he' => by
     by_cases h' : e' = e
     ·subst h'; exact h
     ·exact hq e' (by omega)
    by_cases h0 : a = 0 ∧ b = 0
    ·have hz : (a == 0 && b == 0) = true := by simp [h0]
     repeat' (first | (with_reducible first | refine Vk fun K hK => ?_ | refine V0 ?_ | refine Vb ?_ | refine Vs ?_ | apply And.intro) | ((with_reducible refine gE ?_); simp (maxSteps:=9^7) only [ss, X1, tab, simprocAttr, -List.reduceReplicate, Xi hm, List.length_map, hlte, ge, jnC, hj, X0, W3, hz, hw2]) | exact Vn | ((with_reducible refine Vx ?_); simp only [sb, reduceIte, Nat.reduceEqDiff]) | (refine hK _ ?_; clear hK K) | refine Vt rfl ?_ | ((first | show Program.eqGuardType _ _ _ = false | show Xs _ _ _ = true | show Program.stoodInHeld _ _ = false); kernel_rfl) | clear hK K)
     refine ⟨e + 1, ⟨by omega, fin (by rw [hje, decide_eq_true h0, Bool.true_or])⟩, by omega, ?_⟩
     refine Xx [true, true, false, false, false] (fun n_ => ?_) (fun n_ => ?_) <;> simp only [X4, sm, hlte, decide_true]
    ·have hz : (a == 0 && b == 0) = false := by rw [Bool.eq_false_iff]; intro h; exact h0 (by simpa using h)
     have ho : decide (a = l[i].id ∧ b = (e : Int)) = (a == l[i].id && b == (e : Int)) := by rw [Bool.eq_iff_iff]; simp
     rw [decide_eq_false h0, Bool.false_or, En hr] at hje
     simp only [ho] at hje
     clear ho
     have cp := X36 l a (by omega) hr
     by_cases hf : Qz l a < l.length ∧ (l.getD (Qz l a) St).id = a
     ·rw [if_pos hf] at hje
      rw [decide_eq_true hf] at cp
      obtain ⟨k, hk⟩ : ∃ k, k = Qz l a := ⟨_, rfl⟩
      rw [← hk] at hf hje cp
      have hkl : k < l.length := hf.1
      have hkg : l.getD k St = l[k] := by simp [List.getD_eq_getElem?_getD, hkl]
      rw [hkg] at hf hje
      have gk := Xg Y6 l k [] hkl
      have hk9 : (k : Int) < (l.length : Int) := by omega
      by_cases hb : 0 ≤ b ∧ b < l[k].ends.length
      ·obtain ⟨nb, rfl⟩ := Int.eq_ofNat_of_zero_le hb.1
       have hnb : nb < l[k].ends.length := by omega
       have gb := Xg jnC l[k].ends nb [] hnb
       have gd : l[k].ends.getD (nb : Int).toNat (0, 0) = l[k].ends[nb] := by simp [List.getD_eq_getElem?_getD, hnb]
       have hb0 : decide ((nb : Int) < 0) = false := decide_eq_false (by omega)
       have hb1 : decide ((nb : Int) ≥ (l[k].ends.length : Int)) = false := decide_eq_false (by omega)
       simp only [gd, X32, decide_eq_true hb.1, decide_eq_true hb.2, Bool.true_and] at hje
       obtain ⟨O, hO⟩ : ∃ O, (a == l[i].id && (nb : Int) == (e : Int)) = O := ⟨_, rfl⟩
       obtain ⟨B, hB⟩ : ∃ B, (l[k].ends[nb].1 == l[i].id && l[k].ends[nb].2 == (e : Int)) = B := ⟨_, rfl⟩
       rw [hO, hB] at hje
       repeat' (first | (with_reducible first | refine Vk fun K hK => ?_ | refine V0 ?_ | refine Vb ?_ | refine Vs ?_ | apply And.intro | refine Vq (by kernel_rfl) ?_) | ((with_reducible first | refine gE ?_ | refine gR ?_); simp (maxSteps:=9^7) only [ss, X1, tab, simprocAttr, -List.reduceReplicate, Xi hm, List.length_map, hlte, ge, jnC, hj, X0, W3, hz, hw2, hkl, gk, Y6, hb0, hb1, hnb, gb, hO, hB]) | exact Vn | ((with_reducible refine Vz ?_); refine Vo rfl rfl rfl (fun _ _ => rfl) ?_ <;> first | rfl | (rw [U2 hlti hlte (by rw [hje]; clear hO hB; simp at *; simp_all)]; rfl) | skip) | (refine X3 (cp) ?_) | ((with_reducible refine Vg (fun hg => ?_) (fun hg => ?_)) <;> (try simp only [nb] at hg) <;> simp (maxSteps:=9^7) only [ss, X1, tab, simprocAttr, -List.reduceReplicate, hg, Xi hm, List.length_map, hlte, ge, jnC, hj, X0, W3, hz, hw2, hkl, gk, Y6, hb0, hb1, hnb, gb, hO, hB]) | (refine hK _ ?_; clear hK K) | refine Vt rfl ?_ | refine Vf rfl ?_ | refine Vi rfl (fun hg => ?_) (fun hg => ?_) | ((first | show Program.eqGuardType _ _ _ = false | show Xs _ _ _ = true | show Program.stoodInHeld _ _ = false); kernel_rfl) | clear hK K)
       refine ⟨e + 1, ⟨by omega, fin (by rw [hje]; clear hO hB; simp at *; simp_all)⟩, by omega, ?_⟩
       refine Xx [true, true, false, false, false] (fun n_ => ?_) (fun n_ => ?_) <;> simp only [X4, sm, hlte, decide_true]
      ·have hb2 : (decide (0 ≤ b) && decide (b < (l[k].ends.length : Int))) = false := by rw [Bool.eq_false_iff]; intro h; exact hb (by simpa using h)
       dsimp only at hje
       rw [hb2, Bool.false_and, Bool.false_and] at hje
       repeat' (first | (with_reducible first | refine Vk fun K hK => ?_ | refine V0 ?_ | refine Vb ?_ | refine Vs ?_ | apply And.intro | refine Vq (by kernel_rfl) ?_) | ((with_reducible first | refine gE ?_ | refine gR ?_); simp (maxSteps:=9^7) only [ss, X1, tab, simprocAttr, -List.reduceReplicate, Xi hm, List.length_map, hlte, ge, jnC, hj, X0, W3, hz, hw2, hkl, gk, Y6]) | exact Vn | ((with_reducible refine Vz ?_); refine Vo rfl rfl rfl (fun _ _ => rfl) ?_ <;> first | rfl | (rw [U2 hlti hlte hje]; rfl) | skip) | (refine X3 (cp) ?_) | ((with_reducible refine Vg (fun hg => ?_) (fun hg => ?_)) <;> (try simp only [nb] at hg) <;> simp (maxSteps:=9^7) only [ss, X1, tab, simprocAttr, -List.reduceReplicate, hg, Xi hm, List.length_map, hlte, ge, jnC, hj, X0, W3, hz, hw2, hkl, gk, Y6]) | (refine hK _ ?_; clear hK K) | refine Vt rfl ?_ | refine Vf rfl ?_ | ((first | show Program.eqGuardType _ _ _ = false | show Xs _ _ _ = true | show Program.stoodInHeld _ _ = false); kernel_rfl) | clear hK K)
       all_goals (exfalso; simp at *; omega)
     ·rw [if_neg hf] at hje
      rw [decide_eq_false hf] at cp
      have hje' : Yb l l[i] e = false := hje
      repeat' (first | (with_reducible first | refine Vk fun K hK => ?_ | refine V0 ?_ | refine Vb ?_ | refine Vs ?_ | apply And.intro | refine Vq (by kernel_rfl) ?_) | ((with_reducible first | refine gE ?_ | refine gR ?_); simp (maxSteps:=9^7) only [ss, X1, tab, simprocAttr, -List.reduceReplicate, Xi hm, List.length_map, hlte, ge, jnC, hj, X0, W3, hz, hw2]) | exact Vn | ((with_reducible refine Vz ?_); refine Vo rfl rfl rfl (fun _ _ => rfl) ?_ <;> first | rfl | (rw [U2 hlti hlte hje']; rfl) | skip) | (refine X3 (cp) ?_) | (refine hK _ ?_; clear hK K) | refine Vt rfl ?_ | refine Vf rfl ?_ | ((first | show Program.eqGuardType _ _ _ = false | show Xs _ _ _ = true | show Program.stoodInHeld _ _ = false); kernel_rfl))
   ·obtain rfl : e = l[i].ends.length := by omega
    repeat' (first | (with_reducible first | refine Vk fun K hK => ?_ | refine V0 ?_) | ((with_reducible refine gE ?_); simp (maxSteps:=9^7) only [ss, X1, tab, simprocAttr, -List.reduceReplicate, Xi hm, List.length_map, hlte, hw]) | ((with_reducible refine Vx ?_); simp only [sb, reduceIte, Nat.reduceEqDiff]) | (refine hK _ ?_; clear hK K) | refine Vf rfl ?_ | clear hK K)
    refine ⟨i + 1, ⟨by omega, fun j hj hji => ?_⟩, by omega, ?_⟩
    ·by_cases h : j = i
     ·subst h; exact hq
     ·exact hq0 j hj (by omega)
    refine Xx [true, false, false, false, false] (fun n_ => ?_) (fun n_ => ?_) <;> simp only [X4, sm, hlti, decide_true]
  ·obtain rfl : i = l.length := by omega
   have hmay := Sw hl16 hok fun j hj => hq j hj hj
   repeat' (first | (with_reducible first | refine Vk fun K hK => ?_ | refine V0 ?_) | ((with_reducible refine gE ?_); simp (maxSteps:=9^7) only [ss, X1, tab, simprocAttr, -List.reduceReplicate, List.length_map, hlti]) | ((with_reducible refine Vz ?_); refine Vo rfl rfl rfl (fun _ _ => rfl) ?_ <;> first | rfl | (rw [hmay]; rfl) | skip) | ((with_reducible refine Vx ?_); simp only [sb, reduceIte, Nat.reduceEqDiff]) | (refine hK _ ?_; clear hK K) | refine Vf rfl ?_ | clear hK K)
end Go.Proofs.YtgdhnngpfieloaaGreat.Pln
end
section
namespace Go.Proofs.YtgdhnngpfieloaaGreat.Pln
set_option linter.unusedVariables false
set_option linter.unusedSimpArgs false
open Go Go.VS Tab
set_option maxHeartbeats 4000000
set_option maxRecDepth 4000
theorem Kk {l : List Sec} : Uq l = true ↔ l.length ≤ 16 ∧ (∀ i (hi : i < l.length), okS (l.take i) l[i] = true) ∧ ∀ s, s ∈ l → ∀ e, e < s.ends.length → Yb l s e = true := by
 unfold Uq
 rw [Bool.and_eq_true, Bool.and_eq_true, decide_eq_true_eq, Z3, List.all_eq_true, and_assoc]
 refine and_congr_right fun _ => and_congr_right fun _ => ?_
 simp only [List.all_eq_true, List.mem_range]
theorem N3 {l : List Sec} (h : Uq l = true) : Pk l := Sp (Kk.1 h).2.1
theorem U0 {l : List Sec} (h : Uq l = true) {s : Sec} (hs : s ∈ l) : Uk s.id = true ∧ Qc s = true := by
 obtain ⟨i, hi, rfl⟩ := List.getElem_of_mem hs
 have := (Ui hi).1 ((Kk.1 h).2.1 i hi)
 exact ⟨this.1, this.2.1⟩
end Go.Proofs.YtgdhnngpfieloaaGreat.Pln
end
