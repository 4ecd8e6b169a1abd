/-
 Which disks are great.
-/
import Derived.Test.YtjgbbjooeibppaaZGA
import Derived.Test.YtjgbbjooeibppaaZD11
namespace Go.Proofs.Ytjgbbjooeibppaa
set_option linter.unusedVariables false
set_option linter.unusedSimpArgs false
open Go Go.VS Tab
set_option maxHeartbeats 2000000
set_option maxRecDepth 4000
def acc (l : List Nat) (s i : Nat) : Nat := s + (l.take i).sum
theorem Xjw (l : List Nat) (s i : Nat) (h : i < l.length) : acc l s (i + 1) = acc l s i + l[i] := by
 rw [acc, acc, List.take_succ_eq_append_getElem h, List.sum_append]; simp; omega
theorem Xk9 {l : List Nat} {s i : Nat} (h : i < l.length) (hn : acc l s i ≤ 200000) (hq : Xiu l s = Xiu (l.drop i) (acc l s i)) : Xiu l s = Xiu (l.drop (i + 1)) (acc l s (i + 1)) := by
 rw [hq, List.drop_eq_getElem_cons h, Xiu, if_pos hn, Xjw l s i h]
theorem Xl6 : ∀ (l : List Nat) (s : Nat), s ≤ 281474976910656 → (∀ x, x ∈ l → x ≤ 140737488351232) → Xiu l s ≤ 281474976910656
 | [], s, h, _ => h
 | x :: l, s, h, hx => by
  rw [Xiu]
  split
  ·exact Xl6 l _ (by have := hx x (by simp); omega) fun y hy => hx y (by simp [hy])
  ·exact h
def Xiv : Nat := 140737488351232
theorem Xn5 (d : Dsk) (h1 : d.sectors.length ≤ Xiv) (h2 : d.waits.length ≤ Xiv) (h3 : ∀ b, b ∈ d.sectors → b.length ≤ Xiv) (h4 : ∀ w, w ∈ d.waits → w.data.length ≤ Xiv) : Xr Try.prog 11 [A2 d] [] (bool (Xjd d)) [] := by
 unfold Xiv at *
 refine Xc 1 Try.func11 rfl fun n out _ _ => ?_
 simp only [Try.ntmps11, List.length_cons, List.length_nil, List.length_map, List.length_replicate, Xf, Nat.reduceAdd, Nat.reduceSub, List.replicate, List.cons_append, List.nil_append]
 obtain ⟨sle, hsl⟩ : ∃ sle, sle = d.sectors.map List.length := ⟨_, rfl⟩
 obtain ⟨wl, hwl⟩ : ∃ wl, wl = d.waits.map fun w => w.data.length := ⟨_, rfl⟩
 have hsn : sle.length = d.sectors.length := by rw [hsl, List.length_map]
 have hwn : wl.length = d.waits.length := by rw [hwl, List.length_map]
 obtain ⟨s0, hs0⟩ : ∃ s0, s0 = d.sectors.length + d.waits.length := ⟨_, rfl⟩
 refine X9 fun K hK => Xn Xj [] ?_
 simp (maxSteps:=9^7) only [ss, X1, tab, simprocAttr, -List.reduceReplicate, A2, Xha]
 repeat' (first | (with_reducible refine hK _ ?_; clear hK K) | with_reducible apply And.intro)
 refine X9 fun K hK => Xn Xj [] ?_
 simp (maxSteps:=9^7) only [ss, X1, tab, simprocAttr, -List.reduceReplicate, List.length_map, Yl (n := d.sectors.length) (d.waits.length : Int) d.waits.length rfl (by omega)]
 repeat' (first | (with_reducible refine hK _ ?_; clear hK K) | with_reducible apply And.intro)
 rw [← hs0]
 refine X9 fun KB hKB => ?_
 refine X9 fun K hK => Xn Xj [] ?_
 simp (maxSteps:=9^7) only [ss, X1, tab, simprocAttr, -List.reduceReplicate]
 repeat' (first | (with_reducible refine hK _ ?_; clear hK K) | with_reducible apply And.intro)
 refine Wf [(3, i64 ((Xiu sle s0 : Nat) : Int)), (4, .top), (13, .top), (14, .top), (15, .top), (16, .top), (17, .top), (18, .top), (19, .top), (20, .top), (21, .top), (22, .top), (23, .top), (24, .top), (25, .top), (26, .top), (27, .top), (28, .top), (29, .top), (30, .top), (31, .top)] [some (.box 43 [.sl 1 (d.sectors.map Y6) .sh, .sl 2 (d.waits.map wrC) .sh])] out (id ?_) (Xz (fun i : Nat => [(3, i64 ((acc sle s0 i : Nat) : Int)), (4, i64 (i : Int)), (13, .top), (14, .top), (15, .top), (16, .top), (17, .top), (18, .top), (19, .top), (20, .top), (21, .top), (22, .top), (23, .top), (24, .top), (25, .top), (26, .top), (27, .top), (28, .top), (29, .top), (30, .top), (31, .top)]) (fun i => [some (.box 43 [.sl 1 (d.sectors.map Y6) .sh, .sl 2 (d.waits.map wrC) .sh])]) (fun i => out) (fun i => i ≤ d.sectors.length ∧ Xiu sle s0 = Xiu (sle.drop i) (acc sle s0 i)) (fun i => d.sectors.length - i) 0 ⟨Nat.zero_le _, ?_⟩ ?_ fun i hi => ?_)
 rotate_left
 ·rw [List.drop_zero, acc, List.take_zero]; rfl
 ·refine Rt ?_ ?_ rfl rfl rfl rfl <;> simp only [E1, sl, Xha, acc, List.take_zero, List.sum_nil, Nat.add_zero]
 ·obtain ⟨hi, hq⟩ := hi
  simp only [E1, s_0, s_s]
  refine X9 fun KC hKC => ?_
  by_cases hlt : i < d.sectors.length
  ·have hg : ∀ h, sle[i]'h = (d.sectors[i]).length := fun h => by simp [hsl]
   have e1 : decide ((i : Int) < (d.sectors.length : Int)) = true := decide_eq_true (by omega)
   by_cases hn : acc sle s0 i ≤ 200000
   ·have e2 : decide (((acc sle s0 i : Nat) : Int) ≤ 200000) = true := decide_eq_true (by omega)
    have hb := h3 _ (List.getElem_mem hlt)
    refine X9 fun K hK => Xn Xj [] ?_
    simp (maxSteps:=9^7) only [ss, X1, tab, simprocAttr, -List.reduceReplicate, Xha, List.length_map, hlt, e2]
    repeat' (first | (with_reducible refine hK _ ?_; clear hK K) | with_reducible apply And.intro)
    refine Wm rfl (Z1 (hKC _ ?_))
    clear hKC KC
    refine X9 fun KC hKC => Xe ?_
    refine Xn Xj [] ?_
    simp (maxSteps:=9^7) only [ss, X1, tab, simprocAttr, -List.reduceReplicate, hlt, List.length_map, Xg Y6 d.sectors i [] hlt, Y6, Sm, hg, Yl (n := acc sle s0 i) ((d.sectors[i]).length : Int) (d.sectors[i]).length rfl (by omega)]
    refine hKC _ ?_
    clear hKC KC
    refine Xn Xj [] ?_
    simp (maxSteps:=9^7) only [ss, X1, tab, simprocAttr, -List.reduceReplicate, Yl (n := i) 1 1 rfl (by omega)]
    refine ⟨i + 1, ⟨by omega, Xk9 (by omega) hn hq⟩, by omega, ?_⟩
    rw [Xjw sle s0 i (by omega), hg]
    refine Rt ?_ ?_ rfl rfl rfl rfl <;> simp only [E1, sl]
   ·have e2 : decide (((acc sle s0 i : Nat) : Int) ≤ 200000) = false := decide_eq_false (by omega)
    refine X9 fun K hK => Xn Xj [] ?_
    simp (maxSteps:=9^7) only [ss, X1, tab, simprocAttr, -List.reduceReplicate, Xha, List.length_map, hlt, e2]
    repeat' (first | (with_reducible refine hK _ ?_; clear hK K) | with_reducible apply And.intro)
    refine Uy rfl (Qi ?_)
    rw [hq, Xl5 _ hn]
    simp only [Qd, Z4, if_true]
    refine .inl ⟨by trivial, ?_⟩
    refine Rt ?_ ?_ rfl rfl rfl rfl <;> simp only [E1, sl]
  ·have hil : i = d.sectors.length := by omega
   refine X9 fun K hK => Xn Xj [] ?_
   simp (maxSteps:=9^7) only [ss, X1, tab, simprocAttr, -List.reduceReplicate, Xha, List.length_map, hlt]
   repeat' (first | (with_reducible refine hK _ ?_; clear hK K) | with_reducible apply And.intro)
   refine Uy rfl (Qi ?_)
   rw [hq, List.drop_of_length_le (by omega), Xiu]
   simp only [Qd, Z4, if_true]
   refine .inl ⟨by trivial, ?_⟩
   refine Rt ?_ ?_ rfl rfl rfl rfl <;> simp only [E1, sl]
 refine hKB _ ?_
 clear hKB KB
 simp only [E1, s_0, s_s]
 obtain ⟨s1, hs1⟩ : ∃ s1, s1 = Xiu sle s0 := ⟨_, rfl⟩
 rw [← hs1]
 have hb1 : s1 ≤ 281474976910656 := by
  rw [hs1]
  refine Xl6 sle s0 (by omega) fun x hx => ?_
  rw [hsl] at hx
  obtain ⟨b, hb, rfl⟩ := List.mem_map.1 hx
  exact h3 b hb
 refine X9 fun KB hKB => ?_
 refine X9 fun K hK => Xn Xj [] ?_
 simp (maxSteps:=9^7) only [ss, X1, tab, simprocAttr, -List.reduceReplicate]
 repeat' (first | (with_reducible refine hK _ ?_; clear hK K) | with_reducible apply And.intro)
 refine Wf [(3, i64 ((Xiu wl s1 : Nat) : Int)), (5, .top), (32, .top), (33, .top), (34, .top), (35, .top), (36, .top), (37, .top), (38, .top), (39, .top), (40, .top), (41, .top), (42, .top), (43, .top), (44, .top), (45, .top), (46, .top), (47, .top), (48, .top), (49, .top), (50, .top), (51, .top)] [some (.box 43 [.sl 1 (d.sectors.map Y6) .sh, .sl 2 (d.waits.map wrC) .sh])] out (id ?_) (Xz (fun i : Nat => [(3, i64 ((acc wl s1 i : Nat) : Int)), (5, i64 (i : Int)), (32, .top), (33, .top), (34, .top), (35, .top), (36, .top), (37, .top), (38, .top), (39, .top), (40, .top), (41, .top), (42, .top), (43, .top), (44, .top), (45, .top), (46, .top), (47, .top), (48, .top), (49, .top), (50, .top), (51, .top)]) (fun i => [some (.box 43 [.sl 1 (d.sectors.map Y6) .sh, .sl 2 (d.waits.map wrC) .sh])]) (fun i => out) (fun i => i ≤ d.waits.length ∧ Xiu wl s1 = Xiu (wl.drop i) (acc wl s1 i)) (fun i => d.waits.length - i) 0 ⟨Nat.zero_le _, ?_⟩ ?_ fun i hi => ?_)
 rotate_left
 ·rw [List.drop_zero, acc, List.take_zero]; rfl
 ·refine Rt ?_ ?_ rfl rfl rfl rfl <;> simp only [E1, sl, acc, List.take_zero, List.sum_nil, Nat.add_zero]
 ·obtain ⟨hi, hq⟩ := hi
  simp only [E1, s_0, s_s]
  refine X9 fun KC hKC => ?_
  by_cases hlt : i < d.waits.length
  ·have hg : ∀ h, wl[i]'h = (d.waits[i]).data.length := fun h => by simp [hwl]
   by_cases hn : acc wl s1 i ≤ 200000
   ·have e2 : decide (((acc wl s1 i : Nat) : Int) ≤ 200000) = true := decide_eq_true (by omega)
    have hb := h4 _ (List.getElem_mem hlt)
    refine X9 fun K hK => Xn Xj [] ?_
    simp (maxSteps:=9^7) only [ss, X1, tab, simprocAttr, -List.reduceReplicate, List.length_map, hlt, e2]
    repeat' (first | (with_reducible refine hK _ ?_; clear hK K) | with_reducible apply And.intro)
    refine Wm rfl (Z1 (hKC _ ?_))
    clear hKC KC
    refine X9 fun KC hKC => Xe ?_
    refine Xn Xj [] ?_
    simp (maxSteps:=9^7) only [ss, X1, tab, simprocAttr, -List.reduceReplicate, hlt, List.length_map, Xg wrC d.waits i [] hlt, wrC, Sm, Yl (n := acc wl s1 i) ((d.waits[i]).data.length : Int) (d.waits[i]).data.length rfl (by omega)]
    refine hKC _ ?_
    clear hKC KC
    refine Xn Xj [] ?_
    simp (maxSteps:=9^7) only [ss, X1, tab, simprocAttr, -List.reduceReplicate, Yl (n := i) 1 1 rfl (by omega)]
    refine ⟨i + 1, ⟨by omega, Xk9 (by omega) hn hq⟩, by omega, ?_⟩
    rw [Xjw wl s1 i (by omega), hg]
    refine Rt ?_ ?_ rfl rfl rfl rfl <;> simp only [E1, sl]
   ·have e2 : decide (((acc wl s1 i : Nat) : Int) ≤ 200000) = false := decide_eq_false (by omega)
    refine X9 fun K hK => Xn Xj [] ?_
    simp (maxSteps:=9^7) only [ss, X1, tab, simprocAttr, -List.reduceReplicate, List.length_map, hlt, e2]
    repeat' (first | (with_reducible refine hK _ ?_; clear hK K) | with_reducible apply And.intro)
    refine Uy rfl (Qi ?_)
    rw [hq, Xl5 _ hn]
    simp only [Qd, Z4, if_true]
    refine .inl ⟨by trivial, ?_⟩
    refine Rt ?_ ?_ rfl rfl rfl rfl <;> simp only [E1, sl]
  ·have hil : i = d.waits.length := by omega
   refine X9 fun K hK => Xn Xj [] ?_
   simp (maxSteps:=9^7) only [ss, X1, tab, simprocAttr, -List.reduceReplicate, List.length_map, hlt]
   repeat' (first | (with_reducible refine hK _ ?_; clear hK K) | with_reducible apply And.intro)
   refine Uy rfl (Qi ?_)
   rw [hq, List.drop_of_length_le (by omega), Xiu]
   simp only [Qd, Z4, if_true]
   refine .inl ⟨by trivial, ?_⟩
   refine Rt ?_ ?_ rfl rfl rfl rfl <;> simp only [E1, sl]
 refine hKB _ ?_
 clear hKB KB
 simp only [E1, s_0, s_s]
 have hgr : Xjd d = (decide (((Xiu wl s1 : Nat) : Int) > 200000) || decide (((d.sectors.length + d.waits.length : Nat) : Int) > 600)) := by
  rw [Xjd, ← hsl, ← hwl, ← hs0, ← hs1, hs0]
  congr 1
  ·exact decide_eq_decide.2 (by omega)
  ·exact decide_eq_decide.2 (by omega)
 rw [hgr]
 cases hc : decide (((Xiu wl s1 : Nat) : Int) > 200000) with
 | true =>
  refine X9 fun K hK => Xn Xj [] ?_
  simp (maxSteps:=9^7) only [ss, X1, tab, simprocAttr, -List.reduceReplicate, hc]
  repeat' (first | (with_reducible refine hK _ ?_; clear hK K) | with_reducible apply And.intro)
  refine Yd ?_
  exact Qv (.inr rfl) rfl rfl rfl (fun _ _ => rfl) rfl
 | false =>
  refine X9 fun K hK => Xn Xj [] ?_
  simp (maxSteps:=9^7) only [ss, X1, tab, simprocAttr, -List.reduceReplicate, hc, List.length_map, Yl (n := d.sectors.length) (d.waits.length : Int) d.waits.length rfl (by omega)]
  repeat' (first | (with_reducible refine hK _ ?_; clear hK K) | with_reducible apply And.intro)
  refine Yd ?_
  exact Qv (.inr rfl) rfl rfl rfl (fun _ _ => rfl) rfl
end Go.Proofs.Ytjgbbjooeibppaa
