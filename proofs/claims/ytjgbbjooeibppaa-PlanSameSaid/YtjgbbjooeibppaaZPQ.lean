/- The layer of abstract values, joined: PQ. -/
import Derived.Test.YtjgbbjooeibppaaZGA
import Derived.Test.YtjgbbjooeibppaaZPO
import Derived.Test.YtjgbbjooeibppaaZPJ
section
namespace Go.Proofs.Ytjgbbjooeibppaa.Pln
set_option linter.unusedVariables false
set_option linter.unusedSimpArgs false
open Go Go.VS Tab
set_option maxHeartbeats 2000000
set_option maxRecDepth 4000
def Km (l : List Sec) : Bool := (l.take 40).any (fun s => decide (20 < s.ends.length)) || decide (40 < l.length)
theorem Hj {l : List Sec} {i : Nat} (hi : i < l.length) (h4 : i < 40) (h : 20 < l[i].ends.length) : Km l = true := by
 unfold Km
 have : (l.take 40).any (fun s => decide (20 < s.ends.length)) = true := List.any_eq_true.2 ⟨_, Z8 h4 hi, decide_eq_true h⟩
 rw [this]; rfl
theorem Pn {l : List Sec} {i : Nat} (hq : ∀ j (hj : j < l.length), j < i → ¬ 20 < l[j].ends.length) (h : 40 ≤ i ∨ l.length ≤ i) : Km l = decide ((l.length : Int) > 40) := by
 unfold Km
 have : (l.take 40).any (fun s => decide (20 < s.ends.length)) = false := by
  rw [List.any_eq_false]
  intro x hx
  rw [List.mem_take_iff_getElem] at hx
  obtain ⟨j, hj, rfl⟩ := hx
  have := hq j (by omega) (by omega)
  simpa using this
 rw [this, Bool.false_or]
 exact decide_eq_decide.2 (by omega)
theorem Hk (l : List Sec) : Xr Try.prog 31 [P9 l] [] (bool (Km l)) [] := by
 refine Xc 0 Try.func31 rfl fun n out _ _ => ?_
 simp only [Try.ntmps31, List.length_cons, List.length_nil, List.length_map, List.length_replicate, Xf, Nat.reduceAdd, Nat.reduceSub, List.replicate, List.cons_append, List.nil_append]
 repeat' (first | (with_reducible first | refine Vk fun K hK => ?_ | refine V0 ?_) | ((with_reducible refine gE ?_); simp (maxSteps:=9^7) only [ss, X1, tab, simprocAttr, -List.reduceReplicate]) | (refine hK _ ?_; clear hK K))
 refine Xe ?_
 refine Xz (fun i : Nat => [(3, i64 (i : Int)), (2, .top), (4, .top), (5, .top), (6, .top), (7, .top), (8, .top), (9, .top), (10, .top), (11, .top), (12, .top), (13, .top), (14, .top), (15, .top), (16, .top), (17, .top), (18, .top), (19, .top), (20, .top)]) (fun i => []) (fun i => out) (fun i => i ≤ 40 ∧ (∀ j (hj : j < l.length), j < i → ¬ 20 < l[j].ends.length)) (fun i => 40 - i) 0 ⟨Nat.zero_le _, by intros; omega⟩ ?_ fun i hi => ?_
 ·refine X2 ?_ ?_ rfl rfl rfl rfl <;> simp only [X4, sl]
 obtain ⟨hi, hq⟩ := hi
 simp only [X4, s_0, s_s]
 have hw := Yl (n := i) 1 1 rfl (by omega)
 by_cases hlt : i < l.length
 ·have gi := Xg Y6 l i [] hlt
  have hlt' : (i : Int) < (l.length : Int) := by omega
  repeat' (first | (with_reducible first | refine Vk fun K hK => ?_ | refine V0 ?_ | refine Vb ?_ | refine Vs ?_) | ((with_reducible refine gE ?_); simp (maxSteps:=9^7) only [ss, X1, tab, simprocAttr, -List.reduceReplicate, List.length_map, hlt, hlt', gi, Y6, hw]) | ((with_reducible refine Vz ?_); refine Vo rfl rfl rfl (fun _ _ => rfl) ?_ <;> first | rfl | (rw [Hj hlt (by simp at *; omega) (by simp at *; omega)]; rfl) | (rw [Pn hq (by simp at *; omega)]; rfl) | skip) | ((with_reducible refine Vx ?_); simp only [sb, reduceIte, Nat.reduceEqDiff]) | (refine hK _ ?_; clear hK K) | refine Vi rfl (fun hg => ?_) (fun hg => ?_) | clear hK K)
  refine ⟨i + 1, ⟨by simp at *; omega, fun j hj hji => ?_⟩, by simp at *; omega, ?_⟩
  ·by_cases h : j = i
   ·subst h; simp at *; omega
   ·exact hq j hj (by omega)
  refine X2 ?_ ?_ rfl rfl rfl rfl <;> simp only [X4, sl, hlt, decide_true]
 ·have hlt' : ¬ (i : Int) < (l.length : Int) := by omega
  repeat' (first | (with_reducible first | refine Vk fun K hK => ?_ | refine V0 ?_) | ((with_reducible refine gE ?_); simp (maxSteps:=9^7) only [ss, X1, tab, simprocAttr, -List.reduceReplicate, List.length_map, hlt, hlt', hw]) | ((with_reducible refine Vz ?_); refine Vo rfl rfl rfl (fun _ _ => rfl) ?_ <;> first | rfl | (rw [Pn hq (by simp at *; omega)]; rfl) | skip) | ((with_reducible refine Vx ?_); simp only [sb, reduceIte, Nat.reduceEqDiff]) | (refine hK _ ?_; clear hK K) | refine Vf rfl ?_ | clear hK K)
def X08 (r : Rt) : Bool := decide ((r.path.length : Int) > 20) || decide ((r.over.length : Int) > 20) || decide ((r.flanks.length : Int) > 20)
def Lx (p : Pl) : Bool := (p.rts.take 40).any X08 || Km p.secs || decide ((p.pts.length : Int) > 40) || decide ((p.sgs.length : Int) > 40) || decide ((p.rts.length : Int) > 40)
theorem Hl {p : Pl} {i : Nat} (hi : i < p.rts.length) (h4 : i < 40) (h : X08 p.rts[i] = true) : Lx p = true := by
 unfold Lx
 have : (p.rts.take 40).any X08 = true := List.any_eq_true.2 ⟨_, Z8 h4 hi, h⟩
 rw [this]; rfl
theorem Po {p : Pl} {i : Nat} (hq : ∀ j (hj : j < p.rts.length), j < i → X08 p.rts[j] = false) (h : 40 ≤ i ∨ p.rts.length ≤ i) : Lx p = (Km p.secs || decide ((p.pts.length : Int) > 40) || decide ((p.sgs.length : Int) > 40) || decide ((p.rts.length : Int) > 40)) := by
 unfold Lx
 have : (p.rts.take 40).any X08 = false := by
  rw [List.any_eq_false]
  intro x hx
  rw [List.mem_take_iff_getElem] at hx
  obtain ⟨j, hj, rfl⟩ := hx
  rw [hq j (by omega) (by omega)]; decide
 rw [this, Bool.false_or]
theorem X09 (p : Pl) : Xr Try.prog 6 [plA p] [] (bool (Lx p)) [] := by
 have cg := Hk p.secs
 generalize hG : Km p.secs = G at cg
 refine Xc 1 Try.func6 rfl fun n out _ _ => ?_
 simp only [Try.ntmps6, List.length_cons, List.length_nil, List.length_map, List.length_replicate, Xf, Nat.reduceAdd, Nat.reduceSub, List.replicate, List.cons_append, List.nil_append]
 repeat' (first | (with_reducible first | refine Vk fun K hK => ?_ | refine V0 ?_) | ((with_reducible refine gE ?_); simp (maxSteps:=9^7) only [ss, X1, tab, simprocAttr, -List.reduceReplicate, plA, plC]) | (refine hK _ ?_; clear hK K))
 refine Xe ?_
 refine Xz (fun i : Nat => [(3, i64 (i : Int)), (2, .top), (4, .top), (5, .top), (6, .top), (7, .top), (8, .top), (9, .top), (10, .top), (11, .top), (12, .top), (13, .top), (14, .top), (15, .top), (16, .top), (17, .top), (18, .top), (19, .top), (20, .top), (21, .top), (22, .top), (23, .top), (24, .top), (25, .top), (26, .top), (27, .top), (28, .top), (29, .top), (30, .top), (31, .top), (32, .top), (33, .top), (34, .top), (35, .top), (36, .top), (37, .top), (38, .top), (39, .top), (40, .top), (41, .top), (42, .top)]) (fun i => [some (.box 27 (plC p))]) (fun i => out) (fun i => i ≤ 40 ∧ (∀ j (hj : j < p.rts.length), j < i → X08 p.rts[j] = false)) (fun i => 40 - i) 0 ⟨Nat.zero_le _, by intros; omega⟩ ?_ fun i hi => ?_
 ·refine X2 ?_ ?_ (by first | rfl | (simp only [plC]; rfl) | simp only [plC]) rfl rfl rfl <;> simp only [X4, sl, plC]
 obtain ⟨hi, hq⟩ := hi
 simp only [X4, s_0, s_s]
 have hw := Yl (n := i) 1 1 rfl (by omega)
 by_cases hlt : i < p.rts.length
 ·have gi := Xg rtC p.rts i [] hlt
  have hlt' : (i : Int) < (p.rts.length : Int) := by omega
  repeat' (first | (with_reducible first | refine Vk fun K hK => ?_ | refine V0 ?_ | refine Vb ?_ | refine Vs ?_) | ((with_reducible first | refine gE ?_ | refine gR ?_); simp (maxSteps:=9^7) only [ss, X1, tab, simprocAttr, -List.reduceReplicate, plC, List.length_map, hlt, hlt', gi, rtC, hw]) | ((with_reducible refine Vz ?_); refine Vo rfl rfl rfl (fun _ _ => rfl) ?_ <;> first | rfl | (rw [Hl hlt (by simp at *; omega) (by simp [X08] at *; simp_all)]; rfl) | (rw [Po hq (by first | exact .inr (by omega) | (simp at *; omega)), hG]; simp only [g_0, g_s]; refine congrArg VS.bool ?_; clear hq hG cg; first | (simp_all; done) | (simp_all; omega)) | skip) | (refine X3 (cg) ?_) | ((with_reducible refine Vg (fun hg => ?_) (fun hg => ?_)) <;> (try simp only [nb] at hg) <;> simp (maxSteps:=9^7) only [ss, X1, tab, simprocAttr, -List.reduceReplicate, hg, plC, List.length_map, hlt, hlt', gi, rtC, hw]) | ((with_reducible refine Vx ?_); simp only [sb, reduceIte, Nat.reduceEqDiff]) | (refine hK _ ?_; clear hK K) | refine Vt rfl ?_ | refine Vi rfl (fun hg => ?_) (fun hg => ?_) | clear hK K)
  refine ⟨i + 1, ⟨by simp at *; omega, fun j hj hji => ?_⟩, by simp at *; omega, ?_⟩
  ·by_cases h : j = i
   ·subst h; simp [X08] at *; simp_all
   ·exact hq j hj (by omega)
  refine X2 ?_ ?_ rfl rfl rfl rfl <;> simp only [X4, sl, hlt, decide_true]
 ·have hlt' : ¬ (i : Int) < (p.rts.length : Int) := by omega
  repeat' (first | (with_reducible first | refine Vk fun K hK => ?_ | refine V0 ?_) | ((with_reducible first | refine gE ?_ | refine gR ?_); simp (maxSteps:=9^7) only [ss, X1, tab, simprocAttr, -List.reduceReplicate, plC, List.length_map, hlt, hlt', hw]) | ((with_reducible refine Vz ?_); refine Vo rfl rfl rfl (fun _ _ => rfl) ?_ <;> first | rfl | (rw [Po hq (by first | exact .inr (by omega) | (simp at *; omega)), hG]; simp only [g_0, g_s]; refine congrArg VS.bool ?_; clear hq hG cg; first | (simp_all; done) | (simp_all; omega)) | skip) | (refine X3 (cg) ?_) | ((with_reducible refine Vg (fun hg => ?_) (fun hg => ?_)) <;> (try simp only [nb] at hg) <;> simp (maxSteps:=9^7) only [ss, X1, tab, simprocAttr, -List.reduceReplicate, hg, plC, List.length_map, hlt, hlt', hw]) | ((with_reducible refine Vx ?_); simp only [sb, reduceIte, Nat.reduceEqDiff]) | (refine hK _ ?_; clear hK K) | refine Vf rfl ?_ | clear hK K)
end Go.Proofs.Ytjgbbjooeibppaa.Pln
end
section
namespace Go.Proofs.Ytjgbbjooeibppaa.Pln
set_option linter.unusedVariables false
set_option linter.unusedSimpArgs false
open Go Go.VS Tab
set_option maxHeartbeats 2000000
theorem X0a {p : Pl} (h : Lx p = false) : Sm p := by
 unfold Lx at h
 simp only [Bool.or_eq_false_iff, decide_eq_false_iff_not] at h
 obtain ⟨⟨⟨⟨h1, h2⟩, h3⟩, h4⟩, h5⟩ := h
 unfold Km at h2
 rw [Bool.or_eq_false_iff, decide_eq_false_iff_not, List.any_eq_false] at h2
 have h6 : p.secs.length ≤ 40 := by omega
 refine ⟨h6, fun s hs => ?_, by omega, by omega, by omega, fun r hr => ?_⟩
 ·have := h2.1 s (by rw [List.take_of_length_le h6]; exact hs)
  simpa using this
 ·rw [List.any_eq_false] at h1
  have := h1 r (by rw [List.take_of_length_le (by omega)]; exact hr)
  simp [X08] at this
  omega
end Go.Proofs.Ytjgbbjooeibppaa.Pln
end
