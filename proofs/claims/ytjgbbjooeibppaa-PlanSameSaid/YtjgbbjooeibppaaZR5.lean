/-
 The document's answer: routes and plans compared.
-/
import Derived.Test.YtjgbbjooeibppaaZGA
import Derived.Test.YtjgbbjooeibppaaZP9
import Derived.Test.YtjgbbjooeibppaaZP15
import Derived.Test.YtjgbbjooeibppaaZWD
import Derived.Test.YtjgbbjooeibppaaZPS
import Derived.Test.YtjgbbjooeibppaaZPJ
namespace Go.Proofs.Ytjgbbjooeibppaa.Pln
set_option linter.unusedVariables false
set_option linter.unusedSimpArgs false
open Go Go.VS Tab
set_option maxHeartbeats 8000000
set_option maxRecDepth 4000
def Ks (a b : Rt) : Bool := a.id == b.id && (a.entry == b.entry && (a.ex == b.ex && (a.timer == b.timer && (a.path == b.path && (a.over == b.over && a.flanks == b.flanks)))))
theorem Sx {a b : Rt} : Ks a b = true ↔ a = b := by
 unfold Ks
 simp only [Bool.and_eq_true, beq_iff_eq]
 constructor
 ·rintro ⟨h1, h2, h3, h4, h5, h6, h7⟩
  cases a; cases b; simp only at *; subst h1 h2 h3 h4 h5 h6 h7; rfl
 ·rintro rfl; exact ⟨rfl, rfl, rfl, rfl, rfl, rfl, rfl⟩
theorem X0l (a b : Rt) (ha : a.path.length ≤ 1000000 ∧ a.over.length ≤ 1000000 ∧ a.flanks.length ≤ 1000000) : Xr Try.prog 48 [rtA a, rtA b] [] (bool (Ks a b)) [] := by
 obtain ⟨l1, l2, l3⟩ := ha
 have c1 := H1 a.path b.path l1
 have c2 := H1 a.over b.over l2
 by_cases hh : a.id = b.id ∧ a.entry = b.entry ∧ a.ex = b.ex ∧ a.timer = b.timer ∧ a.path = b.path ∧ a.over = b.over ∧ a.flanks.length = b.flanks.length
 ·obtain ⟨h1, h2, h3, h4, h5, h6, h7⟩ := hh
  have e1 : (a.id != b.id) = false := by simp [h1]
  have e2 : (a.entry != b.entry) = false := by simp [h2]
  have e3 : (a.ex != b.ex) = false := by simp [h3]
  have e4 : (a.timer != b.timer) = false := by simp [h4]
  have e5 : (a.path == b.path) = true := by simp [h5]
  have e6 : (a.over == b.over) = true := by simp [h6]
  have e7 : ((a.flanks.length : Int) != (b.flanks.length : Int)) = false := by simp [h7]
  have hS : Ks a b = (a.flanks == b.flanks) := by unfold Ks; simp [h1, h2, h3, h4, h5, h6]
  rw [e5] at c1
  rw [e6] at c2
  clear h1 h2 h3 h4 h5 h6
  rw [hS]
  refine Xc 2 Try.func48 rfl fun n out _ _ => ?_
  simp only [Try.ntmps48, List.length_cons, List.length_nil, List.length_map, List.length_replicate, Xf, Nat.reduceAdd, Nat.reduceSub, List.replicate, List.cons_append, List.nil_append]
  repeat' (first | (with_reducible first | refine Vk fun K hK => ?_ | refine V0 ?_ | refine Vs ?_) | ((with_reducible first | refine gE ?_ | refine gR ?_); simp (maxSteps:=9^7) only [ss, X1, tab, simprocAttr, -List.reduceReplicate, rtA, rtC, List.length_map, e1, e2, e3, e4, e7, Bool.not_true]) | (refine X3 (c1) ?_) | (refine X3 (c2) ?_) | (refine hK _ ?_; clear hK K) | refine Vf rfl ?_)
  refine Xe ?_
  refine Xl (fun m (i : Nat) => [(5, i64 (i : Int)), (2, .ptr (m + 0) 0), (3, .ptr (m + 1) 0), (4, .top), (57, .top), (58, .top), (59, .top), (60, .top), (61, .top), (62, .top), (63, .top), (64, .top), (65, .top), (66, .top), (67, .top), (68, .top), (69, .top), (70, .top), (71, .top), (72, .top), (73, .top), (74, .top)]) (fun m i => [some (.box 34 (rtC a)), some (.box 34 (rtC b))]) (fun i => out) (fun i => i ≤ a.flanks.length ∧ (∀ j (hj : j < a.flanks.length) (hj' : j < b.flanks.length), j < i → a.flanks[j] = b.flanks[j])) (fun i => a.flanks.length - i) 0 ⟨Nat.zero_le _, by intros; omega⟩ ?_ fun m i hm hi => ?_
  ·refine X2 ?_ ?_ (by first | rfl | (simp only [rtC]; rfl) | simp only [rtC]) rfl rfl rfl <;> simp only [X4, sl, rtC]
  obtain ⟨hi, hq⟩ := hi
  simp only [X4, s_0, s_s]
  have hw := Yl (n := i) 1 1 rfl (by omega)
  by_cases hlt : i < a.flanks.length
  ·have hlt' : i < b.flanks.length := by omega
   have ga := Xg jnC a.flanks i [] hlt
   have gb := Xg jnC b.flanks i [] hlt'
   repeat' (first | (with_reducible first | refine Vk fun K hK => ?_ | refine V0 ?_ | refine Vb ?_ | refine Vs ?_ | apply And.intro | refine Vq (by kernel_rfl) ?_) | ((with_reducible refine gE ?_); simp (maxSteps:=9^7) only [ss, X1, tab, simprocAttr, -List.reduceReplicate, Xi hm, rtC, jnC, List.length_map, hlt, hlt', ga, gb, X0, Lj, hw]) | exact Vn | ((with_reducible refine Vz ?_); refine Vo rfl rfl rfl (fun _ _ => rfl) ?_ <;> first | rfl | (rw [Ut hlt hlt' (by simpa using hg)]; rfl) | skip) | (refine hK _ ?_; clear hK K) | refine Vt rfl ?_ | refine Vi rfl (fun hg => ?_) (fun hg => ?_) | ((first | show Program.eqGuardType _ _ _ = false | show Xs _ _ _ = true | show Program.stoodInHeld _ _ = false); kernel_rfl) | clear hK K)
   refine ⟨i + 1, ⟨by omega, fun j hj hj' hji => ?_⟩, by omega, ?_⟩
   ·by_cases h : j = i
    ·subst h; simpa using hg
    ·exact hq j hj hj' (by omega)
   refine Xx [true, true] (fun n_ => ?_) (fun n_ => ?_) <;> simp only [X4, sm, rtC, hlt, decide_true]
  ·have e := Ua (l := a.flanks) (m := b.flanks) h7 fun j hj hj' => hq j hj hj' (by omega)
   repeat' (first | (with_reducible first | refine Vk fun K hK => ?_ | refine V0 ?_) | ((with_reducible refine gE ?_); simp (maxSteps:=9^7) only [ss, X1, tab, simprocAttr, -List.reduceReplicate, Xi hm, rtC, List.length_map, hlt, X0]) | ((with_reducible refine Vz ?_); refine Vo rfl rfl rfl (fun _ _ => rfl) ?_ <;> first | rfl | (rw [e]; rfl) | skip) | ((with_reducible refine Vx ?_); simp only [sb, reduceIte, Nat.reduceEqDiff]) | (refine hK _ ?_; clear hK K) | refine Vf rfl ?_ | clear hK K)
 ·have hS : Ks a b = false := by
   rw [Bool.eq_false_iff]
   intro h
   obtain rfl := Sx.1 h
   exact hh ⟨rfl, rfl, rfl, rfl, rfl, rfl, rfl⟩
  rw [hS]
  generalize hP : (a.path == b.path) = P at c1
  generalize hO : (a.over == b.over) = O at c2
  refine Xc 2 Try.func48 rfl fun n out _ _ => ?_
  simp only [Try.ntmps48, List.length_cons, List.length_nil, List.length_map, List.length_replicate, Xf, Nat.reduceAdd, Nat.reduceSub, List.replicate, List.cons_append, List.nil_append]
  repeat' (first | (with_reducible first | refine Vk fun K hK => ?_ | refine V0 ?_ | refine Vs ?_) | ((with_reducible first | refine gE ?_ | refine gR ?_); simp (maxSteps:=9^7) only [ss, X1, tab, simprocAttr, -List.reduceReplicate, rtA, rtC, List.length_map]) | ((with_reducible refine Vz ?_); refine Vo rfl rfl rfl (fun _ _ => rfl) ?_ <;> first | rfl | skip) | (refine X3 (c1) ?_) | (refine X3 (c2) ?_) | ((with_reducible refine Vg (fun hg => ?_) (fun hg => ?_)) <;> (try simp only [nb] at hg) <;> simp (maxSteps:=9^7) only [ss, X1, tab, simprocAttr, -List.reduceReplicate, hg, rtA, rtC, List.length_map]) | (refine hK _ ?_; clear hK K) | refine Vt rfl ?_ | refine Vi rfl (fun hg => ?_) (fun hg => ?_))
  all_goals (exfalso; refine hh ?_; simp at *; exact ⟨by assumption, by assumption, by assumption, by assumption, by simp_all, by simp_all, by omega⟩)
def Sy (a b : Pl) : Bool := a.ver == b.ver && (a.par == b.par && (Lw a.secs b.secs && (a.pts == b.pts && (a.sgs == b.sgs && Fv Ks a.rts b.rts))))
theorem Pq (p : Pl) : Sy p p = true := by
 unfold Sy
 rw [Bp, W2 (p := Ks) rfl fun i hi _ => Sx.2 rfl]
 simp
theorem Du (a b : Pl) (ha : Sm a) : Xr Try.prog 9 [plA a, plA b] [] (bool (Sy a b)) [] := by
 have c1 := H5 a.secs b.secs (by have := ha.secs; omega) fun s h => by have := ha.ends s h; omega
 have l1 := ha.pts
 have l2 := ha.sgs
 have l3 := ha.rts
 by_cases hh : a.ver = b.ver ∧ a.par = b.par ∧ Lw a.secs b.secs = true ∧ a.pts.length = b.pts.length ∧ a.sgs.length = b.sgs.length ∧ a.rts.length = b.rts.length
 ·obtain ⟨h1, h2, h3, h4, h5, h6⟩ := hh
  have e1 : (a.ver != b.ver) = false := by simp [h1]
  have e2 : (a.par != b.par) = false := by simp [h2]
  have e4 : ((a.pts.length : Int) != (b.pts.length : Int)) = false := by simp [h4]
  have e5 : ((a.sgs.length : Int) != (b.sgs.length : Int)) = false := by simp [h5]
  have e6 : ((a.rts.length : Int) != (b.rts.length : Int)) = false := by simp [h6]
  rw [h3] at c1
  obtain ⟨B, hB⟩ : ∃ B, B = Sy a b := ⟨_, rfl⟩
  have hS : Sy a b = (a.pts == b.pts && (a.sgs == b.sgs && Fv Ks a.rts b.rts)) := by unfold Sy; simp [h1, h2, h3]
  rw [← hB] at hS ⊢
  have badP : ∀ i (hi : i < a.pts.length) (hi' : i < b.pts.length), a.pts[i] ≠ b.pts[i] → B = false := fun i hi hi' h => by rw [hS, Ut hi hi' h]; rfl
  have badG : ∀ i (hi : i < a.sgs.length) (hi' : i < b.sgs.length), a.sgs[i] ≠ b.sgs[i] → B = false := fun i hi hi' h => by rw [hS, Ut hi hi' h]; simp
  have X0c : ∀ i (hi : i < a.rts.length) (hi' : i < b.rts.length), Ks a.rts[i] b.rts[i] = false → B = false := fun i hi hi' h => by rw [hS, Lk hi hi' h]; simp
  have cR := fun i (hi : i < a.rts.length) (hi' : i < b.rts.length) => X0l a.rts[i] b.rts[i] (by obtain ⟨x, y, z⟩ := ha.rt _ (List.getElem_mem hi); omega)
  simp only [rtA, rtC] at cR
  clear hB
  refine Xc 2 Try.func9 rfl fun n out _ _ => ?_
  simp only [Try.ntmps9, List.length_cons, List.length_nil, List.length_map, List.length_replicate, Xf, Nat.reduceAdd, Nat.reduceSub, List.replicate, List.cons_append, List.nil_append]
  repeat' (first | (with_reducible first | refine Vk fun K hK => ?_ | refine V0 ?_ | refine Vs ?_) | ((with_reducible first | refine gE ?_ | refine gR ?_); simp (maxSteps:=9^7) only [ss, X1, tab, simprocAttr, -List.reduceReplicate, plA, plC, List.length_map, e1, e2, e4, e5, e6, Bool.not_true]) | (refine X3 (c1) ?_) | (refine hK _ ?_; clear hK K) | refine Vf rfl ?_)
  refine Xe ?_
  refine Xl (fun m (i : Nat) => [(5, i64 (i : Int)), (2, .ptr (m + 0) 0), (3, .ptr (m + 1) 0), (4, .top), (55, .top), (56, .top), (57, .top), (58, .top), (59, .top), (60, .top), (61, .top), (62, .top), (63, .top), (64, .top), (65, .top), (66, .top), (67, .top), (68, .top), (69, .top), (70, .top), (71, .top), (72, .top)]) (fun m i => [some (.box 27 (plC a)), some (.box 27 (plC b))]) (fun i => out) (fun i => i ≤ a.pts.length ∧ (∀ j (hj : j < a.pts.length) (hj' : j < b.pts.length), j < i → a.pts[j] = b.pts[j])) (fun i => a.pts.length - i) 0 ⟨Nat.zero_le _, by intros; omega⟩ ?_ fun m i hm hi => ?_
  ·refine X2 ?_ ?_ (by first | rfl | (simp only [plC]; rfl) | simp only [plC]) rfl rfl rfl <;> simp only [X4, sl, plC]
  obtain ⟨hi, hq⟩ := hi
  simp only [X4, s_0, s_s]
  have hw := Yl (n := i) 1 1 rfl (by omega)
  by_cases hlt : i < a.pts.length
  ·have hlt' : i < b.pts.length := by omega
   have ga := Xg jnC a.pts i [] hlt
   have gb := Xg jnC b.pts i [] hlt'
   repeat' (first | (with_reducible first | refine Vk fun K hK => ?_ | refine V0 ?_ | refine Vb ?_ | refine Vs ?_ | apply And.intro | refine Vq (by kernel_rfl) ?_) | ((with_reducible refine gE ?_); simp (maxSteps:=9^7) only [ss, X1, tab, simprocAttr, -List.reduceReplicate, Xi hm, plC, jnC, List.length_map, hlt, hlt', ga, gb, X0, Lj, hw]) | exact Vn | ((with_reducible refine Vz ?_); refine Vo rfl rfl rfl (fun _ _ => rfl) ?_ <;> first | rfl | (rw [badP i hlt hlt' (by simpa using hg)]; rfl) | skip) | (refine hK _ ?_; clear hK K) | refine Vt rfl ?_ | refine Vi rfl (fun hg => ?_) (fun hg => ?_) | ((first | show Program.eqGuardType _ _ _ = false | show Xs _ _ _ = true | show Program.stoodInHeld _ _ = false); kernel_rfl) | clear hK K)
   refine ⟨i + 1, ⟨by omega, fun j hj hj' hji => ?_⟩, by omega, ?_⟩
   ·by_cases h : j = i
    ·subst h; simpa using hg
    ·exact hq j hj hj' (by omega)
   refine Xx [true, true] (fun n_ => ?_) (fun n_ => ?_) <;> simp only [X4, sm, plC, hlt, decide_true]
  ·have eP : (a.pts == b.pts) = true := Ua (l := a.pts) (m := b.pts) h4 fun j hj hj' => hq j hj hj' (by omega)
   repeat' (first | (with_reducible first | refine Vk fun K hK => ?_ | refine V0 ?_) | ((with_reducible refine gE ?_); simp (maxSteps:=9^7) only [ss, X1, tab, simprocAttr, -List.reduceReplicate, Xi hm, plC, List.length_map, hlt, X0]) | ((with_reducible refine Vx ?_); simp only [sb, reduceIte, Nat.reduceEqDiff]) | (refine hK _ ?_; clear hK K) | refine Vf rfl ?_ | clear hK K)
   refine Xe ?_
   refine Xl (fun m (i : Nat) => [(6, i64 (i : Int)), (2, .ptr (m + 0) 0), (3, .ptr (m + 1) 0), (4, .top), (73, .top), (74, .top), (75, .top), (76, .top), (77, .top), (78, .top), (79, .top), (80, .top), (81, .top), (82, .top), (83, .top), (84, .top), (85, .top), (86, .top), (87, .top), (88, .top), (89, .top), (90, .top)]) (fun m i => [some (.box 27 (plC a)), some (.box 27 (plC b))]) (fun i => out) (fun i => i ≤ a.sgs.length ∧ (∀ j (hj : j < a.sgs.length) (hj' : j < b.sgs.length), j < i → a.sgs[j] = b.sgs[j])) (fun i => a.sgs.length - i) 0 ⟨Nat.zero_le _, by intros; omega⟩ ?_ fun m i hm hi => ?_
   ·refine X2 ?_ ?_ (by first | rfl | (simp only [plC]; rfl) | simp only [plC]) rfl rfl rfl <;> simp only [X4, sl, plC]
   obtain ⟨hi, hq⟩ := hi
   simp only [X4, s_0, s_s]
   have hw := Yl (n := i) 1 1 rfl (by omega)
   by_cases hlt : i < a.sgs.length
   ·have hlt' : i < b.sgs.length := by omega
    have ga := Xg sgC a.sgs i [] hlt
    have gb := Xg sgC b.sgs i [] hlt'
    repeat' (first | (with_reducible first | refine Vk fun K hK => ?_ | refine V0 ?_ | refine Vb ?_ | refine Vs ?_ | apply And.intro | refine Vq (by kernel_rfl) ?_) | ((with_reducible refine gE ?_); simp (maxSteps:=9^7) only [ss, X1, tab, simprocAttr, -List.reduceReplicate, Xi hm, plC, sgC, List.length_map, hlt, hlt', ga, gb, X0, Js, hw]) | exact Vn | ((with_reducible refine Vz ?_); refine Vo rfl rfl rfl (fun _ _ => rfl) ?_ <;> first | rfl | (rw [badG i hlt hlt' (by simpa using hg)]; rfl) | skip) | (refine hK _ ?_; clear hK K) | refine Vt rfl ?_ | refine Vi rfl (fun hg => ?_) (fun hg => ?_) | ((first | show Program.eqGuardType _ _ _ = false | show Xs _ _ _ = true | show Program.stoodInHeld _ _ = false); kernel_rfl) | clear hK K)
    refine ⟨i + 1, ⟨by omega, fun j hj hj' hji => ?_⟩, by omega, ?_⟩
    ·by_cases h : j = i
     ·subst h; simpa using hg
     ·exact hq j hj hj' (by omega)
    refine Xx [true, true] (fun n_ => ?_) (fun n_ => ?_) <;> simp only [X4, sm, plC, hlt, decide_true]
   ·have eG : (a.sgs == b.sgs) = true := Ua (l := a.sgs) (m := b.sgs) h5 fun j hj hj' => hq j hj hj' (by omega)
    repeat' (first | (with_reducible first | refine Vk fun K hK => ?_ | refine V0 ?_) | ((with_reducible refine gE ?_); simp (maxSteps:=9^7) only [ss, X1, tab, simprocAttr, -List.reduceReplicate, Xi hm, plC, List.length_map, hlt, X0]) | ((with_reducible refine Vx ?_); simp only [sb, reduceIte, Nat.reduceEqDiff]) | (refine hK _ ?_; clear hK K) | refine Vf rfl ?_ | clear hK K)
    refine Xe ?_
    refine Xl (fun m (i : Nat) => [(7, i64 (i : Int)), (2, .ptr (m + 0) 0), (3, .ptr (m + 1) 0), (4, .top), (91, .top), (92, .top), (93, .top), (94, .top), (95, .top), (96, .top), (97, .top), (98, .top), (99, .top), (100, .top), (101, .top), (102, .top), (103, .top), (104, .top), (105, .top), (106, .top), (107, .top), (108, .top), (109, .top)]) (fun m i => [some (.box 27 (plC a)), some (.box 27 (plC b))]) (fun i => out) (fun i => i ≤ a.rts.length ∧ (∀ j (hj : j < a.rts.length) (hj' : j < b.rts.length), j < i → Ks a.rts[j] b.rts[j] = true)) (fun i => a.rts.length - i) 0 ⟨Nat.zero_le _, by intros; omega⟩ ?_ fun m i hm hi => ?_
    ·refine X2 ?_ ?_ (by first | rfl | (simp only [plC]; rfl) | simp only [plC]) rfl rfl rfl <;> simp only [X4, sl, plC]
    obtain ⟨hi, hq⟩ := hi
    simp only [X4, s_0, s_s]
    have hw := Yl (n := i) 1 1 rfl (by omega)
    by_cases hlt : i < a.rts.length
    ·have hlt' : i < b.rts.length := by omega
     have ga := Xg rtC a.rts i [] hlt
     have gb := Xg rtC b.rts i [] hlt'
     have cRi := cR i hlt hlt'
     cases hb : Ks a.rts[i] b.rts[i] with
     | false =>
      rw [hb] at cRi
      repeat' (first | (with_reducible first | refine Vk fun K hK => ?_ | refine V0 ?_ | refine Vb ?_ | refine Vs ?_ | refine Vq (by kernel_rfl) ?_) | ((with_reducible first | refine gE ?_ | refine gR ?_); simp (maxSteps:=9^7) only [ss, X1, tab, simprocAttr, -List.reduceReplicate, Xi hm, plC, rtC, List.length_map, hlt, hlt', ga, gb, X0, hw, Bool.not_false]) | ((with_reducible refine Vz ?_); refine Vo rfl rfl rfl (fun _ _ => rfl) ?_ <;> first | rfl | (rw [X0c i hlt hlt' hb]; rfl) | skip) | (refine X3 (cRi) ?_) | (refine hK _ ?_; clear hK K) | refine Vt rfl ?_)
     | true =>
      rw [hb] at cRi
      repeat' (first | (with_reducible first | refine Vk fun K hK => ?_ | refine V0 ?_ | refine Vb ?_ | refine Vs ?_ | refine Vq (by kernel_rfl) ?_) | ((with_reducible first | refine gE ?_ | refine gR ?_); simp (maxSteps:=9^7) only [ss, X1, tab, simprocAttr, -List.reduceReplicate, Xi hm, plC, rtC, List.length_map, hlt, hlt', ga, gb, X0, hw, Bool.not_true]) | (refine X3 (cRi) ?_) | (refine hK _ ?_; clear hK K) | refine Vt rfl ?_ | refine Vf rfl ?_ | clear hK K)
      refine ⟨i + 1, ⟨by omega, fun j hj hj' hji => ?_⟩, by omega, ?_⟩
      ·by_cases h : j = i
       ·subst h; exact hb
       ·exact hq j hj hj' (by omega)
      refine Xx [true, true] (fun n_ => ?_) (fun n_ => ?_) <;> simp only [X4, sm, plC, hlt, decide_true]
    ·have eR : Fv Ks a.rts b.rts = true := W2 (p := Ks) h6 fun j hj hj' => hq j hj hj' (by omega)
     have hT : B = true := by rw [hS, eP, eG, eR]; rfl
     repeat' (first | (with_reducible first | refine Vk fun K hK => ?_ | refine V0 ?_) | ((with_reducible refine gE ?_); simp (maxSteps:=9^7) only [ss, X1, tab, simprocAttr, -List.reduceReplicate, Xi hm, plC, List.length_map, hlt, X0]) | ((with_reducible refine Vz ?_); refine Vo rfl rfl rfl (fun _ _ => rfl) ?_ <;> first | rfl | (rw [hT]; rfl) | skip) | ((with_reducible refine Vx ?_); simp only [sb, reduceIte, Nat.reduceEqDiff]) | (refine hK _ ?_; clear hK K) | refine Vf rfl ?_ | clear hK K)
 ·have hS : Sy a b = false := by
   rw [Bool.eq_false_iff]
   intro h
   unfold Sy at h
   simp only [Bool.and_eq_true, beq_iff_eq] at h
   obtain ⟨h1, h2, h3, h4, h5, h6⟩ := h
   refine hh ⟨h1, h2, h3, by rw [h4], by rw [h5], ?_⟩
   exact Classical.byContradiction fun hl => by rw [Rj hl] at h6; cases h6
  rw [hS]
  generalize Lw a.secs b.secs = SS at *
  refine Xc 2 Try.func9 rfl fun n out _ _ => ?_
  simp only [Try.ntmps9, List.length_cons, List.length_nil, List.length_map, List.length_replicate, Xf, Nat.reduceAdd, Nat.reduceSub, List.replicate, List.cons_append, List.nil_append]
  repeat' (first | (with_reducible first | refine Vk fun K hK => ?_ | refine V0 ?_ | refine Vs ?_) | ((with_reducible first | refine gE ?_ | refine gR ?_); simp (maxSteps:=9^7) only [ss, X1, tab, simprocAttr, -List.reduceReplicate, plA, plC, List.length_map]) | ((with_reducible refine Vz ?_); refine Vo rfl rfl rfl (fun _ _ => rfl) ?_ <;> first | rfl | skip) | (refine X3 (c1) ?_) | ((with_reducible refine Vg (fun hg => ?_) (fun hg => ?_)) <;> (try simp only [nb] at hg) <;> simp (maxSteps:=9^7) only [ss, X1, tab, simprocAttr, -List.reduceReplicate, hg, plA, plC, List.length_map]) | (refine hK _ ?_; clear hK K) | refine Vt rfl ?_ | refine Vi rfl (fun hg => ?_) (fun hg => ?_))
  all_goals (exfalso; refine hh ?_; simp at *; exact ⟨by simp_all, by simp_all, by simp_all, by omega, by omega, by omega⟩)
end Go.Proofs.Ytjgbbjooeibppaa.Pln
