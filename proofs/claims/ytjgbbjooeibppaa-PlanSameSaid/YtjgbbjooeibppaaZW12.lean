/-
 The document's answer: plans copied.
-/
import Derived.Test.YtjgbbjooeibppaaZGA
import Derived.Test.YtjgbbjooeibppaaZP2
import Derived.WalkKit
import Derived.Lib.Walk
import Derived.Lib.SliceRun
import Derived.Lib.AppendZerosOnto
import Derived.Test.YtjgbbjooeibppaaZPJ
namespace Go.Proofs.Ytjgbbjooeibppaa.Pln
set_option linter.unusedVariables false
set_option linter.unusedSimpArgs false
open Go Go.VS Tab
set_option maxHeartbeats 8000000
set_option maxRecDepth 4000
theorem X91 (s : Sec) (hl : s.ends.length ≤ 1000000) : Xr Try.prog 49 [Qh s] [] (Qh s) [] := by
 refine Xc 2 Try.func49 rfl fun n out _ _ => ?_
 simp only [Try.ntmps49, List.length_cons, List.length_nil, List.length_map, List.length_replicate, Xf, Nat.reduceAdd, Nat.reduceSub, List.replicate, List.cons_append, List.nil_append]
 repeat' (first | (with_reducible first | refine Vk fun K hK => ?_ | refine V0 ?_) | ((with_reducible refine gE ?_); simp (maxSteps:=9^7) only [ss, X1, tab, simprocAttr, -List.reduceReplicate, Qh, Y6, List.length_map, List.length_nil, Nat.zero_add, X0, show s.ends.length * 16 ≤ 140737488355328 by omega, show s.ends.length ≤ 9223372036854775807 by omega]) | ((with_reducible refine Vz ?_); (first | refine Xu (.inr rfl) rfl rfl rfl (fun _ _ => rfl) ok37 (k := n + 1) (off := 0) rfl (Xb _ (by simp)) (X6 _ (Nat.le_refl _) 1) rfl ?_ | refine Xu (.inr rfl) rfl rfl rfl (fun _ _ => rfl) ok37 (k := m + 1) (off := 0) rfl (Xb _ (by simp)) (X6 _ hm 1) rfl ?_) <;> first | rfl | exact AV.le.rfl _ | (simp only [X4, sl, ti37, List.map_nil, Qh, Y6, List.length_map, List.length_nil, Nat.zero_add, X0, show s.ends.length * 16 ≤ 140737488355328 by omega, show s.ends.length ≤ 9223372036854775807 by omega]; done) | rfl | skip) | (refine hK _ ?_; clear hK K))
theorem X92 (r : Rt) (h : r.path.length ≤ 20 ∧ r.over.length ≤ 20 ∧ r.flanks.length ≤ 20) : Xr Try.prog 50 [rtA r] [] (rtA r) [] := by
 obtain ⟨h1, h2, h3⟩ := h
 have a1 : r.path.length * 8 ≤ 140737488355328 := by omega
 have a2 : r.path.length ≤ 9223372036854775807 := by omega
 have a3 : r.over.length * 8 ≤ 140737488355328 := by omega
 have a4 : r.over.length ≤ 9223372036854775807 := by omega
 have a5 : r.flanks.length * 16 ≤ 140737488355328 := by omega
 have a6 : r.flanks.length ≤ 9223372036854775807 := by omega
 refine Xc 3 Try.func50 rfl fun n out _ _ => ?_
 simp only [Try.ntmps50, List.length_cons, List.length_nil, List.length_map, List.length_replicate, Xf, Nat.reduceAdd, Nat.reduceSub, List.replicate, List.cons_append, List.nil_append]
 repeat' (first | (with_reducible first | refine Vk fun K hK => ?_ | refine V0 ?_) | ((with_reducible refine gE ?_); simp (maxSteps:=9^7) only [ss, X1, tab, simprocAttr, -List.reduceReplicate, rtA, rtC, X0, List.length_map, a1, a2, a3, a4, a5, a6]) | ((with_reducible refine Vz ?_); (first | refine Xu (.inr rfl) rfl rfl rfl (fun _ _ => rfl) ok34 (k := n + 1) (off := 0) rfl (Xb _ (by simp)) (X6 _ (Nat.le_refl _) 1) rfl ?_ | refine Xu (.inr rfl) rfl rfl rfl (fun _ _ => rfl) ok34 (k := m + 1) (off := 0) rfl (Xb _ (by simp)) (X6 _ hm 1) rfl ?_) <;> first | rfl | exact AV.le.rfl _ | (simp only [X4, sl, ti34, List.map_nil, rtA, rtC, X0, List.length_map, a1, a2, a3, a4, a5, a6]; done) | rfl | skip) | (refine hK _ ?_; clear hK K))
theorem X1o (p : Pl) (hs : Sm p) : Xr Try.prog 10 [plA p] [] (plA p) [] := by
 have h1 := hs.secs
 have h2 := hs.rts
 have a1 : p.pts.length * 16 ≤ 140737488355328 := by have := hs.pts; omega
 have a2 : p.pts.length ≤ 9223372036854775807 := by have := hs.pts; omega
 have a3 : p.sgs.length * 24 ≤ 140737488355328 := by have := hs.sgs; omega
 have a4 : p.sgs.length ≤ 9223372036854775807 := by have := hs.sgs; omega
 refine Xc 5 Try.func10 rfl fun n out _ _ => ?_
 simp only [Try.ntmps10, List.length_cons, List.length_nil, List.length_map, List.length_replicate, Xf, Nat.reduceAdd, Nat.reduceSub, List.replicate, List.cons_append, List.nil_append]
 refine X9 fun K hK => Xn Xj [] ?_
 simp (maxSteps:=9^7) only [ss, X1, tab, simprocAttr, -List.reduceReplicate, plA, plC]
 (refine hK _ ?_; clear hK K)
 refine X9 fun K hK => Xn Xj [] ?_
 simp (maxSteps:=9^7) only [ss, X1, tab, simprocAttr, -List.reduceReplicate, plC]
 (refine hK _ ?_; clear hK K)
 refine Yy (Q9 (i := 3) 37 3 rfl) ?_
 refine Yy (Q9 (i := 4) 34 7 rfl) ?_
 simp only [s_0, s_s]
 repeat' (first | (with_reducible first | refine Vk fun K hK => ?_ | refine V0 ?_) | ((with_reducible refine gE ?_); simp (maxSteps:=9^7) only [ss, X1, tab, simprocAttr, -List.reduceReplicate]) | (refine hK _ ?_; clear hK K))
 refine Xe ?_
 refine Xz (fun i : Nat => [(4, i64 (i : Int)), (11, .top), (12, .top), (13, .top), (14, .top), (15, .top), (16, .top), (17, .top), (18, .top), (19, .top), (20, .top), (21, .top), (22, .top), (23, .top), (24, .top), (25, .top), (26, .top), (27, .top), (28, .top)]) (fun i => [some (.box 27 (plC p)), some (.box 27 [i64 0, i64 0, .sl 0 [] .nil, .sl 0 [] .nil, .sl 0 [] .nil, .sl 0 [] .nil]), some (.box 27 [i64 p.ver, i64 p.par, .sl 3 ((p.secs.take i).map Y6) (.own (n + 3)), .sl 0 [] .nil, .sl 0 [] .nil, .sl 0 [] .nil]), some (.row 37 3 i), some (.row 34 7 0)]) (fun i => out) (fun i => i ≤ p.secs.length) (fun i => p.secs.length - i) 0 (Nat.zero_le _) ?_ fun i hi => ?_
 ·refine X2 ?_ ?_ (by first | rfl | (simp only [plC, List.take_zero, List.map_nil, List.length_map]; rfl) | simp only [plC, List.take_zero, List.map_nil, List.length_map]) rfl rfl rfl <;> simp only [X4, sl, plC, List.take_zero, List.map_nil, List.length_map]
 simp only [X4, s_0, s_s]
 have hw := Yl (n := i) 1 1 rfl (by omega)
 by_cases hlt : i < p.secs.length
 ·have gi := Xg Y6 p.secs i [] hlt
  have ct := X91 p.secs[i] (by have := hs.ends _ (List.getElem_mem hlt); omega)
  simp only [Qh, Y6] at ct
  have hsn := Ds Y6 p.secs i hlt
  simp only [Y6] at hsn
  have lit : ∀ (σ : AState) (K : AV → List (Nat × Res) → Prop), X1 tab σ K none 22 1 [(0, .agg [i64 p.secs[i].id, i64 p.secs[i].pt, .sl 2 (p.secs[i].ends.map jnC) .sh])] = K (.sl 3 [[i64 p.secs[i].id, i64 p.secs[i].pt, .sl 2 (p.secs[i].ends.map jnC) .sh]] .full) [] := fun σ K => Yk (T := tab) (ti := ti22) (te := ti37) rfl rfl rfl (by decide) (by decide) rfl rfl
  repeat' (first | (with_reducible first | refine Vk fun K hK => ?_ | refine V0 ?_ | refine Vr ?_ | refine Vs ?_ | apply And.intro | refine Vd 5 [] [[],[2],[],[0],[],[],[],[],[],[3],[],[2]] [[],[],[],[],[],[],[],[],[],[3],[],[2]] (by kernel_rfl) (by decide) (by decide) (by kernel_rfl) ?_) | ((with_reducible first | refine gE ?_ | refine gD ?_ | refine gF ?_); simp (maxSteps:=9^7) only [ss, tab, simprocAttr, -List.reduceReplicate, lit, plC, Y6, X0, List.length_map, List.length_take, hlt, gi, hw, Nat.min_eq_left hi]) | (refine X3 (ct) ?_) | (refine hK _ ?_; clear hK K) | refine Vt rfl ?_ | clear hK K)
  ·omega
  ·omega
  rw [hsn]
  refine ⟨i + 1, by omega, by omega, ?_⟩
  refine X2 ?_ ?_ rfl rfl rfl rfl <;> simp only [X4, sl, plC, hlt, decide_true]
 ·obtain rfl : i = p.secs.length := by omega
  rw [List.take_length]
  repeat' (first | (with_reducible first | refine Vk fun K hK => ?_ | refine V0 ?_) | ((with_reducible refine gE ?_); simp (maxSteps:=9^7) only [ss, X1, tab, simprocAttr, -List.reduceReplicate, plC, List.length_map, hlt, X0, a1, a2, a3, a4]) | ((with_reducible refine Vx ?_); simp only [sb, reduceIte, Nat.reduceEqDiff]) | (refine hK _ ?_; clear hK K) | refine Vf rfl ?_ | clear hK K)
  refine Xe ?_
  refine Xz (fun i : Nat => [(5, i64 (i : Int)), (41, .top), (42, .top), (43, .top), (44, .top), (45, .top), (46, .top), (47, .top), (48, .top), (49, .top), (50, .top), (51, .top), (52, .top), (53, .top), (54, .top), (55, .top), (56, .top), (57, .top), (58, .top)]) (fun i => [some (.box 27 (plC p)), some (.box 27 [i64 0, i64 0, .sl 0 [] .nil, .sl 0 [] .nil, .sl 0 [] .nil, .sl 0 [] .nil]), some (.box 27 [i64 p.ver, i64 p.par, .sl 3 (p.secs.map Y6) (.own (n + 3)), .sl 2 (p.pts.map jnC) .sh, .sl 3 (p.sgs.map sgC) .sh, .sl 7 ((p.rts.take i).map rtC) (.own (n + 4))]), some (.row 37 3 p.secs.length), some (.row 34 7 i)]) (fun i => out) (fun i => i ≤ p.rts.length) (fun i => p.rts.length - i) 0 (Nat.zero_le _) ?_ fun i hi => ?_
  ·refine X2 ?_ ?_ (by first | rfl | (simp only [plC, List.take_zero, List.map_nil, List.length_map]; rfl) | simp only [plC, List.take_zero, List.map_nil, List.length_map]) rfl rfl rfl <;> simp only [X4, sl, plC, List.take_zero, List.map_nil, List.length_map]
  simp only [X4, s_0, s_s]
  have hw := Yl (n := i) 1 1 rfl (by omega)
  by_cases hlt : i < p.rts.length
  ·have gi := Xg rtC p.rts i [] hlt
   have ct := X92 p.rts[i] (hs.rt _ (List.getElem_mem hlt))
   simp only [rtA, rtC] at ct
   have hsn := Ds rtC p.rts i hlt
   simp only [rtC] at hsn
   have lit : ∀ (σ : AState) (K : AV → List (Nat × Res) → Prop), X1 tab σ K none 25 1 [(0, .agg [i64 p.rts[i].id, i64 p.rts[i].entry, i64 p.rts[i].ex, .sl 1 (p.rts[i].path.map Ym) .sh, .sl 1 (p.rts[i].over.map Ym) .sh, .sl 2 (p.rts[i].flanks.map jnC) .sh, i64 p.rts[i].timer])] = K (.sl 7 [[i64 p.rts[i].id, i64 p.rts[i].entry, i64 p.rts[i].ex, .sl 1 (p.rts[i].path.map Ym) .sh, .sl 1 (p.rts[i].over.map Ym) .sh, .sl 2 (p.rts[i].flanks.map jnC) .sh, i64 p.rts[i].timer]] .full) [] := fun σ K => Yk (T := tab) (ti := ti25) (te := ti34) rfl rfl rfl (by decide) (by decide) rfl rfl
   repeat' (first | (with_reducible first | refine Vk fun K hK => ?_ | refine V0 ?_ | refine Vr ?_ | refine Vs ?_ | apply And.intro | refine Vd 11 [] [[],[2],[],[0],[],[],[],[],[],[4],[],[2]] [[],[],[],[],[],[],[],[],[],[4],[],[2]] (by kernel_rfl) (by decide) (by decide) (by kernel_rfl) ?_) | ((with_reducible first | refine gE ?_ | refine gD ?_ | refine gF ?_); simp (maxSteps:=9^7) only [ss, tab, simprocAttr, -List.reduceReplicate, lit, plC, rtC, X0, List.length_map, List.length_take, hlt, gi, hw, Nat.min_eq_left hi]) | (refine X3 (ct) ?_) | (refine hK _ ?_; clear hK K) | refine Vt rfl ?_ | clear hK K)
   ·omega
   ·omega
   rw [hsn]
   refine ⟨i + 1, by omega, by omega, ?_⟩
   refine X2 ?_ ?_ rfl rfl rfl rfl <;> simp only [X4, sl, plC, hlt, decide_true]
  ·obtain rfl : i = p.rts.length := by omega
   rw [List.take_length]
   repeat' (first | (with_reducible first | refine Vk fun K hK => ?_ | refine V0 ?_) | ((with_reducible refine gE ?_); simp (maxSteps:=9^7) only [ss, X1, tab, simprocAttr, -List.reduceReplicate, plA, plC, List.length_map, hlt, X0]) | ((with_reducible refine Vz ?_); (first | refine Xu (.inr rfl) rfl rfl rfl (fun _ _ => rfl) ok27 (k := n + 1) (off := 0) rfl (Xb _ (by simp)) (X6 _ (Nat.le_refl _) 1) rfl ?_ | refine Xu (.inr rfl) rfl rfl rfl (fun _ _ => rfl) ok27 (k := m + 1) (off := 0) rfl (Xb _ (by simp)) (X6 _ hm 1) rfl ?_) <;> first | rfl | exact AV.le.rfl _ | (simp only [X4, sl, ti27, List.map_nil, plA, plC, List.length_map, hlt, X0]; done) | rfl | skip) | ((with_reducible refine Vx ?_); simp only [sb, reduceIte, Nat.reduceEqDiff]) | (refine hK _ ?_; clear hK K) | refine Vf rfl ?_ | clear hK K)
end Go.Proofs.Ytjgbbjooeibppaa.Pln
