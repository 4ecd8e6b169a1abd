/- The layer of abstract values, joined: WC. -/
import Derived.Test.YtcfkieacdjcaoaaZGA
import Derived.Test.YtcfkieacdjcaoaaZW0
import Derived.WalkKit
import Derived.Lib.Walk
import Derived.Lib.SliceRun
import Derived.Lib.AppendZerosOnto
section
namespace Go.Proofs.Ytcfkieacdjcaoaa.Pln
set_option linter.unusedVariables false
set_option linter.unusedSimpArgs false
open Go Go.VS Tab
set_option maxHeartbeats 8000000
set_option maxRecDepth 4000
def thrOk (s : Sec) (w : Wk) (right : Int → Int × Int → Bool) (e : Nat) : Bool := !(w.lost || (thruE s w.inn.2 e != 0 || !right e (s.ends.getD e (0, 0))))
def thrEnd (s : Sec) (w : Wk) (right : Int → Int × Int → Bool) : Option Nat := (List.range s.ends.length).find? (thrOk s w right)
def leave (w : Wk) (o j : Int × Int) : Wk := { w with outs := w.outs ++ [o], inn := j }
def thrF (s : Sec) (w : Wk) (id at' : Int) (right : Int → Int × Int → Bool) : Wk := match thrEnd s w right with
  | some e => leave (askW w s.pt (thruL s w.inn.2 e) at') (id, (e : Int)) (s.ends.getD e (0, 0))
  | none => { w with lost := true }
def thrW (p : Pl) (w : Wk) (id at' : Int) (right : Int → Int × Int → Bool) : Wk := thrF (secW p w id).1 (secW p w id).2 id at' right
theorem range_find {n e : Nat} {f : Nat → Bool} (he : e < n) (hf : f e = true) (hq : ∀ i, i < e → f i = false) : (List.range n).find? f = some e := by
  rw [List.find?_range_eq_some]
  exact ⟨hf, List.mem_range.2 he, fun j hj => by simp [hq j hj]⟩
theorem range_none {n : Nat} {f : Nat → Bool} (hq : ∀ i, i < n → f i = false) : (List.range n).find? f = none := by
  rw [List.find?_eq_none]
  intro x hx
  rw [hq x (List.mem_range.1 hx)]; decide
theorem askW_keeps (w : Wk) (a b c : Int) : ∃ l, askW w a b c = ⟨w.inn, l, w.outs, w.lost⟩ := by
  unfold askW
  split
  · exact ⟨_, rfl⟩
  · exact ⟨_, rfl⟩
theorem upd_three {s : Nat → Option Res} {k ka ko : Nat} (h1 : ka ≠ k) (h2 : ko ≠ k) (h3 : ko ≠ ka) (A B C D F : Res) : upd1 (upd1 (upd1 (upd1 s k B) ka C) ko D) k F = upd s [(k, F), (ka, C), (ko, D)] := by
  rw [upd_cons, upd_cons, upd_cons, upd_nil]
  funext j
  simp only [upd1_eq]
  by_cases a : j = k
  · subst a; simp [Ne.symm h1, Ne.symm h2]
  · simp [a]
theorem upd_one_keep2 {s : Nat → Option Res} {k j i : Nat} {r q u : Res} (h : j ≠ k) (h' : i ≠ k) (hj : s j = some q) (hi : s i = some u) : upd1 s k r = upd s [(k, r), (j, q), (i, u)] := by
  rw [upd_cons, upd_cons, upd_cons, upd_nil, upd1_self ((upd1_ne s r h).trans hj), upd1_self ((upd1_ne s r h').trans hi)]
theorem c_thr (p : Pl) (w : Wk) (k ka ko : Nat) (h1 : ka ≠ k) (h2 : ko ≠ k) (h3 : ko ≠ ka) (id at' : Int) (fid : FuncId) (caps : List AV) (right : Int → Int × Int → Bool) (hb : hasBody Try.prog fid = True)
    (hr : ∀ e j, ACall Try.prog fid (i64 e :: jnA j :: caps) [] (bool (right e j)) []) (hp : p.secs.length ≤ 1000000) (hse : (secW p w id).1.ends.length ≤ 1000) (hl : w.asks.length ≤ 1000000) (ho : w.outs.length ≤ 1000000) :
    ACall Try.prog 90 [.ptr k 0, i64 id, i64 at', .fn (.func fid) caps] [(k, some (.box 149 (wkC p w ka ko))), (ka, some (.row 63 3 w.asks.length)), (ko, some (.row 68 2 w.outs.length))] (.tup [])
      [(k, .box 149 (wkC p (thrW p w id at' right) ka ko)), (ka, .row 63 3 (thrW p w id at' right).asks.length), (ko, .row 68 2 (thrW p w id at' right).outs.length)] := by
  have x1 : (k = ka) = False := eq_false (Ne.symm h1)
  have x2 : (ka = k) = False := eq_false h1
  have x3 : (k = ko) = False := eq_false (Ne.symm h2)
  have x4 : (ko = k) = False := eq_false h2
  have x5 : (ka = ko) = False := eq_false (Ne.symm h3)
  have x6 : (ko = ka) = False := eq_false h3
  have cs := c_section p w k ka ko id hp
  unfold thrW
  obtain ⟨s, lost, e⟩ := secW_keeps p w id
  rw [e] at cs hse ⊢
  clear e
  dsimp only at cs hse ⊢
  obtain ⟨inn, asks, outs, lost0⟩ := w
  dsimp only at *
  have ct := fun e : Int => c_through s inn.2 e
  simp only [secA, secC] at ct
  have hr' := fun (e : Int) (j : Int × Int) => hr e j
  simp only [jnA, jnC] at hr'
  have cA := fun (x : Int) => c_ask p ⟨inn, asks, outs, lost⟩ k ka ko h1 s.pt x at' hl
  simp only [wkC] at cA cs
  obtain ⟨W, hW⟩ : ∃ W, W = thrF s ⟨inn, asks, outs, lost⟩ id at' right := ⟨_, rfl⟩
  rw [← hW]
  have lit : ∀ (a b : Int) (σ : AState) (K : AV → List (Nat × Res) → Prop), evLit tab σ K none 71 1 [(0, .agg [i64 a, i64 b])] = K (.sl 2 [[i64 a, i64 b]] .full) [] := fun a b σ K => evLit_one (T := tab) (ti := ti71) (te := ti68) rfl rfl rfl (by decide) (by decide) rfl rfl
  have y1 : (outs.length + 1) * 16 ≤ 140737488355328 := by omega
  have y2 : outs.length ≤ 9223372036854775806 := by omega
  refine acall_of 2 Try.func90 rfl fun n out _ _ => ?_
  simp only [Try.ntmps90, List.length_cons, List.length_nil, List.length_map, List.length_replicate, rep_map, Nat.reduceAdd, Nat.reduceSub, List.replicate, List.cons_append, List.nil_append]
  rename_i hneeds hgv
  obtain ⟨hk, hka, hko, _⟩ := hneeds
  obtain ⟨hkn, hkan, hkon, _⟩ := hgv
  repeat' (first | (with_reducible first | refine Vk fun K hK => ?_ | refine V0 ?_ | refine Vb ?_ | refine Vc ?_ | refine Vr ?_ | refine Vs ?_ | apply And.intro | refine Vq (by kernel_rfl) ?_) | ((with_reducible first | refine gE ?_ | refine gR ?_); simp (maxSteps:=9^7) only [ss, evLit, tab, reduceCtorEq, reduceIte, Nat.reduceEqDiff, Nat.reduceBEq, Int.reduceLE, Int.reduceToNat, Nat.reduceAdd, Nat.reduceLT, Nat.reduceLeDiff, wkC, secA, secC, hk, hka, hko, lk_out hkn, lk_out hkan, lk_out hkon, dm_out hkn, dm_out hkan, dm_out hkon, nx_outs hkn, nx_outs hkan, nx_outs hkon, upd1_eq, x1, x2, x3, x4, x5, x6, splice_all, List.length_map]) | exact Vn | ((with_reducible refine Vz ?_); refine ret_unit (.inr rfl) rfl rfl rfl (fun _ _ => rfl) <;> first | rfl | skip) | (refine call_boxed cs (by rw [lk_out hkn]; exact hk) (by rw [dm_out hkn]; trivial) ?_) | ((with_reducible refine Vg (fun hg => ?_) (fun hg => ?_)) <;> (try simp only [nb] at hg) <;> simp (maxSteps:=9^7) only [ss, evLit, tab, reduceCtorEq, reduceIte, Nat.reduceEqDiff, Nat.reduceBEq, Int.reduceLE, Int.reduceToNat, Nat.reduceAdd, Nat.reduceLT, Nat.reduceLeDiff, hg, wkC, secA, secC, hk, hka, hko, lk_out hkn, lk_out hkan, lk_out hkon, dm_out hkn, dm_out hkan, dm_out hkon, nx_outs hkn, nx_outs hkan, nx_outs hkon, upd1_eq, x1, x2, x3, x4, x5, x6, splice_all, List.length_map]) | ((with_reducible refine Vx ?_); simp only [sb, reduceIte, Nat.reduceEqDiff]) | (refine hK _ ?_; clear hK K) | refine Vt rfl ?_ | refine Vf rfl ?_ | refine Vi rfl (fun hg => ?_) (fun hg => ?_) | clear hK K)
  refine awp_block ?_
  refine awp_for_mv (fun m (e : Nat) => [(19, i64 (e : Int)), (8, .ptr (m + 0) 0), (9, .top), (10, .top), (11, .top), (12, .top), (20, .top), (21, .top), (22, .top), (23, .top), (24, .top), (25, .top), (26, .top), (27, .top), (28, .top), (29, .top), (30, .top), (31, .top), (32, .top), (33, .top), (34, .top), (35, .top), (36, .top), (37, .top), (38, .top), (39, .top), (40, .top), (41, .top), (42, .top), (43, .top), (44, .top), (45, .top), (46, .top), (47, .top), (48, .top), (49, .top), (50, .top), (51, .top), (52, .top), (53, .top), (54, .top), (55, .top), (56, .top), (57, .top), (58, .top), (59, .top), (60, .top), (61, .top), (62, .top), (63, .top), (64, .top), (65, .top), (66, .top), (67, .top), (68, .top), (69, .top), (70, .top), (71, .top), (72, .top)]) (fun m e => [some (.box 73 (secC s)), none]) (fun e => upd1 out k (.box 149 (wkC p ⟨inn, asks, outs, lost⟩ ka ko))) (fun e => e ≤ s.ends.length ∧ (∀ i, i < e → thrOk s ⟨inn, asks, outs, lost⟩ right i = false)) (fun e => s.ends.length - e) 0 ⟨Nat.zero_le _, by intros; omega⟩ ?_ fun m e hm he => ?_
  · refine le_of_all ?_ ?_ (by first | rfl | (simp only [secC, wkC, List.length_map]; rfl) | simp only [secC, wkC, List.length_map]) rfl rfl rfl <;> simp only [patch, sl, secC, wkC, List.length_map]
  obtain ⟨he, hq⟩ := he
  simp only [patch, s_0, s_s]
  have hw := addw (n := e) 1 1 rfl (by omega)
  by_cases hlt : e < s.ends.length
  · have ge := getD_map jnC s.ends e [] hlt
    have gd : s.ends.getD e (0, 0) = s.ends[e] := by simp [List.getD_eq_getElem?_getD, hlt]
    have hok : thrOk s ⟨inn, asks, outs, lost⟩ right e = !(lost || (thruE s inn.2 e != 0 || !right e s.ends[e])) := by unfold thrOk; rw [gd]
    have next : thrOk s ⟨inn, asks, outs, lost⟩ right e = false → ∀ i, i < e + 1 → thrOk s ⟨inn, asks, outs, lost⟩ right i = false := fun h i hi => by
      by_cases h' : i = e
      · subst h'; exact h
      · exact hq i (by omega)
    have ctE := ct e
    have hrE := hr' e s.ends[e]
    obtain ⟨AL, hAL⟩ := askW_keeps ⟨inn, asks, outs, lost⟩ s.pt (thruL s inn.2 e) at'
    have ca := c_ask p ⟨inn, asks, outs, lost⟩ k ka ko h1 s.pt (thruL s inn.2 e) at' hl
    have good : thrOk s ⟨inn, asks, outs, lost⟩ right e = true → W = ⟨s.ends[e], AL, outs ++ [(id, (e : Int))], lost⟩ := fun h => by
      rw [hW]; unfold thrF thrEnd
      rw [range_find hlt h hq]
      dsimp only
      rw [hAL, gd]; rfl
    rw [hAL] at ca
    simp only [wkC] at ca
    clear hAL hW cA ct hr' hr hq
    generalize thruL s inn.2 e = TL at *
    generalize thruE s inn.2 e = TE at *
    generalize right e s.ends[e] = RT at *
    cases lost with
    | true =>
      repeat' (first | (with_reducible first | refine Vk fun K hK => ?_ | refine V0 ?_ | refine Vb ?_ | refine Vc ?_ | refine Vr ?_ | refine Vs ?_ | apply And.intro | refine Vq (by kernel_rfl) ?_) | ((with_reducible first | refine gE ?_ | refine gR ?_); simp (maxSteps:=9^7) only [ss, tab, reduceCtorEq, reduceIte, Nat.reduceEqDiff, Nat.reduceBEq, Int.reduceLE, Int.reduceToNat, Nat.reduceAdd, Nat.reduceLT, Nat.reduceLeDiff, lit, locM hm, wkC, secA, secC, jnC, ge, hlt, hb, hw, hk, hka, hko, lk_out hkn, lk_out hkan, lk_out hkon, dm_out hkn, dm_out hkan, dm_out hkon, nx_outs hkn, nx_outs hkan, nx_outs hkon, upd1_eq, upd1_upd1, x1, x2, x3, x4, x5, x6, splice_all, List.length_map, y1, y2]) | exact Vn | ((with_reducible refine Vz ?_); refine ret_unit (.inr rfl) rfl rfl rfl (fun _ _ => rfl) <;> first | rfl | skip) | (refine call_pure (ctE) ?_) | (refine call_pure (hrE) ?_) | ((with_reducible refine Vg (fun hg => ?_) (fun hg => ?_)) <;> (try simp only [nb] at hg) <;> simp (maxSteps:=9^7) only [ss, tab, reduceCtorEq, reduceIte, Nat.reduceEqDiff, Nat.reduceBEq, Int.reduceLE, Int.reduceToNat, Nat.reduceAdd, Nat.reduceLT, Nat.reduceLeDiff, hg, lit, locM hm, wkC, secA, secC, jnC, ge, hlt, hb, hw, hk, hka, hko, lk_out hkn, lk_out hkan, lk_out hkon, dm_out hkn, dm_out hkan, dm_out hkon, nx_outs hkn, nx_outs hkan, nx_outs hkon, upd1_eq, upd1_upd1, x1, x2, x3, x4, x5, x6, splice_all, List.length_map, y1, y2]) | ((with_reducible refine Vx ?_); simp only [sb, reduceIte, Nat.reduceEqDiff]) | (refine hK _ ?_; clear hK K) | refine Vt rfl ?_ | refine Vf rfl ?_ | refine Vi rfl (fun hg => ?_) (fun hg => ?_) | clear hK K)
      refine ⟨e + 1, ⟨by omega, next (by rw [hok]; rfl)⟩, by omega, ?_⟩
      refine le_move [true, false] (fun n_ => ?_) (fun n_ => ?_) <;> simp only [patch, sm, secC, wkC, hlt, decide_true]
    | false =>
      repeat' (first | (with_reducible first | refine Vk fun K hK => ?_ | refine V0 ?_ | refine Vb ?_ | refine Vc ?_ | refine Vr ?_ | refine Vs ?_ | apply And.intro | refine Vq (by kernel_rfl) ?_) | ((with_reducible first | refine gE ?_ | refine gR ?_); simp (maxSteps:=9^7) only [ss, tab, reduceCtorEq, reduceIte, Nat.reduceEqDiff, Nat.reduceBEq, Int.reduceLE, Int.reduceToNat, Nat.reduceAdd, Nat.reduceLT, Nat.reduceLeDiff, lit, locM hm, wkC, secA, secC, jnC, ge, hlt, hb, hw, hk, hka, hko, lk_out hkn, lk_out hkan, lk_out hkon, dm_out hkn, dm_out hkan, dm_out hkon, nx_outs hkn, nx_outs hkan, nx_outs hkon, upd1_eq, upd1_upd1, x1, x2, x3, x4, x5, x6, splice_all, List.length_map, y1, y2]) | exact Vn | ((with_reducible refine Vz ?_); refine ret_unit (.inr rfl) rfl rfl rfl (fun _ _ => rfl) <;> first | rfl | skip) | (refine call_pure (ctE) ?_) | (refine call_pure (hrE) ?_) | (refine call_two ca (by rw [lk_out hkn, upd1_eq, if_pos rfl]) (by rw [lk_out hkan, upd1_eq, if_neg h1]; exact hka) (by rw [dm_out hkn]; trivial) (by rw [dm_out hkan]; trivial) (by simp) (by simp) ?_) | ((with_reducible refine Vg (fun hg => ?_) (fun hg => ?_)) <;> (try simp only [nb] at hg) <;> simp (maxSteps:=9^7) only [ss, tab, reduceCtorEq, reduceIte, Nat.reduceEqDiff, Nat.reduceBEq, Int.reduceLE, Int.reduceToNat, Nat.reduceAdd, Nat.reduceLT, Nat.reduceLeDiff, hg, lit, locM hm, wkC, secA, secC, jnC, ge, hlt, hb, hw, hk, hka, hko, lk_out hkn, lk_out hkan, lk_out hkon, dm_out hkn, dm_out hkan, dm_out hkon, nx_outs hkn, nx_outs hkan, nx_outs hkon, upd1_eq, upd1_upd1, x1, x2, x3, x4, x5, x6, splice_all, List.length_map, y1, y2]) | ((with_reducible refine Vx ?_); simp only [sb, reduceIte, Nat.reduceEqDiff]) | (refine hK _ ?_; clear hK K) | refine Vt rfl ?_ | refine Vf rfl ?_ | refine Vi rfl (fun hg => ?_) (fun hg => ?_) | clear hK K)
      · refine ⟨e + 1, ⟨by omega, next (by rw [hok]; simp_all)⟩, by omega, ?_⟩
        refine le_move [true, false] (fun n_ => ?_) (fun n_ => ?_) <;> simp only [patch, sm, secC, wkC, hlt, decide_true]
      · refine ⟨e + 1, ⟨by omega, next (by rw [hok]; simp_all)⟩, by omega, ?_⟩
        refine le_move [true, false] (fun n_ => ?_) (fun n_ => ?_) <;> simp only [patch, sm, secC, wkC, hlt, decide_true]
      have hE := good (by rw [hok]; simp_all)
      subst hE
      refine awp_ret ?_
      refine ret_unit (.inr rfl) rfl rfl rfl (fun j _ => congrFun ?_ j)
      simp only [wkC, List.map_append, List.map_cons, List.map_nil, jnC, List.length_append, List.length_cons, List.length_nil, Nat.zero_add]
      exact upd_three h1 h2 h3 (.box 0 []) _ _ _ _
  · obtain rfl : e = s.ends.length := by omega
    have bad : W = ⟨inn, asks, outs, true⟩ := by
      rw [hW]; unfold thrF thrEnd
      rw [range_none hq]
    repeat' (first | (with_reducible first | refine Vk fun K hK => ?_ | refine V0 ?_ | refine Vb ?_ | refine Vc ?_ | refine Vr ?_ | refine Vs ?_ | apply And.intro | refine Vq (by kernel_rfl) ?_) | ((with_reducible first | refine gE ?_ | refine gR ?_); simp (maxSteps:=9^7) only [ss, evLit, tab, reduceCtorEq, reduceIte, Nat.reduceEqDiff, Nat.reduceBEq, Int.reduceLE, Int.reduceToNat, Nat.reduceAdd, Nat.reduceLT, Nat.reduceLeDiff, locM hm, wkC, hlt, hk, lk_out hkn, dm_out hkn, nx_outs hkn, upd1_eq, upd1_upd1, splice_all, List.length_map]) | exact Vn | ((with_reducible refine Vz ?_); refine ret_unit (.inr rfl) rfl rfl rfl (fun _ _ => rfl) <;> first | rfl | skip) | ((with_reducible refine Vg (fun hg => ?_) (fun hg => ?_)) <;> (try simp only [nb] at hg) <;> simp (maxSteps:=9^7) only [ss, evLit, tab, reduceCtorEq, reduceIte, Nat.reduceEqDiff, Nat.reduceBEq, Int.reduceLE, Int.reduceToNat, Nat.reduceAdd, Nat.reduceLT, Nat.reduceLeDiff, hg, locM hm, wkC, hlt, hk, lk_out hkn, dm_out hkn, nx_outs hkn, upd1_eq, upd1_upd1, splice_all, List.length_map]) | ((with_reducible refine Vx ?_); simp only [sb, reduceIte, Nat.reduceEqDiff]) | (refine hK _ ?_; clear hK K) | refine Vt rfl ?_ | refine Vf rfl ?_ | refine Vi rfl (fun hg => ?_) (fun hg => ?_) | clear hK K)
    subst bad
    exact ret_same rfl rfl rfl (upd_one_keep2 h1 h2 hka hko)
end Go.Proofs.Ytcfkieacdjcaoaa.Pln
end
section
namespace Go.Proofs.Ytcfkieacdjcaoaa.Pln
set_option linter.unusedVariables false
set_option linter.unusedSimpArgs false
open Go Go.VS Tab Go.RowKit Go.Lib
set_option maxHeartbeats 2000000
set_option maxRecDepth 100000
theorem grow_calls_ints (n : Nat) (w : World) (h0 : 0 < n) (hbig : n * 8 ≤ 140737488355328) (i0 : TypeInfo) (z : Value) (hi0 : Try.prog.info? 3 = some i0) (hz0 : i0.zero = some z) (hs0 : 0 < i0.size) (hb0 : i0.bytes = 8) :
    Calls Try.prog 121 #[.slice none 0 0, .int .i64 n] w fun e w' =>
      e = .returned (.slice (some ⟨w.heap.size, 0, none⟩) 0 (grownCap w n 0 3)) ∧
      w' = w.drew.alloc (.cells (#[] ++ Builtin.zeroCells z.cells n ++ Builtin.zeroCells z.cells (grownCap w n 0 3 - n)) 3) := by
  have h1 : ¬ ((n : Int) < 0) := by omega
  have h3 : wrap64 ((n : Int) - 0) = (n : Int) := by unfold wrap64; omega
  have h4 : (n : Int) > 0 := by omega
  have hrz : ∀ ty, (Builtin.append_ #[32, 3] ty #[.slice none 0 0, .int .i64 (n : Int)]).run Try.prog w =
      .ok (.slice (some ⟨w.heap.size, 0, none⟩) n (grownCap w n 0 3)) (w.drew.alloc (.cells (#[] ++ Builtin.zeroCells z.cells n ++ Builtin.zeroCells z.cells (grownCap w n 0 3 - n)) 3)) := fun ty => by
    have h := Lib.run_append_grow_zeros w 32 3 ty 3 i0 z .i64 .i64 Try.underlying32 Try.underlying3 hi0 hz0 none 0 0 [] (run_firstCells_none w.drew i0.size 0 0 0) n h0 hs0 (by omega) (by omega)
      (by rw [hb0]; omega) (growslice_fits (by omega) (by rw [hb0]; omega))
    rw [Nat.zero_add] at h
    exact h
  have hGn : n ≤ grownCap w n 0 3 := VS.grownCap_ge w _ _ _
  have hG63 : grownCap w n 0 3 ≤ 9223372036854775807 := by
    have := grownCap_le_maxLen w n 0 3 (by unfold maxLen; omega)
    unfold maxLen at this
    omega
  generalize grownCap w n 0 3 = G at hrz hGn hG63 ⊢
  go_enter Try.func121, Try.ntmps121
  go_wp2_with (at_builtin; refine Lib.wpList_append_run _ rfl _ _ _ _ rfl _ _ rfl rfl _ _ (hrz _) ?_)
  all_goals (go_ret; exact ⟨rfl, rfl⟩)
theorem c_grow_ints (k n : Nat) (hbig : n * 8 ≤ 140737488355328) :
    ACall Try.prog 121 [.sl 0 [] .nil, i64 (n : Int)] [(k, none)] (.sl 1 [] (.own k)) [(k, .row 3 1 0)] := by
  by_cases h0 : n = 0
  · subst h0
    refine acall_of 0 Try.func121 rfl fun n out _ _ => ?_
    simp only [Try.ntmps121, List.length_cons, List.length_nil, List.length_map, List.length_replicate, rep_map, Nat.reduceAdd, Nat.reduceSub, List.replicate, List.cons_append, List.nil_append]
    rename_i hneeds hgv
    obtain ⟨hk, _⟩ := hneeds
    obtain ⟨hkn, _⟩ := hgv
    refine awp_le (le_rowN (k := k) 3 1 (by rw [dm_out hkn]; trivial) (by rw [lk_out hkn]; exact hk)) ?_
    rw [gv_out hkn]
    refine awp_seq_k fun K hK => awp_ev tab_ok [] ?_
    simp (maxSteps:=9^7) only [ss, evLit, tab, reduceCtorEq, reduceIte, Nat.reduceEqDiff, Nat.reduceBEq, Int.reduceLE, Int.reduceToNat, Nat.reduceAdd, Nat.reduceLT, Nat.reduceLeDiff]
    repeat' (first | (with_reducible refine hK _ ?_; clear hK K) | with_reducible apply And.intro)
    refine awp_seq_k fun KA hKA => ?_
    refine awp_seq_k fun K hK => awp_ev tab_ok [] ?_
    simp (maxSteps:=9^7) only [ss, evLit, tab, reduceCtorEq, reduceIte, Nat.reduceEqDiff, Nat.reduceBEq, Int.reduceLE, Int.reduceToNat, Nat.reduceAdd, Nat.reduceLT, Nat.reduceLeDiff, nc]
    repeat' (first | (with_reducible refine hK _ ?_; clear hK K) | with_reducible apply And.intro)
    refine awp_cond_f rfl (awp_skip (hKA _ ?_))
    clear hKA KA
    refine awp_seq_k fun KA hKA => ?_
    refine awp_seq_k fun K hK => awp_ev tab_ok [] ?_
    simp (maxSteps:=9^7) only [ss, evLit, tab, reduceCtorEq, reduceIte, Nat.reduceEqDiff, Nat.reduceBEq, Int.reduceLE, Int.reduceToNat, Nat.reduceAdd, Nat.reduceLT, Nat.reduceLeDiff, nc, Int.sub_zero, wrap_i64 (x := 0) (by decide) (by decide)]
    repeat' (first | (with_reducible refine hK _ ?_; clear hK K) | with_reducible apply And.intro)
    refine awp_seq_k fun K hK => awp_ev tab_ok [] ?_
    simp (maxSteps:=9^7) only [ss, evLit, tab, reduceCtorEq, reduceIte, Nat.reduceEqDiff, Nat.reduceBEq, Int.reduceLE, Int.reduceToNat, Nat.reduceAdd, Nat.reduceLT, Nat.reduceLeDiff, Int.lt_irrefl, decide_false]
    repeat' (first | (with_reducible refine hK _ ?_; clear hK K) | with_reducible apply And.intro)
    refine awp_cond_f rfl (awp_skip (hKA _ ?_))
    clear hKA KA
    refine awp_seq_k fun K hK => awp_ev tab_ok [] ?_
    simp (maxSteps:=9^7) only [ss, evLit, tab, reduceCtorEq, reduceIte, Nat.reduceEqDiff, Nat.reduceBEq, Int.reduceLE, Int.reduceToNat, Nat.reduceAdd, Nat.reduceLT, Nat.reduceLeDiff]
    repeat' (first | (with_reducible refine hK _ ?_; clear hK K) | with_reducible apply And.intro)
    refine awp_ret ?_
    exact ret_tmp_le (.inr rfl) rfl rfl rfl (fun _ _ => rfl) (.nil _ _ _ (by intro h; cases h)) rfl
  · intro M N vs hI hR hn hN hu
    obtain ⟨hl, hr⟩ := hR
    obtain ⟨v0, v1, rfl⟩ : ∃ v0 v1, vs = #[v0, v1] := by
      match vs, hl with
      | ⟨[a, b]⟩, _ => exact ⟨a, b, rfl⟩
    have r0 := hr 0 _ _ rfl rfl
    have r1 := hr 1 _ _ rfl rfl
    obtain rfl : v0 = .slice none 0 0 := by
      cases r0 with
      | nil _ _ a h1 h2 => rw [h2 rfl]
      | slice _ _ _ a cap hs hcap hsz hst hc hmd => exact hmd.elim
    have e1 := val_of r1
    subst e1
    obtain ⟨i0, z, hi0, hi1, hi2, hi3, hi4⟩ := ok3.info
    refine (grow_calls_ints n M.w (by omega) hbig i0 z hi0 hi3 (by rw [hi1]; decide) hi2).mono fun e w' hw => ?_
    obtain ⟨rfl, rfl⟩ := hw
    have hcap := VS.grownCap_ge M.w n 0 3
    generalize grownCap M.w n 0 3 = cap at hcap ⊢
    have e0 := Ext.withW (M := M) (w' := M.w.drew) rfl
    have hI0 : Inv (M.withW M.w.drew) := hI.withW rfl rfl rfl rfl
    have hk : rowBelow (M.withW M.w.drew) k 3 1 0 := .inl hn.1
    have hz1 : z.cells.size = 1 := by
      have := ok3.len
      rw [← hi4] at this
      simpa using this
    have hzs : ∀ m, (Builtin.zeroCells z.cells m).size = m * 1 := fun m => by simp [Builtin.zeroCells, hz1]
    have hzl : ∀ v, v ∈ z.cells.toList → leaf v := fun v hv => by
      rw [hi4] at hv
      exact leaf_of_B (List.all_eq_true.1 ok3.leafs v hv)
    refine ⟨_, rfl, (M.withW M.w.drew).moveRow k 3 1 (#[] ++ Builtin.zeroCells z.cells n ++ Builtin.zeroCells z.cells (cap - n)) 0 cap, rfl, e0.trans (Ext.moveRow hI0 hk _ _), hI0.moveRow hk (by simp [hzs]; omega) (Nat.zero_le _) (fun i v h => ?_), fun j _ => rfl, ?_⟩
    · rw [Array.getElem?_append] at h
      split at h
      · rw [Array.empty_append] at h; exact zeroCells_leaf hzl (by rw [hz1]; decide) _ _ _ h
      · exact zeroCells_leaf hzl (by rw [hz1]; decide) _ _ _ h
    · have hβ : ((M.withW M.w.drew).moveRow k 3 1 (#[] ++ Builtin.zeroCells z.cells n ++ Builtin.zeroCells z.cells (cap - n)) 0 cap).β k = M.w.heap.size := by simp [Mem.moveRow, Mem.withW]
      exact .slice 1 [] (.own k) ⟨M.w.heap.size, 0, none⟩ cap rfl (Nat.zero_le _) (fun row h => by simp at h) (fun o ho => by simp at ho) (fun i j row c v h => by simp at h)
        ⟨3, 0, by simp [Mem.moveRow, upd1], Nat.le_refl _, fun _ => .inr ⟨rfl, hβ.symm, by simp [Mem.moveRow]⟩⟩
theorem c_concat_ints (k : Nat) (a b : List (List AV)) (m0 m1 m2 : Md) (hb : a.length + b.length ≤ 1000000) :
    ACall Try.prog 89 [.sl 1 [[.sl 1 a m1], [.sl 1 b m2]] m0] [(k, none)] (.sl 1 (a ++ b) (.own k)) [(k, .row 3 1 (a.length + b.length))] := by
  refine acall_of 0 Try.func89 rfl fun n out _ _ => ?_
  simp only [Try.ntmps89, List.length_cons, List.length_nil, List.length_map, List.length_replicate, rep_map, Nat.reduceAdd, Nat.reduceSub, List.replicate, List.cons_append, List.nil_append]
  rename_i hneeds hg
  obtain ⟨hk, _⟩ := hneeds
  obtain ⟨hkn, _⟩ := hg
  obtain ⟨els, hels⟩ : ∃ els, els = [[AV.sl 1 a m1], [AV.sl 1 b m2]] := ⟨_, rfl⟩
  rw [← hels]
  have hl2 : els.length = 2 := by rw [hels]; rfl
  obtain ⟨cat, hcat⟩ : ∃ cat : Nat → List (List AV), cat = fun c => (([a, b] : List (List (List AV))).take c).flatten := ⟨_, rfl⟩
  have elem : ∀ c, c < 2 → ∃ l md, els.getD c [] = [.sl 1 l md] ∧ cat (c + 1) = cat c ++ l := fun c hc => by
    rw [hels, hcat]
    match c, hc with
    | 0, _ => exact ⟨a, m1, rfl, by simp⟩
    | 1, _ => exact ⟨b, m2, rfl, by simp⟩
  have cat0 : cat 0 = [] := by rw [hcat]; rfl
  have cat2 : cat 2 = a ++ b := by rw [hcat]; simp
  have catl : ∀ c, c ≤ 2 → (cat c).length ≤ a.length + b.length := fun c hc => by
    rw [hcat]
    match c, hc with
    | 0, _ => simp
    | 1, _ => simp
    | 2, _ => simp
  refine awp_seq_k fun K hK => awp_ev tab_ok [] ?_
  simp (maxSteps:=9^7) only [ss, evLit, tab, reduceCtorEq, reduceIte, Nat.reduceEqDiff, Nat.reduceBEq, Int.reduceLE, Int.reduceToNat, Nat.reduceAdd, Nat.reduceLT, Nat.reduceLeDiff]
  repeat' (first | (with_reducible refine hK _ ?_; clear hK K) | with_reducible apply And.intro)
  refine awp_seq_k fun K hK => awp_ev tab_ok [] ?_
  simp (maxSteps:=9^7) only [ss, evLit, tab, reduceCtorEq, reduceIte, Nat.reduceEqDiff, Nat.reduceBEq, Int.reduceLE, Int.reduceToNat, Nat.reduceAdd, Nat.reduceLT, Nat.reduceLeDiff]
  repeat' (first | (with_reducible refine hK _ ?_; clear hK K) | with_reducible apply And.intro)
  refine awp_seq_k fun KB hKB => ?_
  refine awp_seq_k fun K hK => awp_ev tab_ok [] ?_
  simp (maxSteps:=9^7) only [ss, evLit, tab, reduceCtorEq, reduceIte, Nat.reduceEqDiff, Nat.reduceBEq, Int.reduceLE, Int.reduceToNat, Nat.reduceAdd, Nat.reduceLT, Nat.reduceLeDiff, hl2]
  repeat' (first | (with_reducible refine hK _ ?_; clear hK K) | with_reducible apply And.intro)
  refine awp_block ?_
  refine awp_for_g (fun c : Nat => [(11, i64 (c : Int)), (3, i64 (((cat c).length : Nat) : Int)), (5, .top), (12, .top), (13, .top), (14, .top), (15, .top), (16, .top), (17, .top), (18, .top), (19, .top), (20, .top), (21, .top), (22, .top)]) (fun c => []) (fun c => out) (fun c => c ≤ 2) (fun c => 2 - c) 0 (Nat.zero_le _) ?_ fun c hc => ?_
  · refine le_of_all ?_ ?_ (by first | rfl | (simp only [cat0, List.length_nil]; rfl) | simp only [cat0, List.length_nil]) rfl rfl rfl <;> simp only [patch, sl, cat0, List.length_nil]
  simp only [patch, s_0, s_s]
  refine awp_seq_k fun K hK => awp_ev tab_ok [] ?_
  simp (maxSteps:=9^7) only [ss, evLit, tab, reduceCtorEq, reduceIte, Nat.reduceEqDiff, Nat.reduceBEq, Int.reduceLE, Int.reduceToNat, Nat.reduceAdd, Nat.reduceLT, Nat.reduceLeDiff, cat0, List.length_nil]
  repeat' (first | (with_reducible refine hK _ ?_; clear hK K) | with_reducible apply And.intro)
  refine awp_seq_k fun KC hKC => ?_
  refine awp_if rfl (fun ht => awp_skip (hKC _ ?_)) (fun hf => awp_exit (id ?_))
  rotate_left
  · simp only [thenA, blockA, if_true]
    refine hKB _ ?_
    clear hKB KB hKC KC
    have hc2 : c = 2 := by have := of_decide_eq_false hf; omega
    subst hc2
    rw [cat2]
    have hlab : (a ++ b).length = a.length + b.length := List.length_append
    rw [hlab]
    refine awp_seq_k fun K hK => awp_ev tab_ok [] ?_
    simp (maxSteps:=9^7) only [ss, evLit, tab, reduceCtorEq, reduceIte, Nat.reduceEqDiff, Nat.reduceBEq, Int.reduceLE, Int.reduceToNat, Nat.reduceAdd, Nat.reduceLT, Nat.reduceLeDiff]
    repeat' (first | (with_reducible refine hK _ ?_; clear hK K) | with_reducible apply And.intro)
    refine call_one (c_grow_ints k _ (by omega)) (by rw [lk_out hkn]; exact hk) (by rw [dm_out hkn]; trivial) (by simp) ?_
    simp (maxSteps:=9^7) only [ss, evLit, tab, reduceCtorEq, reduceIte, Nat.reduceEqDiff, Nat.reduceBEq, Int.reduceLE, Int.reduceToNat, Nat.reduceAdd, Nat.reduceLT, Nat.reduceLeDiff, lk_out hkn, dm_out hkn, nx_out0 hkn]
    repeat' (first | (with_reducible refine hK _ ?_; clear hK K) | with_reducible apply And.intro)
    refine awp_seq_k fun KB hKB => ?_
    refine awp_seq_k fun K hK => awp_ev tab_ok [] ?_
    simp (maxSteps:=9^7) only [ss, evLit, tab, reduceCtorEq, reduceIte, Nat.reduceEqDiff, Nat.reduceBEq, Int.reduceLE, Int.reduceToNat, Nat.reduceAdd, Nat.reduceLT, Nat.reduceLeDiff, hl2]
    repeat' (first | (with_reducible refine hK _ ?_; clear hK K) | with_reducible apply And.intro)
    refine awp_block ?_
    refine awp_for_g (fun c : Nat => [(27, i64 (c : Int)), (6, .sl 1 (cat c) (.own k)), (8, .top), (28, .top), (29, .top), (30, .top), (31, .top), (32, .top), (33, .top), (34, .top)]) (fun c => []) (fun c => upd1 out k (.row 3 1 (cat c).length)) (fun c => c ≤ 2) (fun c => 2 - c) 0 (Nat.zero_le _) ?_ fun c hc => ?_
    · refine le_of_all ?_ ?_ (by first | rfl | (simp only [cat0, List.length_nil]; rfl) | simp only [cat0, List.length_nil]) rfl rfl rfl <;> simp only [patch, sl, cat0, List.length_nil]
    simp only [patch, s_0, s_s]
    refine awp_seq_k fun K hK => awp_ev tab_ok [] ?_
    simp (maxSteps:=9^7) only [ss, evLit, tab, reduceCtorEq, reduceIte, Nat.reduceEqDiff, Nat.reduceBEq, Int.reduceLE, Int.reduceToNat, Nat.reduceAdd, Nat.reduceLT, Nat.reduceLeDiff, cat0, List.length_nil]
    repeat' (first | (with_reducible refine hK _ ?_; clear hK K) | with_reducible apply And.intro)
    refine awp_seq_k fun KC hKC => ?_
    refine awp_if rfl (fun ht => awp_skip (hKC _ ?_)) (fun hf => awp_exit (id ?_))
    rotate_left
    · simp only [thenA, blockA, if_true]
      refine hKB _ ?_
      clear hKB KB hKC KC
      have hc2 : c = 2 := by have := of_decide_eq_false hf; omega
      subst hc2
      rw [cat2, hlab]
      refine awp_seq_k fun K hK => awp_ev tab_ok [] ?_
      simp (maxSteps:=9^7) only [ss, evLit, tab, reduceCtorEq, reduceIte, Nat.reduceEqDiff, Nat.reduceBEq, Int.reduceLE, Int.reduceToNat, Nat.reduceAdd, Nat.reduceLT, Nat.reduceLeDiff]
      repeat' (first | (with_reducible refine hK _ ?_; clear hK K) | with_reducible apply And.intro)
      refine awp_ret ?_
      exact ret_tmp (.inr rfl) rfl rfl rfl (fun _ _ => rfl) rfl
    clear hKC KC
    have hc2 : c < 2 := by have := of_decide_eq_true ht; omega
    have hc3 : (c : Int) < 2 := by omega
    obtain ⟨l, md, hel, hct⟩ := elem c hc2
    have hcl := catl (c + 1) (by omega)
    have hcl2 : (cat c).length + l.length = (cat (c + 1)).length := by rw [hct, List.length_append]
    have e3 : (cat (c + 1)).length ≤ 140737488355328 := by omega
    have e4 : (cat (c + 1)).length ≤ 9223372036854775807 := by omega
    refine awp_seq_k fun KC hKC => awp_block ?_
    refine awp_seq_k fun K hK => awp_ev tab_ok [] ?_
    simp (maxSteps:=9^7) only [ss, evLit, tab, reduceCtorEq, reduceIte, Nat.reduceEqDiff, Nat.reduceBEq, Int.reduceLE, Int.reduceToNat, Nat.reduceAdd, Nat.reduceLT, Nat.reduceLeDiff, hl2, hel, hc2, hc3, nc]
    repeat' (first | (with_reducible refine hK _ ?_; clear hK K) | with_reducible apply And.intro)
    refine awp_ev tab_ok [] ?_
    simp (maxSteps:=9^7) only [ss, evLit, tab, reduceCtorEq, reduceIte, Nat.reduceEqDiff, Nat.reduceBEq, Int.reduceLE, Int.reduceToNat, Nat.reduceAdd, Nat.reduceLT, Nat.reduceLeDiff, hcl2, e3, e4, lk_out hkn, dm_out hkn, nx_out0 hkn, upd1_same, upd1_upd1]
    repeat refine And.intro (by omega) ?_
    refine hKC _ ?_
    clear hKC KC
    refine awp_ev tab_ok [] ?_
    simp (maxSteps:=9^7) only [ss, evLit, tab, reduceCtorEq, reduceIte, Nat.reduceEqDiff, Nat.reduceBEq, Int.reduceLE, Int.reduceToNat, Nat.reduceAdd, Nat.reduceLT, Nat.reduceLeDiff, addw (n := c) 1 1 rfl (by omega)]
    refine ⟨c + 1, by omega, by omega, ?_⟩
    rw [hct]
    refine le_of_all ?_ ?_ rfl rfl rfl rfl <;> simp only [patch, sl]
  clear hKC KC
  have hc2 : c < 2 := by have := of_decide_eq_true ht; omega
  have hc3 : (c : Int) < 2 := by omega
  obtain ⟨l, md, hel, hct⟩ := elem c hc2
  have hcl := catl (c + 1) (by omega)
  have hcl2 : (cat (c + 1)).length = (cat c).length + l.length := by rw [hct, List.length_append]
  have q1 : IntKind.i64.wrap (((cat c).length : Int) + (l.length : Int)) = (((cat (c + 1)).length : Nat) : Int) := by rw [wrap_i64] <;> omega
  have q2 : decide ((((cat (c + 1)).length : Nat) : Int) < 0) = false := decide_eq_false (by omega)
  refine awp_seq_k fun KC hKC => awp_block ?_
  refine awp_seq_k fun K hK => awp_ev tab_ok [] ?_
  simp (maxSteps:=9^7) only [ss, evLit, tab, reduceCtorEq, reduceIte, Nat.reduceEqDiff, Nat.reduceBEq, Int.reduceLE, Int.reduceToNat, Nat.reduceAdd, Nat.reduceLT, Nat.reduceLeDiff, hl2, hel, hc2, hc3, nc]
  repeat' (first | (with_reducible refine hK _ ?_; clear hK K) | with_reducible apply And.intro)
  refine awp_seq_k fun K hK => awp_ev tab_ok [] ?_
  simp (maxSteps:=9^7) only [ss, evLit, tab, reduceCtorEq, reduceIte, Nat.reduceEqDiff, Nat.reduceBEq, Int.reduceLE, Int.reduceToNat, Nat.reduceAdd, Nat.reduceLT, Nat.reduceLeDiff, q1]
  repeat' (first | (with_reducible refine hK _ ?_; clear hK K) | with_reducible apply And.intro)
  refine awp_seq_k fun K hK => awp_ev tab_ok [] ?_
  simp (maxSteps:=9^7) only [ss, evLit, tab, reduceCtorEq, reduceIte, Nat.reduceEqDiff, Nat.reduceBEq, Int.reduceLE, Int.reduceToNat, Nat.reduceAdd, Nat.reduceLT, Nat.reduceLeDiff, q2]
  repeat' (first | (with_reducible refine hK _ ?_; clear hK K) | with_reducible apply And.intro)
  refine awp_cond_f rfl (awp_skip (id ?_))
  simp only [blockA, thenA]
  refine hKC _ ?_
  clear hKC KC
  refine awp_ev tab_ok [] ?_
  simp (maxSteps:=9^7) only [ss, evLit, tab, reduceCtorEq, reduceIte, Nat.reduceEqDiff, Nat.reduceBEq, Int.reduceLE, Int.reduceToNat, Nat.reduceAdd, Nat.reduceLT, Nat.reduceLeDiff, addw (n := c) 1 1 rfl (by omega)]
  refine ⟨c + 1, by omega, by omega, ?_⟩
  refine le_of_all ?_ ?_ rfl rfl rfl rfl <;> simp only [patch, sl]
end Go.Proofs.Ytcfkieacdjcaoaa.Pln
end
