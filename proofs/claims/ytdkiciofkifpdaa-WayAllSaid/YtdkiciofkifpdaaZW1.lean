/-
  A walk along a route: through a section.
-/
import Derived.Test.YtdkiciofkifpdaaZG0
import Derived.Test.YtdkiciofkifpdaaZW0
namespace Go.Proofs.Ytdkiciofkifpdaa.Pln
set_option linter.unusedVariables false
set_option linter.unusedSimpArgs false
open Go Go.VS Tab
set_option maxHeartbeats 8000000
set_option maxRecDepth 4000
def thrOk (s : Sec) (w : Wk) (right : Int → Int × Int → Bool) (e : Nat) : Bool := !(w.lost || (thruE s w.inn.2 e != 0 || !right e (s.ends.getD e (0, 0))))
def thrEnd (s : Sec) (w : Wk) (right : Int → Int × Int → Bool) : Option Nat := (List.range s.ends.length).find? (thrOk s w right)
def leave (w : Wk) (o j : Int × Int) : Wk := { w with outs := w.outs ++ [o], inn := j }
def thrF (s : Sec) (w : Wk) (id at' : Int) (right : Int → Int × Int → Bool) : Wk := match thrEnd s w right with
  | some e => leave (askW w s.pt (thruL s w.inn.2 e) at') (id, (e : Int)) (s.ends.getD e (0, 0))
  | none => { w with lost := true }
def thrW (p : Pl) (w : Wk) (id at' : Int) (right : Int → Int × Int → Bool) : Wk := thrF (secW p w id).1 (secW p w id).2 id at' right
theorem range_find {n e : Nat} {f : Nat → Bool} (he : e < n) (hf : f e = true) (hq : ∀ i, i < e → f i = false) : (List.range n).find? f = some e := by
  rw [List.find?_range_eq_some]
  exact ⟨hf, List.mem_range.2 he, fun j hj => by simp [hq j hj]⟩
theorem range_none {n : Nat} {f : Nat → Bool} (hq : ∀ i, i < n → f i = false) : (List.range n).find? f = none := by
  rw [List.find?_eq_none]
  intro x hx
  rw [hq x (List.mem_range.1 hx)]; decide
theorem askW_keeps (w : Wk) (a b c : Int) : ∃ l, askW w a b c = ⟨w.inn, l, w.outs, w.lost⟩ := by
  unfold askW
  split
  · exact ⟨_, rfl⟩
  · exact ⟨_, rfl⟩
theorem upd_three {s : Nat → Option Res} {k ka ko : Nat} (h1 : ka ≠ k) (h2 : ko ≠ k) (h3 : ko ≠ ka) (A B C D F : Res) : upd1 (upd1 (upd1 (upd1 s k B) ka C) ko D) k F = upd s [(k, F), (ka, C), (ko, D)] := by
  rw [upd_cons, upd_cons, upd_cons, upd_nil]
  funext j
  simp only [upd1_eq]
  by_cases a : j = k
  · subst a; simp [Ne.symm h1, Ne.symm h2]
  · simp [a]
theorem upd_one_keep2 {s : Nat → Option Res} {k j i : Nat} {r q u : Res} (h : j ≠ k) (h' : i ≠ k) (hj : s j = some q) (hi : s i = some u) : upd1 s k r = upd s [(k, r), (j, q), (i, u)] := by
  rw [upd_cons, upd_cons, upd_cons, upd_nil, upd1_self ((upd1_ne s r h).trans hj), upd1_self ((upd1_ne s r h').trans hi)]
theorem c_thr (p : Pl) (w : Wk) (k ka ko : Nat) (h1 : ka ≠ k) (h2 : ko ≠ k) (h3 : ko ≠ ka) (id at' : Int) (fid : FuncId) (caps : List AV) (right : Int → Int × Int → Bool) (hb : hasBody Try.prog fid = True)
    (hr : ∀ e j, ACall Try.prog fid (i64 e :: jnA j :: caps) [] (bool (right e j)) []) (hp : p.secs.length ≤ 1000000) (hse : (secW p w id).1.ends.length ≤ 1000) (hl : w.asks.length ≤ 1000000) (ho : w.outs.length ≤ 1000000) :
    ACall Try.prog 112 [.ptr k 0, i64 id, i64 at', .fn (.func fid) caps] [(k, some (.box 170 (wkC p w ka ko))), (ka, some (.row 83 3 w.asks.length)), (ko, some (.row 39 2 w.outs.length))] (.tup [])
      [(k, .box 170 (wkC p (thrW p w id at' right) ka ko)), (ka, .row 83 3 (thrW p w id at' right).asks.length), (ko, .row 39 2 (thrW p w id at' right).outs.length)] := by
  have x1 : (k = ka) = False := eq_false (Ne.symm h1)
  have x2 : (ka = k) = False := eq_false h1
  have x3 : (k = ko) = False := eq_false (Ne.symm h2)
  have x4 : (ko = k) = False := eq_false h2
  have x5 : (ka = ko) = False := eq_false (Ne.symm h3)
  have x6 : (ko = ka) = False := eq_false h3
  have cs := c_section p w k ka ko id hp
  unfold thrW
  obtain ⟨s, lost, e⟩ := secW_keeps p w id
  rw [e] at cs hse ⊢
  clear e
  dsimp only at cs hse ⊢
  obtain ⟨inn, asks, outs, lost0⟩ := w
  dsimp only at *
  have ct := fun e : Int => c_through s inn.2 e
  simp only [secA, secC] at ct
  have hr' := fun (e : Int) (j : Int × Int) => hr e j
  simp only [jnA, jnC] at hr'
  have cA := fun (x : Int) => c_ask p ⟨inn, asks, outs, lost⟩ k ka ko h1 s.pt x at' hl
  simp only [wkC] at cA cs
  obtain ⟨W, hW⟩ : ∃ W, W = thrF s ⟨inn, asks, outs, lost⟩ id at' right := ⟨_, rfl⟩
  rw [← hW]
  have lit : ∀ (a b : Int) (σ : AState) (K : AV → List (Nat × Res) → Prop), evLit tab σ K none 35 1 [(0, .agg [i64 a, i64 b])] = K (.sl 2 [[i64 a, i64 b]] .full) [] := fun a b σ K => evLit_one (T := tab) (ti := ti35) (te := ti39) rfl rfl rfl (by decide) (by decide) rfl rfl
  have y1 : (outs.length + 1) * 16 ≤ 140737488355328 := by omega
  have y2 : outs.length ≤ 9223372036854775806 := by omega
  refine acall_of 2 Try.func112 rfl fun n out _ _ => ?_
  simp only [Try.ntmps112, List.length_cons, List.length_nil, List.length_map, List.length_replicate, rep_map, Nat.reduceAdd, Nat.reduceSub, List.replicate, List.cons_append, List.nil_append]
  rename_i hneeds hgv
  obtain ⟨hk, hka, hko, _⟩ := hneeds
  obtain ⟨hkn, hkan, hkon, _⟩ := hgv
  repeat' (first | (with_reducible first | refine awp_seq_k fun K hK => ?_ | refine awp_ev tab_ok [] ?_ | refine awp_block_s ?_ | refine awp_block_c ?_ | refine awp_block_r ?_ | refine awp_skip ?_ | apply And.intro) | (with_reducible refine awp_ev_quiet tab_ok follows (by kernel_rfl) ?_) | ((with_reducible first | refine gE ?_ | refine gR ?_ | refine gD ?_ | refine gF ?_); simp (maxSteps := 4000000) only [su, evLit, hbT, tab, thenA, blockA, reduceCtorEq, reduceIte, Nat.reduceEqDiff, Nat.reduceBEq, Int.reduceLE, Int.reduceToNat, Nat.reduceAdd, Nat.reduceLT, Nat.reduceLeDiff, wkC, secA, secC, hk, hka, hko, lk_out hkn, lk_out hkan, lk_out hkon, dm_out hkn, dm_out hkan, dm_out hkon, nx_outs hkn, nx_outs hkan, nx_outs hkon, upd1_eq, x1, x2, x3, x4, x5, x6, splice_all, List.length_map]) | (show (_ : Nat) = (_ : Nat); rfl) | ((with_reducible refine awp_ret ?_); (try refine Or.inr ⟨(by intro h; cases h), ?_⟩); refine ret_unit (.inr rfl) rfl rfl rfl (fun _ _ => rfl) <;> first | rfl | skip) | (refine call_boxed cs (by rw [lk_out hkn]; exact hk) (by rw [dm_out hkn]; trivial) ?_) | ((with_reducible refine gsel_case (fun hg => ?_) (fun hg => ?_)) <;> (try simp only [nb] at hg) <;> simp (maxSteps := 4000000) only [su, evLit, hbT, tab, thenA, blockA, reduceCtorEq, reduceIte, Nat.reduceEqDiff, Nat.reduceBEq, Int.reduceLE, Int.reduceToNat, Nat.reduceAdd, Nat.reduceLT, Nat.reduceLeDiff, hg, wkC, secA, secC, hk, hka, hko, lk_out hkn, lk_out hkan, lk_out hkon, dm_out hkn, dm_out hkan, dm_out hkon, nx_outs hkn, nx_outs hkan, nx_outs hkon, upd1_eq, x1, x2, x3, x4, x5, x6, splice_all, List.length_map]) | ((with_reducible refine awp_exit ?_); simp only [thenA, blockA, if_true, if_false, reduceIte, Nat.reduceEqDiff]) | (refine hK _ ?_; clear hK K) | refine awp_cond_t rfl ?_ | refine awp_cond_f rfl ?_ | refine awp_if rfl (fun hg => ?_) (fun hg => ?_) | (refine Or.inl ⟨rfl, ?_⟩; refine le_of_all ?_ ?_ rfl rfl rfl rfl <;> simp only [patch, sl, wkC, secA, secC, hk, hka, hko, lk_out hkn, lk_out hkan, lk_out hkon, dm_out hkn, dm_out hkan, dm_out hkon, nx_outs hkn, nx_outs hkan, nx_outs hkon, upd1_eq, x1, x2, x3, x4, x5, x6, if_false, if_true, splice_all, List.length_map]) | ((first | show Program.eqGuardType _ _ _ = false | show numFieldsB _ _ _ = true | show Program.stoodInHeld _ _ = false); kernel_rfl) | clear hK K)
  refine awp_block ?_
  refine awp_for_mv (fun m (e : Nat) => [(19, i64 (e : Int)), (8, .ptr (m + 0) 0), (9, .top), (10, .top), (11, .top), (12, .top), (20, .top), (21, .top), (22, .top), (23, .top), (24, .top), (25, .top), (26, .top), (27, .top), (28, .top), (29, .top), (30, .top), (31, .top), (32, .top), (33, .top), (34, .top), (35, .top), (36, .top), (37, .top), (38, .top), (39, .top), (40, .top), (41, .top), (42, .top), (43, .top), (44, .top), (45, .top), (46, .top), (47, .top), (48, .top), (49, .top), (50, .top), (51, .top), (52, .top), (53, .top), (54, .top), (55, .top), (56, .top), (57, .top), (58, .top), (59, .top), (60, .top), (61, .top), (62, .top), (63, .top), (64, .top), (65, .top), (66, .top), (67, .top), (68, .top), (69, .top), (70, .top), (71, .top), (72, .top)]) (fun m e => [some (.box 37 (secC s)), none]) (fun e => upd1 out k (.box 170 (wkC p ⟨inn, asks, outs, lost⟩ ka ko))) (fun e => e ≤ s.ends.length ∧ (∀ i, i < e → thrOk s ⟨inn, asks, outs, lost⟩ right i = false)) (fun e => s.ends.length - e) 0 ⟨Nat.zero_le _, by intros; omega⟩ ?_ fun m e hm he => ?_
  · refine le_of_all ?_ ?_ (by first | rfl | (simp only [secC, wkC, List.length_map]; rfl) | simp only [secC, wkC, List.length_map]) rfl rfl rfl <;> simp only [patch, sl, secC, wkC, List.length_map]
  obtain ⟨he, hq⟩ := he
  simp only [patch, s_0, s_s]
  have hw := addw (n := e) 1 1 rfl (by omega)
  by_cases hlt : e < s.ends.length
  · have ge := getD_map jnC s.ends e [] hlt
    have gd : s.ends.getD e (0, 0) = s.ends[e] := by simp [List.getD_eq_getElem?_getD, hlt]
    have hok : thrOk s ⟨inn, asks, outs, lost⟩ right e = !(lost || (thruE s inn.2 e != 0 || !right e s.ends[e])) := by unfold thrOk; rw [gd]
    have next : thrOk s ⟨inn, asks, outs, lost⟩ right e = false → ∀ i, i < e + 1 → thrOk s ⟨inn, asks, outs, lost⟩ right i = false := fun h i hi => by
      by_cases h' : i = e
      · subst h'; exact h
      · exact hq i (by omega)
    have ctE := ct e
    have hrE := hr' e s.ends[e]
    obtain ⟨AL, hAL⟩ := askW_keeps ⟨inn, asks, outs, lost⟩ s.pt (thruL s inn.2 e) at'
    have ca := c_ask p ⟨inn, asks, outs, lost⟩ k ka ko h1 s.pt (thruL s inn.2 e) at' hl
    have good : thrOk s ⟨inn, asks, outs, lost⟩ right e = true → W = ⟨s.ends[e], AL, outs ++ [(id, (e : Int))], lost⟩ := fun h => by
      rw [hW]; unfold thrF thrEnd
      rw [range_find hlt h hq]
      dsimp only
      rw [hAL, gd]; rfl
    rw [hAL] at ca
    simp only [wkC] at ca
    clear hAL hW cA ct hr' hr hq
    generalize thruL s inn.2 e = TL at *
    generalize thruE s inn.2 e = TE at *
    generalize right e s.ends[e] = RT at *
    cases lost with
    | true =>
      repeat' (first | (with_reducible first | refine awp_seq_k fun K hK => ?_ | refine awp_ev tab_ok [] ?_ | refine awp_block_s ?_ | refine awp_block_c ?_ | refine awp_block_r ?_ | refine awp_skip ?_ | apply And.intro) | (with_reducible refine awp_ev_quiet tab_ok follows (by kernel_rfl) ?_) | ((with_reducible first | refine gE ?_ | refine gR ?_ | refine gD ?_ | refine gF ?_); simp (maxSteps := 4000000) only [su, hbT, tab, thenA, blockA, reduceCtorEq, reduceIte, Nat.reduceEqDiff, Nat.reduceBEq, Int.reduceLE, Int.reduceToNat, Nat.reduceAdd, Nat.reduceLT, Nat.reduceLeDiff, lit, locM hm, wkC, secA, secC, jnC, ge, hlt, hb, hw, hk, hka, hko, lk_out hkn, lk_out hkan, lk_out hkon, dm_out hkn, dm_out hkan, dm_out hkon, nx_outs hkn, nx_outs hkan, nx_outs hkon, upd1_eq, upd1_upd1, x1, x2, x3, x4, x5, x6, splice_all, List.length_map, y1, y2]) | (show (_ : Nat) = (_ : Nat); rfl) | ((with_reducible refine awp_ret ?_); (try refine Or.inr ⟨(by intro h; cases h), ?_⟩); refine ret_unit (.inr rfl) rfl rfl rfl (fun _ _ => rfl) <;> first | rfl | skip) | (refine call_pure (ctE) ?_) | (refine call_pure (hrE) ?_) | ((with_reducible refine gsel_case (fun hg => ?_) (fun hg => ?_)) <;> (try simp only [nb] at hg) <;> simp (maxSteps := 4000000) only [su, hbT, tab, thenA, blockA, reduceCtorEq, reduceIte, Nat.reduceEqDiff, Nat.reduceBEq, Int.reduceLE, Int.reduceToNat, Nat.reduceAdd, Nat.reduceLT, Nat.reduceLeDiff, hg, lit, locM hm, wkC, secA, secC, jnC, ge, hlt, hb, hw, hk, hka, hko, lk_out hkn, lk_out hkan, lk_out hkon, dm_out hkn, dm_out hkan, dm_out hkon, nx_outs hkn, nx_outs hkan, nx_outs hkon, upd1_eq, upd1_upd1, x1, x2, x3, x4, x5, x6, splice_all, List.length_map, y1, y2]) | ((with_reducible refine awp_exit ?_); simp only [thenA, blockA, if_true, if_false, reduceIte, Nat.reduceEqDiff]) | (refine hK _ ?_; clear hK K) | refine awp_cond_t rfl ?_ | refine awp_cond_f rfl ?_ | refine awp_if rfl (fun hg => ?_) (fun hg => ?_) | (refine Or.inl ⟨rfl, ?_⟩; refine le_of_all ?_ ?_ rfl rfl rfl rfl <;> simp only [patch, sl, lit, locM hm, wkC, secA, secC, jnC, ge, hlt, hb, hw, hk, hka, hko, lk_out hkn, lk_out hkan, lk_out hkon, dm_out hkn, dm_out hkan, dm_out hkon, nx_outs hkn, nx_outs hkan, nx_outs hkon, upd1_eq, upd1_upd1, x1, x2, x3, x4, x5, x6, if_false, if_true, splice_all, List.length_map, y1, y2]) | ((first | show Program.eqGuardType _ _ _ = false | show numFieldsB _ _ _ = true | show Program.stoodInHeld _ _ = false); kernel_rfl) | clear hK K)
      refine ⟨e + 1, ⟨by omega, next (by rw [hok]; rfl)⟩, by omega, ?_⟩
      refine le_move [true, false] (fun n_ => ?_) (fun n_ => ?_) <;> simp only [patch, sm, secC, wkC, hlt, decide_true]
    | false =>
      repeat' (first | (with_reducible first | refine awp_seq_k fun K hK => ?_ | refine awp_ev tab_ok [] ?_ | refine awp_block_s ?_ | refine awp_block_c ?_ | refine awp_block_r ?_ | refine awp_skip ?_ | apply And.intro) | (with_reducible refine awp_ev_quiet tab_ok follows (by kernel_rfl) ?_) | ((with_reducible first | refine gE ?_ | refine gR ?_ | refine gD ?_ | refine gF ?_); simp (maxSteps := 4000000) only [su, hbT, tab, thenA, blockA, reduceCtorEq, reduceIte, Nat.reduceEqDiff, Nat.reduceBEq, Int.reduceLE, Int.reduceToNat, Nat.reduceAdd, Nat.reduceLT, Nat.reduceLeDiff, lit, locM hm, wkC, secA, secC, jnC, ge, hlt, hb, hw, hk, hka, hko, lk_out hkn, lk_out hkan, lk_out hkon, dm_out hkn, dm_out hkan, dm_out hkon, nx_outs hkn, nx_outs hkan, nx_outs hkon, upd1_eq, upd1_upd1, x1, x2, x3, x4, x5, x6, splice_all, List.length_map, y1, y2]) | (show (_ : Nat) = (_ : Nat); rfl) | ((with_reducible refine awp_ret ?_); (try refine Or.inr ⟨(by intro h; cases h), ?_⟩); refine ret_unit (.inr rfl) rfl rfl rfl (fun _ _ => rfl) <;> first | rfl | skip) | (refine call_pure (ctE) ?_) | (refine call_pure (hrE) ?_) | (refine call_two ca (by rw [lk_out hkn, upd1_eq, if_pos rfl]) (by rw [lk_out hkan, upd1_eq, if_neg h1]; exact hka) (by rw [dm_out hkn]; trivial) (by rw [dm_out hkan]; trivial) (by simp) (by simp) ?_) | ((with_reducible refine gsel_case (fun hg => ?_) (fun hg => ?_)) <;> (try simp only [nb] at hg) <;> simp (maxSteps := 4000000) only [su, hbT, tab, thenA, blockA, reduceCtorEq, reduceIte, Nat.reduceEqDiff, Nat.reduceBEq, Int.reduceLE, Int.reduceToNat, Nat.reduceAdd, Nat.reduceLT, Nat.reduceLeDiff, hg, lit, locM hm, wkC, secA, secC, jnC, ge, hlt, hb, hw, hk, hka, hko, lk_out hkn, lk_out hkan, lk_out hkon, dm_out hkn, dm_out hkan, dm_out hkon, nx_outs hkn, nx_outs hkan, nx_outs hkon, upd1_eq, upd1_upd1, x1, x2, x3, x4, x5, x6, splice_all, List.length_map, y1, y2]) | ((with_reducible refine awp_exit ?_); simp only [thenA, blockA, if_true, if_false, reduceIte, Nat.reduceEqDiff]) | (refine hK _ ?_; clear hK K) | refine awp_cond_t rfl ?_ | refine awp_cond_f rfl ?_ | refine awp_if rfl (fun hg => ?_) (fun hg => ?_) | (refine Or.inl ⟨rfl, ?_⟩; refine le_of_all ?_ ?_ rfl rfl rfl rfl <;> simp only [patch, sl, lit, locM hm, wkC, secA, secC, jnC, ge, hlt, hb, hw, hk, hka, hko, lk_out hkn, lk_out hkan, lk_out hkon, dm_out hkn, dm_out hkan, dm_out hkon, nx_outs hkn, nx_outs hkan, nx_outs hkon, upd1_eq, upd1_upd1, x1, x2, x3, x4, x5, x6, if_false, if_true, splice_all, List.length_map, y1, y2]) | ((first | show Program.eqGuardType _ _ _ = false | show numFieldsB _ _ _ = true | show Program.stoodInHeld _ _ = false); kernel_rfl) | clear hK K)
      · refine ⟨e + 1, ⟨by omega, next (by rw [hok]; simp_all)⟩, by omega, ?_⟩
        refine le_move [true, false] (fun n_ => ?_) (fun n_ => ?_) <;> simp only [patch, sm, secC, wkC, hlt, decide_true]
      · refine ⟨e + 1, ⟨by omega, next (by rw [hok]; simp_all)⟩, by omega, ?_⟩
        refine le_move [true, false] (fun n_ => ?_) (fun n_ => ?_) <;> simp only [patch, sm, secC, wkC, hlt, decide_true]
      have hE := good (by rw [hok]; simp_all)
      subst hE
      refine awp_ret ?_
      refine ret_unit (.inr rfl) rfl rfl rfl (fun j _ => congrFun ?_ j)
      simp only [wkC, List.map_append, List.map_cons, List.map_nil, jnC, List.length_append, List.length_cons, List.length_nil, Nat.zero_add]
      exact upd_three h1 h2 h3 (.box 0 []) _ _ _ _
  · obtain rfl : e = s.ends.length := by omega
    have bad : W = ⟨inn, asks, outs, true⟩ := by
      rw [hW]; unfold thrF thrEnd
      rw [range_none hq]
    repeat' (first | (with_reducible first | refine awp_seq_k fun K hK => ?_ | refine awp_ev tab_ok [] ?_ | refine awp_block_s ?_ | refine awp_block_c ?_ | refine awp_block_r ?_ | refine awp_skip ?_ | apply And.intro) | (with_reducible refine awp_ev_quiet tab_ok follows (by kernel_rfl) ?_) | ((with_reducible first | refine gE ?_ | refine gR ?_ | refine gD ?_ | refine gF ?_); simp (maxSteps := 4000000) only [su, evLit, hbT, tab, thenA, blockA, reduceCtorEq, reduceIte, Nat.reduceEqDiff, Nat.reduceBEq, Int.reduceLE, Int.reduceToNat, Nat.reduceAdd, Nat.reduceLT, Nat.reduceLeDiff, locM hm, wkC, hlt, hk, lk_out hkn, dm_out hkn, nx_outs hkn, upd1_eq, upd1_upd1, splice_all, List.length_map]) | (show (_ : Nat) = (_ : Nat); rfl) | ((with_reducible refine awp_ret ?_); (try refine Or.inr ⟨(by intro h; cases h), ?_⟩); refine ret_unit (.inr rfl) rfl rfl rfl (fun _ _ => rfl) <;> first | rfl | skip) | ((with_reducible refine gsel_case (fun hg => ?_) (fun hg => ?_)) <;> (try simp only [nb] at hg) <;> simp (maxSteps := 4000000) only [su, evLit, hbT, tab, thenA, blockA, reduceCtorEq, reduceIte, Nat.reduceEqDiff, Nat.reduceBEq, Int.reduceLE, Int.reduceToNat, Nat.reduceAdd, Nat.reduceLT, Nat.reduceLeDiff, hg, locM hm, wkC, hlt, hk, lk_out hkn, dm_out hkn, nx_outs hkn, upd1_eq, upd1_upd1, splice_all, List.length_map]) | ((with_reducible refine awp_exit ?_); simp only [thenA, blockA, if_true, if_false, reduceIte, Nat.reduceEqDiff]) | (refine hK _ ?_; clear hK K) | refine awp_cond_t rfl ?_ | refine awp_cond_f rfl ?_ | refine awp_if rfl (fun hg => ?_) (fun hg => ?_) | (refine Or.inl ⟨rfl, ?_⟩; refine le_of_all ?_ ?_ rfl rfl rfl rfl <;> simp only [patch, sl, locM hm, wkC, hlt, hk, lk_out hkn, dm_out hkn, nx_outs hkn, upd1_eq, upd1_upd1, if_true, splice_all, List.length_map]) | ((first | show Program.eqGuardType _ _ _ = false | show numFieldsB _ _ _ = true | show Program.stoodInHeld _ _ = false); kernel_rfl) | clear hK K)
    subst bad
    exact ret_same rfl rfl rfl (upd_one_keep2 h1 h2 hka hko)
end Go.Proofs.Ytdkiciofkifpdaa.Pln
