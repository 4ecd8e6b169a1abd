/-
  A walk along a route: what is asked, and the section into which it comes.
-/
import Derived.Test.YtcfkieacdjcaoaaZGA
import Derived.Test.YtcfkieacdjcaoaaZP2
import Derived.Test.YtcfkieacdjcaoaaZP5
namespace Go.Proofs.Ytcfkieacdjcaoaa.Pln
set_option linter.unusedVariables false
set_option linter.unusedSimpArgs false
open Go Go.VS Tab
set_option maxHeartbeats 4000000
set_option maxRecDepth 4000
structure Wk where
  inn : Int × Int
  asks : List (Int × Int × Int)
  outs : List (Int × Int)
  lost : Bool
def wkC (p : Pl) (w : Wk) (ka ko : Nat) : List AV := [i64 p.ver, i64 p.par, .sl 3 (p.secs.map secC) .sh, .sl 2 (p.pts.map jnC) .sh, .sl 3 (p.sgs.map sgC) .sh, .sl 7 (p.rts.map rtC) .sh, i64 w.inn.1, i64 w.inn.2, .sl 3 (w.asks.map sgC) (.own ka), .sl 2 (w.outs.map jnC) (.own ko), bool w.lost]
def askW (w : Wk) (pt lie at' : Int) : Wk := if (decide (pt > 0) && decide (lie > 0)) = true then { w with asks := w.asks ++ [(pt, lie, at')] } else w
theorem ret_same {P : Program} {n : Nat} {fn : Func} {out : Nat → Option Res} {gives : List (Nat × Res)} {σ : AState} (hr : fn.results = #[]) (hd : σ.df = []) (h0 : σ.n0 = n) (ho : σ.out = upd out gives) : retPost P n fn out gives (.tup []) .normal σ :=
  ret_unit (.inl rfl) hr hd h0 (fun k _ => by rw [ho])
theorem upd1_comm (s : Nat → Option Res) {k j : Nat} (r q : Res) (h : k ≠ j) : upd1 (upd1 s k r) j q = upd1 (upd1 s j q) k r := by
  funext i; unfold upd1
  by_cases h1 : i = j
  · have h2 : ¬ i = k := fun e => h (e.symm.trans h1)
    simp [h1, Ne.symm h]
  · simp [h1]
theorem call_two {P : Program} {σ : AState} {K : AV → List (Nat × Res) → Prop} {f : FuncId} {args : List AV} {k j : Nat} {q u : Option Res} {q' u' : Res} {r : AV} (h : ACall P f args [(k, q), (j, u)] r [(k, q'), (j, u')]) (h1 : σ.look k = q) (h2 : σ.look j = u)
    (d1 : σ.dom k) (d2 : σ.dom j) (n1 : q ≠ some .dead) (n2 : u ≠ some .dead) (hK : K r [(k, q'), (j, u')]) : evCall P σ K f args :=
  ⟨_, r, _, h, ⟨h1, h2, trivial⟩, ⟨d1, d2, trivial⟩, (fun x hx => by simp at hx; rcases hx with rfl | rfl; exact ⟨d1, n1⟩; exact ⟨d2, n2⟩), hK⟩
theorem call_three {P : Program} {σ : AState} {K : AV → List (Nat × Res) → Prop} {f : FuncId} {args : List AV} {k j i : Nat} {q u v : Option Res} {q' u' v' : Res} {r : AV} (h : ACall P f args [(k, q), (j, u), (i, v)] r [(k, q'), (j, u'), (i, v')]) (h1 : σ.look k = q) (h2 : σ.look j = u) (h3 : σ.look i = v)
    (d1 : σ.dom k) (d2 : σ.dom j) (d3 : σ.dom i) (n1 : q ≠ some .dead) (n2 : u ≠ some .dead) (n3 : v ≠ some .dead) (hK : K r [(k, q'), (j, u'), (i, v')]) : evCall P σ K f args :=
  ⟨_, r, _, h, ⟨h1, h2, h3, trivial⟩, ⟨d1, d2, d3, trivial⟩, (fun x hx => by simp at hx; rcases hx with rfl | rfl | rfl; exact ⟨d1, n1⟩; exact ⟨d2, n2⟩; exact ⟨d3, n3⟩), hK⟩
theorem call_boxed {P : Program} {σ : AState} {K : AV → List (Nat × Res) → Prop} {f : FuncId} {args : List AV} {k : Nat} {e : TypeId} {cs : List AV} {q' : Res} {r : AV} (h : ACall P f args [(k, some (.box e cs))] r [(k, q')]) (h1 : σ.look k = some (.box e cs)) (h2 : σ.dom k) (hK : K r [(k, q')]) : evCall P σ K f args :=
  call_one h h1 h2 (by simp) hK
theorem upd_one_keep {s : Nat → Option Res} {k j : Nat} {r q : Res} (h : j ≠ k) (hj : s j = some q) : upd1 s k r = upd s [(k, r), (j, q)] := by
  rw [upd_cons, upd_cons, upd_nil, upd1_self ((upd1_ne s r h).trans hj)]
theorem upd_two {s : Nat → Option Res} {k j : Nat} {r q : Res} (hk : s k = some r) (hj : s j = some q) : s = upd s [(k, r), (j, q)] := by
  rw [upd_cons, upd1_self hk, upd_cons, upd1_self hj, upd_nil]
theorem c_ask (p : Pl) (w : Wk) (k ka ko : Nat) (hne : ka ≠ k) (pt lie at' : Int) (hl : w.asks.length ≤ 1000000) :
    ACall Try.prog 95 [.ptr k 0, i64 pt, i64 lie, i64 at'] [(k, some (.box 149 (wkC p w ka ko))), (ka, some (.row 63 3 w.asks.length))] (.tup [])
      [(k, .box 149 (wkC p (askW w pt lie at') ka ko)), (ka, .row 63 3 (askW w pt lie at').asks.length)] := by
  have hne' : (k = ka) = False := eq_false (Ne.symm hne)
  have hne2 : (ka = k) = False := eq_false hne
  have lit : ∀ (σ : AState) (K : AV → List (Nat × Res) → Prop), evLit tab σ K none 57 1 [(0, .agg [i64 pt, i64 lie, i64 at'])] = K (.sl 3 [[i64 pt, i64 lie, i64 at']] .full) [] := fun σ K => evLit_one (T := tab) (ti := ti57) (te := ti63) rfl rfl rfl (by decide) (by decide) rfl rfl
  have b1 : (w.asks.length + 1) * 24 ≤ 140737488355328 := by omega
  have b2 : w.asks.length ≤ 9223372036854775806 := by omega
  unfold askW
  refine acall_of 0 Try.func95 rfl fun n out _ _ => ?_
  simp only [Try.ntmps95, List.length_cons, List.length_nil, List.length_map, List.length_replicate, rep_map, Nat.reduceAdd, Nat.reduceSub, List.replicate, List.cons_append, List.nil_append]
  rename_i hneeds hgv
  obtain ⟨hk, hka, _⟩ := hneeds
  obtain ⟨hkn, hkan, _⟩ := hgv
  repeat' (first | (with_reducible first | refine Vk fun K hK => ?_ | refine V0 ?_ | refine Vs ?_ | apply And.intro) | ((with_reducible first | refine gE ?_ | refine gR ?_); simp (maxSteps:=9^7) only [ss, tab, reduceCtorEq, reduceIte, Nat.reduceEqDiff, Nat.reduceBEq, Int.reduceLE, Int.reduceToNat, Nat.reduceAdd, Nat.reduceLT, Nat.reduceLeDiff, lit, wkC, hk, hka, lk_out hkn, lk_out hkan, dm_out hkn, dm_out hkan, nx_outs hkn, nx_outs hkan, upd1_eq, hne', hne2, splice_all, List.length_map, b1, b2]) | exact Vn | ((with_reducible refine Vz ?_); refine ret_unit (.inr rfl) rfl rfl rfl (fun _ _ => rfl) <;> first | rfl | skip) | ((with_reducible refine Vg (fun hg => ?_) (fun hg => ?_)) <;> (try simp only [nb] at hg) <;> simp (maxSteps:=9^7) only [ss, tab, reduceCtorEq, reduceIte, Nat.reduceEqDiff, Nat.reduceBEq, Int.reduceLE, Int.reduceToNat, Nat.reduceAdd, Nat.reduceLT, Nat.reduceLeDiff, hg, lit, wkC, hk, hka, lk_out hkn, lk_out hkan, dm_out hkn, dm_out hkan, nx_outs hkn, nx_outs hkan, upd1_eq, hne', hne2, splice_all, List.length_map, b1, b2]) | (refine hK _ ?_; clear hK K) | refine Vt rfl ?_ | refine Vf rfl ?_ | refine Vi rfl (fun hg => ?_) (fun hg => ?_) | clear hK K)
  · have hg' : decide (pt > 0) = true := by assumption
    have hq' : decide (lie > 0) = true := by assumption
    rw [hg', hq', Bool.and_self, if_pos rfl]
    refine ret_same rfl rfl rfl ?_
    simp only [upd_cons, upd_nil, sgC, List.map_append, List.map_cons, List.map_nil, List.length_append, List.length_cons, List.length_nil, Nat.zero_add]
    exact upd1_comm _ _ _ hne
  · have hq' : decide (lie > 0) = false := by assumption
    rw [hq', Bool.and_false, if_neg (by decide)]
    exact ret_same rfl rfl rfl (upd_two hk hka)
  · have hq' : decide (pt > 0) = false := by assumption
    rw [hq', Bool.false_and, if_neg (by decide)]
    exact ret_same rfl rfl rfl (upd_two hk hka)
theorem c_sec1 (x : Sec) (b : Int) : ACall Try.prog 128 [secA x, .ref [i64 b]] [] (bool (x.id == b)) [] := by
  refine acall_of 1 Try.func128 rfl fun n out _ _ => ?_
  simp only [Try.ntmps128, List.length_cons, List.length_nil, List.length_map, List.length_replicate, rep_map, Nat.reduceAdd, Nat.reduceSub, List.replicate, List.cons_append, List.nil_append]
  repeat' (first | (with_reducible first | refine Vk fun K hK => ?_ | refine V0 ?_ | refine Vs ?_ | apply And.intro) | ((with_reducible first | refine gE ?_ | refine gR ?_); simp (maxSteps:=9^7) only [ss, evLit, tab, reduceCtorEq, reduceIte, Nat.reduceEqDiff, Nat.reduceBEq, Int.reduceLE, Int.reduceToNat, Nat.reduceAdd, Nat.reduceLT, Nat.reduceLeDiff, secA, secC, splice_all]) | exact Vn | ((with_reducible refine Vz ?_); refine Vo rfl rfl rfl (fun _ _ => rfl) ?_ <;> first | rfl | skip) | (refine hK _ ?_; clear hK K) | clear hK K)
def secW (p : Pl) (w : Wk) (id : Int) : Sec × Wk := match getS p.secs id with
  | some s => if w.inn.1 != id then (noSec, { w with lost := true }) else (s, w)
  | none => (noSec, { w with lost := true })
theorem secW_keeps (p : Pl) (w : Wk) (id : Int) : ∃ s lost, secW p w id = (s, ⟨w.inn, w.asks, w.outs, lost⟩) := by
  unfold secW
  split
  · split
    · exact ⟨_, _, rfl⟩
    · exact ⟨_, _, rfl⟩
  · exact ⟨_, _, rfl⟩
theorem c_section (p : Pl) (w : Wk) (k ka ko : Nat) (id : Int) (hl : p.secs.length ≤ 1000000) :
    ACall Try.prog 122 [.ptr k 0, i64 id] [(k, some (.box 149 (wkC p w ka ko)))] (secA (secW p w id).1) [(k, .box 149 (wkC p (secW p w id).2 ka ko))] := by
  have ci := c_idxf_sec p.secs _ [.ref [i64 id]] (fun x => x.id == id) (hb0 128 (by decide) (by decide)) (by omega) fun x _ => c_sec1 x id
  rcases idx_cases (fun x : Sec => x.id == id) p.secs with ⟨h1, h2, h3⟩ | ⟨i, hi, h1, h2, h3, h4⟩
  · rw [h1] at ci
    have e : secW p w id = (noSec, { w with lost := true }) := by unfold secW getS; rw [h2]
    rw [e]
    refine acall_of 2 Try.func122 rfl fun n out _ _ => ?_
    simp only [Try.ntmps122, List.length_cons, List.length_nil, List.length_map, List.length_replicate, rep_map, Nat.reduceAdd, Nat.reduceSub, List.replicate, List.cons_append, List.nil_append]
    rename_i hneeds hgv
    obtain ⟨hk, _⟩ := hneeds
    obtain ⟨hkn, _⟩ := hgv
    refine awp_seq_k fun K hK => awp_ev tab_ok [] ?_
    simp (maxSteps:=9^7) only [ss, evLit, tab, reduceCtorEq, reduceIte, Nat.reduceEqDiff, Nat.reduceBEq, Int.reduceLE, Int.reduceToNat, Nat.reduceAdd, Nat.reduceLT, Nat.reduceLeDiff]
    repeat' (first | (with_reducible refine hK _ ?_; clear hK K) | with_reducible apply And.intro)
    refine awp_le (le_freezeAt (i := 0) (t := 3) 1 (.ref [i64 id]) rfl rfl (.ptr 0)) ?_
    simp only [s_0, s_s]
    repeat' (first | (with_reducible first | refine Vk fun K hK => ?_ | refine V0 ?_ | refine Vs ?_ | apply And.intro | refine Vq (by kernel_rfl) ?_) | ((with_reducible first | refine gE ?_ | refine gR ?_); simp (maxSteps:=9^7) only [ss, evLit, tab, reduceCtorEq, reduceIte, Nat.reduceEqDiff, Nat.reduceBEq, Int.reduceLE, Int.reduceToNat, Nat.reduceAdd, Nat.reduceLT, Nat.reduceLeDiff, wkC, hk, lk_out hkn, dm_out hkn, nx_outs hkn, upd1_eq, splice_all, secA, secC, noSec, List.map_nil, Int.reduceLT, Int.reduceNeg, decide_true]) | exact Vn | ((with_reducible refine Vz ?_); (first | refine ret_cell_le (.inr rfl) rfl rfl rfl (fun _ _ => rfl) ok73 (k := n + 1) (off := 0) rfl (dom_loc _ (by simp)) (look_loc _ (Nat.le_refl _) 1) rfl ?_ | refine ret_cell_le (.inr rfl) rfl rfl rfl (fun _ _ => rfl) ok73 (k := m + 1) (off := 0) rfl (dom_loc _ (by simp)) (look_loc _ hm 1) rfl ?_) <;> first | rfl | exact AV.le.rfl _ | (simp only [patch, sl, ti73, List.map_nil, wkC, hk, lk_out hkn, dm_out hkn, nx_outs hkn, upd1_eq, if_true, splice_all, secA, secC, noSec, List.map_nil, Int.reduceLT, Int.reduceNeg, decide_true]; done) | rfl | skip) | (refine call_pure (ci) ?_) | ((with_reducible refine Vg (fun hg => ?_) (fun hg => ?_)) <;> (try simp only [nb] at hg) <;> simp (maxSteps:=9^7) only [ss, evLit, tab, reduceCtorEq, reduceIte, Nat.reduceEqDiff, Nat.reduceBEq, Int.reduceLE, Int.reduceToNat, Nat.reduceAdd, Nat.reduceLT, Nat.reduceLeDiff, hg, wkC, hk, lk_out hkn, dm_out hkn, nx_outs hkn, upd1_eq, splice_all, secA, secC, noSec, List.map_nil, Int.reduceLT, Int.reduceNeg, decide_true]) | (refine hK _ ?_; clear hK K) | refine Vt rfl ?_ | refine Vf rfl ?_ | refine Vi rfl (fun hg => ?_) (fun hg => ?_) | clear hK K)
  · rw [h1] at ci
    have hi0 : decide ((i : Int) < 0) = false := decide_eq_false (by omega)
    have gi := getD_map secC p.secs i [] hi
    have e : secW p w id = if w.inn.1 != id then (noSec, { w with lost := true }) else (p.secs[i], w) := by unfold secW getS; rw [h2]
    cases hb : (w.inn.1 != id) with
    | true =>
      rw [e, hb, if_pos rfl]
      refine acall_of 2 Try.func122 rfl fun n out _ _ => ?_
      simp only [Try.ntmps122, List.length_cons, List.length_nil, List.length_map, List.length_replicate, rep_map, Nat.reduceAdd, Nat.reduceSub, List.replicate, List.cons_append, List.nil_append]
      rename_i hneeds hgv
      obtain ⟨hk, _⟩ := hneeds
      obtain ⟨hkn, _⟩ := hgv
      refine awp_seq_k fun K hK => awp_ev tab_ok [] ?_
      simp (maxSteps:=9^7) only [ss, evLit, tab, reduceCtorEq, reduceIte, Nat.reduceEqDiff, Nat.reduceBEq, Int.reduceLE, Int.reduceToNat, Nat.reduceAdd, Nat.reduceLT, Nat.reduceLeDiff]
      repeat' (first | (with_reducible refine hK _ ?_; clear hK K) | with_reducible apply And.intro)
      refine awp_le (le_freezeAt (i := 0) (t := 3) 1 (.ref [i64 id]) rfl rfl (.ptr 0)) ?_
      simp only [s_0, s_s]
      repeat' (first | (with_reducible first | refine Vk fun K hK => ?_ | refine V0 ?_ | refine Vs ?_ | apply And.intro | refine Vq (by kernel_rfl) ?_) | ((with_reducible first | refine gE ?_ | refine gR ?_); simp (maxSteps:=9^7) only [ss, evLit, tab, reduceCtorEq, reduceIte, Nat.reduceEqDiff, Nat.reduceBEq, Int.reduceLE, Int.reduceToNat, Nat.reduceAdd, Nat.reduceLT, Nat.reduceLeDiff, wkC, hk, hb, lk_out hkn, dm_out hkn, nx_outs hkn, upd1_eq, splice_all, secA, secC, noSec, List.map_nil, hi0]) | exact Vn | ((with_reducible refine Vz ?_); (first | refine ret_cell_le (.inr rfl) rfl rfl rfl (fun _ _ => rfl) ok73 (k := n + 1) (off := 0) rfl (dom_loc _ (by simp)) (look_loc _ (Nat.le_refl _) 1) rfl ?_ | refine ret_cell_le (.inr rfl) rfl rfl rfl (fun _ _ => rfl) ok73 (k := m + 1) (off := 0) rfl (dom_loc _ (by simp)) (look_loc _ hm 1) rfl ?_) <;> first | rfl | exact AV.le.rfl _ | (simp only [patch, sl, ti73, List.map_nil, wkC, hk, hb, lk_out hkn, dm_out hkn, nx_outs hkn, upd1_eq, if_true, splice_all, secA, secC, noSec, List.map_nil, hi0]; done) | rfl | skip) | (refine call_pure (ci) ?_) | ((with_reducible refine Vg (fun hg => ?_) (fun hg => ?_)) <;> (try simp only [nb] at hg) <;> simp (maxSteps:=9^7) only [ss, evLit, tab, reduceCtorEq, reduceIte, Nat.reduceEqDiff, Nat.reduceBEq, Int.reduceLE, Int.reduceToNat, Nat.reduceAdd, Nat.reduceLT, Nat.reduceLeDiff, hg, wkC, hk, hb, lk_out hkn, dm_out hkn, nx_outs hkn, upd1_eq, splice_all, secA, secC, noSec, List.map_nil, hi0]) | (refine hK _ ?_; clear hK K) | refine Vt rfl ?_ | refine Vf rfl ?_ | refine Vi rfl (fun hg => ?_) (fun hg => ?_) | clear hK K)
    | false =>
      rw [e, hb, if_neg (by decide)]
      refine acall_of 2 Try.func122 rfl fun n out _ _ => ?_
      simp only [Try.ntmps122, List.length_cons, List.length_nil, List.length_map, List.length_replicate, rep_map, Nat.reduceAdd, Nat.reduceSub, List.replicate, List.cons_append, List.nil_append]
      rename_i hneeds hgv
      obtain ⟨hk, _⟩ := hneeds
      obtain ⟨hkn, _⟩ := hgv
      refine awp_seq_k fun K hK => awp_ev tab_ok [] ?_
      simp (maxSteps:=9^7) only [ss, evLit, tab, reduceCtorEq, reduceIte, Nat.reduceEqDiff, Nat.reduceBEq, Int.reduceLE, Int.reduceToNat, Nat.reduceAdd, Nat.reduceLT, Nat.reduceLeDiff]
      repeat' (first | (with_reducible refine hK _ ?_; clear hK K) | with_reducible apply And.intro)
      refine awp_le (le_freezeAt (i := 0) (t := 3) 1 (.ref [i64 id]) rfl rfl (.ptr 0)) ?_
      simp only [s_0, s_s]
      repeat' (first | (with_reducible first | refine Vk fun K hK => ?_ | refine V0 ?_ | refine Vs ?_ | apply And.intro | refine Vq (by kernel_rfl) ?_) | ((with_reducible first | refine gE ?_ | refine gR ?_); simp (maxSteps:=9^7) only [ss, evLit, tab, reduceCtorEq, reduceIte, Nat.reduceEqDiff, Nat.reduceBEq, Int.reduceLE, Int.reduceToNat, Nat.reduceAdd, Nat.reduceLT, Nat.reduceLeDiff, wkC, hk, hb, lk_out hkn, dm_out hkn, nx_outs hkn, upd1_eq, splice_all, secA, secC, hi0, hi, gi, List.length_map]) | exact Vn | ((with_reducible refine Vz ?_); (first | refine ret_cell_le (.inr rfl) rfl rfl rfl (fun _ _ => rfl) ok73 (k := n + 1) (off := 0) rfl (dom_loc _ (by simp)) (look_loc _ (Nat.le_refl _) 1) rfl ?_ | refine ret_cell_le (.inr rfl) rfl rfl rfl (fun _ _ => rfl) ok73 (k := m + 1) (off := 0) rfl (dom_loc _ (by simp)) (look_loc _ hm 1) rfl ?_) <;> first | rfl | exact AV.le.rfl _ | (simp only [patch, sl, ti73, List.map_nil, wkC, hk, hb, lk_out hkn, dm_out hkn, nx_outs hkn, upd1_eq, if_true, splice_all, secA, secC, hi0, hi, gi, List.length_map]; done) | rfl | skip) | (refine call_pure (ci) ?_) | ((with_reducible refine Vg (fun hg => ?_) (fun hg => ?_)) <;> (try simp only [nb] at hg) <;> simp (maxSteps:=9^7) only [ss, evLit, tab, reduceCtorEq, reduceIte, Nat.reduceEqDiff, Nat.reduceBEq, Int.reduceLE, Int.reduceToNat, Nat.reduceAdd, Nat.reduceLT, Nat.reduceLeDiff, hg, wkC, hk, hb, lk_out hkn, dm_out hkn, nx_outs hkn, upd1_eq, splice_all, secA, secC, hi0, hi, gi, List.length_map]) | (refine hK _ ?_; clear hK K) | refine Vt rfl ?_ | refine Vf rfl ?_ | refine Vi rfl (fun hg => ?_) (fun hg => ?_) | clear hK K)
      refine awp_ret (ret_cell_le (.inr rfl) rfl rfl rfl (fun j _ => by rw [upd_cons, upd_nil, upd1_self hk]) ok73 (k := n + 1) (off := 0) rfl (dom_loc _ (by simp)) (look_loc _ (Nat.le_refl _) 1) rfl (AV.le.rfl _))
def stayW (p : Pl) (w : Wk) (id at' : Int) : Wk := if (!(secW p w id).2.lost && decide ((secW p w id).2.inn.2 > 0)) = true then askW (secW p w id).2 (secW p w id).1.pt (secW p w id).2.inn.2 at' else (secW p w id).2
theorem c_stay (p : Pl) (w : Wk) (k ka ko : Nat) (hne : ka ≠ k) (id at' : Int) (hp : p.secs.length ≤ 1000000) (hl : w.asks.length ≤ 1000000) :
    ACall Try.prog 93 [.ptr k 0, i64 id, i64 at'] [(k, some (.box 149 (wkC p w ka ko))), (ka, some (.row 63 3 w.asks.length))] (.tup [])
      [(k, .box 149 (wkC p (stayW p w id at') ka ko)), (ka, .row 63 3 (stayW p w id at').asks.length)] := by
  have hne' : (k = ka) = False := eq_false (Ne.symm hne)
  have hne2 : (ka = k) = False := eq_false hne
  have cs := c_section p w k ka ko id hp
  unfold stayW
  obtain ⟨s, lost, e⟩ := secW_keeps p w id
  rw [e] at cs ⊢
  clear e
  dsimp only at cs ⊢
  cases lost with
  | true =>
    rw [Bool.not_true, Bool.false_and, if_neg (by decide)]
    refine acall_of 1 Try.func93 rfl fun n out _ _ => ?_
    simp only [Try.ntmps93, List.length_cons, List.length_nil, List.length_map, List.length_replicate, rep_map, Nat.reduceAdd, Nat.reduceSub, List.replicate, List.cons_append, List.nil_append]
    rename_i hneeds hgv
    obtain ⟨hk, hka, _⟩ := hneeds
    obtain ⟨hkn, hkan, _⟩ := hgv
    repeat' (first | (with_reducible first | refine Vk fun K hK => ?_ | refine V0 ?_ | refine Vs ?_ | apply And.intro | refine Vq (by kernel_rfl) ?_) | ((with_reducible first | refine gE ?_ | refine gR ?_); simp (maxSteps:=9^7) only [ss, evLit, tab, reduceCtorEq, reduceIte, Nat.reduceEqDiff, Nat.reduceBEq, Int.reduceLE, Int.reduceToNat, Nat.reduceAdd, Nat.reduceLT, Nat.reduceLeDiff, wkC, secA, secC, hk, hka, lk_out hkn, lk_out hkan, dm_out hkn, dm_out hkan, nx_outs hkn, nx_outs hkan, upd1_eq, hne', hne2, splice_all, Bool.not_true, Bool.not_false]) | exact Vn | ((with_reducible refine Vz ?_); refine ret_unit (.inr rfl) rfl rfl rfl (fun _ _ => rfl) <;> first | rfl | skip) | (refine call_boxed cs (by rw [lk_out hkn]; exact hk) (by rw [dm_out hkn]; trivial) ?_) | ((with_reducible refine Vg (fun hg => ?_) (fun hg => ?_)) <;> (try simp only [nb] at hg) <;> simp (maxSteps:=9^7) only [ss, evLit, tab, reduceCtorEq, reduceIte, Nat.reduceEqDiff, Nat.reduceBEq, Int.reduceLE, Int.reduceToNat, Nat.reduceAdd, Nat.reduceLT, Nat.reduceLeDiff, hg, wkC, secA, secC, hk, hka, lk_out hkn, lk_out hkan, dm_out hkn, dm_out hkan, nx_outs hkn, nx_outs hkan, upd1_eq, hne', hne2, splice_all, Bool.not_true, Bool.not_false]) | (refine hK _ ?_; clear hK K) | refine Vt rfl ?_ | refine Vf rfl ?_ | refine Vi rfl (fun hg => ?_) (fun hg => ?_) | clear hK K)
    exact ret_same rfl rfl rfl (upd_one_keep hne hka)
  | false =>
    rw [Bool.not_false, Bool.true_and]
    cases hb : decide (w.inn.2 > 0) with
    | false =>
      rw [if_neg (by decide)]
      refine acall_of 1 Try.func93 rfl fun n out _ _ => ?_
      simp only [Try.ntmps93, List.length_cons, List.length_nil, List.length_map, List.length_replicate, rep_map, Nat.reduceAdd, Nat.reduceSub, List.replicate, List.cons_append, List.nil_append]
      rename_i hneeds hgv
      obtain ⟨hk, hka, _⟩ := hneeds
      obtain ⟨hkn, hkan, _⟩ := hgv
      repeat' (first | (with_reducible first | refine Vk fun K hK => ?_ | refine V0 ?_ | refine Vs ?_ | apply And.intro | refine Vq (by kernel_rfl) ?_) | ((with_reducible first | refine gE ?_ | refine gR ?_); simp (maxSteps:=9^7) only [ss, evLit, tab, reduceCtorEq, reduceIte, Nat.reduceEqDiff, Nat.reduceBEq, Int.reduceLE, Int.reduceToNat, Nat.reduceAdd, Nat.reduceLT, Nat.reduceLeDiff, wkC, secA, secC, hb, hk, hka, lk_out hkn, lk_out hkan, dm_out hkn, dm_out hkan, nx_outs hkn, nx_outs hkan, upd1_eq, hne', hne2, splice_all, Bool.not_true, Bool.not_false]) | exact Vn | ((with_reducible refine Vz ?_); refine ret_unit (.inr rfl) rfl rfl rfl (fun _ _ => rfl) <;> first | rfl | skip) | (refine call_boxed cs (by rw [lk_out hkn]; exact hk) (by rw [dm_out hkn]; trivial) ?_) | ((with_reducible refine Vg (fun hg => ?_) (fun hg => ?_)) <;> (try simp only [nb] at hg) <;> simp (maxSteps:=9^7) only [ss, evLit, tab, reduceCtorEq, reduceIte, Nat.reduceEqDiff, Nat.reduceBEq, Int.reduceLE, Int.reduceToNat, Nat.reduceAdd, Nat.reduceLT, Nat.reduceLeDiff, hg, wkC, secA, secC, hb, hk, hka, lk_out hkn, lk_out hkan, dm_out hkn, dm_out hkan, nx_outs hkn, nx_outs hkan, upd1_eq, hne', hne2, splice_all, Bool.not_true, Bool.not_false]) | (refine hK _ ?_; clear hK K) | refine Vt rfl ?_ | refine Vf rfl ?_ | refine Vi rfl (fun hg => ?_) (fun hg => ?_) | clear hK K)
      exact ret_same rfl rfl rfl (upd_one_keep hne hka)
    | true =>
      rw [if_pos rfl]
      have ca := c_ask p ⟨w.inn, w.asks, w.outs, false⟩ k ka ko hne s.pt w.inn.2 at' hl
      generalize askW ⟨w.inn, w.asks, w.outs, false⟩ s.pt w.inn.2 at' = W2 at *
      simp only [wkC] at ca
      refine acall_of 1 Try.func93 rfl fun n out _ _ => ?_
      simp only [Try.ntmps93, List.length_cons, List.length_nil, List.length_map, List.length_replicate, rep_map, Nat.reduceAdd, Nat.reduceSub, List.replicate, List.cons_append, List.nil_append]
      rename_i hneeds hgv
      obtain ⟨hk, hka, _⟩ := hneeds
      obtain ⟨hkn, hkan, _⟩ := hgv
      repeat' (first | (with_reducible first | refine Vk fun K hK => ?_ | refine V0 ?_ | refine Vs ?_ | apply And.intro | refine awp_ev_tail (id := 2) tab_ok [] 9 [2, 7] follows (by kernel_rfl) (by kernel_rfl) ?_ | refine Vq (by kernel_rfl) ?_) | ((with_reducible first | refine gE ?_ | refine gR ?_ | refine gT ?_ | refine gU ?_); simp (maxSteps:=9^7) only [ss, evLit, tab, reduceCtorEq, reduceIte, Nat.reduceEqDiff, Nat.reduceBEq, Int.reduceLE, Int.reduceToNat, Nat.reduceAdd, Nat.reduceLT, Nat.reduceLeDiff, wkC, secA, secC, hb, hk, hka, lk_out hkn, lk_out hkan, dm_out hkn, dm_out hkan, nx_outs hkn, nx_outs hkan, upd1_eq, hne', hne2, splice_all, Bool.not_true, Bool.not_false]) | exact Vn | ((with_reducible refine Vz ?_); refine ret_unit (.inr rfl) rfl rfl rfl (fun _ _ => rfl) <;> first | rfl | skip) | (refine call_boxed cs (by rw [lk_out hkn]; exact hk) (by rw [dm_out hkn]; trivial) ?_) | (refine call_two ca (by rw [lk_out hkn, upd1_eq, if_pos rfl]) (by rw [lk_out hkan, upd1_eq, if_neg hne]; exact hka) (by rw [dm_out hkn]; trivial) (by rw [dm_out hkan]; trivial) (by simp) (by simp) ?_) | ((with_reducible refine Vg (fun hg => ?_) (fun hg => ?_)) <;> (try simp only [nb] at hg) <;> simp (maxSteps:=9^7) only [ss, evLit, tab, reduceCtorEq, reduceIte, Nat.reduceEqDiff, Nat.reduceBEq, Int.reduceLE, Int.reduceToNat, Nat.reduceAdd, Nat.reduceLT, Nat.reduceLeDiff, hg, wkC, secA, secC, hb, hk, hka, lk_out hkn, lk_out hkan, dm_out hkn, dm_out hkan, nx_outs hkn, nx_outs hkan, upd1_eq, hne', hne2, splice_all, Bool.not_true, Bool.not_false]) | (refine hK _ ?_; clear hK K) | refine Vt rfl ?_ | refine Vf rfl ?_ | refine Vi rfl (fun hg => ?_) (fun hg => ?_) | clear hK K)
      refine ret_same rfl rfl rfl ?_
      simp only [upd_cons, upd_nil, upd1_upd1]
end Go.Proofs.Ytcfkieacdjcaoaa.Pln
