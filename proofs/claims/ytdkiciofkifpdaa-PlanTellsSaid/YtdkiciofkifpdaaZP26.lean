/-
  A route whose path may be written, told by the program; who stands at an end, told by the document.
-/
import Derived.Test.YtdkiciofkifpdaaZGA
import Derived.Test.YtdkiciofkifpdaaZR5
import Derived.Test.YtdkiciofkifpdaaZRA
namespace Go.Proofs.Ytdkiciofkifpdaa.Pln
set_option linter.unusedVariables false
set_option linter.unusedSimpArgs false
open Go Go.VS Tab
set_option maxHeartbeats 4000000
set_option maxRecDepth 4000
theorem flat_ints (l : List Int) : (l.map intC).flatten = l.map i64 := by
  induction l with
  | nil => rfl
  | cons x xs ih => exact congrArg (i64 x :: ·) ih
theorem pick_ints (l : List Int) (j s : Nat) (h : j < l.length) : pick false s (List.drop j (l.map i64)) = some (i64 l[j]) := by
  rw [List.drop_eq_getElem_cons (by simpa using h), List.getElem_map]; rfl
theorem c_cloneI (k : Nat) (l : List Int) (hl : l.length ≤ 1000000) (h0 : 0 < l.length) : ACall Try.prog 92 [.sl 1 (l.map intC) .sh] [(k, none)] (.bsl k 0 l.length false) [(k, .box 3 (l.map i64))] := by
  have hne : l.map intC ≠ [] := fun h => by simp at h; subst h; simp at h0
  have hfl := flat_ints l
  refine acall_split (fun h => absurd h hne) ?_
  refine acall_of 1 Try.func92 rfl fun n out _ _ => ?_
  simp only [Try.ntmps92, List.length_cons, List.length_nil, List.length_map, List.length_replicate, rep_map, Nat.reduceAdd, Nat.reduceSub, List.replicate, List.cons_append, List.nil_append]
  rename_i hneeds hgv
  obtain ⟨hk, _⟩ := hneeds
  obtain ⟨hkn, _⟩ := hgv
  refine awp_seq_k fun K hK => awp_ev tab_ok [] ?_
  simp (maxSteps:=9^7) only [ss, evLit, tab, reduceCtorEq, reduceIte, Nat.reduceEqDiff, Nat.reduceBEq, Int.reduceLE, Int.reduceToNat, Nat.reduceAdd, Nat.reduceLT, Nat.reduceLeDiff]
  repeat' (first | (with_reducible refine hK _ ?_; clear hK K) | with_reducible apply And.intro)
  refine awp_seq_k fun KB hKB => ?_
  refine awp_seq_k fun K hK => awp_ev tab_ok [] ?_
  simp (maxSteps:=9^7) only [ss, evLit, tab, reduceCtorEq, reduceIte, Nat.reduceEqDiff, Nat.reduceBEq, Int.reduceLE, Int.reduceToNat, Nat.reduceAdd, Nat.reduceLT, Nat.reduceLeDiff]
  repeat' (first | (with_reducible refine hK _ ?_; clear hK K) | with_reducible apply And.intro)
  refine awp_cond_f rfl (awp_skip (hKB _ ?_))
  clear hKB KB
  refine awp_seq_k fun K hK => awp_ev tab_ok [(1007, none)] ?_
  simp (maxSteps:=9^7) only [ss, evLit, tab, reduceCtorEq, reduceIte, Nat.reduceEqDiff, Nat.reduceBEq, Int.reduceLE, Int.reduceToNat, Nat.reduceAdd, Nat.reduceLT, Nat.reduceLeDiff, List.length_map, show l.length * 8 ≤ 140737488355328 by omega, show l.length ≤ 9223372036854775807 by omega, hne, hfl]
  repeat' (first | (with_reducible refine hK _ ?_; clear hK K) | with_reducible apply And.intro)
  refine awp_le (le_box (i := 0) (m := l.length) (sz := 1) (e := 3) (cs := l.map i64) rfl h0) ?_
  simp only [List.map_cons, List.map_nil, AV.bxv, s_0, s_s, reduceCtorEq, if_true, if_false, Nat.reduceEqDiff, reduceIte, and_self]
  refine awp_le (le_toOut1 (i := 0) (k := k) rfl (by exact hkn) (by exact hk)) ?_
  simp only [List.map_cons, List.map_nil, Option.map_some, Option.map_none, Res.ren1, AV.ren1, Nat.add_left_cancel_iff, Nat.reduceEqDiff, Nat.one_ne_zero, reduceIte, zombie, s_0, s_s]
  refine awp_ret ?_
  exact ret_tmp (.inr rfl) rfl rfl rfl (fun _ _ => rfl) rfl
def rtBC (k : Nat) (r : Rt) : List AV := [i64 r.id, i64 r.entry, i64 r.ex, .bsl k 0 r.path.length false, .sl 1 (r.over.map intC) .sh, .sl 2 (r.flanks.map jnC) .sh, i64 r.timer]
theorem c_twinK (k : Nat) (r : Rt) (h : r.path.length ≤ 20 ∧ r.over.length ≤ 20 ∧ r.flanks.length ≤ 20) (hp : 0 < r.path.length) : ACall Try.prog 53 [rtA r] [(k, none)] (.agg (rtBC k r)) [(k, .box 3 (r.path.map i64))] := by
  have c1 := fun k => c_cloneI k r.path (by omega) hp
  have c2 := c_clone_int (r.over.map intC) (by simp; omega)
  have c3 := c_clone_fl (r.flanks.map jnC) (by simp; omega)
  refine acall_of 3 Try.func53 rfl fun n out _ _ => ?_
  simp only [Try.ntmps53, List.length_cons, List.length_nil, List.length_map, List.length_replicate, rep_map, Nat.reduceAdd, Nat.reduceSub, List.replicate, List.cons_append, List.nil_append]
  rename_i hneeds hgv
  obtain ⟨hk, _⟩ := hneeds
  obtain ⟨hkn, _⟩ := hgv
  repeat' (first | (with_reducible first | refine Vk fun K hK => ?_ | refine V0 ?_ | refine Vs ?_ | apply And.intro | refine Vd 1 [] [[],[0],[2],[],[0],[],[],[0],[],[],[0],[],[0],[],[0]] [[],[],[2],[],[],[],[],[],[],[],[0],[],[0],[],[0]] (by kernel_rfl) (by decide) (by decide) (by kernel_rfl) ?_ | refine Vq (by kernel_rfl) ?_) | ((with_reducible first | refine gE ?_ | refine gR ?_ | refine gD ?_ | refine gF ?_); simp (maxSteps:=9^7) only [ss, evLit, tab, reduceCtorEq, reduceIte, Nat.reduceEqDiff, Nat.reduceBEq, Int.reduceLE, Int.reduceToNat, Nat.reduceAdd, Nat.reduceLT, Nat.reduceLeDiff, rtA, rtC, splice_all]) | exact Vn | ((with_reducible refine Vz ?_); (first | refine ret_cell_le (.inr rfl) rfl rfl rfl (fun _ _ => rfl) ok34 (k := n + 1) (off := 0) rfl (dom_loc _ (by simp)) (look_loc _ (Nat.le_refl _) 1) rfl ?_ | refine ret_cell_le (.inr rfl) rfl rfl rfl (fun _ _ => rfl) ok34 (k := m + 1) (off := 0) rfl (dom_loc _ (by simp)) (look_loc _ hm 1) rfl ?_) <;> first | rfl | exact AV.le.rfl _ | (simp only [patch, sl, ti34, List.map_nil, rtA, rtC, splice_all]; done) | rfl | skip) | (refine call_one (c1 (n + 2)) (look_loc _ (Nat.le_refl _) 2) (dom_loc _ (by simp)) (by simp) ?_) | (refine call_pure (c2) ?_) | (refine call_pure (c3) ?_) | (refine hK _ ?_; clear hK K) | clear hK K)
  refine awp_le (le_toOut1 (i := 2) (k := k) rfl (by exact hkn) (by exact hk)) ?_
  simp only [List.map_cons, List.map_nil, Option.map_some, Option.map_none, Res.ren1, AV.ren1, Nat.add_left_cancel_iff, Nat.reduceEqDiff, Nat.one_ne_zero, reduceIte, zombie, s_0, s_s]
  refine awp_ret ?_
  refine ret_cell_le (.inr rfl) rfl rfl rfl (fun _ _ => rfl) ok34 (k := n + 1) (off := 0) rfl (dom_loc _ (by simp)) (look_loc _ (Nat.le_refl _) 1) rfl ?_
  exact AV.le.rfl _
theorem c_pRouteK (k : Nat) (p : Pl) (hs : Sm p) (b : Int) (hp : 0 < (elD (mayP p) (getR p.rts b) noRt).path.length) : ACall Try.prog 24 [plA p, i64 b] [(k, none)] (.tup [.agg (rtBC k (elD (mayP p) (getR p.rts b) noRt)), i64 (elE (mayP p) (getR p.rts b))]) [(k, .box 3 ((elD (mayP p) (getR p.rts b) noRt).path.map i64))] := by
  have cc := c_asked_rt p hs p.rts (by have := hs.rts; omega) b
  have ct := fun k => c_twinK k _ (elD_rt hs b) hp
  generalize elD (mayP p) (getR p.rts b) noRt = X at *
  generalize elE (mayP p) (getR p.rts b) = E at *
  simp only [plA, plC] at cc
  simp only [rtA, rtC] at ct
  refine acall_of 4 Try.func24 rfl fun n out _ _ => ?_
  simp only [Try.ntmps24, List.length_cons, List.length_nil, List.length_map, List.length_replicate, rep_map, Nat.reduceAdd, Nat.reduceSub, List.replicate, List.cons_append, List.nil_append]
  rename_i hneeds hgv
  obtain ⟨hk, _⟩ := hneeds
  obtain ⟨hkn, _⟩ := hgv
  repeat' (first | (with_reducible first | refine Vk fun K hK => ?_ | refine V0 ?_ | refine Vs ?_ | apply And.intro) | ((with_reducible first | refine gE ?_ | refine gR ?_); simp (maxSteps:=9^7) only [ss, evLit, tab, reduceCtorEq, reduceIte, Nat.reduceEqDiff, Nat.reduceBEq, Int.reduceLE, Int.reduceToNat, Nat.reduceAdd, Nat.reduceLT, Nat.reduceLeDiff, plA, plC, rtA, rtC, rtBC, splice_all]) | exact Vn | ((with_reducible refine Vz ?_); (first | refine ret_ct (.inr rfl) rfl rfl rfl (fun _ _ => rfl) ok34 (k := n + 1) (off := 0) rfl (dom_loc _ (by simp)) (look_loc _ (Nat.le_refl _) 1) rfl rfl ?_ | refine ret_ct (.inr rfl) rfl rfl rfl (fun _ _ => rfl) ok34 (k := m + 1) (off := 0) rfl (dom_loc _ (by simp)) (look_loc _ hm 1) rfl rfl ?_) <;> first | rfl | exact AV.le.rfl _ | (simp only [patch, sl, ti34, List.map_nil, plA, plC, rtA, rtC, rtBC, splice_all]; done) | rfl | skip) | (refine call_pure (cc) ?_) | (refine call_one (ct (n + 3)) (look_loc _ (Nat.le_refl _) 3) (dom_loc _ (by simp)) (by simp) ?_) | (refine hK _ ?_; clear hK K) | clear hK K)
  refine awp_le (le_toOut1 (i := 3) (k := k) rfl (by exact hkn) (by exact hk)) ?_
  simp only [List.map_cons, List.map_nil, Option.map_some, Option.map_none, Res.ren1, AV.ren1, Nat.add_left_cancel_iff, Nat.reduceEqDiff, Nat.one_ne_zero, reduceIte, zombie, s_0, s_s]
  refine awp_ret ?_
  refine ret_ct (.inr rfl) rfl rfl rfl (fun _ _ => rfl) ok34 (k := n + 1) (off := 0) rfl (dom_loc _ (by simp)) (look_loc _ (Nat.le_refl _) 1) rfl rfl ?_
  exact AV.le.rfl _
theorem c_rintsK (k : Nat) (l : List Int) (hl : l.length ≤ 1000000) : ACall Try.prog 81 [.bsl k 0 l.length false, ints l] [(k, some (.box 3 (l.map i64)))] (bool true) [(k, .box 3 (l.map i64))] := by
  refine acall_of 0 Try.func81 rfl fun n out _ _ => ?_
  simp only [Try.ntmps81, List.length_cons, List.length_nil, List.length_map, List.length_replicate, rep_map, Nat.reduceAdd, Nat.reduceSub, List.replicate, List.cons_append, List.nil_append]
  rename_i hneeds hgv
  obtain ⟨hk, _⟩ := hneeds
  obtain ⟨hkn, _⟩ := hgv
  repeat' (first | (with_reducible first | refine Vk fun K hK => ?_ | refine V0 ?_ | refine Vb ?_ | refine Vc ?_ | refine Vr ?_ | refine Vs ?_ | apply And.intro | refine Vq (by kernel_rfl) ?_) | ((with_reducible first | refine gE ?_ | refine gR ?_); simp (maxSteps:=9^7) only [ss, evLit, tab, reduceCtorEq, reduceIte, Nat.reduceEqDiff, Nat.reduceBEq, Int.reduceLE, Int.reduceToNat, Nat.reduceAdd, Nat.reduceLT, Nat.reduceLeDiff, List.length_map, bne_self_eq_false]) | exact Vn | ((with_reducible refine Vz ?_); refine Vo rfl rfl rfl (fun _ _ => rfl) ?_ <;> first | rfl | skip) | ((with_reducible refine Vx ?_); simp only [sb, reduceIte, Nat.reduceEqDiff]) | (refine hK _ ?_; clear hK K) | refine Vt rfl ?_ | refine Vf rfl ?_ | refine Vi rfl (fun hg => ?_) (fun hg => ?_) | clear hK K)
  refine awp_block ?_
  refine awp_for_g (fun i : Nat => [(5, i64 (i : Int)), (4, .top), (11, .top), (12, .top), (13, .top), (14, .top), (15, .top), (16, .top), (17, .top), (18, .top), (19, .top), (20, .top), (21, .top), (22, .top), (23, .top), (24, .top), (25, .top)]) (fun i => []) (fun i => out) (fun i => i ≤ l.length) (fun i => l.length - i) 0 (Nat.zero_le _) ?_ fun i hi => ?_
  · refine le_of_all ?_ ?_ (by first | rfl | (simp only [List.length_map]; rfl) | simp only [List.length_map]) rfl rfl rfl <;> simp only [patch, sl, List.length_map]
  simp only [patch, s_0, s_s]
  have hw := addw (n := i) 1 1 rfl (by omega)
  by_cases hlt : i < l.length
  · have ga := getD_map intC l i [] hlt
    have gp := pick_ints l i 1 hlt
    repeat' (first | (with_reducible first | refine Vk fun K hK => ?_ | refine V0 ?_ | refine Vb ?_ | refine Vc ?_ | refine Vr ?_ | refine Vs ?_ | apply And.intro | refine Vq (by kernel_rfl) ?_) | ((with_reducible first | refine gE ?_ | refine gR ?_); simp (maxSteps:=9^7) only [ss, evLit, tab, reduceCtorEq, reduceIte, Nat.reduceEqDiff, Nat.reduceBEq, Int.reduceLE, Int.reduceToNat, Nat.reduceAdd, Nat.reduceLT, Nat.reduceLeDiff, List.length_map, hlt, ga, gp, intC, hw, hk, lk_out hkn, dm_out hkn, bne_self_eq_false, true_or, or_true]) | exact Vn | ((with_reducible refine Vz ?_); refine Vo rfl rfl rfl (fun _ _ => rfl) ?_ <;> first | rfl | skip) | ((with_reducible refine Vx ?_); simp only [sb, reduceIte, Nat.reduceEqDiff]) | (refine hK _ ?_; clear hK K) | refine Vt rfl ?_ | refine Vf rfl ?_ | refine Vi rfl (fun hg => ?_) (fun hg => ?_) | clear hK K)
    refine ⟨i + 1, by omega, by omega, ?_⟩
    refine le_of_all ?_ ?_ rfl rfl rfl rfl <;> simp only [patch, sl, hlt, decide_true]
  · repeat' (first | (with_reducible first | refine Vk fun K hK => ?_ | refine V0 ?_ | refine Vb ?_ | refine Vc ?_ | refine Vr ?_ | refine Vs ?_ | apply And.intro | refine Vq (by kernel_rfl) ?_) | ((with_reducible first | refine gE ?_ | refine gR ?_); simp (maxSteps:=9^7) only [ss, evLit, tab, reduceCtorEq, reduceIte, Nat.reduceEqDiff, Nat.reduceBEq, Int.reduceLE, Int.reduceToNat, Nat.reduceAdd, Nat.reduceLT, Nat.reduceLeDiff, List.length_map, hlt]) | exact Vn | ((with_reducible refine Vz ?_); refine Vo rfl rfl rfl (fun _ _ => rfl) ?_ <;> first | rfl | skip) | ((with_reducible refine Vx ?_); simp only [sb, reduceIte, Nat.reduceEqDiff]) | (refine hK _ ?_; clear hK K) | refine Vt rfl ?_ | refine Vf rfl ?_ | refine Vi rfl (fun hg => ?_) (fun hg => ?_) | clear hK K)
    refine awp_ret ?_
    exact ret_tmp (.inr rfl) rfl rfl rfl (fun j _ => by rw [upd_cons, upd1_self hk, upd_nil]) rfl
theorem c_rStands (p : Pl) (hs : Sm p) (s e : Int) : ACall Try.prog 29 [plA p, i64 s, i64 e] [] (.tup [i64 (stL p s e), i64 (stE p s e)]) [] := by
  have cm := c_rmay p hs
  have cn := c_rnext p.secs s e (by have := hs.secs; omega) fun s h => by have := hs.ends s h; omega
  have ca := c_rAt p hs s e
  simp only [plA, plC] at cm ca
  cases hmy : mayP p with
  | false =>
    have e1 : stE p s e = 8 := by simp [stE, hmy]
    have e2 : stL p s e = 0 := by simp [stL, e1]
    rw [e1, e2]
    rw [hmy] at cm
    refine acall_of 2 Try.func29 rfl fun n out _ _ => ?_
    simp only [Try.ntmps29, List.length_cons, List.length_nil, List.length_map, List.length_replicate, rep_map, Nat.reduceAdd, Nat.reduceSub, List.replicate, List.cons_append, List.nil_append]
    repeat' (first | (with_reducible first | refine Vk fun K hK => ?_ | refine V0 ?_ | refine Vs ?_ | apply And.intro) | ((with_reducible first | refine gE ?_ | refine gR ?_); simp (maxSteps:=9^7) only [ss, evLit, tab, reduceCtorEq, reduceIte, Nat.reduceEqDiff, Nat.reduceBEq, Int.reduceLE, Int.reduceToNat, Nat.reduceAdd, Nat.reduceLT, Nat.reduceLeDiff, plA, plC, Bool.not_false]) | exact Vn | ((with_reducible refine Vz ?_); refine Vp rfl rfl rfl (fun _ _ => rfl) ?_ ?_ <;> first | rfl | skip) | (refine call_pure (cm) ?_) | (refine hK _ ?_; clear hK K) | refine Vt rfl ?_ | refine Vf rfl ?_ | refine Vi rfl (fun hg => ?_) (fun hg => ?_) | clear hK K)
  | true =>
    have e1 : stE p s e = nextE p.secs s e := by simp [stE, hmy]
    rw [hmy] at cm
    rw [show stL p s e = if nextE p.secs s e = 0 then atF p.sgs s e else 0 by rw [← e1]; rfl, e1]
    generalize nextD p.secs s e = D at cn
    generalize nextE p.secs s e = E at cn
    generalize atF p.sgs s e = A at *
    by_cases hE : E = 0
    · subst hE
      rw [if_pos rfl]
      refine acall_of 2 Try.func29 rfl fun n out _ _ => ?_
      simp only [Try.ntmps29, List.length_cons, List.length_nil, List.length_map, List.length_replicate, rep_map, Nat.reduceAdd, Nat.reduceSub, List.replicate, List.cons_append, List.nil_append]
      repeat' (first | (with_reducible first | refine Vk fun K hK => ?_ | refine V0 ?_ | refine Vs ?_ | apply And.intro) | ((with_reducible first | refine gE ?_ | refine gR ?_); simp (maxSteps:=9^7) only [ss, evLit, tab, reduceCtorEq, reduceIte, Nat.reduceEqDiff, Nat.reduceBEq, Int.reduceLE, Int.reduceToNat, Nat.reduceAdd, Nat.reduceLT, Nat.reduceLeDiff, plA, plC, jnA, jnC, splice_all, Bool.not_true, Int.reduceBNe]) | exact Vn | ((with_reducible refine Vz ?_); refine Vp rfl rfl rfl (fun _ _ => rfl) ?_ ?_ <;> first | rfl | skip) | (refine call_pure (cm) ?_) | (refine call_pure (cn) ?_) | (refine call_pure (ca) ?_) | (refine hK _ ?_; clear hK K) | refine Vt rfl ?_ | refine Vf rfl ?_ | refine Vi rfl (fun hg => ?_) (fun hg => ?_) | clear hK K)
    · have q : (E != 0) = true := by simpa using hE
      rw [if_neg hE]
      refine acall_of 2 Try.func29 rfl fun n out _ _ => ?_
      simp only [Try.ntmps29, List.length_cons, List.length_nil, List.length_map, List.length_replicate, rep_map, Nat.reduceAdd, Nat.reduceSub, List.replicate, List.cons_append, List.nil_append]
      repeat' (first | (with_reducible first | refine Vk fun K hK => ?_ | refine V0 ?_ | refine Vs ?_ | apply And.intro) | ((with_reducible first | refine gE ?_ | refine gR ?_); simp (maxSteps:=9^7) only [ss, evLit, tab, reduceCtorEq, reduceIte, Nat.reduceEqDiff, Nat.reduceBEq, Int.reduceLE, Int.reduceToNat, Nat.reduceAdd, Nat.reduceLT, Nat.reduceLeDiff, plA, plC, jnA, jnC, splice_all, Bool.not_true, q]) | exact Vn | ((with_reducible refine Vz ?_); refine Vp rfl rfl rfl (fun _ _ => rfl) ?_ ?_ <;> first | rfl | skip) | (refine call_pure (cm) ?_) | (refine call_pure (cn) ?_) | (refine hK _ ?_; clear hK K) | refine Vt rfl ?_ | refine Vf rfl ?_ | refine Vi rfl (fun hg => ?_) (fun hg => ?_) | clear hK K)
end Go.Proofs.Ytdkiciofkifpdaa.Pln
