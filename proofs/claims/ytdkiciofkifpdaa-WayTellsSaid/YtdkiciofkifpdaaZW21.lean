/-
  The law WayTells.
-/
import Derived.Test.YtdkiciofkifpdaaZGA
import Derived.Test.YtdkiciofkifpdaaZW20
import Derived.Test.YtdkiciofkifpdaaZR7
import Derived.Test.YtdkiciofkifpdaaZP27
namespace Go.Proofs.Ytdkiciofkifpdaa.Pln
set_option linter.unusedVariables false
set_option linter.unusedSimpArgs false
open Go Go.VS Tab
set_option maxHeartbeats 8000000
set_option maxRecDepth 8000
theorem fol_less {p : Pl} (hs : Sm p) {r : Rt} (hr : r ∈ p.rts) : (folW p r).asks.length ≤ 60 ∧ (folO p r).length ≤ 40 := by
  obtain ⟨b1, b2, b3⟩ := hs.rt r hr
  have h1 := runW_len p r (r.path ++ r.over).length
  have h2 := flkW_len (endW p r) r.flanks
  rw [List.length_append] at h1
  have e : (endW p r).asks.length ≤ r.path.length + r.over.length ∧ (endW p r).outs.length ≤ r.path.length + r.over.length := by
    have := h1
    unfold endW
    rw [List.length_append]
    exact this
  unfold folW folO
  constructor
  · split
    · exact Nat.zero_le _
    · show (flkW (endW p r) r.flanks).asks.length ≤ 60
      omega
  · split
    · exact Nat.zero_le _
    · omega
theorem ofW_len {p : Pl} (hs : Sm p) (id : Int) : (ofW p id).path.length ≤ 20 ∧ (ofW p id).over.length ≤ 20 ∧ (ofW p id).asks.length ≤ 60 := by
  unfold ofW
  by_cases hE : rtE p id = 0
  · rw [if_pos hE]
    have hr := (rtE_zero hE).2
    obtain ⟨b1, b2, b3⟩ := hs.rt _ hr
    refine ⟨?_, ?_, (fol_less hs hr).1⟩
    · unfold folW; split
      · exact Nat.zero_le _
      · exact b1
    · unfold folW; split
      · exact Nat.zero_le _
      · exact b2
  · rw [if_neg hE]
    exact ⟨Nat.zero_le _, Nat.zero_le _, Nat.zero_le _⟩
theorem ofW_path {p : Pl} {id : Int} (h : ofE p id = 0) : 0 < (ofW p id).path.length := by
  have g := (gone_of h).1
  have hone := g.one
  rw [← g.path] at hone
  exact hone
theorem c_weqK (k : Nat) (l m' : List Int) (hl : l.length ≤ 1000000) : ACall Try.prog 59 [.bsl k 0 l.length false, .sl 1 (m'.map intC) .sh] [(k, some (.box 3 (l.map i64)))] (bool (l == m')) [(k, .box 3 (l.map i64))] := by
  refine acall_of 0 Try.func59 rfl fun n out _ _ => ?_
  simp only [Try.ntmps59, List.length_cons, List.length_nil, List.length_map, List.length_replicate, rep_map, Nat.reduceAdd, Nat.reduceSub, List.replicate, List.cons_append, List.nil_append]
  rename_i hneeds hgv
  obtain ⟨hk, _⟩ := hneeds
  obtain ⟨hkn, _⟩ := hgv
  have hself := upd1_self hk
  repeat' (first | (with_reducible first | refine Vk fun K hK => ?_ | refine V0 ?_ | refine Vb ?_ | refine Vc ?_ | refine Vr ?_ | refine Vs ?_ | apply And.intro | refine Vq (by kernel_rfl) ?_) | ((with_reducible first | refine gE ?_ | refine gR ?_); simp (maxSteps:=9^7) only [ss, evLit, tab, reduceCtorEq, reduceIte, Nat.reduceEqDiff, Nat.reduceBEq, Int.reduceLE, Int.reduceToNat, Nat.reduceAdd, Nat.reduceLT, Nat.reduceLeDiff, List.length_map]) | exact Vn | ((with_reducible refine Vz ?_); refine Vo rfl rfl rfl (fun _ _ => rfl) ?_ <;> first | rfl | skip) | ((with_reducible refine Vx ?_); simp only [sb, reduceIte, Nat.reduceEqDiff]) | (refine hK _ ?_; clear hK K) | refine Vt rfl ?_ | refine Vf rfl ?_ | refine Vi rfl (fun hg => ?_) (fun hg => ?_) | clear hK K)
  · rw [list_ne_len (by intro h; simp [h] at hg)]
    refine awp_ret ?_
    exact ret_tmp (.inr rfl) rfl rfl rfl (fun j _ => by rw [upd_cons, hself, upd_nil]) rfl
  have hlen : l.length = m'.length := by
    have h1 : ((l.length : Int) != (m'.length : Int)) = false := hg
    simp at h1; omega
  refine awp_block ?_
  refine awp_for_g (fun i : Nat => [(13, i64 (i : Int)), (4, .top), (5, .top), (14, .top), (15, .top), (16, .top), (17, .top), (18, .top), (19, .top), (20, .top), (21, .top), (22, .top), (23, .top), (24, .top), (25, .top)]) (fun i => []) (fun i => out) (fun i => i ≤ l.length ∧ (∀ j (hj : j < l.length) (hj' : j < m'.length), j < i → l[j] = m'[j])) (fun i => l.length - i) 0 ⟨Nat.zero_le _, by intros; omega⟩ ?_ fun i hi => ?_
  · refine le_of_all ?_ ?_ rfl rfl rfl rfl <;> simp only [patch, sl]
  obtain ⟨hi, hq⟩ := hi
  simp only [patch, s_0, s_s]
  refine awp_seq_k fun K hK => awp_ev tab_ok [] ?_
  simp (maxSteps:=9^7) only [ss, evLit, tab, reduceCtorEq, reduceIte, Nat.reduceEqDiff, Nat.reduceBEq, Int.reduceLE, Int.reduceToNat, Nat.reduceAdd, Nat.reduceLT, Nat.reduceLeDiff]
  repeat' (first | (with_reducible refine hK _ ?_; clear hK K) | with_reducible apply And.intro)
  refine awp_seq_k fun KC hKC => ?_
  refine awp_if rfl (fun ht => awp_skip (hKC _ ?_)) (fun hf => awp_exit (id ?_))
  rotate_left
  · simp only [thenA, blockA, if_true]
    refine hK _ ?_
    clear hK K hKC KC
    have h_ib : i = l.length := by have := of_decide_eq_false hf; omega
    subst h_ib
    have e := list_eq_all (l := l) (m := m') hlen fun i hi hi' => hq i hi hi' hi
    rw [e]
    refine awp_seq_k fun K hK => awp_ev tab_ok [] ?_
    simp (maxSteps:=9^7) only [ss, evLit, tab, reduceCtorEq, reduceIte, Nat.reduceEqDiff, Nat.reduceBEq, Int.reduceLE, Int.reduceToNat, Nat.reduceAdd, Nat.reduceLT, Nat.reduceLeDiff]
    repeat' (first | (with_reducible refine hK _ ?_; clear hK K) | with_reducible apply And.intro)
    refine awp_ret ?_
    exact ret_tmp (.inr rfl) rfl rfl rfl (fun j _ => by rw [upd_cons, hself, upd_nil]) rfl
  clear hKC KC
  have hlt : i < l.length := by have := of_decide_eq_true ht; omega
  refine awp_seq_k fun KC hKC => awp_block ?_
  have hlt' : i < m'.length := by omega
  have gp := pick_ints l i 1 hlt
  refine awp_seq_k fun K hK => awp_ev tab_ok [] ?_
  simp (maxSteps:=9^7) only [ss, evLit, tab, reduceCtorEq, reduceIte, Nat.reduceEqDiff, Nat.reduceBEq, Int.reduceLE, Int.reduceToNat, Nat.reduceAdd, Nat.reduceLT, Nat.reduceLeDiff]
  repeat' (first | (with_reducible refine hK _ ?_; clear hK K) | with_reducible apply And.intro)
  refine awp_seq_k fun K hK => awp_ev_quiet tab_ok follows (by kernel_rfl) ?_
  simp (maxSteps:=9^7) only [ss, evLit, tab, reduceCtorEq, reduceIte, Nat.reduceEqDiff, Nat.reduceBEq, Int.reduceLE, Int.reduceToNat, Nat.reduceAdd, Nat.reduceLT, Nat.reduceLeDiff, hlt, hlt', List.length_map, gp, hk, lk_out hkn, dm_out hkn, true_or, or_true, getD_map intC m' i [] hlt', intC]
  repeat' (first | (with_reducible refine hK _ ?_; clear hK K) | with_reducible apply And.intro)
  all_goals first | (decide; done) | kernel_rfl | skip
  refine awp_if rfl (fun ht => ?_) (fun hf => awp_skip ?_)
  · have e := list_ne_at (l := l) (m := m') hlt hlt' (by simpa using ht)
    refine awp_seq_k fun K hK => awp_ev tab_ok [] ?_
    simp (maxSteps:=9^7) only [ss, evLit, tab, reduceCtorEq, reduceIte, Nat.reduceEqDiff, Nat.reduceBEq, Int.reduceLE, Int.reduceToNat, Nat.reduceAdd, Nat.reduceLT, Nat.reduceLeDiff]
    repeat' (first | (with_reducible refine hK _ ?_; clear hK K) | with_reducible apply And.intro)
    rw [e]
    refine awp_ret ?_
    exact ret_tmp (.inr rfl) rfl rfl rfl (fun j _ => by rw [upd_cons, hself, upd_nil]) rfl
  repeat refine And.intro (by omega) ?_
  refine hKC _ ?_
  clear hKC KC
  refine awp_ev tab_ok [] ?_
  simp (maxSteps:=9^7) only [ss, evLit, tab, reduceCtorEq, reduceIte, Nat.reduceEqDiff, Nat.reduceBEq, Int.reduceLE, Int.reduceToNat, Nat.reduceAdd, Nat.reduceLT, Nat.reduceLeDiff, addw (n := i) 1 1 rfl (by omega)]
  refine ⟨i + 1, ⟨by omega, ?_⟩, by omega, ?_⟩
  · intro j hj hj' hji
    by_cases h : j = i
    · subst h; simpa using hf
    · exact hq j hj hj' (by omega)
  refine le_of_all ?_ ?_ rfl rfl rfl rfl <;> simp only [patch, sl]
theorem c_wsameK (k : Nat) (a b : Wy) (h1 : a.path.length ≤ 1000000) (h2 : a.over.length ≤ 1000000) (h3 : a.asks.length ≤ 1000000) : ACall Try.prog 38 [.agg (wyBC k a), wyA b] [(k, some (.box 3 (a.path.map i64)))] (bool (wayS a b)) [(k, .box 3 (a.path.map i64))] := by
  have c1 := c_weqK k a.path b.path (by omega)
  have c2 := c_weq_int a.over b.over (by omega)
  have c3 := c_weq_ask a.asks b.asks (by omega)
  unfold wayS
  generalize (a.path == b.path) = P1 at *
  generalize (a.over == b.over) = P2 at *
  generalize (a.asks == b.asks) = P3 at *
  refine acall_of 2 Try.func38 rfl fun n out _ _ => ?_
  simp only [Try.ntmps38, List.length_cons, List.length_nil, List.length_map, List.length_replicate, rep_map, Nat.reduceAdd, Nat.reduceSub, List.replicate, List.cons_append, List.nil_append]
  rename_i hneeds hgv
  obtain ⟨hk, _⟩ := hneeds
  obtain ⟨hkn, _⟩ := hgv
  have hself := upd1_self hk
  repeat' (first | (with_reducible first | refine Vk fun K hK => ?_ | refine V0 ?_ | refine Vs ?_ | apply And.intro) | ((with_reducible first | refine gE ?_ | refine gR ?_); simp (maxSteps:=9^7) only [ss, evLit, tab, reduceCtorEq, reduceIte, Nat.reduceEqDiff, Nat.reduceBEq, Int.reduceLE, Int.reduceToNat, Nat.reduceAdd, Nat.reduceLT, Nat.reduceLeDiff, wyA, wyC, wyBC, nx_outs hkn, hself]) | exact Vn | ((with_reducible refine Vz ?_); refine Vo rfl rfl rfl (fun _ _ => rfl) ?_ <;> first | rfl | skip) | (refine call_boxed c1 (by rw [lk_out hkn]; exact hk) (by rw [dm_out hkn]; trivial) ?_) | (refine call_pure (c2) ?_) | (refine call_pure (c3) ?_) | ((with_reducible refine Vg (fun hg => ?_) (fun hg => ?_)) <;> (try simp only [nb] at hg) <;> simp (maxSteps:=9^7) only [ss, evLit, tab, reduceCtorEq, reduceIte, Nat.reduceEqDiff, Nat.reduceBEq, Int.reduceLE, Int.reduceToNat, Nat.reduceAdd, Nat.reduceLT, Nat.reduceLeDiff, hg, wyA, wyC, wyBC, nx_outs hkn, hself]) | (refine hK _ ?_; clear hK K) | clear hK K)
  all_goals (refine awp_ret ?_; refine ret_tmp (.inr rfl) rfl rfl rfl (fun j _ => by rw [upd_cons, hself, upd_nil]) ?_; (simp only [g_0, g_s]; refine congrArg VS.bool ?_; simp_all; done))
theorem c_rsameWK (k : Nat) (a : Wy) (ha : a.path.length ≤ 20 ∧ a.over.length ≤ 20 ∧ a.asks.length ≤ 60) : ACall Try.prog 34 [.agg (wyBC k a), wyA a] [(k, some (.box 3 (a.path.map i64)))] (bool true) [(k, .box 3 (a.path.map i64))] := by
  obtain ⟨l1, l2, l3⟩ := ha
  have c1 := c_rintsK k a.path (by omega)
  have c2 := c_rints a.over a.over (by omega)
  rw [beq_self_eq_true] at c2
  refine acall_of 2 Try.func34 rfl fun n out _ _ => ?_
  simp only [Try.ntmps34, List.length_cons, List.length_nil, List.length_map, List.length_replicate, rep_map, Nat.reduceAdd, Nat.reduceSub, List.replicate, List.cons_append, List.nil_append]
  rename_i hneeds hgv
  obtain ⟨hk, _⟩ := hneeds
  obtain ⟨hkn, _⟩ := hgv
  have hself := upd1_self hk
  repeat' (first | (with_reducible first | refine Vk fun K hK => ?_ | refine V0 ?_ | refine Vb ?_ | refine Vc ?_ | refine Vr ?_ | refine Vs ?_ | apply And.intro | refine Vq (by kernel_rfl) ?_) | ((with_reducible first | refine gE ?_ | refine gR ?_); simp (maxSteps:=9^7) only [ss, evLit, tab, reduceCtorEq, reduceIte, Nat.reduceEqDiff, Nat.reduceBEq, Int.reduceLE, Int.reduceToNat, Nat.reduceAdd, Nat.reduceLT, Nat.reduceLeDiff, wyA, wyC, wyBC, List.length_map, bne_self_eq_false, Bool.not_true, nx_outs hkn, hself]) | exact Vn | ((with_reducible refine Vz ?_); refine Vo rfl rfl rfl (fun _ _ => rfl) ?_ <;> first | rfl | skip) | (refine call_boxed c1 (by rw [lk_out hkn]; exact hk) (by rw [dm_out hkn]; trivial) ?_) | (refine call_pure (c2) ?_) | ((with_reducible refine Vg (fun hg => ?_) (fun hg => ?_)) <;> (try simp only [nb] at hg) <;> simp (maxSteps:=9^7) only [ss, evLit, tab, reduceCtorEq, reduceIte, Nat.reduceEqDiff, Nat.reduceBEq, Int.reduceLE, Int.reduceToNat, Nat.reduceAdd, Nat.reduceLT, Nat.reduceLeDiff, hg, wyA, wyC, wyBC, List.length_map, bne_self_eq_false, Bool.not_true, nx_outs hkn, hself]) | ((with_reducible refine Vx ?_); simp only [sb, reduceIte, Nat.reduceEqDiff]) | (refine hK _ ?_; clear hK K) | refine Vt rfl ?_ | refine Vf rfl ?_ | refine Vi rfl (fun hg => ?_) (fun hg => ?_) | ((first | show Program.eqGuardType _ _ _ = false | show numFieldsB _ _ _ = true | show Program.stoodInHeld _ _ = false); kernel_rfl) | clear hK K)
  refine awp_block ?_
  refine awp_for_mv (fun m (i : Nat) => [(5, i64 (i : Int)), (2, .ptr (m + 0) 0), (3, .ptr (m + 1) 0), (4, .top), (36, .top), (37, .top), (38, .top), (39, .top), (40, .top), (41, .top), (42, .top), (43, .top), (44, .top), (45, .top), (46, .top), (47, .top), (48, .top), (49, .top), (50, .top), (51, .top), (52, .top), (53, .top)]) (fun m i => [some (.box 77 (wyBC k a)), some (.box 77 (wyC a))]) (fun i => out) (fun i => i ≤ a.asks.length) (fun i => a.asks.length - i) 0 (Nat.zero_le _) ?_ fun m i hm hi => ?_
  · refine le_of_all ?_ ?_ (by first | rfl | (simp only [wyC, wyBC]; rfl) | simp only [wyC, wyBC]) rfl rfl rfl <;> simp only [patch, sl, wyC, wyBC]
  simp only [patch, s_0, s_s]
  have hw := addw (n := i) 1 1 rfl (by omega)
  by_cases hlt : i < a.asks.length
  · have ga := getD_map sgC a.asks i [] hlt
    repeat' (first | (with_reducible first | refine Vk fun K hK => ?_ | refine V0 ?_ | refine Vb ?_ | refine Vc ?_ | refine Vr ?_ | refine Vs ?_ | apply And.intro | refine Vq (by kernel_rfl) ?_) | ((with_reducible first | refine gE ?_ | refine gR ?_); simp (maxSteps:=9^7) only [ss, evLit, tab, reduceCtorEq, reduceIte, Nat.reduceEqDiff, Nat.reduceBEq, Int.reduceLE, Int.reduceToNat, Nat.reduceAdd, Nat.reduceLT, Nat.reduceLeDiff, locM hm, wyC, wyBC, sgC, List.length_map, hlt, ga, splice_all, evEq_gg, beq_self_eq_true, bne_self_eq_false, Bool.and_self, Bool.not_true, hw]) | exact Vn | ((with_reducible refine Vz ?_); refine Vo rfl rfl rfl (fun _ _ => rfl) ?_ <;> first | rfl | skip) | ((with_reducible refine Vg (fun hg => ?_) (fun hg => ?_)) <;> (try simp only [nb] at hg) <;> simp (maxSteps:=9^7) only [ss, evLit, tab, reduceCtorEq, reduceIte, Nat.reduceEqDiff, Nat.reduceBEq, Int.reduceLE, Int.reduceToNat, Nat.reduceAdd, Nat.reduceLT, Nat.reduceLeDiff, hg, locM hm, wyC, wyBC, sgC, List.length_map, hlt, ga, splice_all, evEq_gg, beq_self_eq_true, bne_self_eq_false, Bool.and_self, Bool.not_true, hw]) | ((with_reducible refine Vx ?_); simp only [sb, reduceIte, Nat.reduceEqDiff]) | (refine hK _ ?_; clear hK K) | refine Vt rfl ?_ | refine Vf rfl ?_ | refine Vi rfl (fun hg => ?_) (fun hg => ?_) | ((first | show Program.eqGuardType _ _ _ = false | show numFieldsB _ _ _ = true | show Program.stoodInHeld _ _ = false); kernel_rfl) | clear hK K)
    refine ⟨i + 1, by omega, by omega, ?_⟩
    refine le_move [true, true] (fun n_ => ?_) (fun n_ => ?_) <;> simp only [patch, sm, wyC, wyBC, hlt, decide_true]
  · repeat' (first | (with_reducible first | refine Vk fun K hK => ?_ | refine V0 ?_ | refine Vb ?_ | refine Vc ?_ | refine Vr ?_ | refine Vs ?_ | apply And.intro | refine Vq (by kernel_rfl) ?_) | ((with_reducible first | refine gE ?_ | refine gR ?_); simp (maxSteps:=9^7) only [ss, evLit, tab, reduceCtorEq, reduceIte, Nat.reduceEqDiff, Nat.reduceBEq, Int.reduceLE, Int.reduceToNat, Nat.reduceAdd, Nat.reduceLT, Nat.reduceLeDiff, locM hm, wyC, wyBC, List.length_map, hlt, splice_all]) | exact Vn | ((with_reducible refine Vz ?_); refine Vo rfl rfl rfl (fun _ _ => rfl) ?_ <;> first | rfl | skip) | ((with_reducible refine Vg (fun hg => ?_) (fun hg => ?_)) <;> (try simp only [nb] at hg) <;> simp (maxSteps:=9^7) only [ss, evLit, tab, reduceCtorEq, reduceIte, Nat.reduceEqDiff, Nat.reduceBEq, Int.reduceLE, Int.reduceToNat, Nat.reduceAdd, Nat.reduceLT, Nat.reduceLeDiff, hg, locM hm, wyC, wyBC, List.length_map, hlt, splice_all]) | ((with_reducible refine Vx ?_); simp only [sb, reduceIte, Nat.reduceEqDiff]) | (refine hK _ ?_; clear hK K) | refine Vt rfl ?_ | refine Vf rfl ?_ | refine Vi rfl (fun hg => ?_) (fun hg => ?_) | ((first | show Program.eqGuardType _ _ _ = false | show numFieldsB _ _ _ = true | show Program.stoodInHeld _ _ = false); kernel_rfl) | clear hK K)
    refine awp_ret ?_
    exact ret_tmp (.inr rfl) rfl rfl rfl (fun j _ => by rw [upd_cons, hself, upd_nil]) rfl
theorem c_ofK (k : Nat) (p : Pl) (hs : Sm p) (id : Int) (hE : ofE p id = 0) : ACall Try.prog 37 [plA p, i64 id] [(k, none)] (.tup [.agg (wyBC k (ofW p id)), i64 0]) [(k, .box 3 ((ofW p id).path.map i64))] := by
  have c1 : ACall Try.prog 24 [plA p, i64 id] [] (.tup [rtA (rtO p id), i64 (rtE p id)]) [] := c_pRoute p hs id
  have hR : rtE p id = 0 := (gone_of hE).2
  have hF : folE p (rtO p id) = 0 := by unfold ofE at hE; rwa [if_pos hR] at hE
  have e1 : ofW p id = folW p (rtO p id) := if_pos hR
  obtain ⟨hmy, hr⟩ := rtE_zero hR
  obtain ⟨h1, en, _, h3, _, h5⟩ := entry_of hmy hr
  have c2 := fun k => c_followedK k p (rtO p id) hs (hs.rt _ hr) h1 (by rw [h3]; exact h5) hF
  rw [e1]
  rw [hR] at c1
  clear h3 h5 h1 hF hE e1 hR
  generalize rtO p id = r at *
  generalize folW p r = W at *
  generalize folO p r = O at *
  simp only [plA, plC, rtA, rtC, wyBC] at c1 c2
  refine acall_of 5 Try.func37 rfl fun n out _ _ => ?_
  simp only [Try.ntmps37, List.length_cons, List.length_nil, List.length_map, List.length_replicate, rep_map, Nat.reduceAdd, Nat.reduceSub, List.replicate, List.cons_append, List.nil_append]
  rename_i hneeds hgv
  obtain ⟨hk, _⟩ := hneeds
  obtain ⟨hkn, _⟩ := hgv
  repeat' (first | (with_reducible first | refine Vk fun K hK => ?_ | refine V0 ?_ | refine Vs ?_ | apply And.intro) | ((with_reducible first | refine gE ?_ | refine gR ?_); simp (maxSteps:=9^7) only [ss, evLit, tab, reduceCtorEq, reduceIte, Nat.reduceEqDiff, Nat.reduceBEq, Int.reduceLE, Int.reduceToNat, Nat.reduceAdd, Nat.reduceLT, Nat.reduceLeDiff, plA, plC, rtA, rtC, wyBC, splice_all, Int.reduceBNe]) | exact Vn | ((with_reducible refine Vz ?_); (first | refine ret_ct (.inr rfl) rfl rfl rfl (fun _ _ => rfl) ok77 (k := n + 1) (off := 0) rfl (dom_loc _ (by simp)) (look_loc _ (Nat.le_refl _) 1) rfl rfl ?_ | refine ret_ct (.inr rfl) rfl rfl rfl (fun _ _ => rfl) ok77 (k := m + 1) (off := 0) rfl (dom_loc _ (by simp)) (look_loc _ hm 1) rfl rfl ?_) <;> first | rfl | exact AV.le.rfl _ | (simp only [patch, sl, ti77, List.map_nil, plA, plC, rtA, rtC, wyBC, splice_all, Int.reduceBNe]; done) | rfl | skip) | (refine call_pure (c1) ?_) | (refine call_one (c2 (n + 4)) (look_loc _ (Nat.le_refl _) 4) (dom_loc _ (by simp)) (by simp) ?_) | (refine hK _ ?_; clear hK K) | refine Vt rfl ?_ | refine Vf rfl ?_ | refine Vi rfl (fun hg => ?_) (fun hg => ?_) | clear hK K)
  refine awp_le (le_toOut1 (i := 4) (k := k) rfl (by exact hkn) (by exact hk)) ?_
  simp only [List.map_cons, List.map_nil, Option.map_some, Option.map_none, Res.ren1, AV.ren1, Nat.add_left_cancel_iff, Nat.reduceEqDiff, Nat.one_ne_zero, reduceIte, zombie, s_0, s_s]
  refine awp_ret ?_
  refine ret_ct (.inr rfl) rfl rfl rfl (fun _ _ => rfl) ok77 (k := n + 1) (off := 0) rfl (dom_loc _ (by simp)) (look_loc _ (Nat.le_refl _) 1) rfl rfl ?_
  exact AV.le.rfl _
theorem c_lawWTells (p : Pl) (id other : Int) : ACall Try.prog 12 [plA p, i64 id, i64 other] [] (bool true) [] := by
  have cg := c_rgreat p
  simp only [plA, plC] at cg
  cases hG : greatP p with
  | true =>
    rw [hG] at cg
    refine acall_of 6 Try.func12 rfl fun n out _ _ => ?_
    simp only [Try.ntmps12, List.length_cons, List.length_nil, List.length_map, List.length_replicate, rep_map, Nat.reduceAdd, Nat.reduceSub, List.replicate, List.cons_append, List.nil_append]
    repeat' (first | (with_reducible first | refine Vk fun K hK => ?_ | refine V0 ?_ | refine Vb ?_ | refine Vc ?_ | refine Vr ?_ | refine Vs ?_ | apply And.intro | refine Vq (by kernel_rfl) ?_) | ((with_reducible first | refine gE ?_ | refine gR ?_); simp (maxSteps:=9^7) only [ss, evLit, tab, reduceCtorEq, reduceIte, Nat.reduceEqDiff, Nat.reduceBEq, Int.reduceLE, Int.reduceToNat, Nat.reduceAdd, Nat.reduceLT, Nat.reduceLeDiff, plA, plC]) | exact Vn | ((with_reducible refine Vz ?_); refine Vo rfl rfl rfl (fun _ _ => rfl) ?_ <;> first | rfl | skip) | (refine call_pure (cg) ?_) | ((with_reducible refine Vg (fun hg => ?_) (fun hg => ?_)) <;> (try simp only [nb] at hg) <;> simp (maxSteps:=9^7) only [ss, evLit, tab, reduceCtorEq, reduceIte, Nat.reduceEqDiff, Nat.reduceBEq, Int.reduceLE, Int.reduceToNat, Nat.reduceAdd, Nat.reduceLT, Nat.reduceLeDiff, hg, plA, plC]) | ((with_reducible refine Vx ?_); simp only [sb, reduceIte, Nat.reduceEqDiff]) | (refine hK _ ?_; clear hK K) | refine Vt rfl ?_ | refine Vf rfl ?_ | refine Vi rfl (fun hg => ?_) (fun hg => ?_) | clear hK K)
  | false =>
    rw [hG] at cg
    have hs := small_of hG
    have d1 := c_rtwinP p hs
    have d3 := c_rOf p hs id
    have d4 := c_outs p hs id
    have d5 := c_rOuts p hs id
    have d6 := c_rOf p hs other
    have hO : (ofO p id).length ≤ 1000000 := by
      unfold ofO
      by_cases hR : rtE p id = 0
      · rw [if_pos hR]
        have := (fol_less hs (rtE_zero hR).2).2; omega
      · rw [if_neg hR]; exact Nat.zero_le _
    have d8 := c_rsameJ (ofO p id) (ofO p id) hO
    rw [beq_self_eq_true] at d8
    have d11 := c_rsameP p p hs
    rw [sameP_refl] at d11
    have hA := ofW_len hs id
    have d10 := c_rsameW (ofW p id) (ofW p other) (by omega)
    have hS : wayS (ofW p id) (ofW p other) = sameW (ofW p id) (ofW p other) := rfl
    by_cases hE : ofE p id = 0
    · have hp := ofW_path hE
      have e1 := fun k => c_ofK k p hs id hE
      have e2 := fun k => c_rsameWK k (ofW p id) hA
      have e3 := fun k => c_wsameK k (ofW p id) (ofW p other) (by omega) (by omega) (by omega)
      rw [hS] at e3
      rw [hE] at d3 d4 d5
      generalize sameW (ofW p id) (ofW p other) = SW at *
      generalize ofW p id = A at *
      generalize ofW p other = C at *
      generalize ofE p other = E2 at *
      generalize ofO p id = O at *
      clear hS hG hE
      simp only [plA, plC, wyA, wyC, wyBC] at d1 d3 d4 d5 d6 d8 d10 d11 e1 e2 e3
      refine acall_of 6 Try.func12 rfl fun n out _ _ => ?_
      simp only [Try.ntmps12, List.length_cons, List.length_nil, List.length_map, List.length_replicate, rep_map, Nat.reduceAdd, Nat.reduceSub, List.replicate, List.cons_append, List.nil_append]
      repeat' (first | (with_reducible first | refine Vk fun K hK => ?_ | refine V0 ?_ | refine Vb ?_ | refine Vc ?_ | refine Vr ?_ | refine Vs ?_ | apply And.intro | refine Vd 9 [] [[2],[3],[5],[],[],[],[],[],[],[],[],[],[],[],[],[],[],[],[],[2],[4],[5],[3],[4],[],[],[],[]] [[],[],[5],[],[],[],[],[],[],[],[],[],[],[],[],[],[],[],[],[],[],[5],[],[],[],[],[],[]] (by kernel_rfl) (by decide) (by decide) (by kernel_rfl) ?_ | refine Vq (by kernel_rfl) ?_) | ((with_reducible first | refine gE ?_ | refine gR ?_ | refine gD ?_ | refine gF ?_); simp (maxSteps:=9^7) only [ss, evLit, tab, reduceCtorEq, reduceIte, Nat.reduceEqDiff, Nat.reduceBEq, Int.reduceLE, Int.reduceToNat, Nat.reduceAdd, Nat.reduceLT, Nat.reduceLeDiff, sg, plA, plC, wyA, wyC, wyBC, splice_all, beq_self_eq_true, Bool.and_self]) | exact Vn | ((with_reducible refine Vz ?_); refine Vo rfl rfl rfl (fun _ _ => rfl) ?_ <;> first | rfl | skip) | (refine call_pure (cg) ?_) | (refine call_pure (d1) ?_) | (refine call_pure (d3) ?_) | (refine call_pure (d4) ?_) | (refine call_pure (d5) ?_) | (refine call_pure (d6) ?_) | (refine call_pure (d8) ?_) | (refine call_pure (d10) ?_) | (refine call_one (e1 (n + 5)) (look_loc _ (Nat.le_refl _) 5) (dom_loc _ (by simp)) (by simp) ?_) | (refine call_one (e2 (n + 5)) (look_loc _ (Nat.le_refl _) 5) (dom_loc _ (by simp)) (by simp) ?_) | (refine call_one (e3 (n + 5)) (look_loc _ (Nat.le_refl _) 5) (dom_loc _ (by simp)) (by simp) ?_) | ((with_reducible first | refine Vg (fun hg => ?_) (fun hg => ?_) | refine gselD_case (fun hg => ?_) (fun hg => ?_)) <;> (try simp only [nb] at hg) <;> simp (maxSteps:=9^7) only [ss, evLit, tab, reduceCtorEq, reduceIte, Nat.reduceEqDiff, Nat.reduceBEq, Int.reduceLE, Int.reduceToNat, Nat.reduceAdd, Nat.reduceLT, Nat.reduceLeDiff, hg, sg, plA, plC, wyA, wyC, wyBC, splice_all, beq_self_eq_true, Bool.and_self]) | ((with_reducible refine Vx ?_); simp only [sb, reduceIte, Nat.reduceEqDiff]) | (refine hK _ ?_; clear hK K) | refine Vt rfl ?_ | refine Vf rfl ?_ | refine Vi rfl (fun hg => ?_) (fun hg => ?_) | clear hK K)
      refine awp_block ?_
      refine awp_for_mv (fun m (i : Nat) => [(19, i64 (i : Int)), (3, .ptr (m + 0) 0), (7, .ptr (m + 1) 0), (8, .ptr (m + 2) 0), (81, .top), (82, .top), (83, .top), (84, .top), (85, .top), (86, .top), (87, .top), (88, .top), (89, .top), (90, .top), (91, .top), (92, .top), (93, .top), (94, .top)]) (fun m i => [some (.box 27 (plC p)), some (.box 27 (plC p)), some (.box 77 (wyBC (m + 5) A)), some (.box 77 (wyC A)), some (.box 77 (wyC C)), some (.box 3 ((incL A.path i).map i64))]) (fun i => out) (fun i => i ≤ A.path.length) (fun i => A.path.length - i) 0 (Nat.zero_le _) ?_ fun m i hm hi => ?_
      · refine le_of_all ?_ ?_ (by first | rfl | (simp only [plC, wyC, wyBC, incL_zero]; rfl) | simp only [plC, wyC, wyBC, incL_zero]) rfl rfl rfl <;> simp only [patch, sl, plC, wyC, wyBC, incL_zero]
      simp only [patch, s_0, s_s]
      have hw := addw (n := i) 1 1 rfl (by omega)
      by_cases hlt : i < A.path.length
      · have hl := incL_len A.path i
        have hli : i < (incL A.path i).length := by omega
        have gp := pick_ints (incL A.path i) i 1 hli
        rw [incL_at A.path i hlt] at gp
        have gs := splice_map i64 (incL A.path i) i (IntKind.i64.wrap (A.path[i] + 1)) hli
        rw [incL_set A.path i hlt] at gs
        repeat' (first | (with_reducible first | refine Vk fun K hK => ?_ | refine V0 ?_ | refine Vb ?_ | refine Vc ?_ | refine Vr ?_ | refine Vs ?_ | apply And.intro | refine Vq (by kernel_rfl) ?_) | ((with_reducible first | refine gE ?_ | refine gR ?_); simp (maxSteps:=9^7) only [ss, evLit, tab, reduceCtorEq, reduceIte, Nat.reduceEqDiff, Nat.reduceBEq, Int.reduceLE, Int.reduceToNat, Nat.reduceAdd, Nat.reduceLT, Nat.reduceLeDiff, locM hm, plC, wyBC, List.length_map, hlt, hl, gp, gs, splice_all, hw]) | exact Vn | ((with_reducible refine Vz ?_); refine Vo rfl rfl rfl (fun _ _ => rfl) ?_ <;> first | rfl | skip) | ((with_reducible refine Vg (fun hg => ?_) (fun hg => ?_)) <;> (try simp only [nb] at hg) <;> simp (maxSteps:=9^7) only [ss, evLit, tab, reduceCtorEq, reduceIte, Nat.reduceEqDiff, Nat.reduceBEq, Int.reduceLE, Int.reduceToNat, Nat.reduceAdd, Nat.reduceLT, Nat.reduceLeDiff, hg, locM hm, plC, wyBC, List.length_map, hlt, hl, gp, gs, splice_all, hw]) | ((with_reducible refine Vx ?_); simp only [sb, reduceIte, Nat.reduceEqDiff]) | (refine hK _ ?_; clear hK K) | refine Vt rfl ?_ | refine Vf rfl ?_ | refine Vi rfl (fun hg => ?_) (fun hg => ?_) | clear hK K)
        · omega
        refine ⟨i + 1, by omega, by omega, ?_⟩
        refine le_move [true, true, true, true, true, true] (fun n_ => ?_) (fun n_ => ?_) <;> simp only [patch, sm, plC, wyC, wyBC, hlt, decide_true]
      · repeat' (first | (with_reducible first | refine Vk fun K hK => ?_ | refine V0 ?_ | refine Vb ?_ | refine Vc ?_ | refine Vr ?_ | refine Vs ?_ | apply And.intro | refine Vq (by kernel_rfl) ?_) | ((with_reducible first | refine gE ?_ | refine gR ?_); simp (maxSteps:=9^7) only [ss, evLit, tab, reduceCtorEq, reduceIte, Nat.reduceEqDiff, Nat.reduceBEq, Int.reduceLE, Int.reduceToNat, Nat.reduceAdd, Nat.reduceLT, Nat.reduceLeDiff, locM hm, plC, wyBC, hlt, splice_all]) | exact Vn | ((with_reducible refine Vz ?_); refine Vo rfl rfl rfl (fun _ _ => rfl) ?_ <;> first | rfl | skip) | (refine call_pure (d11) ?_) | ((with_reducible refine Vg (fun hg => ?_) (fun hg => ?_)) <;> (try simp only [nb] at hg) <;> simp (maxSteps:=9^7) only [ss, evLit, tab, reduceCtorEq, reduceIte, Nat.reduceEqDiff, Nat.reduceBEq, Int.reduceLE, Int.reduceToNat, Nat.reduceAdd, Nat.reduceLT, Nat.reduceLeDiff, hg, locM hm, plC, wyBC, hlt, splice_all]) | ((with_reducible refine Vx ?_); simp only [sb, reduceIte, Nat.reduceEqDiff]) | (refine hK _ ?_; clear hK K) | refine Vt rfl ?_ | refine Vf rfl ?_ | refine Vi rfl (fun hg => ?_) (fun hg => ?_) | clear hK K)
    · obtain ⟨n1, n2⟩ := of_not hE
      have e1 := c_of p hs id
      have e2 := c_rsameW (ofW p id) (ofW p id) (by omega)
      rw [sameW_iff.2 rfl] at e2
      have e3 := c_wsame (ofW p id) (ofW p other) (by omega) (by omega) (by omega)
      rw [hS] at e3
      have hp : (ofW p id).path = [] := by rw [n1]; rfl
      generalize sameW (ofW p id) (ofW p other) = SW at *
      clear n1 n2 hE hS hG
      generalize ofW p id = A at *
      generalize ofW p other = C at *
      generalize ofE p other = E2 at *
      generalize ofE p id = E1 at *
      generalize ofO p id = O at *
      simp only [plA, plC, wyA, wyC] at d1 d3 d4 d5 d6 d8 d10 d11 e1 e2 e3
      refine acall_of 6 Try.func12 rfl fun n out _ _ => ?_
      simp only [Try.ntmps12, List.length_cons, List.length_nil, List.length_map, List.length_replicate, rep_map, Nat.reduceAdd, Nat.reduceSub, List.replicate, List.cons_append, List.nil_append]
      repeat' (first | (with_reducible first | refine Vk fun K hK => ?_ | refine V0 ?_ | refine Vb ?_ | refine Vc ?_ | refine Vr ?_ | refine Vs ?_ | apply And.intro | refine Vq (by kernel_rfl) ?_) | ((with_reducible first | refine gE ?_ | refine gR ?_); simp (maxSteps:=9^7) only [ss, evLit, tab, reduceCtorEq, reduceIte, Nat.reduceEqDiff, Nat.reduceBEq, Int.reduceLE, Int.reduceToNat, Nat.reduceAdd, Nat.reduceLT, Nat.reduceLeDiff, plA, plC, wyA, wyC, splice_all, beq_self_eq_true, Bool.and_self]) | exact Vn | ((with_reducible refine Vz ?_); refine Vo rfl rfl rfl (fun _ _ => rfl) ?_ <;> first | rfl | skip) | (refine call_pure (cg) ?_) | (refine call_pure (d1) ?_) | (refine call_pure (d3) ?_) | (refine call_pure (d4) ?_) | (refine call_pure (d5) ?_) | (refine call_pure (d6) ?_) | (refine call_pure (d8) ?_) | (refine call_pure (e1) ?_) | (refine call_pure (e2) ?_) | (refine call_pure (e3) ?_) | (refine call_pure (d10) ?_) | ((with_reducible refine Vg (fun hg => ?_) (fun hg => ?_)) <;> (try simp only [nb] at hg) <;> simp (maxSteps:=9^7) only [ss, evLit, tab, reduceCtorEq, reduceIte, Nat.reduceEqDiff, Nat.reduceBEq, Int.reduceLE, Int.reduceToNat, Nat.reduceAdd, Nat.reduceLT, Nat.reduceLeDiff, hg, plA, plC, wyA, wyC, splice_all, beq_self_eq_true, Bool.and_self]) | ((with_reducible refine Vx ?_); simp only [sb, reduceIte, Nat.reduceEqDiff]) | (refine hK _ ?_; clear hK K) | refine Vt rfl ?_ | refine Vf rfl ?_ | refine Vi rfl (fun hg => ?_) (fun hg => ?_) | clear hK K)
      refine awp_block ?_
      refine awp_for_mv (fun m (i : Nat) => [(19, i64 (i : Int)), (3, .ptr (m + 0) 0), (7, .ptr (m + 1) 0), (8, .ptr (m + 2) 0), (81, .top), (82, .top), (83, .top), (84, .top), (85, .top), (86, .top), (87, .top), (88, .top), (89, .top), (90, .top), (91, .top), (92, .top), (93, .top), (94, .top)]) (fun m i => [some (.box 27 (plC p)), some (.box 27 (plC p)), some (.box 77 (wyC A)), some (.box 77 (wyC A)), some (.box 77 (wyC C)), none]) (fun i => out) (fun i => i ≤ 0) (fun i => 0 - i) 0 (Nat.zero_le _) ?_ fun m i hm hi => ?_
      · refine le_of_all ?_ ?_ (by first | rfl | (simp only [plC, wyC]; rfl) | simp only [plC, wyC]) rfl rfl rfl <;> simp only [patch, sl, plC, wyC]
      simp only [patch, s_0, s_s]
      obtain rfl : i = 0 := by omega
      repeat' (first | (with_reducible first | refine Vk fun K hK => ?_ | refine V0 ?_ | refine Vb ?_ | refine Vc ?_ | refine Vr ?_ | refine Vs ?_ | apply And.intro | refine Vq (by kernel_rfl) ?_) | ((with_reducible first | refine gE ?_ | refine gR ?_); simp (maxSteps:=9^7) only [ss, evLit, tab, reduceCtorEq, reduceIte, Nat.reduceEqDiff, Nat.reduceBEq, Int.reduceLE, Int.reduceToNat, Nat.reduceAdd, Nat.reduceLT, Nat.reduceLeDiff, locM hm, plC, wyC, hp, List.map_nil, List.length_nil, splice_all]) | exact Vn | ((with_reducible refine Vz ?_); refine Vo rfl rfl rfl (fun _ _ => rfl) ?_ <;> first | rfl | skip) | (refine call_pure (d11) ?_) | ((with_reducible refine Vg (fun hg => ?_) (fun hg => ?_)) <;> (try simp only [nb] at hg) <;> simp (maxSteps:=9^7) only [ss, evLit, tab, reduceCtorEq, reduceIte, Nat.reduceEqDiff, Nat.reduceBEq, Int.reduceLE, Int.reduceToNat, Nat.reduceAdd, Nat.reduceLT, Nat.reduceLeDiff, hg, locM hm, plC, wyC, hp, List.map_nil, List.length_nil, splice_all]) | ((with_reducible refine Vx ?_); simp only [sb, reduceIte, Nat.reduceEqDiff]) | (refine hK _ ?_; clear hK K) | refine Vt rfl ?_ | refine Vf rfl ?_ | refine Vi rfl (fun hg => ?_) (fun hg => ?_) | clear hK K)
end Go.Proofs.Ytdkiciofkifpdaa.Pln
