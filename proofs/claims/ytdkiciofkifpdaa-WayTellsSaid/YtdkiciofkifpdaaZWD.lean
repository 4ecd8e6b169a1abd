/- The layer of abstract values, joined: WD. -/
import Derived.Test.YtdkiciofkifpdaaZGA
import Derived.Test.YtdkiciofkifpdaaZW5
import Derived.Test.YtdkiciofkifpdaaZPP
section
namespace Go.Proofs.Ytdkiciofkifpdaa.Pln
set_option linter.unusedVariables false
set_option linter.unusedSimpArgs false
open Go Go.VS Tab
set_option maxHeartbeats 8000000
set_option maxRecDepth 4000
theorem may_parts {p : Pl} (h : mayP p = true) : headOk p = true ∧ mayS p.secs = true ∧ ptsOk p = true ∧ sgsOk p = true ∧ allP rises (p.rts.map Rt.id) = true ∧ p.rts.length ≤ 16 ∧ ∀ r, r ∈ p.rts → okR p r = true := by
  unfold mayP at h
  simp only [Bool.and_eq_true, decide_eq_true_eq, List.all_eq_true] at h
  obtain ⟨⟨⟨⟨⟨⟨h1, h2⟩, h3⟩, h4⟩, h5⟩, h6⟩, h7⟩ := h
  exact ⟨h1, h2, h3, h4, h5, h6, h7⟩
theorem lastG_get {l : List (Int × Int × Int)} (hr : ∀ i (hi : i < l.length) j (hj : j < i), (l[j]'(by omega)).1 < l[i].1) (n : Int) : lastG l n = (getG l n).getD (0, 0, 0) := by
  have : ∀ i, i ≤ l.length → lastG (l.take i) n = (getG (l.take i) n).getD (0, 0, 0) := by
    intro i
    induction i with
    | zero => intro _; rfl
    | succ i ih =>
      intro hi
      rw [lastG_succ (by omega), ih (by omega)]
      unfold getG
      rw [List.take_succ_eq_append_getElem (by omega), List.find?_append]
      by_cases h : l[i].1 = n
      · have hno : (l.take i).find? (fun x => x.1 == n) = none := by
          rw [List.find?_eq_none]
          intro x hx
          rw [List.mem_take_iff_getElem] at hx
          obtain ⟨j, hj, rfl⟩ := hx
          have := hr i (by omega) j (by omega)
          simp; omega
        rw [hno]
        simp [h]
      · rw [if_neg (by simpa using h)]
        have : [l[i]].find? (fun x => x.1 == n) = none := by simp [h]
        rw [this]
        cases (l.take i).find? (fun x => x.1 == n) <;> rfl
  have := this l.length (Nat.le_refl _)
  rwa [List.take_length] at this
theorem sgs_rise {p : Pl} (h : sgsOk p = true) : ∀ i (hi : i < p.sgs.length) j (hj : j < i), (p.sgs[j]'(by omega)).1 < p.sgs[i].1 := by
  intro i hi j hj
  unfold sgsOk at h
  rw [Bool.and_eq_true, Bool.and_eq_true] at h
  have h1 := allP_iff.1 h.1.1 i (by simpa using hi)
  simp only [rises, Bool.and_eq_true, List.all_eq_true, decide_eq_true_eq, List.getElem_map] at h1
  have : p.sgs[j].1 ∈ (p.sgs.map Prod.fst).take i := by
    rw [List.mem_take_iff_getElem]
    exact ⟨j, by simp; omega, by simp⟩
  exact h1.2 _ this
theorem entry_of {p : Pl} (h : mayP p = true) {r : Rt} (hr : r ∈ p.rts) : 1 ≤ r.path.length ∧ ∃ en, getG p.sgs r.entry = some en ∧ lastG p.sgs r.entry = en ∧ en ∈ p.sgs ∧ ∀ s, s ∈ p.secs → (s.id == en.2.1) = true → 0 ≤ en.2.2 ∧ en.2.2 < s.ends.length := by
  obtain ⟨_, hmay, _, hsg, _, _, hrs⟩ := may_parts h
  have ho := hrs r hr
  unfold okR at ho
  cases hg : getG p.sgs r.entry with
  | none => rw [hg] at ho; cases ho
  | some en =>
    rw [hg] at ho
    simp only [Bool.and_eq_true, decide_eq_true_eq] at ho
    obtain ⟨⟨⟨⟨⟨⟨⟨⟨_, hp⟩, _⟩, _⟩, _⟩, _⟩, _⟩, _⟩, _⟩ := ho
    have hm := List.mem_of_find?_eq_some hg
    refine ⟨hp, en, rfl, by rw [lastG_get (sgs_rise hsg), hg]; rfl, hm, fun s hs he => ?_⟩
    obtain ⟨i, hi, rfl⟩ := List.getElem_of_mem hm
    unfold sgsOk at hsg
    rw [Bool.and_eq_true] at hsg
    have h1 := allP_iff.1 hsg.2 i hi
    unfold okG at h1
    rw [Bool.and_eq_true] at h1
    cases hgs : getS p.secs p.sgs[i].2.1 with
    | none => rw [hgs] at h1; simp at h1
    | some s' =>
      rw [hgs] at h1
      simp only [Bool.and_eq_true, decide_eq_true_eq] at h1
      obtain ⟨g1, g2⟩ := getS_some hgs
      have : s = s' := id_inj hmay hs g1 (by rw [g2]; simpa using he)
      rw [this]
      exact h1.1
def rtO (p : Pl) (id : Int) : Rt := elD (mayP p) (getR p.rts id) noRt
def rtE (p : Pl) (id : Int) : Int := elE (mayP p) (getR p.rts id)
def ofE (p : Pl) (id : Int) : Int := if rtE p id = 0 then folE p (rtO p id) else rtE p id
def ofW (p : Pl) (id : Int) : Wy := if rtE p id = 0 then folW p (rtO p id) else noWy
def ofO (p : Pl) (id : Int) : List (Int × Int) := if rtE p id = 0 then folO p (rtO p id) else []
theorem rtE_zero {p : Pl} {id : Int} (h : rtE p id = 0) : mayP p = true ∧ rtO p id ∈ p.rts := by
  unfold rtE elE at h
  cases hm : mayP p with
  | false => rw [hm] at h; simp at h
  | true =>
    rw [hm] at h
    cases hg : getR p.rts id with
    | none => rw [hg] at h; simp at h
    | some r =>
      refine ⟨rfl, ?_⟩
      unfold rtO elD
      rw [hm, hg]
      exact List.mem_of_find?_eq_some hg
theorem c_fol {p : Pl} (hs : Sm p) {id : Int} (h : rtE p id = 0) : ACall Try.prog 82 [plA p, rtA (rtO p id)] [] (.tup [wyA (folW p (rtO p id)), .sl 2 ((folO p (rtO p id)).map jnC) .sh, i64 (folE p (rtO p id))]) [] := by
  obtain ⟨hm, hr⟩ := rtE_zero h
  obtain ⟨h1, en, _, h3, _, h5⟩ := entry_of hm hr
  exact c_followed p (rtO p id) hs (hs.rt _ hr) h1 (by rw [h3]; exact h5)
theorem c_of (p : Pl) (hs : Sm p) (id : Int) : ACall Try.prog 37 [plA p, i64 id] [] (.tup [wyA (ofW p id), i64 (ofE p id)]) [] := by
  have c1 : ACall Try.prog 24 [plA p, i64 id] [] (.tup [rtA (rtO p id), i64 (rtE p id)]) [] := c_pRoute p hs id
  by_cases hE : rtE p id = 0
  · have c2 := c_fol hs hE
    have e1 : ofW p id = folW p (rtO p id) := if_pos hE
    have e2 : ofE p id = folE p (rtO p id) := if_pos hE
    rw [e1, e2]
    rw [hE] at c1
    generalize rtO p id = r at *
    generalize folW p r = W at *
    generalize folO p r = O at *
    generalize folE p r = E at *
    simp only [plA, plC, rtA, rtC, wyA, wyC] at c1 c2
    refine acall_of 4 Try.func37 rfl fun n out _ _ => ?_
    simp only [Try.ntmps37, List.length_cons, List.length_nil, List.length_map, List.length_replicate, rep_map, Nat.reduceAdd, Nat.reduceSub, List.replicate, List.cons_append, List.nil_append]
    repeat' (first | (with_reducible first | refine Vk fun K hK => ?_ | refine V0 ?_ | refine Vs ?_ | apply And.intro) | ((with_reducible first | refine gE ?_ | refine gR ?_); simp (maxSteps:=9^7) only [ss, evLit, tab, reduceCtorEq, reduceIte, Nat.reduceEqDiff, Nat.reduceBEq, Int.reduceLE, Int.reduceToNat, Nat.reduceAdd, Nat.reduceLT, Nat.reduceLeDiff, plA, plC, rtA, rtC, wyA, wyC, splice_all, Int.reduceBNe]) | exact Vn | ((with_reducible refine Vz ?_); (first | refine ret_ct (.inr rfl) rfl rfl rfl (fun _ _ => rfl) ok77 (k := n + 1) (off := 0) rfl (dom_loc _ (by simp)) (look_loc _ (Nat.le_refl _) 1) rfl rfl ?_ | refine ret_ct (.inr rfl) rfl rfl rfl (fun _ _ => rfl) ok77 (k := m + 1) (off := 0) rfl (dom_loc _ (by simp)) (look_loc _ hm 1) rfl rfl ?_) <;> first | rfl | exact AV.le.rfl _ | (simp only [patch, sl, ti77, List.map_nil, plA, plC, rtA, rtC, wyA, wyC, splice_all, Int.reduceBNe]; done) | rfl | skip) | (refine call_pure (c1) ?_) | (refine call_pure (c2) ?_) | (refine hK _ ?_; clear hK K) | refine Vt rfl ?_ | refine Vf rfl ?_ | refine Vi rfl (fun hg => ?_) (fun hg => ?_) | clear hK K)
  · have hb : (rtE p id != 0) = true := by simpa using hE
    have e1 : ofW p id = noWy := if_neg hE
    have e2 : ofE p id = rtE p id := if_neg hE
    rw [e1, e2]
    generalize rtE p id = E at *
    generalize rtO p id = r at *
    simp only [plA, plC, rtA, rtC] at c1
    refine acall_of 4 Try.func37 rfl fun n out _ _ => ?_
    simp only [Try.ntmps37, List.length_cons, List.length_nil, List.length_map, List.length_replicate, rep_map, Nat.reduceAdd, Nat.reduceSub, List.replicate, List.cons_append, List.nil_append]
    repeat' (first | (with_reducible first | refine Vk fun K hK => ?_ | refine V0 ?_ | refine Vs ?_ | apply And.intro) | ((with_reducible first | refine gE ?_ | refine gR ?_); simp (maxSteps:=9^7) only [ss, evLit, tab, reduceCtorEq, reduceIte, Nat.reduceEqDiff, Nat.reduceBEq, Int.reduceLE, Int.reduceToNat, Nat.reduceAdd, Nat.reduceLT, Nat.reduceLeDiff, plA, plC, rtA, rtC, wyA, wyC, noWy, splice_all, hb, List.map_nil]) | exact Vn | ((with_reducible refine Vz ?_); (first | refine ret_ct (.inr rfl) rfl rfl rfl (fun _ _ => rfl) ok77 (k := n + 1) (off := 0) rfl (dom_loc _ (by simp)) (look_loc _ (Nat.le_refl _) 1) rfl rfl ?_ | refine ret_ct (.inr rfl) rfl rfl rfl (fun _ _ => rfl) ok77 (k := m + 1) (off := 0) rfl (dom_loc _ (by simp)) (look_loc _ hm 1) rfl rfl ?_) <;> first | rfl | exact AV.le.rfl _ | (simp only [patch, sl, ti77, List.map_nil, plA, plC, rtA, rtC, wyA, wyC, noWy, splice_all, hb, List.map_nil]; done) | rfl | skip) | (refine call_pure (c1) ?_) | (refine hK _ ?_; clear hK K) | refine Vt rfl ?_ | refine Vf rfl ?_ | refine Vi rfl (fun hg => ?_) (fun hg => ?_) | clear hK K)
theorem c_outs (p : Pl) (hs : Sm p) (id : Int) : ACall Try.prog 39 [plA p, i64 id] [] (.tup [.sl 2 ((ofO p id).map jnC) .sh, i64 (ofE p id)]) [] := by
  have c1 : ACall Try.prog 24 [plA p, i64 id] [] (.tup [rtA (rtO p id), i64 (rtE p id)]) [] := c_pRoute p hs id
  by_cases hE : rtE p id = 0
  · have c2 := c_fol hs hE
    have e1 : ofO p id = folO p (rtO p id) := if_pos hE
    have e2 : ofE p id = folE p (rtO p id) := if_pos hE
    rw [e1, e2]
    rw [hE] at c1
    generalize rtO p id = r at *
    generalize folW p r = W at *
    generalize folO p r = O at *
    generalize folE p r = E at *
    simp only [plA, plC, rtA, rtC, wyA, wyC] at c1 c2
    refine acall_of 4 Try.func39 rfl fun n out _ _ => ?_
    simp only [Try.ntmps39, List.length_cons, List.length_nil, List.length_map, List.length_replicate, rep_map, Nat.reduceAdd, Nat.reduceSub, List.replicate, List.cons_append, List.nil_append]
    repeat' (first | (with_reducible first | refine Vk fun K hK => ?_ | refine V0 ?_ | refine Vs ?_ | apply And.intro) | ((with_reducible first | refine gE ?_ | refine gR ?_); simp (maxSteps:=9^7) only [ss, evLit, tab, reduceCtorEq, reduceIte, Nat.reduceEqDiff, Nat.reduceBEq, Int.reduceLE, Int.reduceToNat, Nat.reduceAdd, Nat.reduceLT, Nat.reduceLeDiff, plA, plC, rtA, rtC, wyA, wyC, splice_all, Int.reduceBNe]) | exact Vn | ((with_reducible refine Vz ?_); refine ret_tmps_le (.inr rfl) rfl rfl rfl (fun _ _ => rfl) rfl rfl ?_ ?_ <;> first | rfl | (exact AV.le.rfl _) | (simp only [patch, sl, plA, plC, rtA, rtC, wyA, wyC, splice_all, Int.reduceBNe]; done) | rfl | skip) | (refine call_pure (c1) ?_) | (refine call_pure (c2) ?_) | (refine hK _ ?_; clear hK K) | refine Vt rfl ?_ | refine Vf rfl ?_ | refine Vi rfl (fun hg => ?_) (fun hg => ?_) | clear hK K)
  · have hb : (rtE p id != 0) = true := by simpa using hE
    have e1 : ofO p id = [] := if_neg hE
    have e2 : ofE p id = rtE p id := if_neg hE
    rw [e1, e2]
    generalize rtE p id = E at *
    generalize rtO p id = r at *
    simp only [plA, plC, rtA, rtC] at c1
    refine acall_of 4 Try.func39 rfl fun n out _ _ => ?_
    simp only [Try.ntmps39, List.length_cons, List.length_nil, List.length_map, List.length_replicate, rep_map, Nat.reduceAdd, Nat.reduceSub, List.replicate, List.cons_append, List.nil_append]
    repeat' (first | (with_reducible first | refine Vk fun K hK => ?_ | refine V0 ?_ | refine Vs ?_ | apply And.intro) | ((with_reducible first | refine gE ?_ | refine gR ?_); simp (maxSteps:=9^7) only [ss, evLit, tab, reduceCtorEq, reduceIte, Nat.reduceEqDiff, Nat.reduceBEq, Int.reduceLE, Int.reduceToNat, Nat.reduceAdd, Nat.reduceLT, Nat.reduceLeDiff, plA, plC, rtA, rtC, splice_all, hb, List.map_nil]) | exact Vn | ((with_reducible refine Vz ?_); refine ret_tmps_le (.inr rfl) rfl rfl rfl (fun _ _ => rfl) rfl rfl ?_ ?_ <;> first | rfl | (exact AV.le.rfl _) | (simp only [patch, sl, plA, plC, rtA, rtC, splice_all, hb, List.map_nil]; done) | rfl | skip) | (refine call_pure (c1) ?_) | (refine hK _ ?_; clear hK K) | refine Vt rfl ?_ | refine Vf rfl ?_ | refine Vi rfl (fun hg => ?_) (fun hg => ?_) | clear hK K)
end Go.Proofs.Ytdkiciofkifpdaa.Pln
end
section
namespace Go.Proofs.Ytdkiciofkifpdaa.Pln
set_option linter.unusedVariables false
set_option linter.unusedSimpArgs false
open Go Go.VS Tab
set_option maxHeartbeats 8000000
set_option maxRecDepth 8000
theorem evEq_gg (a b : Int × Int × Int) : evEq [i64 a.1, i64 a.2.1, i64 a.2.2] [i64 b.1, i64 b.2.1, i64 b.2.2] = some (a == b) := by
  have : (a == b) = (a.1 == b.1 && (a.2.1 == b.2.1 && a.2.2 == b.2.2)) := rfl
  rw [this]; simp [evEq]
theorem c_weq_int (l m' : List (Int)) (hl : l.length ≤ 1000000000) : ACall Try.prog 59 [.sl 1 (l.map intC) .sh, .sl 1 (m'.map intC) .sh] [] (bool (l == m')) [] := by
  refine acall_of 0 Try.func59 rfl fun n out _ _ => ?_
  simp only [Try.ntmps59, List.length_cons, List.length_nil, List.length_map, List.length_replicate, rep_map, Nat.reduceAdd, Nat.reduceSub, List.replicate, List.cons_append, List.nil_append]
  repeat' (first | (with_reducible first | refine Vk fun K hK => ?_ | refine V0 ?_ | refine Vb ?_ | refine Vc ?_ | refine Vr ?_ | refine Vs ?_ | apply And.intro | refine Vq (by kernel_rfl) ?_) | ((with_reducible first | refine gE ?_ | refine gR ?_); simp (maxSteps:=9^7) only [ss, evLit, tab, reduceCtorEq, reduceIte, Nat.reduceEqDiff, Nat.reduceBEq, Int.reduceLE, Int.reduceToNat, Nat.reduceAdd, Nat.reduceLT, Nat.reduceLeDiff, List.length_map]) | exact Vn | ((with_reducible refine Vz ?_); refine Vo rfl rfl rfl (fun _ _ => rfl) ?_ <;> first | rfl | (rw [list_ne_len (by intro h; simp [h] at hg)]; rfl) | skip) | ((with_reducible refine Vx ?_); simp only [sb, reduceIte, Nat.reduceEqDiff]) | (refine hK _ ?_; clear hK K) | refine Vt rfl ?_ | refine Vf rfl ?_ | refine Vi rfl (fun hg => ?_) (fun hg => ?_) | clear hK K)
  have hlen : l.length = m'.length := by
    have h1 : ((l.length : Int) != (m'.length : Int)) = false := hg
    simp at h1; omega
  refine awp_block ?_
  refine awp_for_g (fun i : Nat => [(13, i64 (i : Int)), (4, .top), (5, .top), (14, .top), (15, .top), (16, .top), (17, .top), (18, .top), (19, .top), (20, .top), (21, .top), (22, .top), (23, .top), (24, .top), (25, .top)]) (fun i => []) (fun i => out) (fun i => i ≤ l.length ∧ (∀ j (hj : j < l.length) (hj' : j < m'.length), j < i → l[j] = m'[j])) (fun i => l.length - i) 0 ⟨Nat.zero_le _, by intros; omega⟩ ?_ fun i hi => ?_
  · refine le_of_all ?_ ?_ rfl rfl rfl rfl <;> simp only [patch, sl]
  obtain ⟨hi, hq⟩ := hi
  simp only [patch, s_0, s_s]
  refine awp_seq_k fun K hK => awp_ev tab_ok [] ?_
  simp (maxSteps:=9^7) only [ss, evLit, tab, reduceCtorEq, reduceIte, Nat.reduceEqDiff, Nat.reduceBEq, Int.reduceLE, Int.reduceToNat, Nat.reduceAdd, Nat.reduceLT, Nat.reduceLeDiff]
  repeat' (first | (with_reducible refine hK _ ?_; clear hK K) | with_reducible apply And.intro)
  refine awp_seq_k fun KC hKC => ?_
  refine awp_if rfl (fun ht => awp_skip (hKC _ ?_)) (fun hf => awp_exit (id ?_))
  rotate_left
  · simp only [thenA, blockA, if_true]
    refine hK _ ?_
    clear hK K hKC KC
    have h_ib : i = l.length := by have := of_decide_eq_false hf; omega
    subst h_ib
    have e := list_eq_all (l := l) (m := m') hlen fun i hi hi' => hq i hi hi' hi
    rw [e]
    repeat' (first | (with_reducible first | refine Vk fun K hK => ?_ | refine V0 ?_ | refine Vb ?_ | refine Vc ?_ | refine Vr ?_ | refine Vs ?_ | apply And.intro | refine Vq (by kernel_rfl) ?_) | ((with_reducible first | refine gE ?_ | refine gR ?_); simp (maxSteps:=9^7) only [ss, evLit, tab, reduceCtorEq, reduceIte, Nat.reduceEqDiff, Nat.reduceBEq, Int.reduceLE, Int.reduceToNat, Nat.reduceAdd, Nat.reduceLT, Nat.reduceLeDiff]) | exact Vn | ((with_reducible refine Vz ?_); refine Vo rfl rfl rfl (fun _ _ => rfl) ?_ <;> first | rfl | skip) | ((with_reducible refine Vx ?_); simp only [sb, reduceIte, Nat.reduceEqDiff]) | (refine hK _ ?_; clear hK K) | refine Vt rfl ?_ | refine Vf rfl ?_ | refine Vi rfl (fun hg => ?_) (fun hg => ?_) | clear hK K)
  clear hKC KC
  have hlt : i < l.length := by have := of_decide_eq_true ht; omega
  refine awp_seq_k fun KC hKC => awp_block ?_
  have hlt' : i < m'.length := by omega
  refine awp_seq_k fun K hK => awp_ev tab_ok [] ?_
  simp (maxSteps:=9^7) only [ss, evLit, tab, reduceCtorEq, reduceIte, Nat.reduceEqDiff, Nat.reduceBEq, Int.reduceLE, Int.reduceToNat, Nat.reduceAdd, Nat.reduceLT, Nat.reduceLeDiff]
  repeat' (first | (with_reducible refine hK _ ?_; clear hK K) | with_reducible apply And.intro)
  refine awp_seq_k fun K hK => awp_ev_quiet tab_ok follows (by kernel_rfl) ?_
  simp (maxSteps:=9^7) only [ss, evLit, tab, reduceCtorEq, reduceIte, Nat.reduceEqDiff, Nat.reduceBEq, Int.reduceLE, Int.reduceToNat, Nat.reduceAdd, Nat.reduceLT, Nat.reduceLeDiff, hlt, hlt', List.length_map, getD_map intC l i [] hlt, getD_map intC m' i [] hlt', intC, evEq_gg]
  repeat' (first | (with_reducible refine hK _ ?_; clear hK K) | with_reducible apply And.intro)
  all_goals first | (decide; done) | kernel_rfl | skip
  refine awp_if rfl (fun ht => ?_) (fun hf => awp_skip ?_)
  · have e := list_ne_at (l := l) (m := m') hlt hlt' (by simpa using ht)
    refine awp_seq_k fun K hK => awp_ev tab_ok [] ?_
    simp (maxSteps:=9^7) only [ss, evLit, tab, reduceCtorEq, reduceIte, Nat.reduceEqDiff, Nat.reduceBEq, Int.reduceLE, Int.reduceToNat, Nat.reduceAdd, Nat.reduceLT, Nat.reduceLeDiff]
    repeat' (first | (with_reducible refine hK _ ?_; clear hK K) | with_reducible apply And.intro)
    rw [← e]
    refine awp_ret ?_
    exact ret_tmp (.inr rfl) rfl rfl rfl (fun _ _ => rfl) rfl
  repeat refine And.intro (by omega) ?_
  refine hKC _ ?_
  clear hKC KC
  refine awp_ev tab_ok [] ?_
  simp (maxSteps:=9^7) only [ss, evLit, tab, reduceCtorEq, reduceIte, Nat.reduceEqDiff, Nat.reduceBEq, Int.reduceLE, Int.reduceToNat, Nat.reduceAdd, Nat.reduceLT, Nat.reduceLeDiff, addw (n := i) 1 1 rfl (by omega)]
  refine ⟨i + 1, ⟨by omega, ?_⟩, by omega, ?_⟩
  · intro j hj hj' hji
    by_cases h : j = i
    · subst h; simpa using hf
    · exact hq j hj hj' (by omega)
  refine le_of_all ?_ ?_ rfl rfl rfl rfl <;> simp only [patch, sl]
theorem c_weq_ask (l m' : List (Int × Int × Int)) (hl : l.length ≤ 1000000000) : ACall Try.prog 83 [.sl 3 (l.map sgC) .sh, .sl 3 (m'.map sgC) .sh] [] (bool (l == m')) [] := by
  refine acall_of 0 Try.func83 rfl fun n out _ _ => ?_
  simp only [Try.ntmps83, List.length_cons, List.length_nil, List.length_map, List.length_replicate, rep_map, Nat.reduceAdd, Nat.reduceSub, List.replicate, List.cons_append, List.nil_append]
  repeat' (first | (with_reducible first | refine Vk fun K hK => ?_ | refine V0 ?_ | refine Vb ?_ | refine Vc ?_ | refine Vr ?_ | refine Vs ?_ | apply And.intro | refine Vq (by kernel_rfl) ?_) | ((with_reducible first | refine gE ?_ | refine gR ?_); simp (maxSteps:=9^7) only [ss, evLit, tab, reduceCtorEq, reduceIte, Nat.reduceEqDiff, Nat.reduceBEq, Int.reduceLE, Int.reduceToNat, Nat.reduceAdd, Nat.reduceLT, Nat.reduceLeDiff, List.length_map]) | exact Vn | ((with_reducible refine Vz ?_); refine Vo rfl rfl rfl (fun _ _ => rfl) ?_ <;> first | rfl | (rw [list_ne_len (by intro h; simp [h] at hg)]; rfl) | skip) | ((with_reducible refine Vx ?_); simp only [sb, reduceIte, Nat.reduceEqDiff]) | (refine hK _ ?_; clear hK K) | refine Vt rfl ?_ | refine Vf rfl ?_ | refine Vi rfl (fun hg => ?_) (fun hg => ?_) | ((first | show Program.eqGuardType _ _ _ = false | show numFieldsB _ _ _ = true | show Program.stoodInHeld _ _ = false); kernel_rfl) | clear hK K)
  have hlen : l.length = m'.length := by
    have h1 : ((l.length : Int) != (m'.length : Int)) = false := hg
    simp at h1; omega
  refine awp_block ?_
  refine awp_for_g (fun i : Nat => [(13, i64 (i : Int)), (4, .top), (5, .top), (14, .top), (15, .top), (16, .top), (17, .top), (18, .top), (19, .top), (20, .top), (21, .top), (22, .top), (23, .top), (24, .top), (25, .top)]) (fun i => []) (fun i => out) (fun i => i ≤ l.length ∧ (∀ j (hj : j < l.length) (hj' : j < m'.length), j < i → l[j] = m'[j])) (fun i => l.length - i) 0 ⟨Nat.zero_le _, by intros; omega⟩ ?_ fun i hi => ?_
  · refine le_of_all ?_ ?_ rfl rfl rfl rfl <;> simp only [patch, sl]
  obtain ⟨hi, hq⟩ := hi
  simp only [patch, s_0, s_s]
  refine awp_seq_k fun K hK => awp_ev tab_ok [] ?_
  simp (maxSteps:=9^7) only [ss, evLit, tab, reduceCtorEq, reduceIte, Nat.reduceEqDiff, Nat.reduceBEq, Int.reduceLE, Int.reduceToNat, Nat.reduceAdd, Nat.reduceLT, Nat.reduceLeDiff]
  repeat' (first | (with_reducible refine hK _ ?_; clear hK K) | with_reducible apply And.intro)
  refine awp_seq_k fun KC hKC => ?_
  refine awp_if rfl (fun ht => awp_skip (hKC _ ?_)) (fun hf => awp_exit (id ?_))
  rotate_left
  · simp only [thenA, blockA, if_true]
    refine hK _ ?_
    clear hK K hKC KC
    have h_ib : i = l.length := by have := of_decide_eq_false hf; omega
    subst h_ib
    have e := list_eq_all (l := l) (m := m') hlen fun i hi hi' => hq i hi hi' hi
    rw [e]
    repeat' (first | (with_reducible first | refine Vk fun K hK => ?_ | refine V0 ?_ | refine Vb ?_ | refine Vc ?_ | refine Vr ?_ | refine Vs ?_ | apply And.intro | refine Vq (by kernel_rfl) ?_) | ((with_reducible first | refine gE ?_ | refine gR ?_); simp (maxSteps:=9^7) only [ss, evLit, tab, reduceCtorEq, reduceIte, Nat.reduceEqDiff, Nat.reduceBEq, Int.reduceLE, Int.reduceToNat, Nat.reduceAdd, Nat.reduceLT, Nat.reduceLeDiff]) | exact Vn | ((with_reducible refine Vz ?_); refine Vo rfl rfl rfl (fun _ _ => rfl) ?_ <;> first | rfl | skip) | ((with_reducible refine Vx ?_); simp only [sb, reduceIte, Nat.reduceEqDiff]) | (refine hK _ ?_; clear hK K) | refine Vt rfl ?_ | refine Vf rfl ?_ | refine Vi rfl (fun hg => ?_) (fun hg => ?_) | ((first | show Program.eqGuardType _ _ _ = false | show numFieldsB _ _ _ = true | show Program.stoodInHeld _ _ = false); kernel_rfl) | clear hK K)
  clear hKC KC
  have hlt : i < l.length := by have := of_decide_eq_true ht; omega
  refine awp_seq_k fun KC hKC => awp_block ?_
  have hlt' : i < m'.length := by omega
  refine awp_seq_k fun K hK => awp_ev tab_ok [] ?_
  simp (maxSteps:=9^7) only [ss, evLit, tab, reduceCtorEq, reduceIte, Nat.reduceEqDiff, Nat.reduceBEq, Int.reduceLE, Int.reduceToNat, Nat.reduceAdd, Nat.reduceLT, Nat.reduceLeDiff]
  repeat' (first | (with_reducible refine hK _ ?_; clear hK K) | with_reducible apply And.intro)
  refine awp_seq_k fun K hK => awp_ev_quiet tab_ok follows (by kernel_rfl) ?_
  simp (maxSteps:=9^7) only [ss, evLit, tab, reduceCtorEq, reduceIte, Nat.reduceEqDiff, Nat.reduceBEq, Int.reduceLE, Int.reduceToNat, Nat.reduceAdd, Nat.reduceLT, Nat.reduceLeDiff, hlt, hlt', List.length_map, getD_map sgC l i [] hlt, getD_map sgC m' i [] hlt', sgC, evEq_gg]
  repeat' (first | (with_reducible refine hK _ ?_; clear hK K) | with_reducible apply And.intro)
  all_goals first | (decide; done) | kernel_rfl | skip
  refine awp_if rfl (fun ht => ?_) (fun hf => awp_skip ?_)
  · have e := list_ne_at (l := l) (m := m') hlt hlt' (by simpa using ht)
    refine awp_seq_k fun K hK => awp_ev tab_ok [] ?_
    simp (maxSteps:=9^7) only [ss, evLit, tab, reduceCtorEq, reduceIte, Nat.reduceEqDiff, Nat.reduceBEq, Int.reduceLE, Int.reduceToNat, Nat.reduceAdd, Nat.reduceLT, Nat.reduceLeDiff]
    repeat' (first | (with_reducible refine hK _ ?_; clear hK K) | with_reducible apply And.intro)
    rw [← e]
    refine awp_ret ?_
    exact ret_tmp (.inr rfl) rfl rfl rfl (fun _ _ => rfl) rfl
  repeat refine And.intro (by omega) ?_
  refine hKC _ ?_
  clear hKC KC
  refine awp_ev tab_ok [] ?_
  simp (maxSteps:=9^7) only [ss, evLit, tab, reduceCtorEq, reduceIte, Nat.reduceEqDiff, Nat.reduceBEq, Int.reduceLE, Int.reduceToNat, Nat.reduceAdd, Nat.reduceLT, Nat.reduceLeDiff, addw (n := i) 1 1 rfl (by omega)]
  refine ⟨i + 1, ⟨by omega, ?_⟩, by omega, ?_⟩
  · intro j hj hj' hji
    by_cases h : j = i
    · subst h; simpa using hf
    · exact hq j hj hj' (by omega)
  refine le_of_all ?_ ?_ rfl rfl rfl rfl <;> simp only [patch, sl]
def wayS (a b : Wy) : Bool := a.near == b.near && (a.path == b.path && (a.over == b.over && a.asks == b.asks))
theorem c_wsame (a b : Wy) (h1 : a.path.length ≤ 1000000) (h2 : a.over.length ≤ 1000000) (h3 : a.asks.length ≤ 1000000) : ACall Try.prog 38 [wyA a, wyA b] [] (bool (wayS a b)) [] := by
  have c1 := c_weq_int a.path b.path (by omega)
  have c2 := c_weq_int a.over b.over (by omega)
  have c3 := c_weq_ask a.asks b.asks (by omega)
  unfold wayS
  generalize (a.path == b.path) = P1 at *
  generalize (a.over == b.over) = P2 at *
  generalize (a.asks == b.asks) = P3 at *
  refine acall_of 2 Try.func38 rfl fun n out _ _ => ?_
  simp only [Try.ntmps38, List.length_cons, List.length_nil, List.length_map, List.length_replicate, rep_map, Nat.reduceAdd, Nat.reduceSub, List.replicate, List.cons_append, List.nil_append]
  repeat' (first | (with_reducible first | refine Vk fun K hK => ?_ | refine V0 ?_ | refine Vs ?_ | apply And.intro) | ((with_reducible first | refine gE ?_ | refine gR ?_); simp (maxSteps:=9^7) only [ss, evLit, tab, reduceCtorEq, reduceIte, Nat.reduceEqDiff, Nat.reduceBEq, Int.reduceLE, Int.reduceToNat, Nat.reduceAdd, Nat.reduceLT, Nat.reduceLeDiff, wyA, wyC]) | exact Vn | ((with_reducible refine Vz ?_); refine Vo rfl rfl rfl (fun _ _ => rfl) ?_ <;> first | rfl | (simp only [g_0, g_s]; refine congrArg VS.bool ?_; simp_all; done) | skip) | (refine call_pure (c1) ?_) | (refine call_pure (c2) ?_) | (refine call_pure (c3) ?_) | ((with_reducible refine Vg (fun hg => ?_) (fun hg => ?_)) <;> (try simp only [nb] at hg) <;> simp (maxSteps:=9^7) only [ss, evLit, tab, reduceCtorEq, reduceIte, Nat.reduceEqDiff, Nat.reduceBEq, Int.reduceLE, Int.reduceToNat, Nat.reduceAdd, Nat.reduceLT, Nat.reduceLeDiff, hg, wyA, wyC]) | (refine hK _ ?_; clear hK K) | clear hK K)
end Go.Proofs.Ytdkiciofkifpdaa.Pln
end
section
namespace Go.Proofs.Ytdkiciofkifpdaa.Pln
set_option linter.unusedVariables false
set_option linter.unusedSimpArgs false
open Go Go.VS Tab
set_option maxHeartbeats 4000000
structure AskOk (p : Pl) (L : List Int) (i : Nat) (l : List (Int × Int × Int)) : Prop where
  each : ∀ k (hk : k < l.length), ∃ (j : Nat) (s : Sec), j < i ∧ l[k].2.2 = (j : Int) ∧ s ∈ p.secs ∧ s.id = L.getD j 0 ∧ s.pt = l[k].1 ∧ s.pt ≠ 0 ∧ 1 ≤ l[k].2.1 ∧ l[k].2.1 ≤ 2
  rise : ∀ k (hk : k + 1 < l.length), l[k].2.2 < l[k + 1].2.2
theorem AskOk.next {p : Pl} {L : List Int} {i : Nat} {l : List (Int × Int × Int)} (h : AskOk p L i l) : AskOk p L (i + 1) l :=
  ⟨fun k hk => by obtain ⟨j, s, h1, h2⟩ := h.each k hk; exact ⟨j, s, by omega, h2⟩, h.rise⟩
theorem flkW_all : ∀ (l : List (Int × Int)) (w : Wk), (∀ f, f ∈ l → 0 < f.1 ∧ 0 < f.2) → (flkW w l).asks = w.asks ++ l.map fun f => (f.1, f.2, -1)
  | [], w, _ => by simp [flkW]
  | f :: l, w, h => by
    obtain ⟨a, b⟩ := h f (List.mem_cons_self ..)
    have e : askW w f.1 f.2 (-1) = { w with asks := w.asks ++ [(f.1, f.2, -1)] } := by
      unfold askW
      rw [if_pos (by simp; omega)]
    have := flkW_all l (askW w f.1 f.2 (-1)) fun g hg => h g (List.mem_cons_of_mem _ hg)
    show (flkW (askW w f.1 f.2 (-1)) l).asks = _
    rw [this, e]
    simp
theorem flank_pos {p : Pl} (h : mayP p = true) {r : Rt} (hr : r ∈ p.rts) : ∀ f, f ∈ r.flanks → 0 < f.1 ∧ 0 < f.2 := by
  obtain ⟨_, _, hpts, _, _, _, hrs⟩ := may_parts h
  have ho := hrs r hr
  unfold okR at ho
  cases hg : getG p.sgs r.entry with
  | none => rw [hg] at ho; cases ho
  | some en =>
    rw [hg] at ho
    rw [Bool.and_eq_true] at ho
    intro f hf
    obtain ⟨i, hi, rfl⟩ := List.getElem_of_mem hf
    have h1 := allP_iff.1 ho.2 i hi
    unfold okF at h1
    simp only [Bool.and_eq_true, Bool.or_eq_true, beq_iff_eq] at h1
    obtain ⟨⟨h2, _⟩, h3⟩ := h1
    obtain ⟨x, hx⟩ := Option.isSome_iff_exists.1 h2
    have hxm := List.mem_of_find?_eq_some hx
    have hx1 : x.1 = r.flanks[i].1 := by simpa using List.find?_some hx
    unfold ptsOk at hpts
    simp only [Bool.and_eq_true] at hpts
    obtain ⟨j, hj, rfl⟩ := List.getElem_of_mem hxm
    have h5 := allP_iff.1 hpts.1.1.1 j (by simpa using hj)
    simp only [rises, Bool.and_eq_true, numb_iff, List.getElem_map] at h5
    omega
end Go.Proofs.Ytdkiciofkifpdaa.Pln
end
