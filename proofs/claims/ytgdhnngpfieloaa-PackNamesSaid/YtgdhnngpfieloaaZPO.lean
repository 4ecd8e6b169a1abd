/- The layer of abstract values, joined: PO. -/
import Derived.Test.YtgdhnngpfieloaaZGA
import Derived.Test.YtgdhnngpfieloaaZPN
import Derived.Test.YtgdhnngpfieloaaZP12
section
namespace Go.Proofs.Ytgdhnngpfieloaa.Pln
set_option linter.unusedVariables false
set_option linter.unusedSimpArgs false
open Go Go.VS Tab
set_option maxHeartbeats 4000000
set_option maxRecDepth 4000
theorem c_find1_pt (x : Int × Int) (b : Int) : ACall Try.prog 112 [jnA x, .ref [i64 b]] [] (bool (x.1 == b)) [] := by
  have ci := c_id_pt x
  simp only [jnA, jnC] at ci
  refine acall_of 1 Try.func112 rfl fun n out _ _ => ?_
  simp only [Try.ntmps112, List.length_cons, List.length_nil, List.length_map, List.length_replicate, rep_map, Nat.reduceAdd, Nat.reduceSub, List.replicate, List.cons_append, List.nil_append]
  repeat' (first | (with_reducible first | refine Vk fun K hK => ?_ | refine V0 ?_ | refine Vs ?_ | apply And.intro | refine Vq (by kernel_rfl) ?_) | ((with_reducible first | refine gE ?_ | refine gR ?_); simp (maxSteps:=9^7) only [ss, evLit, tab, reduceCtorEq, reduceIte, Nat.reduceEqDiff, Nat.reduceBEq, Int.reduceLE, Int.reduceToNat, Nat.reduceAdd, Nat.reduceLT, Nat.reduceLeDiff, jnA, jnC, splice_all]) | exact Vn | ((with_reducible refine Vz ?_); refine Vo rfl rfl rfl (fun _ _ => rfl) ?_ <;> first | rfl | skip) | (refine call_pure (ci) ?_) | (refine hK _ ?_; clear hK K) | clear hK K)
theorem c_find_pt (l : List (Int × Int)) (b : Int) (hl : l.length ≤ 1000000) : ACall Try.prog 89 [.sl 2 (l.map jnC) .sh, i64 b] [] (.tup [jnA ((getP l b).getD ((0, 0) : Int × Int)), bool (getP l b).isSome]) [] := by
  have ci := c_idxf_jn l _ [.ref [i64 b]] (fun x => x.1 == b) (hb0 112 (by decide) (by decide)) (by omega) fun x _ => c_find1_pt x b
  rcases idx_cases (fun x : Int × Int => x.1 == b) l with ⟨h1, h2, h3⟩ | ⟨i, hi, h1, h2, h3, h4⟩
  · rw [h1] at ci
    rw [show getP l b = none from h2]
    refine acall_of 3 Try.func89 rfl fun n out _ _ => ?_
    simp only [Try.ntmps89, List.length_cons, List.length_nil, List.length_map, List.length_replicate, rep_map, Nat.reduceAdd, Nat.reduceSub, List.replicate, List.cons_append, List.nil_append]
    refine awp_seq_k fun K hK => awp_ev tab_ok [] ?_
    simp (maxSteps:=9^7) only [ss, evLit, tab, reduceCtorEq, reduceIte, Nat.reduceEqDiff, Nat.reduceBEq, Int.reduceLE, Int.reduceToNat, Nat.reduceAdd, Nat.reduceLT, Nat.reduceLeDiff]
    repeat' (first | (with_reducible refine hK _ ?_; clear hK K) | with_reducible apply And.intro)
    refine awp_le (le_freezeAt (i := 0) (t := 3) 1 (.ref [i64 b]) rfl rfl (.ptr 0)) ?_
    simp only [s_0, s_s]
    repeat' (first | (with_reducible first | refine Vk fun K hK => ?_ | refine V0 ?_ | refine Vs ?_ | apply And.intro) | ((with_reducible first | refine gE ?_ | refine gR ?_); simp (maxSteps:=9^7) only [ss, evLit, tab, reduceCtorEq, reduceIte, Nat.reduceEqDiff, Nat.reduceBEq, Int.reduceLE, Int.reduceToNat, Nat.reduceAdd, Nat.reduceLT, Nat.reduceLeDiff, jnA, jnC, splice_all, Int.reduceLT, Int.reduceNeg, Option.getD_none, Option.isSome_none, noRt]) | exact Vn | ((with_reducible refine Vz ?_); (first | refine ret_ct (.inr rfl) rfl rfl rfl (fun _ _ => rfl) ok77 (k := n + 1) (off := 0) rfl (dom_loc _ (by simp)) (look_loc _ (Nat.le_refl _) 1) rfl rfl ?_ | refine ret_ct (.inr rfl) rfl rfl rfl (fun _ _ => rfl) ok77 (k := m + 1) (off := 0) rfl (dom_loc _ (by simp)) (look_loc _ hm 1) rfl rfl ?_) <;> first | rfl | exact AV.le.rfl _ | (simp only [patch, sl, ti77, List.map_nil, jnA, jnC, splice_all, Int.reduceLT, Int.reduceNeg, Option.getD_none, Option.isSome_none, noRt]; done) | rfl | skip) | (refine call_pure (ci) ?_) | (refine hK _ ?_; clear hK K) | refine Vt rfl ?_ | refine Vf rfl ?_ | refine Vi rfl (fun hg => ?_) (fun hg => ?_) | clear hK K)
  · rw [h1] at ci
    rw [show getP l b = some l[i] from h2]
    have hi0 : decide ((i : Int) < 0) = false := decide_eq_false (by omega)
    have gi := getD_map jnC l i [] hi
    refine acall_of 3 Try.func89 rfl fun n out _ _ => ?_
    simp only [Try.ntmps89, List.length_cons, List.length_nil, List.length_map, List.length_replicate, rep_map, Nat.reduceAdd, Nat.reduceSub, List.replicate, List.cons_append, List.nil_append]
    refine awp_seq_k fun K hK => awp_ev tab_ok [] ?_
    simp (maxSteps:=9^7) only [ss, evLit, tab, reduceCtorEq, reduceIte, Nat.reduceEqDiff, Nat.reduceBEq, Int.reduceLE, Int.reduceToNat, Nat.reduceAdd, Nat.reduceLT, Nat.reduceLeDiff]
    repeat' (first | (with_reducible refine hK _ ?_; clear hK K) | with_reducible apply And.intro)
    refine awp_le (le_freezeAt (i := 0) (t := 3) 1 (.ref [i64 b]) rfl rfl (.ptr 0)) ?_
    simp only [s_0, s_s]
    repeat' (first | (with_reducible first | refine Vk fun K hK => ?_ | refine V0 ?_ | refine Vs ?_ | apply And.intro) | ((with_reducible first | refine gE ?_ | refine gR ?_); simp (maxSteps:=9^7) only [ss, evLit, tab, reduceCtorEq, reduceIte, Nat.reduceEqDiff, Nat.reduceBEq, Int.reduceLE, Int.reduceToNat, Nat.reduceAdd, Nat.reduceLT, Nat.reduceLeDiff, jnA, jnC, splice_all, hi0, hi, gi, List.length_map, Option.getD_some, Option.isSome_some]) | exact Vn | ((with_reducible refine Vz ?_); (first | refine ret_ct (.inr rfl) rfl rfl rfl (fun _ _ => rfl) ok77 (k := n + 1) (off := 0) rfl (dom_loc _ (by simp)) (look_loc _ (Nat.le_refl _) 1) rfl rfl ?_ | refine ret_ct (.inr rfl) rfl rfl rfl (fun _ _ => rfl) ok77 (k := m + 1) (off := 0) rfl (dom_loc _ (by simp)) (look_loc _ hm 1) rfl rfl ?_) <;> first | rfl | exact AV.le.rfl _ | (simp only [patch, sl, ti77, List.map_nil, jnA, jnC, splice_all, hi0, hi, gi, List.length_map, Option.getD_some, Option.isSome_some]; done) | rfl | skip) | (refine call_pure (ci) ?_) | (refine hK _ ?_; clear hK K) | refine Vt rfl ?_ | refine Vf rfl ?_ | refine Vi rfl (fun hg => ?_) (fun hg => ?_) | clear hK K)
theorem c_find1_sg (x : Int × Int × Int) (b : Int) : ACall Try.prog 111 [sgA x, .ref [i64 b]] [] (bool (x.1 == b)) [] := by
  have ci := c_id_sg x
  simp only [sgA, sgC] at ci
  refine acall_of 1 Try.func111 rfl fun n out _ _ => ?_
  simp only [Try.ntmps111, List.length_cons, List.length_nil, List.length_map, List.length_replicate, rep_map, Nat.reduceAdd, Nat.reduceSub, List.replicate, List.cons_append, List.nil_append]
  repeat' (first | (with_reducible first | refine Vk fun K hK => ?_ | refine V0 ?_ | refine Vs ?_ | apply And.intro | refine Vq (by kernel_rfl) ?_) | ((with_reducible first | refine gE ?_ | refine gR ?_); simp (maxSteps:=9^7) only [ss, evLit, tab, reduceCtorEq, reduceIte, Nat.reduceEqDiff, Nat.reduceBEq, Int.reduceLE, Int.reduceToNat, Nat.reduceAdd, Nat.reduceLT, Nat.reduceLeDiff, sgA, sgC, splice_all]) | exact Vn | ((with_reducible refine Vz ?_); refine Vo rfl rfl rfl (fun _ _ => rfl) ?_ <;> first | rfl | skip) | (refine call_pure (ci) ?_) | (refine hK _ ?_; clear hK K) | clear hK K)
theorem c_find_sg (l : List (Int × Int × Int)) (b : Int) (hl : l.length ≤ 1000000) : ACall Try.prog 88 [.sl 3 (l.map sgC) .sh, i64 b] [] (.tup [sgA ((getG l b).getD ((0, 0, 0) : Int × Int × Int)), bool (getG l b).isSome]) [] := by
  have ci := c_idxf_sg l _ [.ref [i64 b]] (fun x => x.1 == b) (hb0 111 (by decide) (by decide)) (by omega) fun x _ => c_find1_sg x b
  rcases idx_cases (fun x : Int × Int × Int => x.1 == b) l with ⟨h1, h2, h3⟩ | ⟨i, hi, h1, h2, h3, h4⟩
  · rw [h1] at ci
    rw [show getG l b = none from h2]
    refine acall_of 3 Try.func88 rfl fun n out _ _ => ?_
    simp only [Try.ntmps88, List.length_cons, List.length_nil, List.length_map, List.length_replicate, rep_map, Nat.reduceAdd, Nat.reduceSub, List.replicate, List.cons_append, List.nil_append]
    refine awp_seq_k fun K hK => awp_ev tab_ok [] ?_
    simp (maxSteps:=9^7) only [ss, evLit, tab, reduceCtorEq, reduceIte, Nat.reduceEqDiff, Nat.reduceBEq, Int.reduceLE, Int.reduceToNat, Nat.reduceAdd, Nat.reduceLT, Nat.reduceLeDiff]
    repeat' (first | (with_reducible refine hK _ ?_; clear hK K) | with_reducible apply And.intro)
    refine awp_le (le_freezeAt (i := 0) (t := 3) 1 (.ref [i64 b]) rfl rfl (.ptr 0)) ?_
    simp only [s_0, s_s]
    repeat' (first | (with_reducible first | refine Vk fun K hK => ?_ | refine V0 ?_ | refine Vs ?_ | apply And.intro) | ((with_reducible first | refine gE ?_ | refine gR ?_); simp (maxSteps:=9^7) only [ss, evLit, tab, reduceCtorEq, reduceIte, Nat.reduceEqDiff, Nat.reduceBEq, Int.reduceLE, Int.reduceToNat, Nat.reduceAdd, Nat.reduceLT, Nat.reduceLeDiff, sgA, sgC, splice_all, Int.reduceLT, Int.reduceNeg, Option.getD_none, Option.isSome_none, noRt]) | exact Vn | ((with_reducible refine Vz ?_); (first | refine ret_ct (.inr rfl) rfl rfl rfl (fun _ _ => rfl) ok81 (k := n + 1) (off := 0) rfl (dom_loc _ (by simp)) (look_loc _ (Nat.le_refl _) 1) rfl rfl ?_ | refine ret_ct (.inr rfl) rfl rfl rfl (fun _ _ => rfl) ok81 (k := m + 1) (off := 0) rfl (dom_loc _ (by simp)) (look_loc _ hm 1) rfl rfl ?_) <;> first | rfl | exact AV.le.rfl _ | (simp only [patch, sl, ti81, List.map_nil, sgA, sgC, splice_all, Int.reduceLT, Int.reduceNeg, Option.getD_none, Option.isSome_none, noRt]; done) | rfl | skip) | (refine call_pure (ci) ?_) | (refine hK _ ?_; clear hK K) | refine Vt rfl ?_ | refine Vf rfl ?_ | refine Vi rfl (fun hg => ?_) (fun hg => ?_) | clear hK K)
  · rw [h1] at ci
    rw [show getG l b = some l[i] from h2]
    have hi0 : decide ((i : Int) < 0) = false := decide_eq_false (by omega)
    have gi := getD_map sgC l i [] hi
    refine acall_of 3 Try.func88 rfl fun n out _ _ => ?_
    simp only [Try.ntmps88, List.length_cons, List.length_nil, List.length_map, List.length_replicate, rep_map, Nat.reduceAdd, Nat.reduceSub, List.replicate, List.cons_append, List.nil_append]
    refine awp_seq_k fun K hK => awp_ev tab_ok [] ?_
    simp (maxSteps:=9^7) only [ss, evLit, tab, reduceCtorEq, reduceIte, Nat.reduceEqDiff, Nat.reduceBEq, Int.reduceLE, Int.reduceToNat, Nat.reduceAdd, Nat.reduceLT, Nat.reduceLeDiff]
    repeat' (first | (with_reducible refine hK _ ?_; clear hK K) | with_reducible apply And.intro)
    refine awp_le (le_freezeAt (i := 0) (t := 3) 1 (.ref [i64 b]) rfl rfl (.ptr 0)) ?_
    simp only [s_0, s_s]
    repeat' (first | (with_reducible first | refine Vk fun K hK => ?_ | refine V0 ?_ | refine Vs ?_ | apply And.intro) | ((with_reducible first | refine gE ?_ | refine gR ?_); simp (maxSteps:=9^7) only [ss, evLit, tab, reduceCtorEq, reduceIte, Nat.reduceEqDiff, Nat.reduceBEq, Int.reduceLE, Int.reduceToNat, Nat.reduceAdd, Nat.reduceLT, Nat.reduceLeDiff, sgA, sgC, splice_all, hi0, hi, gi, List.length_map, Option.getD_some, Option.isSome_some]) | exact Vn | ((with_reducible refine Vz ?_); (first | refine ret_ct (.inr rfl) rfl rfl rfl (fun _ _ => rfl) ok81 (k := n + 1) (off := 0) rfl (dom_loc _ (by simp)) (look_loc _ (Nat.le_refl _) 1) rfl rfl ?_ | refine ret_ct (.inr rfl) rfl rfl rfl (fun _ _ => rfl) ok81 (k := m + 1) (off := 0) rfl (dom_loc _ (by simp)) (look_loc _ hm 1) rfl rfl ?_) <;> first | rfl | exact AV.le.rfl _ | (simp only [patch, sl, ti81, List.map_nil, sgA, sgC, splice_all, hi0, hi, gi, List.length_map, Option.getD_some, Option.isSome_some]; done) | rfl | skip) | (refine call_pure (ci) ?_) | (refine hK _ ?_; clear hK K) | refine Vt rfl ?_ | refine Vf rfl ?_ | refine Vi rfl (fun hg => ?_) (fun hg => ?_) | clear hK K)
def cnt (l : List Sec) (k : Nat) : Nat := match getS l k with
  | some s => s.ends.length
  | none => 0
def endsA (l : List Sec) : List AV := (List.range 100).map fun k => i64 (cnt l k : Int)
theorem endsA_nil : endsA [] = List.replicate 100 (i64 0) := by
  rw [rep_range, endsA]; simp [cnt, getS]
theorem endsA_len (l : List Sec) : (endsA l).length = 100 := by simp [endsA]
theorem endsA_pick (l : List Sec) (j s : Nat) (h : j < 100) : pick false s (List.drop j (endsA l)) = some (i64 (cnt l j : Int)) := pick_range _ _ _ _ h
theorem endsA_set (l : List Sec) (hr : Rising l) (i : Nat) (hi : i < l.length) (j : Nat) (hj : j < 100) (hp : l[i].id = j) : splice (endsA (l.take i)) j [.val (.int .i64 (l[i].ends.length : Int))] = endsA (l.take (i + 1)) := by
  rw [endsA, splice_range _ _ _ hj, endsA]
  apply List.map_congr_left
  intro k hk
  have e : getS (l.take (i + 1)) k = if l[i].id = k then some l[i] else getS (l.take i) k := by
    unfold getS
    rw [List.take_succ_eq_append_getElem hi, List.find?_append]
    by_cases h : l[i].id = k
    · rw [if_pos h]
      have : (l.take i).find? (fun s => s.id == (k : Int)) = none := by
        rw [List.find?_eq_none]
        intro x hx
        rw [List.mem_take_iff_getElem] at hx
        obtain ⟨q, hq, rfl⟩ := hx
        have := hr i hi q (by omega)
        simp; omega
      rw [this]
      simp [h]
    · rw [if_neg h]
      simp [h]
  unfold cnt
  rw [e]
  by_cases hkj : k = j
  · subst hkj
    rw [if_pos rfl, if_pos hp]
  · rw [if_neg hkj, if_neg (by omega)]
theorem c_ends (l : List Sec) (hmay : mayS l = true) : ACall Try.prog 48 [secsA l] [] (.agg (endsA l)) [] := by
  have hr := mayS_rising hmay
  have hl16 := (mayS_iff.1 hmay).1
  refine acall_of 2 Try.func48 rfl fun n out _ _ => ?_
  simp only [Try.ntmps48, List.length_cons, List.length_nil, List.length_map, List.length_replicate, rep_map, Nat.reduceAdd, Nat.reduceSub, List.replicate, List.cons_append, List.nil_append]
  repeat' (first | (with_reducible first | refine Vk fun K hK => ?_ | refine V0 ?_ | refine Vb ?_ | refine Vc ?_ | refine Vr ?_ | refine Vs ?_ | apply And.intro) | ((with_reducible first | refine gE ?_ | refine gR ?_); simp (maxSteps:=9^7) only [ss, evLit, tab, reduceCtorEq, reduceIte, Nat.reduceEqDiff, Nat.reduceBEq, Int.reduceLE, Int.reduceToNat, Nat.reduceAdd, Nat.reduceLT, Nat.reduceLeDiff]) | exact Vn | ((with_reducible refine Vz ?_); (first | refine ret_cell_le (.inr rfl) rfl rfl rfl (fun _ _ => rfl) ok99 (k := n + 0) (off := 0) rfl (dom_loc _ (by simp)) (look_loc _ (Nat.le_refl _) 0) rfl ?_ | refine ret_cell_le (.inr rfl) rfl rfl rfl (fun _ _ => rfl) ok99 (k := m + 0) (off := 0) rfl (dom_loc _ (by simp)) (look_loc _ hm 0) rfl ?_) <;> first | rfl | exact AV.le.rfl _ | (simp only [patch, sl, ti99, List.map_nil]; done) | rfl | skip) | ((with_reducible refine Vx ?_); simp only [sb, reduceIte, Nat.reduceEqDiff]) | (refine hK _ ?_; clear hK K) | refine Vt rfl ?_ | refine Vf rfl ?_ | refine Vi rfl (fun hg => ?_) (fun hg => ?_) | clear hK K)
  refine awp_block ?_
  refine awp_for_mv (fun m (i : Nat) => [(7, i64 (i : Int)), (2, .ptr (m + 0) 0), (4, .top), (8, .top), (9, .top), (10, .top), (11, .top), (12, .top), (13, .top), (14, .top), (15, .top), (16, .top), (17, .top)]) (fun m i => [some (.box 99 (endsA (l.take i))), none]) (fun i => out) (fun i => i ≤ l.length) (fun i => l.length - i) 0 (Nat.zero_le _) ?_ fun m i hm hi => ?_
  · refine le_of_all ?_ ?_ (by first | rfl | (simp only [List.length_map, List.take_zero, endsA_nil]; rfl) | simp only [List.length_map, List.take_zero, endsA_nil]) rfl rfl rfl <;> simp only [patch, sl, List.length_map, List.take_zero, endsA_nil]
  simp only [patch, s_0, s_s]
  have hw := addw (n := i) 1 1 rfl (by omega)
  by_cases hlt : i < l.length
  · have gi := getD_map secC l i [] hlt
    have hn := (mayS_sec hmay (List.getElem_mem hlt)).1
    rw [numb_iff] at hn
    obtain ⟨np, hpt⟩ := Int.eq_ofNat_of_zero_le (a := l[i].id) (by omega)
    have hnp : np < 100 := by omega
    have hnp' : (np : Int) < 100 := by omega
    have hnp9 : np ≤ 99 := by omega
    have hset := endsA_set l hr i hlt np hnp hpt
    repeat' (first | (with_reducible first | refine Vk fun K hK => ?_ | refine V0 ?_ | refine Vb ?_ | refine Vc ?_ | refine Vr ?_ | refine Vs ?_ | apply And.intro) | ((with_reducible first | refine gE ?_ | refine gR ?_); simp (maxSteps:=9^7) only [ss, evLit, tab, reduceCtorEq, reduceIte, Nat.reduceEqDiff, Nat.reduceBEq, Int.reduceLE, Int.reduceToNat, Nat.reduceAdd, Nat.reduceLT, Nat.reduceLeDiff, locM hm, List.length_map, hlt, gi, secA, secC, splice_all, hpt, hnp, hnp', hnp9, endsA_len, hset, hw]) | exact Vn | ((with_reducible refine Vz ?_); (first | refine ret_cell_le (.inr rfl) rfl rfl rfl (fun _ _ => rfl) ok99 (k := n + 0) (off := 0) rfl (dom_loc _ (by simp)) (look_loc _ (Nat.le_refl _) 0) rfl ?_ | refine ret_cell_le (.inr rfl) rfl rfl rfl (fun _ _ => rfl) ok99 (k := m + 0) (off := 0) rfl (dom_loc _ (by simp)) (look_loc _ hm 0) rfl ?_) <;> first | rfl | exact AV.le.rfl _ | (simp only [patch, sl, ti99, List.map_nil, locM hm, List.length_map, hlt, gi, secA, secC, splice_all, hpt, hnp, hnp', hnp9, endsA_len, hset, hw]; done) | rfl | skip) | ((with_reducible refine Vx ?_); simp only [sb, reduceIte, Nat.reduceEqDiff]) | (refine hK _ ?_; clear hK K) | refine Vt rfl ?_ | refine Vf rfl ?_ | refine Vi rfl (fun hg => ?_) (fun hg => ?_) | clear hK K)
    refine ⟨i + 1, by omega, by omega, ?_⟩
    refine le_move [true, false] (fun n_ => ?_) (fun n_ => ?_) <;> simp only [patch, sm]
  · obtain rfl : i = l.length := by omega
    repeat' (first | (with_reducible first | refine Vk fun K hK => ?_ | refine V0 ?_ | refine Vb ?_ | refine Vc ?_ | refine Vr ?_ | refine Vs ?_ | apply And.intro) | ((with_reducible first | refine gE ?_ | refine gR ?_); simp (maxSteps:=9^7) only [ss, evLit, tab, reduceCtorEq, reduceIte, Nat.reduceEqDiff, Nat.reduceBEq, Int.reduceLE, Int.reduceToNat, Nat.reduceAdd, Nat.reduceLT, Nat.reduceLeDiff, List.length_map, hlt, List.take_length]) | exact Vn | ((with_reducible refine Vz ?_); (first | refine ret_cell_le (.inr rfl) rfl rfl rfl (fun _ _ => rfl) ok99 (k := n + 0) (off := 0) rfl (dom_loc _ (by simp)) (look_loc _ (Nat.le_refl _) 0) rfl ?_ | refine ret_cell_le (.inr rfl) rfl rfl rfl (fun _ _ => rfl) ok99 (k := m + 0) (off := 0) rfl (dom_loc _ (by simp)) (look_loc _ hm 0) rfl ?_) <;> first | rfl | exact AV.le.rfl _ | (simp only [patch, sl, ti99, List.map_nil, List.length_map, hlt, List.take_length]; done) | rfl | skip) | ((with_reducible refine Vx ?_); simp only [sb, reduceIte, Nat.reduceEqDiff]) | (refine hK _ ?_; clear hK K) | refine Vt rfl ?_ | refine Vf rfl ?_ | refine Vi rfl (fun hg => ?_) (fun hg => ?_) | clear hK K)
theorem cnt_pos {l : List Sec} (hmay : mayS l = true) (k : Nat) : decide ((cnt l k : Int) > 0) = (getS l k).isSome := by
  unfold cnt
  cases hg : getS l k with
  | none => rfl
  | some s =>
    have hs := (mayS_sec hmay (List.mem_of_find?_eq_some hg)).2
    rw [shaped_iff] at hs
    simp; omega
theorem getS_range {l : List Sec} (hmay : mayS l = true) {b : Int} (h : ¬ (0 ≤ b ∧ b ≤ 99)) : getS l b = none := by
  cases hg : getS l b with
  | none => rfl
  | some s =>
    have hs := (mayS_sec hmay (List.mem_of_find?_eq_some hg)).1
    have := List.find?_some hg
    rw [numb_iff] at hs
    simp at this; omega
theorem c_there (l : List Sec) (b : Int) (hmay : mayS l = true) : ACall Try.prog 86 [.agg (endsA l), i64 b] [] (bool (getS l b).isSome) [] := by
  by_cases h : 0 ≤ b ∧ b ≤ 99
  · obtain ⟨nb, rfl⟩ := Int.eq_ofNat_of_zero_le h.1
    have hnp : nb < 100 := by omega
    have hnp' : (nb : Int) < 100 := by omega
    have hnp9 : nb ≤ 99 := by omega
    have h1 : decide ((nb : Int) ≥ 0) = true := decide_eq_true h.1
    have h2 : decide ((nb : Int) ≤ 99) = true := decide_eq_true h.2
    have hc := cnt_pos hmay nb
    refine acall_of 1 Try.func86 rfl fun n out _ _ => ?_
    simp only [Try.ntmps86, List.length_cons, List.length_nil, List.length_map, List.length_replicate, rep_map, Nat.reduceAdd, Nat.reduceSub, List.replicate, List.cons_append, List.nil_append]
    repeat' (first | (with_reducible first | refine Vk fun K hK => ?_ | refine V0 ?_ | refine Vs ?_ | apply And.intro) | ((with_reducible first | refine gE ?_ | refine gR ?_); simp (maxSteps:=9^7) only [ss, evLit, tab, reduceCtorEq, reduceIte, Nat.reduceEqDiff, Nat.reduceBEq, Int.reduceLE, Int.reduceToNat, Nat.reduceAdd, Nat.reduceLT, Nat.reduceLeDiff, h1, h2, hnp, hnp', hnp9, endsA_len, endsA_pick l nb 1 hnp, hc]) | exact Vn | ((with_reducible refine Vz ?_); refine Vo rfl rfl rfl (fun _ _ => rfl) ?_ <;> first | rfl | skip) | ((with_reducible refine Vg (fun hg => ?_) (fun hg => ?_)) <;> (try simp only [nb] at hg) <;> simp (maxSteps:=9^7) only [ss, evLit, tab, reduceCtorEq, reduceIte, Nat.reduceEqDiff, Nat.reduceBEq, Int.reduceLE, Int.reduceToNat, Nat.reduceAdd, Nat.reduceLT, Nat.reduceLeDiff, hg, h1, h2, hnp, hnp', hnp9, endsA_len, endsA_pick l nb 1 hnp, hc]) | (refine hK _ ?_; clear hK K) | clear hK K)
  · rw [getS_range hmay h]
    refine acall_of 1 Try.func86 rfl fun n out _ _ => ?_
    simp only [Try.ntmps86, List.length_cons, List.length_nil, List.length_map, List.length_replicate, rep_map, Nat.reduceAdd, Nat.reduceSub, List.replicate, List.cons_append, List.nil_append]
    repeat' (first | (with_reducible first | refine Vk fun K hK => ?_ | refine V0 ?_ | refine Vs ?_ | apply And.intro) | ((with_reducible first | refine gE ?_ | refine gR ?_); simp (maxSteps:=9^7) only [ss, evLit, tab, reduceCtorEq, reduceIte, Nat.reduceEqDiff, Nat.reduceBEq, Int.reduceLE, Int.reduceToNat, Nat.reduceAdd, Nat.reduceLT, Nat.reduceLeDiff]) | exact Vn | ((with_reducible refine Vz ?_); refine Vo rfl rfl rfl (fun _ _ => rfl) ?_ <;> first | rfl | skip) | ((with_reducible refine Vg (fun hg => ?_) (fun hg => ?_)) <;> (try simp only [nb] at hg) <;> simp (maxSteps:=9^7) only [ss, evLit, tab, reduceCtorEq, reduceIte, Nat.reduceEqDiff, Nat.reduceBEq, Int.reduceLE, Int.reduceToNat, Nat.reduceAdd, Nat.reduceLT, Nat.reduceLeDiff, hg]) | (refine hK _ ?_; clear hK K) | clear hK K)
    all_goals (exfalso; simp at *; omega)
end Go.Proofs.Ytgdhnngpfieloaa.Pln
end
section
namespace Go.Proofs.Ytgdhnngpfieloaa.Pln
set_option linter.unusedVariables false
set_option linter.unusedSimpArgs false
open Go Go.VS Tab
set_option maxHeartbeats 4000000
set_option maxRecDepth 4000
theorem id_inj {l : List Sec} (h : mayS l = true) {s t : Sec} (hs : s ∈ l) (ht : t ∈ l) (e : s.id = t.id) : s = t := by
  obtain ⟨i, hi, rfl⟩ := List.getElem_of_mem hs
  obtain ⟨j, hj, rfl⟩ := List.getElem_of_mem ht
  have hr := mayS_rising h
  rcases Nat.lt_trichotomy i j with h1 | h1 | h1
  · have := hr j hj i h1; omega
  · subst h1; rfl
  · have := hr i hi j h1; omega
theorem pt_inj {l : List Sec} (h : mayS l = true) {s t : Sec} (hs : s ∈ l) (ht : t ∈ l) (e : s.pt = t.pt) (h0 : s.pt ≠ 0) : s = t := by
  obtain ⟨i, hi, rfl⟩ := List.getElem_of_mem hs
  obtain ⟨j, hj, rfl⟩ := List.getElem_of_mem ht
  have hq := (mayS_iff.1 h).2.1
  rcases Nat.lt_trichotomy i j with h1 | h1 | h1
  · have := (((okS_take hj).1 (hq j hj)).2.2 i h1).2; omega
  · subst h1; rfl
  · have := (((okS_take hi).1 (hq i hi)).2.2 j h1).2; omega
theorem getS_of {l : List Sec} (h : mayS l = true) {s : Sec} (hs : s ∈ l) : getS l s.id = some s := by
  cases hg : getS l s.id with
  | none =>
    unfold getS at hg
    rw [List.find?_eq_none] at hg
    have := hg s hs
    simp at this
  | some t =>
    have h1 := List.mem_of_find?_eq_some hg
    have h2 := List.find?_some hg
    simp only [beq_iff_eq] at h2
    rw [id_inj h h1 hs h2]
theorem getS_some {l : List Sec} {n : Int} {s : Sec} (h : getS l n = some s) : s ∈ l ∧ s.id = n := ⟨List.mem_of_find?_eq_some h, by simpa using List.find?_some h⟩
def inF (pre : List Sec) (k : Nat) : Int := match pre.find? (fun s => decide (0 < k) && s.pt == (k : Int)) with
  | some s => s.id
  | none => 0
def inA (pre : List Sec) : List AV := (List.range 100).map fun k => i64 (inF pre k)
theorem inA_nil : inA [] = List.replicate 100 (i64 0) := by rw [rep_range, inA]; rfl
theorem inA_len (pre : List Sec) : (inA pre).length = 100 := by simp [inA]
theorem inA_pick (pre : List Sec) (j s : Nat) (h : j < 100) : pick false s (List.drop j (inA pre)) = some (i64 (inF pre j)) := pick_range _ _ _ _ h
theorem inF_other {l : List Sec} {i k : Nat} (hi : i < l.length) (h : ¬ (0 < k ∧ l[i].pt = (k : Int))) : inF (l.take (i + 1)) k = inF (l.take i) k := by
  unfold inF
  rw [List.take_succ_eq_append_getElem hi, List.find?_append]
  have : (decide (0 < k) && l[i].pt == (k : Int)) = false := by rw [Bool.eq_false_iff]; intro h'; simp at h'; exact h ⟨h'.1, h'.2⟩
  rw [List.find?_cons, this]
  cases (l.take i).find? (fun s => decide (0 < k) && s.pt == (k : Int)) <;> rfl
theorem inA_skip {l : List Sec} {i : Nat} (hi : i < l.length) (h : l[i].pt = 0) : inA (l.take (i + 1)) = inA (l.take i) := by
  unfold inA
  apply List.map_congr_left
  intro k hk
  rw [inF_other hi (by omega)]
theorem inA_set {l : List Sec} (hm : mayS l = true) {i : Nat} (hi : i < l.length) (j : Nat) (hj : j < 100) (h0 : 0 < j) (hp : l[i].pt = j) : splice (inA (l.take i)) j [i64 l[i].id] = inA (l.take (i + 1)) := by
  rw [inA, splice_range _ _ _ hj, inA]
  apply List.map_congr_left
  intro k hk
  by_cases hkj : k = j
  · subst hkj
    rw [if_pos rfl]
    unfold inF
    rw [List.take_succ_eq_append_getElem hi, List.find?_append]
    have h1 : (l.take i).find? (fun s => decide (0 < k) && s.pt == (k : Int)) = none := by
      rw [List.find?_eq_none]
      intro x hx hxp
      rw [List.mem_take_iff_getElem] at hx
      obtain ⟨q, hq, rfl⟩ := hx
      have := (((okS_take hi).1 ((mayS_iff.1 hm).2.1 i hi)).2.2 q (by omega)).2
      simp at hxp; omega
    rw [h1]
    simp [h0, hp]
  · rw [if_neg hkj, inF_other hi (by omega)]
theorem okP_in {p : Pl} (hm : mayS p.secs = true) {x : Int × Int} {k : Nat} (hk : x.1 = k) (h0 : 0 < k) : (decide (x.2 = 0) || (inF p.secs k != x.2)) = !okP p x := by
  have key : okP p x = true ↔ x.2 ≠ 0 ∧ inF p.secs k = x.2 := by
    unfold okP
    constructor
    · intro h
      cases hg : getS p.secs x.2 with
      | none => rw [hg] at h; cases h
      | some s =>
        rw [hg] at h
        obtain ⟨h1, h2⟩ := getS_some hg
        have hn := (mayS_sec hm h1).1
        rw [numb_iff] at hn
        have hpt : s.pt = k := by rw [← hk]; simpa using h
        refine ⟨by omega, ?_⟩
        unfold inF
        cases hf : p.secs.find? (fun s => decide (0 < k) && s.pt == (k : Int)) with
        | none =>
          rw [List.find?_eq_none] at hf
          have := hf s h1
          simp [h0, hpt] at this
        | some t =>
          have h3 := List.mem_of_find?_eq_some hf
          have h4 := List.find?_some hf
          simp at h4
          have := pt_inj hm h3 h1 (by omega) (by omega)
          subst this
          exact h2
    · rintro ⟨h1, h2⟩
      unfold inF at h2
      cases hf : p.secs.find? (fun s => decide (0 < k) && s.pt == (k : Int)) with
      | none => rw [hf] at h2; exact absurd h2.symm h1
      | some t =>
        rw [hf] at h2
        have h3 := List.mem_of_find?_eq_some hf
        have h4 := List.find?_some hf
        simp at h4
        rw [← h2, getS_of hm h3]
        simp; omega
  cases ho : okP p x with
  | true =>
    obtain ⟨h1, h2⟩ := key.1 ho
    simp [h1, h2]
  | false =>
    have : ¬ (x.2 ≠ 0 ∧ inF p.secs k = x.2) := fun h => by rw [key.2 h] at ho; cases ho
    by_cases h1 : x.2 = 0
    · simp [h1]
    · have h2 : inF p.secs k ≠ x.2 := fun h => this ⟨h1, h⟩
      simp [h1, h2]
theorem pts_any {p : Pl} (hm : mayS p.secs = true) (hr : allP rises (p.pts.map fun x => x.1) = true) : (!p.pts.any fun x => decide (x.2 = 0) || (inF p.secs x.1.toNat != x.2)) = p.pts.all (okP p) := by
  have hx : ∀ x, x ∈ p.pts → (decide (x.2 = 0) || (inF p.secs x.1.toNat != x.2)) = !okP p x := fun x hx => by
    obtain ⟨i, hi, rfl⟩ := List.getElem_of_mem hx
    have h1 := allP_iff.1 hr i (by simpa using hi)
    simp only [rises, List.getElem_map, Bool.and_eq_true, numb_iff] at h1
    exact okP_in hm (by omega) (by omega)
  rw [Bool.eq_iff_iff, Bool.not_eq_true', List.any_eq_false, List.all_eq_true]
  constructor
  · intro h x hxm
    have := h x hxm
    rw [hx x hxm] at this
    simpa using this
  · intro h x hxm
    rw [hx x hxm, h x hxm]; decide
def mark (pre : List (Int × Int × Int)) (q : Nat) : Bool := pre.any fun y => y.2.1 * 3 + y.2.2 == (q : Int)
def markA (pre : List (Int × Int × Int)) : List AV := (List.range 300).map fun q => bool (mark pre q)
theorem markA_nil : markA [] = List.replicate 300 (bool false) := by rw [rep_range, markA]; simp [mark]
theorem markA_len (pre : List (Int × Int × Int)) : (markA pre).length = 300 := by simp [markA]
theorem markA_pick (pre : List (Int × Int × Int)) (j s : Nat) (h : j < 300) : pick false s (List.drop j (markA pre)) = some (bool (mark pre j)) := pick_range _ _ _ _ h
theorem markA_set (l : List (Int × Int × Int)) (i : Nat) (hi : i < l.length) (a b : Nat) (h : a * 3 + b < 300) (ha : l[i].2.1 = a) (hb : l[i].2.2 = b) : splice (markA (l.take i)) (a * 3 + b) [bool true] = markA (l.take (i + 1)) := by
  rw [markA, splice_range _ _ _ h, markA]
  apply List.map_congr_left
  intro k hk
  have e : mark (l.take (i + 1)) k = (mark (l.take i) k || (l[i].2.1 * 3 + l[i].2.2 == (k : Int))) := by
    rw [mark, mark, List.take_succ_eq_append_getElem hi, List.any_append]; simp
  by_cases hk : k = a * 3 + b
  · subst hk
    rw [if_pos rfl, e, ha, hb]
    congr 2; simp
  · rw [if_neg hk, e, ha, hb]
    have : ((a : Int) * 3 + (b : Int) == (k : Int)) = false := by simp; omega
    rw [this, Bool.or_false]
theorem mark_eq {pre : List (Int × Int × Int)} (hp : ∀ y, y ∈ pre → 0 ≤ y.2.2 ∧ y.2.2 < 3) {a b : Nat} (hb : b < 3) : mark pre (a * 3 + b) = pre.any fun y => y.2 == ((a : Int), (b : Int)) := by
  rw [Bool.eq_iff_iff, mark, List.any_eq_true, List.any_eq_true]
  constructor
  · rintro ⟨y, hy, h⟩
    have := hp y hy
    refine ⟨y, hy, ?_⟩
    simp at h
    rw [beq_iff_eq, Prod.ext_iff]
    exact ⟨by simp only; omega, by simp only; omega⟩
  · rintro ⟨y, hy, h⟩
    refine ⟨y, hy, ?_⟩
    rw [beq_iff_eq, Prod.ext_iff] at h
    simp only at h
    simp; omega
end Go.Proofs.Ytgdhnngpfieloaa.Pln
end
