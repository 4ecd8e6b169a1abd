/-
  Elements found; how many ends each section has.
-/
import Derived.Test.YtcfkieacdjcaoaaZG0
import Derived.Test.YtcfkieacdjcaoaaZP11
import Derived.Test.YtcfkieacdjcaoaaZP12
namespace Go.Proofs.Ytcfkieacdjcaoaa.Pln
set_option linter.unusedVariables false
set_option linter.unusedSimpArgs false
open Go Go.VS Tab
set_option maxHeartbeats 4000000
set_option maxRecDepth 4000
theorem c_find1_pt (x : Int × Int) (b : Int) : ACall Try.prog 112 [jnA x, .ref [i64 b]] [] (bool (x.1 == b)) [] := by
  have ci := c_id_pt x
  simp only [jnA, jnC] at ci
  refine acall_of 1 Try.func112 rfl fun n out _ _ => ?_
  simp only [Try.ntmps112, List.length_cons, List.length_nil, List.length_map, List.length_replicate, rep_map, Nat.reduceAdd, Nat.reduceSub, List.replicate, List.cons_append, List.nil_append]
  repeat' (first | (with_reducible first | refine awp_seq_k fun K hK => ?_ | refine awp_ev tab_ok [] ?_ | refine awp_skip ?_ | apply And.intro) | (with_reducible refine awp_ev_quiet tab_ok follows (by kernel_rfl) ?_) | ((with_reducible first | refine gE ?_ | refine gR ?_); simp (maxSteps := 4000000) only [su, evLit, hbT, tab, thenA, blockA, reduceCtorEq, reduceIte, Nat.reduceEqDiff, Nat.reduceBEq, Int.reduceLE, Int.reduceToNat, Nat.reduceAdd, Nat.reduceLT, Nat.reduceLeDiff, jnA, jnC, splice_all]) | (show (_ : Nat) = (_ : Nat); rfl) | ((with_reducible refine awp_ret ?_); (try refine Or.inr ⟨(by intro h; cases h), ?_⟩); refine ret_tmp (.inr rfl) rfl rfl rfl (fun _ _ => rfl) ?_ <;> first | rfl | skip) | (refine call_pure (ci) ?_) | (refine hK _ ?_; clear hK K) | ((first | show Program.eqGuardType _ _ _ = false | show numFieldsB _ _ _ = true | show Program.stoodInHeld _ _ = false); kernel_rfl) | clear hK K)
theorem c_find_pt (l : List (Int × Int)) (b : Int) (hl : l.length ≤ 1000000) : ACall Try.prog 79 [.sl 2 (l.map jnC) .sh, i64 b] [] (.tup [jnA ((getP l b).getD ((0, 0) : Int × Int)), bool (getP l b).isSome]) [] := by
  have ci := c_idxf_jn l _ [.ref [i64 b]] (fun x => x.1 == b) (hb0 112 (by decide) (by decide)) (by omega) fun x _ => c_find1_pt x b
  rcases idx_cases (fun x : Int × Int => x.1 == b) l with ⟨h1, h2, h3⟩ | ⟨i, hi, h1, h2, h3, h4⟩
  · rw [h1] at ci
    rw [show getP l b = none from h2]
    refine acall_of 3 Try.func79 rfl fun n out _ _ => ?_
    simp only [Try.ntmps79, List.length_cons, List.length_nil, List.length_map, List.length_replicate, rep_map, Nat.reduceAdd, Nat.reduceSub, List.replicate, List.cons_append, List.nil_append]
    refine awp_seq_k fun K hK => awp_ev tab_ok [] ?_
    simp (maxSteps := 4000000) only [su, evLit, hbT, tab, thenA, blockA, reduceCtorEq, reduceIte, Nat.reduceEqDiff, Nat.reduceBEq, Int.reduceLE, Int.reduceToNat, Nat.reduceAdd, Nat.reduceLT, Nat.reduceLeDiff]
    repeat' (first | (with_reducible refine hK _ ?_; clear hK K) | with_reducible apply And.intro)
    refine awp_le (le_freezeAt (i := 0) (t := 3) 1 (.ref [i64 b]) rfl rfl (.ptr 0)) ?_
    simp only [s_0, s_s]
    repeat' (first | (with_reducible first | refine awp_seq_k fun K hK => ?_ | refine awp_ev tab_ok [] ?_ | refine awp_skip ?_ | apply And.intro) | ((with_reducible first | refine gE ?_ | refine gR ?_); simp (maxSteps := 4000000) only [su, evLit, hbT, tab, thenA, blockA, reduceCtorEq, reduceIte, Nat.reduceEqDiff, Nat.reduceBEq, Int.reduceLE, Int.reduceToNat, Nat.reduceAdd, Nat.reduceLT, Nat.reduceLeDiff, jnA, jnC, splice_all, Int.reduceLT, Int.reduceNeg, Option.getD_none, Option.isSome_none, noRt]) | (show (_ : Nat) = (_ : Nat); rfl) | ((with_reducible refine awp_ret ?_); (try refine Or.inr ⟨(by intro h; cases h), ?_⟩); (first | refine ret_ct (.inr rfl) rfl rfl rfl (fun _ _ => rfl) ok80 (k := n + 1) (off := 0) rfl (dom_loc _ (by simp)) (look_loc _ (Nat.le_refl _) 1) rfl rfl ?_ | refine ret_ct (.inr rfl) rfl rfl rfl (fun _ _ => rfl) ok80 (k := m + 1) (off := 0) rfl (dom_loc _ (by simp)) (look_loc _ hm 1) rfl rfl ?_) <;> first | rfl | exact AV.le.rfl _ | (simp only [patch, sl, ti80, List.map_nil, jnA, jnC, splice_all, Int.reduceLT, Int.reduceNeg, Option.getD_none, Option.isSome_none, noRt]; done) | rfl | skip) | (refine call_pure (ci) ?_) | (refine hK _ ?_; clear hK K) | refine awp_cond_t rfl ?_ | refine awp_cond_f rfl ?_ | refine awp_if rfl (fun hg => ?_) (fun hg => ?_) | ((first | show Program.eqGuardType _ _ _ = false | show numFieldsB _ _ _ = true | show Program.stoodInHeld _ _ = false); kernel_rfl) | clear hK K)
  · rw [h1] at ci
    rw [show getP l b = some l[i] from h2]
    have hi0 : decide ((i : Int) < 0) = false := decide_eq_false (by omega)
    have gi := getD_map jnC l i [] hi
    refine acall_of 3 Try.func79 rfl fun n out _ _ => ?_
    simp only [Try.ntmps79, List.length_cons, List.length_nil, List.length_map, List.length_replicate, rep_map, Nat.reduceAdd, Nat.reduceSub, List.replicate, List.cons_append, List.nil_append]
    refine awp_seq_k fun K hK => awp_ev tab_ok [] ?_
    simp (maxSteps := 4000000) only [su, evLit, hbT, tab, thenA, blockA, reduceCtorEq, reduceIte, Nat.reduceEqDiff, Nat.reduceBEq, Int.reduceLE, Int.reduceToNat, Nat.reduceAdd, Nat.reduceLT, Nat.reduceLeDiff]
    repeat' (first | (with_reducible refine hK _ ?_; clear hK K) | with_reducible apply And.intro)
    refine awp_le (le_freezeAt (i := 0) (t := 3) 1 (.ref [i64 b]) rfl rfl (.ptr 0)) ?_
    simp only [s_0, s_s]
    repeat' (first | (with_reducible first | refine awp_seq_k fun K hK => ?_ | refine awp_ev tab_ok [] ?_ | refine awp_skip ?_ | apply And.intro) | ((with_reducible first | refine gE ?_ | refine gR ?_); simp (maxSteps := 4000000) only [su, evLit, hbT, tab, thenA, blockA, reduceCtorEq, reduceIte, Nat.reduceEqDiff, Nat.reduceBEq, Int.reduceLE, Int.reduceToNat, Nat.reduceAdd, Nat.reduceLT, Nat.reduceLeDiff, jnA, jnC, splice_all, hi0, hi, gi, List.length_map, Option.getD_some, Option.isSome_some]) | (show (_ : Nat) = (_ : Nat); rfl) | ((with_reducible refine awp_ret ?_); (try refine Or.inr ⟨(by intro h; cases h), ?_⟩); (first | refine ret_ct (.inr rfl) rfl rfl rfl (fun _ _ => rfl) ok80 (k := n + 1) (off := 0) rfl (dom_loc _ (by simp)) (look_loc _ (Nat.le_refl _) 1) rfl rfl ?_ | refine ret_ct (.inr rfl) rfl rfl rfl (fun _ _ => rfl) ok80 (k := m + 1) (off := 0) rfl (dom_loc _ (by simp)) (look_loc _ hm 1) rfl rfl ?_) <;> first | rfl | exact AV.le.rfl _ | (simp only [patch, sl, ti80, List.map_nil, jnA, jnC, splice_all, hi0, hi, gi, List.length_map, Option.getD_some, Option.isSome_some]; done) | rfl | skip) | (refine call_pure (ci) ?_) | (refine hK _ ?_; clear hK K) | refine awp_cond_t rfl ?_ | refine awp_cond_f rfl ?_ | refine awp_if rfl (fun hg => ?_) (fun hg => ?_) | ((first | show Program.eqGuardType _ _ _ = false | show numFieldsB _ _ _ = true | show Program.stoodInHeld _ _ = false); kernel_rfl) | clear hK K)
theorem c_find1_sg (x : Int × Int × Int) (b : Int) : ACall Try.prog 111 [sgA x, .ref [i64 b]] [] (bool (x.1 == b)) [] := by
  have ci := c_id_sg x
  simp only [sgA, sgC] at ci
  refine acall_of 1 Try.func111 rfl fun n out _ _ => ?_
  simp only [Try.ntmps111, List.length_cons, List.length_nil, List.length_map, List.length_replicate, rep_map, Nat.reduceAdd, Nat.reduceSub, List.replicate, List.cons_append, List.nil_append]
  repeat' (first | (with_reducible first | refine awp_seq_k fun K hK => ?_ | refine awp_ev tab_ok [] ?_ | refine awp_skip ?_ | apply And.intro) | (with_reducible refine awp_ev_quiet tab_ok follows (by kernel_rfl) ?_) | ((with_reducible first | refine gE ?_ | refine gR ?_); simp (maxSteps := 4000000) only [su, evLit, hbT, tab, thenA, blockA, reduceCtorEq, reduceIte, Nat.reduceEqDiff, Nat.reduceBEq, Int.reduceLE, Int.reduceToNat, Nat.reduceAdd, Nat.reduceLT, Nat.reduceLeDiff, sgA, sgC, splice_all]) | (show (_ : Nat) = (_ : Nat); rfl) | ((with_reducible refine awp_ret ?_); (try refine Or.inr ⟨(by intro h; cases h), ?_⟩); refine ret_tmp (.inr rfl) rfl rfl rfl (fun _ _ => rfl) ?_ <;> first | rfl | skip) | (refine call_pure (ci) ?_) | (refine hK _ ?_; clear hK K) | ((first | show Program.eqGuardType _ _ _ = false | show numFieldsB _ _ _ = true | show Program.stoodInHeld _ _ = false); kernel_rfl) | clear hK K)
theorem c_find_sg (l : List (Int × Int × Int)) (b : Int) (hl : l.length ≤ 1000000) : ACall Try.prog 78 [.sl 3 (l.map sgC) .sh, i64 b] [] (.tup [sgA ((getG l b).getD ((0, 0, 0) : Int × Int × Int)), bool (getG l b).isSome]) [] := by
  have ci := c_idxf_sg l _ [.ref [i64 b]] (fun x => x.1 == b) (hb0 111 (by decide) (by decide)) (by omega) fun x _ => c_find1_sg x b
  rcases idx_cases (fun x : Int × Int × Int => x.1 == b) l with ⟨h1, h2, h3⟩ | ⟨i, hi, h1, h2, h3, h4⟩
  · rw [h1] at ci
    rw [show getG l b = none from h2]
    refine acall_of 3 Try.func78 rfl fun n out _ _ => ?_
    simp only [Try.ntmps78, List.length_cons, List.length_nil, List.length_map, List.length_replicate, rep_map, Nat.reduceAdd, Nat.reduceSub, List.replicate, List.cons_append, List.nil_append]
    refine awp_seq_k fun K hK => awp_ev tab_ok [] ?_
    simp (maxSteps := 4000000) only [su, evLit, hbT, tab, thenA, blockA, reduceCtorEq, reduceIte, Nat.reduceEqDiff, Nat.reduceBEq, Int.reduceLE, Int.reduceToNat, Nat.reduceAdd, Nat.reduceLT, Nat.reduceLeDiff]
    repeat' (first | (with_reducible refine hK _ ?_; clear hK K) | with_reducible apply And.intro)
    refine awp_le (le_freezeAt (i := 0) (t := 3) 1 (.ref [i64 b]) rfl rfl (.ptr 0)) ?_
    simp only [s_0, s_s]
    repeat' (first | (with_reducible first | refine awp_seq_k fun K hK => ?_ | refine awp_ev tab_ok [] ?_ | refine awp_skip ?_ | apply And.intro) | ((with_reducible first | refine gE ?_ | refine gR ?_); simp (maxSteps := 4000000) only [su, evLit, hbT, tab, thenA, blockA, reduceCtorEq, reduceIte, Nat.reduceEqDiff, Nat.reduceBEq, Int.reduceLE, Int.reduceToNat, Nat.reduceAdd, Nat.reduceLT, Nat.reduceLeDiff, sgA, sgC, splice_all, Int.reduceLT, Int.reduceNeg, Option.getD_none, Option.isSome_none, noRt]) | (show (_ : Nat) = (_ : Nat); rfl) | ((with_reducible refine awp_ret ?_); (try refine Or.inr ⟨(by intro h; cases h), ?_⟩); (first | refine ret_ct (.inr rfl) rfl rfl rfl (fun _ _ => rfl) ok36 (k := n + 1) (off := 0) rfl (dom_loc _ (by simp)) (look_loc _ (Nat.le_refl _) 1) rfl rfl ?_ | refine ret_ct (.inr rfl) rfl rfl rfl (fun _ _ => rfl) ok36 (k := m + 1) (off := 0) rfl (dom_loc _ (by simp)) (look_loc _ hm 1) rfl rfl ?_) <;> first | rfl | exact AV.le.rfl _ | (simp only [patch, sl, ti36, List.map_nil, sgA, sgC, splice_all, Int.reduceLT, Int.reduceNeg, Option.getD_none, Option.isSome_none, noRt]; done) | rfl | skip) | (refine call_pure (ci) ?_) | (refine hK _ ?_; clear hK K) | refine awp_cond_t rfl ?_ | refine awp_cond_f rfl ?_ | refine awp_if rfl (fun hg => ?_) (fun hg => ?_) | ((first | show Program.eqGuardType _ _ _ = false | show numFieldsB _ _ _ = true | show Program.stoodInHeld _ _ = false); kernel_rfl) | clear hK K)
  · rw [h1] at ci
    rw [show getG l b = some l[i] from h2]
    have hi0 : decide ((i : Int) < 0) = false := decide_eq_false (by omega)
    have gi := getD_map sgC l i [] hi
    refine acall_of 3 Try.func78 rfl fun n out _ _ => ?_
    simp only [Try.ntmps78, List.length_cons, List.length_nil, List.length_map, List.length_replicate, rep_map, Nat.reduceAdd, Nat.reduceSub, List.replicate, List.cons_append, List.nil_append]
    refine awp_seq_k fun K hK => awp_ev tab_ok [] ?_
    simp (maxSteps := 4000000) only [su, evLit, hbT, tab, thenA, blockA, reduceCtorEq, reduceIte, Nat.reduceEqDiff, Nat.reduceBEq, Int.reduceLE, Int.reduceToNat, Nat.reduceAdd, Nat.reduceLT, Nat.reduceLeDiff]
    repeat' (first | (with_reducible refine hK _ ?_; clear hK K) | with_reducible apply And.intro)
    refine awp_le (le_freezeAt (i := 0) (t := 3) 1 (.ref [i64 b]) rfl rfl (.ptr 0)) ?_
    simp only [s_0, s_s]
    repeat' (first | (with_reducible first | refine awp_seq_k fun K hK => ?_ | refine awp_ev tab_ok [] ?_ | refine awp_skip ?_ | apply And.intro) | ((with_reducible first | refine gE ?_ | refine gR ?_); simp (maxSteps := 4000000) only [su, evLit, hbT, tab, thenA, blockA, reduceCtorEq, reduceIte, Nat.reduceEqDiff, Nat.reduceBEq, Int.reduceLE, Int.reduceToNat, Nat.reduceAdd, Nat.reduceLT, Nat.reduceLeDiff, sgA, sgC, splice_all, hi0, hi, gi, List.length_map, Option.getD_some, Option.isSome_some]) | (show (_ : Nat) = (_ : Nat); rfl) | ((with_reducible refine awp_ret ?_); (try refine Or.inr ⟨(by intro h; cases h), ?_⟩); (first | refine ret_ct (.inr rfl) rfl rfl rfl (fun _ _ => rfl) ok36 (k := n + 1) (off := 0) rfl (dom_loc _ (by simp)) (look_loc _ (Nat.le_refl _) 1) rfl rfl ?_ | refine ret_ct (.inr rfl) rfl rfl rfl (fun _ _ => rfl) ok36 (k := m + 1) (off := 0) rfl (dom_loc _ (by simp)) (look_loc _ hm 1) rfl rfl ?_) <;> first | rfl | exact AV.le.rfl _ | (simp only [patch, sl, ti36, List.map_nil, sgA, sgC, splice_all, hi0, hi, gi, List.length_map, Option.getD_some, Option.isSome_some]; done) | rfl | skip) | (refine call_pure (ci) ?_) | (refine hK _ ?_; clear hK K) | refine awp_cond_t rfl ?_ | refine awp_cond_f rfl ?_ | refine awp_if rfl (fun hg => ?_) (fun hg => ?_) | ((first | show Program.eqGuardType _ _ _ = false | show numFieldsB _ _ _ = true | show Program.stoodInHeld _ _ = false); kernel_rfl) | clear hK K)
theorem c_find1_rt (x : Rt) (b : Int) : ACall Try.prog 114 [rtA x, .ref [i64 b]] [] (bool (x.id == b)) [] := by
  have ci := c_id_rt x
  simp only [rtA, rtC] at ci
  refine acall_of 1 Try.func114 rfl fun n out _ _ => ?_
  simp only [Try.ntmps114, List.length_cons, List.length_nil, List.length_map, List.length_replicate, rep_map, Nat.reduceAdd, Nat.reduceSub, List.replicate, List.cons_append, List.nil_append]
  repeat' (first | (with_reducible first | refine awp_seq_k fun K hK => ?_ | refine awp_ev tab_ok [] ?_ | refine awp_skip ?_ | apply And.intro) | (with_reducible refine awp_ev_quiet tab_ok follows (by kernel_rfl) ?_) | ((with_reducible first | refine gE ?_ | refine gR ?_); simp (maxSteps := 4000000) only [su, evLit, hbT, tab, thenA, blockA, reduceCtorEq, reduceIte, Nat.reduceEqDiff, Nat.reduceBEq, Int.reduceLE, Int.reduceToNat, Nat.reduceAdd, Nat.reduceLT, Nat.reduceLeDiff, rtA, rtC, splice_all]) | (show (_ : Nat) = (_ : Nat); rfl) | ((with_reducible refine awp_ret ?_); (try refine Or.inr ⟨(by intro h; cases h), ?_⟩); refine ret_tmp (.inr rfl) rfl rfl rfl (fun _ _ => rfl) ?_ <;> first | rfl | skip) | (refine call_pure (ci) ?_) | (refine hK _ ?_; clear hK K) | ((first | show Program.eqGuardType _ _ _ = false | show numFieldsB _ _ _ = true | show Program.stoodInHeld _ _ = false); kernel_rfl) | clear hK K)
theorem c_find_rt (l : List (Rt)) (b : Int) (hl : l.length ≤ 1000000) : ACall Try.prog 80 [.sl 7 (l.map rtC) .sh, i64 b] [] (.tup [rtA ((getR l b).getD noRt), bool (getR l b).isSome]) [] := by
  have ci := c_idxf_rt l _ [.ref [i64 b]] (fun x => x.id == b) (hb0 114 (by decide) (by decide)) (by omega) fun x _ => c_find1_rt x b
  rcases idx_cases (fun x : Rt => x.id == b) l with ⟨h1, h2, h3⟩ | ⟨i, hi, h1, h2, h3, h4⟩
  · rw [h1] at ci
    rw [show getR l b = none from h2]
    refine acall_of 3 Try.func80 rfl fun n out _ _ => ?_
    simp only [Try.ntmps80, List.length_cons, List.length_nil, List.length_map, List.length_replicate, rep_map, Nat.reduceAdd, Nat.reduceSub, List.replicate, List.cons_append, List.nil_append]
    refine awp_seq_k fun K hK => awp_ev tab_ok [] ?_
    simp (maxSteps := 4000000) only [su, evLit, hbT, tab, thenA, blockA, reduceCtorEq, reduceIte, Nat.reduceEqDiff, Nat.reduceBEq, Int.reduceLE, Int.reduceToNat, Nat.reduceAdd, Nat.reduceLT, Nat.reduceLeDiff]
    repeat' (first | (with_reducible refine hK _ ?_; clear hK K) | with_reducible apply And.intro)
    refine awp_le (le_freezeAt (i := 0) (t := 3) 1 (.ref [i64 b]) rfl rfl (.ptr 0)) ?_
    simp only [s_0, s_s]
    repeat' (first | (with_reducible first | refine awp_seq_k fun K hK => ?_ | refine awp_ev tab_ok [] ?_ | refine awp_skip ?_ | apply And.intro) | ((with_reducible first | refine gE ?_ | refine gR ?_); simp (maxSteps := 4000000) only [su, evLit, hbT, tab, thenA, blockA, reduceCtorEq, reduceIte, Nat.reduceEqDiff, Nat.reduceBEq, Int.reduceLE, Int.reduceToNat, Nat.reduceAdd, Nat.reduceLT, Nat.reduceLeDiff, rtA, rtC, splice_all, Int.reduceLT, Int.reduceNeg, Option.getD_none, Option.isSome_none, noRt]) | (show (_ : Nat) = (_ : Nat); rfl) | ((with_reducible refine awp_ret ?_); (try refine Or.inr ⟨(by intro h; cases h), ?_⟩); (first | refine ret_ct (.inr rfl) rfl rfl rfl (fun _ _ => rfl) ok34 (k := n + 1) (off := 0) rfl (dom_loc _ (by simp)) (look_loc _ (Nat.le_refl _) 1) rfl rfl ?_ | refine ret_ct (.inr rfl) rfl rfl rfl (fun _ _ => rfl) ok34 (k := m + 1) (off := 0) rfl (dom_loc _ (by simp)) (look_loc _ hm 1) rfl rfl ?_) <;> first | rfl | exact AV.le.rfl _ | (simp only [patch, sl, ti34, List.map_nil, rtA, rtC, splice_all, Int.reduceLT, Int.reduceNeg, Option.getD_none, Option.isSome_none, noRt]; done) | rfl | skip) | (refine call_pure (ci) ?_) | (refine hK _ ?_; clear hK K) | refine awp_cond_t rfl ?_ | refine awp_cond_f rfl ?_ | refine awp_if rfl (fun hg => ?_) (fun hg => ?_) | ((first | show Program.eqGuardType _ _ _ = false | show numFieldsB _ _ _ = true | show Program.stoodInHeld _ _ = false); kernel_rfl) | clear hK K)
  · rw [h1] at ci
    rw [show getR l b = some l[i] from h2]
    have hi0 : decide ((i : Int) < 0) = false := decide_eq_false (by omega)
    have gi := getD_map rtC l i [] hi
    refine acall_of 3 Try.func80 rfl fun n out _ _ => ?_
    simp only [Try.ntmps80, List.length_cons, List.length_nil, List.length_map, List.length_replicate, rep_map, Nat.reduceAdd, Nat.reduceSub, List.replicate, List.cons_append, List.nil_append]
    refine awp_seq_k fun K hK => awp_ev tab_ok [] ?_
    simp (maxSteps := 4000000) only [su, evLit, hbT, tab, thenA, blockA, reduceCtorEq, reduceIte, Nat.reduceEqDiff, Nat.reduceBEq, Int.reduceLE, Int.reduceToNat, Nat.reduceAdd, Nat.reduceLT, Nat.reduceLeDiff]
    repeat' (first | (with_reducible refine hK _ ?_; clear hK K) | with_reducible apply And.intro)
    refine awp_le (le_freezeAt (i := 0) (t := 3) 1 (.ref [i64 b]) rfl rfl (.ptr 0)) ?_
    simp only [s_0, s_s]
    repeat' (first | (with_reducible first | refine awp_seq_k fun K hK => ?_ | refine awp_ev tab_ok [] ?_ | refine awp_skip ?_ | apply And.intro) | ((with_reducible first | refine gE ?_ | refine gR ?_); simp (maxSteps := 4000000) only [su, evLit, hbT, tab, thenA, blockA, reduceCtorEq, reduceIte, Nat.reduceEqDiff, Nat.reduceBEq, Int.reduceLE, Int.reduceToNat, Nat.reduceAdd, Nat.reduceLT, Nat.reduceLeDiff, rtA, rtC, splice_all, hi0, hi, gi, List.length_map, Option.getD_some, Option.isSome_some]) | (show (_ : Nat) = (_ : Nat); rfl) | ((with_reducible refine awp_ret ?_); (try refine Or.inr ⟨(by intro h; cases h), ?_⟩); (first | refine ret_ct (.inr rfl) rfl rfl rfl (fun _ _ => rfl) ok34 (k := n + 1) (off := 0) rfl (dom_loc _ (by simp)) (look_loc _ (Nat.le_refl _) 1) rfl rfl ?_ | refine ret_ct (.inr rfl) rfl rfl rfl (fun _ _ => rfl) ok34 (k := m + 1) (off := 0) rfl (dom_loc _ (by simp)) (look_loc _ hm 1) rfl rfl ?_) <;> first | rfl | exact AV.le.rfl _ | (simp only [patch, sl, ti34, List.map_nil, rtA, rtC, splice_all, hi0, hi, gi, List.length_map, Option.getD_some, Option.isSome_some]; done) | rfl | skip) | (refine call_pure (ci) ?_) | (refine hK _ ?_; clear hK K) | refine awp_cond_t rfl ?_ | refine awp_cond_f rfl ?_ | refine awp_if rfl (fun hg => ?_) (fun hg => ?_) | ((first | show Program.eqGuardType _ _ _ = false | show numFieldsB _ _ _ = true | show Program.stoodInHeld _ _ = false); kernel_rfl) | clear hK K)
def cnt (l : List Sec) (k : Nat) : Nat := match getS l k with
  | some s => s.ends.length
  | none => 0
def endsA (l : List Sec) : List AV := (List.range 100).map fun k => i64 (cnt l k : Int)
theorem endsA_nil : endsA [] = List.replicate 100 (i64 0) := by
  rw [rep_range, endsA]; simp [cnt, getS]
theorem endsA_len (l : List Sec) : (endsA l).length = 100 := by simp [endsA]
theorem endsA_pick (l : List Sec) (j s : Nat) (h : j < 100) : pick false s (List.drop j (endsA l)) = some (i64 (cnt l j : Int)) := pick_range _ _ _ _ h
theorem endsA_set (l : List Sec) (hr : Rising l) (i : Nat) (hi : i < l.length) (j : Nat) (hj : j < 100) (hp : l[i].id = j) : splice (endsA (l.take i)) j [.val (.int .i64 (l[i].ends.length : Int))] = endsA (l.take (i + 1)) := by
  rw [endsA, splice_range _ _ _ hj, endsA]
  apply List.map_congr_left
  intro k hk
  have e : getS (l.take (i + 1)) k = if l[i].id = k then some l[i] else getS (l.take i) k := by
    unfold getS
    rw [List.take_succ_eq_append_getElem hi, List.find?_append]
    by_cases h : l[i].id = k
    · rw [if_pos h]
      have : (l.take i).find? (fun s => s.id == (k : Int)) = none := by
        rw [List.find?_eq_none]
        intro x hx
        rw [List.mem_take_iff_getElem] at hx
        obtain ⟨q, hq, rfl⟩ := hx
        have := hr i hi q (by omega)
        simp; omega
      rw [this]
      simp [h]
    · rw [if_neg h]
      simp [h]
  unfold cnt
  rw [e]
  by_cases hkj : k = j
  · subst hkj
    rw [if_pos rfl, if_pos hp]
  · rw [if_neg hkj, if_neg (by omega)]
theorem c_ends (l : List Sec) (hmay : mayS l = true) : ACall Try.prog 47 [secsA l] [] (.agg (endsA l)) [] := by
  have hr := mayS_rising hmay
  have hl16 := (mayS_iff.1 hmay).1
  refine acall_of 2 Try.func47 rfl fun n out _ _ => ?_
  simp only [Try.ntmps47, List.length_cons, List.length_nil, List.length_map, List.length_replicate, rep_map, Nat.reduceAdd, Nat.reduceSub, List.replicate, List.cons_append, List.nil_append]
  repeat' (first | (with_reducible first | refine awp_seq_k fun K hK => ?_ | refine awp_ev tab_ok [] ?_ | refine awp_block_s ?_ | refine awp_block_c ?_ | refine awp_block_r ?_ | refine awp_skip ?_ | apply And.intro) | ((with_reducible first | refine gE ?_ | refine gR ?_); simp (maxSteps := 4000000) only [su, evLit, hbT, tab, thenA, blockA, reduceCtorEq, reduceIte, Nat.reduceEqDiff, Nat.reduceBEq, Int.reduceLE, Int.reduceToNat, Nat.reduceAdd, Nat.reduceLT, Nat.reduceLeDiff]) | (show (_ : Nat) = (_ : Nat); rfl) | ((with_reducible refine awp_ret ?_); (try refine Or.inr ⟨(by intro h; cases h), ?_⟩); (first | refine ret_cell_le (.inr rfl) rfl rfl rfl (fun _ _ => rfl) ok97 (k := n + 0) (off := 0) rfl (dom_loc _ (by simp)) (look_loc _ (Nat.le_refl _) 0) rfl ?_ | refine ret_cell_le (.inr rfl) rfl rfl rfl (fun _ _ => rfl) ok97 (k := m + 0) (off := 0) rfl (dom_loc _ (by simp)) (look_loc _ hm 0) rfl ?_) <;> first | rfl | exact AV.le.rfl _ | (simp only [patch, sl, ti97, List.map_nil]; done) | rfl | skip) | ((with_reducible refine awp_exit ?_); simp only [thenA, blockA, if_true, if_false, reduceIte, Nat.reduceEqDiff]) | (refine hK _ ?_; clear hK K) | refine awp_cond_t rfl ?_ | refine awp_cond_f rfl ?_ | refine awp_if rfl (fun hg => ?_) (fun hg => ?_) | ((first | show Program.eqGuardType _ _ _ = false | show numFieldsB _ _ _ = true | show Program.stoodInHeld _ _ = false); kernel_rfl) | clear hK K)
  refine awp_block ?_
  refine awp_for_mv (fun m (i : Nat) => [(7, i64 (i : Int)), (2, .ptr (m + 0) 0), (4, .top), (8, .top), (9, .top), (10, .top), (11, .top), (12, .top), (13, .top), (14, .top), (15, .top), (16, .top), (17, .top)]) (fun m i => [some (.box 97 (endsA (l.take i))), none]) (fun i => out) (fun i => i ≤ l.length) (fun i => l.length - i) 0 (Nat.zero_le _) ?_ fun m i hm hi => ?_
  · refine le_of_all ?_ ?_ (by first | rfl | (simp only [List.length_map, List.take_zero, endsA_nil]; rfl) | simp only [List.length_map, List.take_zero, endsA_nil]) rfl rfl rfl <;> simp only [patch, sl, List.length_map, List.take_zero, endsA_nil]
  simp only [patch, s_0, s_s]
  have hw := addw (n := i) 1 1 rfl (by omega)
  by_cases hlt : i < l.length
  · have gi := getD_map secC l i [] hlt
    have hn := (mayS_sec hmay (List.getElem_mem hlt)).1
    rw [numb_iff] at hn
    obtain ⟨np, hpt⟩ := Int.eq_ofNat_of_zero_le (a := l[i].id) (by omega)
    have hnp : np < 100 := by omega
    have hnp' : (np : Int) < 100 := by omega
    have hnp9 : np ≤ 99 := by omega
    have hset := endsA_set l hr i hlt np hnp hpt
    repeat' (first | (with_reducible first | refine awp_seq_k fun K hK => ?_ | refine awp_ev tab_ok [] ?_ | refine awp_block_s ?_ | refine awp_block_c ?_ | refine awp_block_r ?_ | refine awp_skip ?_ | apply And.intro) | ((with_reducible first | refine gE ?_ | refine gR ?_); simp (maxSteps := 4000000) only [su, evLit, hbT, tab, thenA, blockA, reduceCtorEq, reduceIte, Nat.reduceEqDiff, Nat.reduceBEq, Int.reduceLE, Int.reduceToNat, Nat.reduceAdd, Nat.reduceLT, Nat.reduceLeDiff, locM hm, List.length_map, hlt, gi, secA, secC, splice_all, hpt, hnp, hnp', hnp9, endsA_len, hset, hw]) | (show (_ : Nat) = (_ : Nat); rfl) | ((with_reducible refine awp_ret ?_); (try refine Or.inr ⟨(by intro h; cases h), ?_⟩); (first | refine ret_cell_le (.inr rfl) rfl rfl rfl (fun _ _ => rfl) ok97 (k := n + 0) (off := 0) rfl (dom_loc _ (by simp)) (look_loc _ (Nat.le_refl _) 0) rfl ?_ | refine ret_cell_le (.inr rfl) rfl rfl rfl (fun _ _ => rfl) ok97 (k := m + 0) (off := 0) rfl (dom_loc _ (by simp)) (look_loc _ hm 0) rfl ?_) <;> first | rfl | exact AV.le.rfl _ | (simp only [patch, sl, ti97, List.map_nil, locM hm, List.length_map, hlt, gi, secA, secC, splice_all, hpt, hnp, hnp', hnp9, endsA_len, hset, hw]; done) | rfl | skip) | ((with_reducible refine awp_exit ?_); simp only [thenA, blockA, if_true, if_false, reduceIte, Nat.reduceEqDiff]) | (refine hK _ ?_; clear hK K) | refine awp_cond_t rfl ?_ | refine awp_cond_f rfl ?_ | refine awp_if rfl (fun hg => ?_) (fun hg => ?_) | ((first | show Program.eqGuardType _ _ _ = false | show numFieldsB _ _ _ = true | show Program.stoodInHeld _ _ = false); kernel_rfl) | clear hK K)
    refine ⟨i + 1, by omega, by omega, ?_⟩
    refine le_move [true, false] (fun n_ => ?_) (fun n_ => ?_) <;> simp only [patch, sm]
  · obtain rfl : i = l.length := by omega
    repeat' (first | (with_reducible first | refine awp_seq_k fun K hK => ?_ | refine awp_ev tab_ok [] ?_ | refine awp_block_s ?_ | refine awp_block_c ?_ | refine awp_block_r ?_ | refine awp_skip ?_ | apply And.intro) | ((with_reducible first | refine gE ?_ | refine gR ?_); simp (maxSteps := 4000000) only [su, evLit, hbT, tab, thenA, blockA, reduceCtorEq, reduceIte, Nat.reduceEqDiff, Nat.reduceBEq, Int.reduceLE, Int.reduceToNat, Nat.reduceAdd, Nat.reduceLT, Nat.reduceLeDiff, List.length_map, hlt, List.take_length]) | (show (_ : Nat) = (_ : Nat); rfl) | ((with_reducible refine awp_ret ?_); (try refine Or.inr ⟨(by intro h; cases h), ?_⟩); (first | refine ret_cell_le (.inr rfl) rfl rfl rfl (fun _ _ => rfl) ok97 (k := n + 0) (off := 0) rfl (dom_loc _ (by simp)) (look_loc _ (Nat.le_refl _) 0) rfl ?_ | refine ret_cell_le (.inr rfl) rfl rfl rfl (fun _ _ => rfl) ok97 (k := m + 0) (off := 0) rfl (dom_loc _ (by simp)) (look_loc _ hm 0) rfl ?_) <;> first | rfl | exact AV.le.rfl _ | (simp only [patch, sl, ti97, List.map_nil, List.length_map, hlt, List.take_length]; done) | rfl | skip) | ((with_reducible refine awp_exit ?_); simp only [thenA, blockA, if_true, if_false, reduceIte, Nat.reduceEqDiff]) | (refine hK _ ?_; clear hK K) | refine awp_cond_t rfl ?_ | refine awp_cond_f rfl ?_ | refine awp_if rfl (fun hg => ?_) (fun hg => ?_) | ((first | show Program.eqGuardType _ _ _ = false | show numFieldsB _ _ _ = true | show Program.stoodInHeld _ _ = false); kernel_rfl) | clear hK K)
theorem cnt_pos {l : List Sec} (hmay : mayS l = true) (k : Nat) : decide ((cnt l k : Int) > 0) = (getS l k).isSome := by
  unfold cnt
  cases hg : getS l k with
  | none => rfl
  | some s =>
    have hs := (mayS_sec hmay (List.mem_of_find?_eq_some hg)).2
    rw [shaped_iff] at hs
    simp; omega
theorem getS_range {l : List Sec} (hmay : mayS l = true) {b : Int} (h : ¬ (0 ≤ b ∧ b ≤ 99)) : getS l b = none := by
  cases hg : getS l b with
  | none => rfl
  | some s =>
    have hs := (mayS_sec hmay (List.mem_of_find?_eq_some hg)).1
    have := List.find?_some hg
    rw [numb_iff] at hs
    simp at this; omega
theorem c_there (l : List Sec) (b : Int) (hmay : mayS l = true) : ACall Try.prog 76 [.agg (endsA l), i64 b] [] (bool (getS l b).isSome) [] := by
  by_cases h : 0 ≤ b ∧ b ≤ 99
  · obtain ⟨nb, rfl⟩ := Int.eq_ofNat_of_zero_le h.1
    have hnp : nb < 100 := by omega
    have hnp' : (nb : Int) < 100 := by omega
    have hnp9 : nb ≤ 99 := by omega
    have h1 : decide ((nb : Int) ≥ 0) = true := decide_eq_true h.1
    have h2 : decide ((nb : Int) ≤ 99) = true := decide_eq_true h.2
    have hc := cnt_pos hmay nb
    refine acall_of 1 Try.func76 rfl fun n out _ _ => ?_
    simp only [Try.ntmps76, List.length_cons, List.length_nil, List.length_map, List.length_replicate, rep_map, Nat.reduceAdd, Nat.reduceSub, List.replicate, List.cons_append, List.nil_append]
    repeat' (first | (with_reducible first | refine awp_seq_k fun K hK => ?_ | refine awp_ev tab_ok [] ?_ | refine awp_skip ?_ | apply And.intro) | ((with_reducible first | refine gE ?_ | refine gR ?_); simp (maxSteps := 4000000) only [su, evLit, hbT, tab, thenA, blockA, reduceCtorEq, reduceIte, Nat.reduceEqDiff, Nat.reduceBEq, Int.reduceLE, Int.reduceToNat, Nat.reduceAdd, Nat.reduceLT, Nat.reduceLeDiff, h1, h2, hnp, hnp', hnp9, endsA_len, endsA_pick l nb 1 hnp, hc]) | (show (_ : Nat) = (_ : Nat); rfl) | ((with_reducible refine awp_ret ?_); (try refine Or.inr ⟨(by intro h; cases h), ?_⟩); refine ret_tmp (.inr rfl) rfl rfl rfl (fun _ _ => rfl) ?_ <;> first | rfl | skip) | ((with_reducible refine gsel_case (fun hg => ?_) (fun hg => ?_)) <;> (try simp only [nb] at hg) <;> simp (maxSteps := 4000000) only [su, evLit, hbT, tab, thenA, blockA, reduceCtorEq, reduceIte, Nat.reduceEqDiff, Nat.reduceBEq, Int.reduceLE, Int.reduceToNat, Nat.reduceAdd, Nat.reduceLT, Nat.reduceLeDiff, hg, h1, h2, hnp, hnp', hnp9, endsA_len, endsA_pick l nb 1 hnp, hc]) | (refine hK _ ?_; clear hK K) | ((first | show Program.eqGuardType _ _ _ = false | show numFieldsB _ _ _ = true | show Program.stoodInHeld _ _ = false); kernel_rfl) | clear hK K)
  · rw [getS_range hmay h]
    refine acall_of 1 Try.func76 rfl fun n out _ _ => ?_
    simp only [Try.ntmps76, List.length_cons, List.length_nil, List.length_map, List.length_replicate, rep_map, Nat.reduceAdd, Nat.reduceSub, List.replicate, List.cons_append, List.nil_append]
    repeat' (first | (with_reducible first | refine awp_seq_k fun K hK => ?_ | refine awp_ev tab_ok [] ?_ | refine awp_skip ?_ | apply And.intro) | ((with_reducible first | refine gE ?_ | refine gR ?_); simp (maxSteps := 4000000) only [su, evLit, hbT, tab, thenA, blockA, reduceCtorEq, reduceIte, Nat.reduceEqDiff, Nat.reduceBEq, Int.reduceLE, Int.reduceToNat, Nat.reduceAdd, Nat.reduceLT, Nat.reduceLeDiff]) | (show (_ : Nat) = (_ : Nat); rfl) | ((with_reducible refine awp_ret ?_); (try refine Or.inr ⟨(by intro h; cases h), ?_⟩); refine ret_tmp (.inr rfl) rfl rfl rfl (fun _ _ => rfl) ?_ <;> first | rfl | skip) | ((with_reducible refine gsel_case (fun hg => ?_) (fun hg => ?_)) <;> (try simp only [nb] at hg) <;> simp (maxSteps := 4000000) only [su, evLit, hbT, tab, thenA, blockA, reduceCtorEq, reduceIte, Nat.reduceEqDiff, Nat.reduceBEq, Int.reduceLE, Int.reduceToNat, Nat.reduceAdd, Nat.reduceLT, Nat.reduceLeDiff, hg]) | (refine hK _ ?_; clear hK K) | ((first | show Program.eqGuardType _ _ _ = false | show numFieldsB _ _ _ = true | show Program.stoodInHeld _ _ = false); kernel_rfl) | clear hK K)
    all_goals (exfalso; simp at *; omega)
end Go.Proofs.Ytcfkieacdjcaoaa.Pln
