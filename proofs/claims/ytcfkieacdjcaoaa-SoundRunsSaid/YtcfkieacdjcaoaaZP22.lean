/-
  A plan's elements, told by the program.
-/
import Derived.Test.YtcfkieacdjcaoaaZG0
import Derived.Test.YtcfkieacdjcaoaaZP21
namespace Go.Proofs.Ytcfkieacdjcaoaa.Pln
set_option linter.unusedVariables false
set_option linter.unusedSimpArgs false
open Go Go.VS Tab
set_option maxHeartbeats 8000000
set_option maxRecDepth 4000
def elD {α : Type} (may : Bool) (o : Option α) (z : α) : α := if may then o.getD z else z
def elE {α : Type} (may : Bool) (o : Option α) : Int := if may then (if o.isSome then 0 else 6) else 8
theorem c_asked_sg (p : Pl) (hs : Sm p) (l : List (Int × Int × Int)) (hl : l.length ≤ 1000000) (b : Int) : ACall Try.prog 56 [plA p, .sl 3 (l.map sgC) .sh, i64 b] [] (.tup [sgA (elD (mayP p) (getG l b) ((0, 0, 0) : Int × Int × Int)), i64 (elE (mayP p) (getG l b))]) [] := by
  have cc := c_pcheck p hs
  have cf := c_find_sg l b hl
  cases hm : mayP p with
  | false =>
    rw [hm] at cc
    simp only [elD, elE, Bool.false_eq_true, if_false] at cc ⊢
    refine acall_of 4 Try.func56 rfl fun n out _ _ => ?_
    simp only [Try.ntmps56, List.length_cons, List.length_nil, List.length_map, List.length_replicate, rep_map, Nat.reduceAdd, Nat.reduceSub, List.replicate, List.cons_append, List.nil_append]
    repeat' (first | (with_reducible first | refine awp_seq_k fun K hK => ?_ | refine awp_ev tab_ok [] ?_ | refine awp_skip ?_ | apply And.intro) | ((with_reducible first | refine gE ?_ | refine gR ?_); simp (maxSteps := 4000000) only [su, evLit, hbT, tab, thenA, blockA, reduceCtorEq, reduceIte, Nat.reduceEqDiff, Nat.reduceBEq, Int.reduceLE, Int.reduceToNat, Nat.reduceAdd, Nat.reduceLT, Nat.reduceLeDiff, plA, plC, sgA, sgC, splice_all, Int.reduceBNe, noRt]) | (show (_ : Nat) = (_ : Nat); rfl) | ((with_reducible refine awp_ret ?_); (try refine Or.inr ⟨(by intro h; cases h), ?_⟩); (first | refine ret_ct (.inr rfl) rfl rfl rfl (fun _ _ => rfl) ok36 (k := n + 1) (off := 0) rfl (dom_loc _ (by simp)) (look_loc _ (Nat.le_refl _) 1) rfl rfl ?_ | refine ret_ct (.inr rfl) rfl rfl rfl (fun _ _ => rfl) ok36 (k := m + 1) (off := 0) rfl (dom_loc _ (by simp)) (look_loc _ hm 1) rfl rfl ?_) <;> first | rfl | exact AV.le.rfl _ | (simp only [patch, sl, ti36, List.map_nil, plA, plC, sgA, sgC, splice_all, Int.reduceBNe, noRt]; done) | rfl | skip) | (refine call_pure (cc) ?_) | (refine hK _ ?_; clear hK K) | refine awp_cond_t rfl ?_ | refine awp_cond_f rfl ?_ | refine awp_if rfl (fun hg => ?_) (fun hg => ?_) | ((first | show Program.eqGuardType _ _ _ = false | show numFieldsB _ _ _ = true | show Program.stoodInHeld _ _ = false); kernel_rfl) | clear hK K)
  | true =>
    rw [hm] at cc
    simp only [elD, elE, if_true] at cc ⊢
    cases hf : getG l b with
    | none =>
      rw [hf] at cf
      refine acall_of 4 Try.func56 rfl fun n out _ _ => ?_
      simp only [Try.ntmps56, List.length_cons, List.length_nil, List.length_map, List.length_replicate, rep_map, Nat.reduceAdd, Nat.reduceSub, List.replicate, List.cons_append, List.nil_append]
      repeat' (first | (with_reducible first | refine awp_seq_k fun K hK => ?_ | refine awp_ev tab_ok [] ?_ | refine awp_skip ?_ | apply And.intro) | ((with_reducible first | refine gE ?_ | refine gR ?_); simp (maxSteps := 4000000) only [su, evLit, hbT, tab, thenA, blockA, reduceCtorEq, reduceIte, Nat.reduceEqDiff, Nat.reduceBEq, Int.reduceLE, Int.reduceToNat, Nat.reduceAdd, Nat.reduceLT, Nat.reduceLeDiff, plA, plC, sgA, sgC, splice_all, Int.reduceBNe, Option.getD_none, Option.isSome_none, noRt, Bool.false_eq_true]) | (show (_ : Nat) = (_ : Nat); rfl) | ((with_reducible refine awp_ret ?_); (try refine Or.inr ⟨(by intro h; cases h), ?_⟩); (first | refine ret_ct (.inr rfl) rfl rfl rfl (fun _ _ => rfl) ok36 (k := n + 1) (off := 0) rfl (dom_loc _ (by simp)) (look_loc _ (Nat.le_refl _) 1) rfl rfl ?_ | refine ret_ct (.inr rfl) rfl rfl rfl (fun _ _ => rfl) ok36 (k := m + 1) (off := 0) rfl (dom_loc _ (by simp)) (look_loc _ hm 1) rfl rfl ?_) <;> first | rfl | exact AV.le.rfl _ | (simp only [patch, sl, ti36, List.map_nil, plA, plC, sgA, sgC, splice_all, Int.reduceBNe, Option.getD_none, Option.isSome_none, noRt, if_false, Bool.false_eq_true]; done) | rfl | skip) | (refine call_pure (cc) ?_) | (refine call_pure (cf) ?_) | (refine hK _ ?_; clear hK K) | refine awp_cond_t rfl ?_ | refine awp_cond_f rfl ?_ | refine awp_if rfl (fun hg => ?_) (fun hg => ?_) | ((first | show Program.eqGuardType _ _ _ = false | show numFieldsB _ _ _ = true | show Program.stoodInHeld _ _ = false); kernel_rfl) | clear hK K)
    | some x =>
      rw [hf] at cf
      refine acall_of 4 Try.func56 rfl fun n out _ _ => ?_
      simp only [Try.ntmps56, List.length_cons, List.length_nil, List.length_map, List.length_replicate, rep_map, Nat.reduceAdd, Nat.reduceSub, List.replicate, List.cons_append, List.nil_append]
      repeat' (first | (with_reducible first | refine awp_seq_k fun K hK => ?_ | refine awp_ev tab_ok [] ?_ | refine awp_skip ?_ | apply And.intro) | ((with_reducible first | refine gE ?_ | refine gR ?_); simp (maxSteps := 4000000) only [su, evLit, hbT, tab, thenA, blockA, reduceCtorEq, reduceIte, Nat.reduceEqDiff, Nat.reduceBEq, Int.reduceLE, Int.reduceToNat, Nat.reduceAdd, Nat.reduceLT, Nat.reduceLeDiff, plA, plC, sgA, sgC, splice_all, Int.reduceBNe, Option.getD_some, Option.isSome_some]) | (show (_ : Nat) = (_ : Nat); rfl) | ((with_reducible refine awp_ret ?_); (try refine Or.inr ⟨(by intro h; cases h), ?_⟩); (first | refine ret_ct (.inr rfl) rfl rfl rfl (fun _ _ => rfl) ok36 (k := n + 1) (off := 0) rfl (dom_loc _ (by simp)) (look_loc _ (Nat.le_refl _) 1) rfl rfl ?_ | refine ret_ct (.inr rfl) rfl rfl rfl (fun _ _ => rfl) ok36 (k := m + 1) (off := 0) rfl (dom_loc _ (by simp)) (look_loc _ hm 1) rfl rfl ?_) <;> first | rfl | exact AV.le.rfl _ | (simp only [patch, sl, ti36, List.map_nil, plA, plC, sgA, sgC, splice_all, Int.reduceBNe, Option.getD_some, Option.isSome_some]; done) | rfl | skip) | (refine call_pure (cc) ?_) | (refine call_pure (cf) ?_) | (refine hK _ ?_; clear hK K) | refine awp_cond_t rfl ?_ | refine awp_cond_f rfl ?_ | refine awp_if rfl (fun hg => ?_) (fun hg => ?_) | ((first | show Program.eqGuardType _ _ _ = false | show numFieldsB _ _ _ = true | show Program.stoodInHeld _ _ = false); kernel_rfl) | clear hK K)
theorem c_asked_rt (p : Pl) (hs : Sm p) (l : List (Rt)) (hl : l.length ≤ 1000000) (b : Int) : ACall Try.prog 52 [plA p, .sl 7 (l.map rtC) .sh, i64 b] [] (.tup [rtA (elD (mayP p) (getR l b) noRt), i64 (elE (mayP p) (getR l b))]) [] := by
  have cc := c_pcheck p hs
  have cf := c_find_rt l b hl
  cases hm : mayP p with
  | false =>
    rw [hm] at cc
    simp only [elD, elE, Bool.false_eq_true, if_false] at cc ⊢
    refine acall_of 4 Try.func52 rfl fun n out _ _ => ?_
    simp only [Try.ntmps52, List.length_cons, List.length_nil, List.length_map, List.length_replicate, rep_map, Nat.reduceAdd, Nat.reduceSub, List.replicate, List.cons_append, List.nil_append]
    repeat' (first | (with_reducible first | refine awp_seq_k fun K hK => ?_ | refine awp_ev tab_ok [] ?_ | refine awp_skip ?_ | apply And.intro) | ((with_reducible first | refine gE ?_ | refine gR ?_); simp (maxSteps := 4000000) only [su, evLit, hbT, tab, thenA, blockA, reduceCtorEq, reduceIte, Nat.reduceEqDiff, Nat.reduceBEq, Int.reduceLE, Int.reduceToNat, Nat.reduceAdd, Nat.reduceLT, Nat.reduceLeDiff, plA, plC, rtA, rtC, splice_all, Int.reduceBNe, noRt]) | (show (_ : Nat) = (_ : Nat); rfl) | ((with_reducible refine awp_ret ?_); (try refine Or.inr ⟨(by intro h; cases h), ?_⟩); (first | refine ret_ct (.inr rfl) rfl rfl rfl (fun _ _ => rfl) ok34 (k := n + 1) (off := 0) rfl (dom_loc _ (by simp)) (look_loc _ (Nat.le_refl _) 1) rfl rfl ?_ | refine ret_ct (.inr rfl) rfl rfl rfl (fun _ _ => rfl) ok34 (k := m + 1) (off := 0) rfl (dom_loc _ (by simp)) (look_loc _ hm 1) rfl rfl ?_) <;> first | rfl | exact AV.le.rfl _ | (simp only [patch, sl, ti34, List.map_nil, plA, plC, rtA, rtC, splice_all, Int.reduceBNe, noRt]; done) | rfl | skip) | (refine call_pure (cc) ?_) | (refine hK _ ?_; clear hK K) | refine awp_cond_t rfl ?_ | refine awp_cond_f rfl ?_ | refine awp_if rfl (fun hg => ?_) (fun hg => ?_) | ((first | show Program.eqGuardType _ _ _ = false | show numFieldsB _ _ _ = true | show Program.stoodInHeld _ _ = false); kernel_rfl) | clear hK K)
  | true =>
    rw [hm] at cc
    simp only [elD, elE, if_true] at cc ⊢
    cases hf : getR l b with
    | none =>
      rw [hf] at cf
      refine acall_of 4 Try.func52 rfl fun n out _ _ => ?_
      simp only [Try.ntmps52, List.length_cons, List.length_nil, List.length_map, List.length_replicate, rep_map, Nat.reduceAdd, Nat.reduceSub, List.replicate, List.cons_append, List.nil_append]
      repeat' (first | (with_reducible first | refine awp_seq_k fun K hK => ?_ | refine awp_ev tab_ok [] ?_ | refine awp_skip ?_ | apply And.intro) | ((with_reducible first | refine gE ?_ | refine gR ?_); simp (maxSteps := 4000000) only [su, evLit, hbT, tab, thenA, blockA, reduceCtorEq, reduceIte, Nat.reduceEqDiff, Nat.reduceBEq, Int.reduceLE, Int.reduceToNat, Nat.reduceAdd, Nat.reduceLT, Nat.reduceLeDiff, plA, plC, rtA, rtC, splice_all, Int.reduceBNe, Option.getD_none, Option.isSome_none, noRt, Bool.false_eq_true]) | (show (_ : Nat) = (_ : Nat); rfl) | ((with_reducible refine awp_ret ?_); (try refine Or.inr ⟨(by intro h; cases h), ?_⟩); (first | refine ret_ct (.inr rfl) rfl rfl rfl (fun _ _ => rfl) ok34 (k := n + 1) (off := 0) rfl (dom_loc _ (by simp)) (look_loc _ (Nat.le_refl _) 1) rfl rfl ?_ | refine ret_ct (.inr rfl) rfl rfl rfl (fun _ _ => rfl) ok34 (k := m + 1) (off := 0) rfl (dom_loc _ (by simp)) (look_loc _ hm 1) rfl rfl ?_) <;> first | rfl | exact AV.le.rfl _ | (simp only [patch, sl, ti34, List.map_nil, plA, plC, rtA, rtC, splice_all, Int.reduceBNe, Option.getD_none, Option.isSome_none, noRt, if_false, Bool.false_eq_true]; done) | rfl | skip) | (refine call_pure (cc) ?_) | (refine call_pure (cf) ?_) | (refine hK _ ?_; clear hK K) | refine awp_cond_t rfl ?_ | refine awp_cond_f rfl ?_ | refine awp_if rfl (fun hg => ?_) (fun hg => ?_) | ((first | show Program.eqGuardType _ _ _ = false | show numFieldsB _ _ _ = true | show Program.stoodInHeld _ _ = false); kernel_rfl) | clear hK K)
    | some x =>
      rw [hf] at cf
      refine acall_of 4 Try.func52 rfl fun n out _ _ => ?_
      simp only [Try.ntmps52, List.length_cons, List.length_nil, List.length_map, List.length_replicate, rep_map, Nat.reduceAdd, Nat.reduceSub, List.replicate, List.cons_append, List.nil_append]
      repeat' (first | (with_reducible first | refine awp_seq_k fun K hK => ?_ | refine awp_ev tab_ok [] ?_ | refine awp_skip ?_ | apply And.intro) | ((with_reducible first | refine gE ?_ | refine gR ?_); simp (maxSteps := 4000000) only [su, evLit, hbT, tab, thenA, blockA, reduceCtorEq, reduceIte, Nat.reduceEqDiff, Nat.reduceBEq, Int.reduceLE, Int.reduceToNat, Nat.reduceAdd, Nat.reduceLT, Nat.reduceLeDiff, plA, plC, rtA, rtC, splice_all, Int.reduceBNe, Option.getD_some, Option.isSome_some]) | (show (_ : Nat) = (_ : Nat); rfl) | ((with_reducible refine awp_ret ?_); (try refine Or.inr ⟨(by intro h; cases h), ?_⟩); (first | refine ret_ct (.inr rfl) rfl rfl rfl (fun _ _ => rfl) ok34 (k := n + 1) (off := 0) rfl (dom_loc _ (by simp)) (look_loc _ (Nat.le_refl _) 1) rfl rfl ?_ | refine ret_ct (.inr rfl) rfl rfl rfl (fun _ _ => rfl) ok34 (k := m + 1) (off := 0) rfl (dom_loc _ (by simp)) (look_loc _ hm 1) rfl rfl ?_) <;> first | rfl | exact AV.le.rfl _ | (simp only [patch, sl, ti34, List.map_nil, plA, plC, rtA, rtC, splice_all, Int.reduceBNe, Option.getD_some, Option.isSome_some]; done) | rfl | skip) | (refine call_pure (cc) ?_) | (refine call_pure (cf) ?_) | (refine hK _ ?_; clear hK K) | refine awp_cond_t rfl ?_ | refine awp_cond_f rfl ?_ | refine awp_if rfl (fun hg => ?_) (fun hg => ?_) | ((first | show Program.eqGuardType _ _ _ = false | show numFieldsB _ _ _ = true | show Program.stoodInHeld _ _ = false); kernel_rfl) | clear hK K)
theorem c_pSignal (p : Pl) (hs : Sm p) (b : Int) : ACall Try.prog 28 [plA p, i64 b] [] (.tup [sgA (elD (mayP p) (getG p.sgs b) ((0, 0, 0) : Int × Int × Int)), i64 (elE (mayP p) (getG p.sgs b))]) [] := by
  have cc := c_asked_sg p hs p.sgs (by have := hs.sgs; omega) b
  generalize elD (mayP p) (getG p.sgs b) ((0, 0, 0) : Int × Int × Int) = X at *
  generalize elE (mayP p) (getG p.sgs b) = E at *
  simp only [plA, plC] at cc
  refine acall_of 2 Try.func28 rfl fun n out _ _ => ?_
  simp only [Try.ntmps28, List.length_cons, List.length_nil, List.length_map, List.length_replicate, rep_map, Nat.reduceAdd, Nat.reduceSub, List.replicate, List.cons_append, List.nil_append]
  repeat' (first | (with_reducible first | refine awp_seq_k fun K hK => ?_ | refine awp_ev tab_ok [] ?_ | refine awp_skip ?_ | apply And.intro) | ((with_reducible first | refine gE ?_ | refine gR ?_); simp (maxSteps := 4000000) only [su, evLit, hbT, tab, thenA, blockA, reduceCtorEq, reduceIte, Nat.reduceEqDiff, Nat.reduceBEq, Int.reduceLE, Int.reduceToNat, Nat.reduceAdd, Nat.reduceLT, Nat.reduceLeDiff, plA, plC, sgA, sgC, splice_all]) | (show (_ : Nat) = (_ : Nat); rfl) | ((with_reducible refine awp_ret ?_); (try refine Or.inr ⟨(by intro h; cases h), ?_⟩); (first | refine ret_ct (.inr rfl) rfl rfl rfl (fun _ _ => rfl) ok36 (k := n + 1) (off := 0) rfl (dom_loc _ (by simp)) (look_loc _ (Nat.le_refl _) 1) rfl rfl ?_ | refine ret_ct (.inr rfl) rfl rfl rfl (fun _ _ => rfl) ok36 (k := m + 1) (off := 0) rfl (dom_loc _ (by simp)) (look_loc _ hm 1) rfl rfl ?_) <;> first | rfl | exact AV.le.rfl _ | (simp only [patch, sl, ti36, List.map_nil, plA, plC, sgA, sgC, splice_all]; done) | rfl | skip) | (refine call_pure (cc) ?_) | (refine hK _ ?_; clear hK K) | ((first | show Program.eqGuardType _ _ _ = false | show numFieldsB _ _ _ = true | show Program.stoodInHeld _ _ = false); kernel_rfl) | clear hK K)
theorem c_twin (r : Rt) (h : r.path.length ≤ 20 ∧ r.over.length ≤ 20 ∧ r.flanks.length ≤ 20) : ACall Try.prog 53 [rtA r] [] (rtA r) [] := by
  have c1 := c_clone_int (r.path.map intC) (by simp; omega)
  have c2 := c_clone_int (r.over.map intC) (by simp; omega)
  have c3 := c_clone_fl (r.flanks.map jnC) (by simp; omega)
  refine acall_of 2 Try.func53 rfl fun n out _ _ => ?_
  simp only [Try.ntmps53, List.length_cons, List.length_nil, List.length_map, List.length_replicate, rep_map, Nat.reduceAdd, Nat.reduceSub, List.replicate, List.cons_append, List.nil_append]
  repeat' (first | (with_reducible first | refine awp_seq_k fun K hK => ?_ | refine awp_ev tab_ok [] ?_ | refine awp_skip ?_ | apply And.intro) | (with_reducible refine awp_ev_draw (id := 1) tab_ok [] [[], [0], [], [], [0], [], [], [0], [], [], [0], [], [0], [], [0]] [[], [], [], [], [], [], [], [], [], [], [0], [], [0], [], [0]] follows (by kernel_rfl) (by decide) (by decide) (by kernel_rfl) ?_) | (with_reducible refine awp_ev_quiet tab_ok follows (by kernel_rfl) ?_) | ((with_reducible first | refine gE ?_ | refine gR ?_ | refine gD ?_ | refine gF ?_); simp (maxSteps := 4000000) only [su, evLit, hbT, tab, thenA, blockA, reduceCtorEq, reduceIte, Nat.reduceEqDiff, Nat.reduceBEq, Int.reduceLE, Int.reduceToNat, Nat.reduceAdd, Nat.reduceLT, Nat.reduceLeDiff, rtA, rtC, splice_all]) | (show (_ : Nat) = (_ : Nat); rfl) | ((with_reducible refine awp_ret ?_); (try refine Or.inr ⟨(by intro h; cases h), ?_⟩); (first | refine ret_cell_le (.inr rfl) rfl rfl rfl (fun _ _ => rfl) ok34 (k := n + 1) (off := 0) rfl (dom_loc _ (by simp)) (look_loc _ (Nat.le_refl _) 1) rfl ?_ | refine ret_cell_le (.inr rfl) rfl rfl rfl (fun _ _ => rfl) ok34 (k := m + 1) (off := 0) rfl (dom_loc _ (by simp)) (look_loc _ hm 1) rfl ?_) <;> first | rfl | exact AV.le.rfl _ | (simp only [patch, sl, ti34, List.map_nil, rtA, rtC, splice_all]; done) | rfl | skip) | (refine call_pure (c1) ?_) | (refine call_pure (c2) ?_) | (refine call_pure (c3) ?_) | (refine hK _ ?_; clear hK K) | ((first | show Program.eqGuardType _ _ _ = false | show numFieldsB _ _ _ = true | show Program.stoodInHeld _ _ = false); kernel_rfl) | clear hK K)
theorem elD_rt {p : Pl} (hs : Sm p) (b : Int) : (elD (mayP p) (getR p.rts b) noRt).path.length ≤ 20 ∧ (elD (mayP p) (getR p.rts b) noRt).over.length ≤ 20 ∧ (elD (mayP p) (getR p.rts b) noRt).flanks.length ≤ 20 := by
  unfold elD
  split
  · cases hg : getR p.rts b with
    | none => simp [noRt]
    | some r => exact hs.rt r (List.mem_of_find?_eq_some hg)
  · simp [noRt]
theorem c_pRoute (p : Pl) (hs : Sm p) (b : Int) : ACall Try.prog 22 [plA p, i64 b] [] (.tup [rtA (elD (mayP p) (getR p.rts b) noRt), i64 (elE (mayP p) (getR p.rts b))]) [] := by
  have cc := c_asked_rt p hs p.rts (by have := hs.rts; omega) b
  have ct := c_twin _ (elD_rt hs b)
  generalize elD (mayP p) (getR p.rts b) noRt = X at *
  generalize elE (mayP p) (getR p.rts b) = E at *
  simp only [plA, plC] at cc
  simp only [rtA, rtC] at ct
  refine acall_of 3 Try.func22 rfl fun n out _ _ => ?_
  simp only [Try.ntmps22, List.length_cons, List.length_nil, List.length_map, List.length_replicate, rep_map, Nat.reduceAdd, Nat.reduceSub, List.replicate, List.cons_append, List.nil_append]
  repeat' (first | (with_reducible first | refine awp_seq_k fun K hK => ?_ | refine awp_ev tab_ok [] ?_ | refine awp_skip ?_ | apply And.intro) | ((with_reducible first | refine gE ?_ | refine gR ?_); simp (maxSteps := 4000000) only [su, evLit, hbT, tab, thenA, blockA, reduceCtorEq, reduceIte, Nat.reduceEqDiff, Nat.reduceBEq, Int.reduceLE, Int.reduceToNat, Nat.reduceAdd, Nat.reduceLT, Nat.reduceLeDiff, plA, plC, rtA, rtC, splice_all]) | (show (_ : Nat) = (_ : Nat); rfl) | ((with_reducible refine awp_ret ?_); (try refine Or.inr ⟨(by intro h; cases h), ?_⟩); (first | refine ret_ct (.inr rfl) rfl rfl rfl (fun _ _ => rfl) ok34 (k := n + 1) (off := 0) rfl (dom_loc _ (by simp)) (look_loc _ (Nat.le_refl _) 1) rfl rfl ?_ | refine ret_ct (.inr rfl) rfl rfl rfl (fun _ _ => rfl) ok34 (k := m + 1) (off := 0) rfl (dom_loc _ (by simp)) (look_loc _ hm 1) rfl rfl ?_) <;> first | rfl | exact AV.le.rfl _ | (simp only [patch, sl, ti34, List.map_nil, plA, plC, rtA, rtC, splice_all]; done) | rfl | skip) | (refine call_pure (cc) ?_) | (refine call_pure (ct) ?_) | (refine hK _ ?_; clear hK K) | ((first | show Program.eqGuardType _ _ _ = false | show numFieldsB _ _ _ = true | show Program.stoodInHeld _ _ = false); kernel_rfl) | clear hK K)
end Go.Proofs.Ytcfkieacdjcaoaa.Pln
