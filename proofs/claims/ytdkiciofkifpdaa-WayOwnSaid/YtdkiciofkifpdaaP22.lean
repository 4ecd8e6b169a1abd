/-
  A plan's elements, told by the program.
-/
import Derived.Test.YtdkiciofkifpdaaP21
namespace Go.Proofs.Ytdkiciofkifpdaa.Pln
set_option linter.unusedVariables false
set_option linter.unusedSimpArgs false
open Go Go.VS Tab
set_option maxHeartbeats 8000000
set_option maxRecDepth 4000

def elD {α : Type} (may : Bool) (o : Option α) (z : α) : α := if may then o.getD z else z
def elE {α : Type} (may : Bool) (o : Option α) : Int := if may then (if o.isSome then 0 else 6) else 8
theorem c_asked_pt (p : Pl) (hs : Sm p) (l : List (Int × Int)) (hl : l.length ≤ 1000000) (b : Int) : ACall Try.prog 74 [plA p, .sl 2 (l.map jnC) .sh, i64 b] [] (.tup [jnA (elD (mayP p) (getP l b) ((0, 0) : Int × Int)), i64 (elE (mayP p) (getP l b))]) [] := by
  have cc := c_pcheck p hs
  have cf := c_find_pt l b hl
  cases hm : mayP p with
  | false =>
    rw [hm] at cc
    simp only [elD, elE, Bool.false_eq_true, if_false] at cc ⊢
    refine acall_of 4 Try.func74 rfl fun n out _ _ => ?_
    simp only [Try.ntmps74, List.length_cons, List.length_nil, List.length_map, List.length_replicate, rep_map, Nat.reduceAdd, Nat.reduceSub, List.replicate, List.cons_append, List.nil_append]
    repeat' (first
      | with_reducible refine awp_seq_k fun K hK => ?_
      | (with_reducible refine awp_ev tab_ok [] ?_)
      | (with_reducible refine awp_ev_quiet tab_ok follows (by kernel_rfl) ?_)
      | ((first | (with_reducible show evRun _ _ _ _ _ _ _ _) | (with_reducible show contR _ _ _ _ _ _) | (with_reducible show evRunD _ _ _ _ _ _ _ _ _) | (with_reducible show contD _ _ _ _ _ _)); simp (maxSteps := 4000000) only [sx, sy, ne_eq, eq_self, if_true, if_false, Nat.reduceEqDiff, hbT, evBuild, evLit, evMake, tab, isShift, thenA, blockA, reduceCtorEq, reduceIte, Nat.reduceBEq, Int.reduceLE, Int.reduceToNat, Nat.reduceAdd, Nat.reduceLT, Nat.reduceLeDiff, plA, plC, jnA, jnC, splice_all, Int.reduceBNe, noRt])
      | with_reducible refine awp_block_s ?_
      | with_reducible refine awp_block_c ?_
      | with_reducible refine awp_block_r ?_
      | with_reducible refine awp_skip ?_
      | with_reducible apply And.intro
      | (show Program.eqGuardType _ _ _ = false; kernel_rfl)
      | (show numFieldsB _ _ _ = true; kernel_rfl)
      | (show Program.stoodInHeld _ _ = false; kernel_rfl)
      | (show (_ : Nat) = (_ : Nat); rfl)
      | ((with_reducible refine awp_ret ?_); (first | refine ret_ct (.inr rfl) rfl rfl rfl (fun _ _ => rfl) ok44 (k := n + 1) (off := 0) rfl (dom_loc _ (by simp)) (look_loc _ (Nat.le_refl _) 1) rfl rfl ?_ | refine ret_ct (.inr rfl) rfl rfl rfl (fun _ _ => rfl) ok44 (k := m + 1) (off := 0) rfl (dom_loc _ (by simp)) (look_loc _ hm 1) rfl rfl ?_) <;> first | rfl | exact AV.le.rfl _ | (simp only [patch, sl, ti44, List.map_nil, plA, plC, jnA, jnC, splice_all, Int.reduceBNe, noRt]; done) | rfl | skip)
      | ((with_reducible refine awp_ret ?_); refine Or.inr ⟨(by intro h; cases h), ?_⟩; refine ret_ct (.inr rfl) rfl rfl rfl (fun _ _ => rfl) ok44 (k := n + 1) (off := 0) rfl (dom_loc _ (by simp)) (look_loc _ (Nat.le_refl _) 1) rfl rfl ?_ <;> first | rfl | exact AV.le.rfl _ | (simp only [patch, sl, ti44, List.map_nil, plA, plC, jnA, jnC, splice_all, Int.reduceBNe, noRt]; done) | rfl | skip)
      | (refine call_pure (cc) ?_)
      | ((with_reducible refine gsel_case (fun hg => ?_) (fun hg => ?_)) <;> (try simp only [Bool.not_eq_true', Bool.not_eq_false'] at hg) <;> simp (maxSteps := 4000000) only [sx, sy, ne_eq, eq_self, if_true, if_false, Nat.reduceEqDiff, hbT, evBuild, evLit, evMake, tab, isShift, thenA, blockA, reduceCtorEq, reduceIte, Nat.reduceBEq, Int.reduceLE, Int.reduceToNat, Nat.reduceAdd, Nat.reduceLT, Nat.reduceLeDiff, hg, plA, plC, jnA, jnC, splice_all, Int.reduceBNe, noRt])
      | ((with_reducible refine awp_exit ?_); simp only [thenA, blockA, if_true, if_false, reduceIte, Nat.reduceEqDiff])
      | (refine hK _ ?_; clear hK K)
      | refine awp_cond_t rfl ?_
      | refine awp_cond_f rfl ?_
      | refine awp_if rfl (fun hg => ?_) (fun hg => ?_)
      | (refine Or.inl ⟨rfl, ?_⟩; refine le_of_all ?_ ?_ rfl rfl rfl rfl <;> simp only [patch, sl, plA, plC, jnA, jnC, splice_all, Int.reduceBNe, noRt])
      | clear hK K)
  | true =>
    rw [hm] at cc
    simp only [elD, elE, if_true] at cc ⊢
    cases hf : getP l b with
    | none =>
      rw [hf] at cf
      refine acall_of 4 Try.func74 rfl fun n out _ _ => ?_
      simp only [Try.ntmps74, List.length_cons, List.length_nil, List.length_map, List.length_replicate, rep_map, Nat.reduceAdd, Nat.reduceSub, List.replicate, List.cons_append, List.nil_append]
      repeat' (first
        | with_reducible refine awp_seq_k fun K hK => ?_
        | (with_reducible refine awp_ev tab_ok [] ?_)
        | (with_reducible refine awp_ev_quiet tab_ok follows (by kernel_rfl) ?_)
        | ((first | (with_reducible show evRun _ _ _ _ _ _ _ _) | (with_reducible show contR _ _ _ _ _ _) | (with_reducible show evRunD _ _ _ _ _ _ _ _ _) | (with_reducible show contD _ _ _ _ _ _)); simp (maxSteps := 4000000) only [sx, sy, ne_eq, eq_self, if_true, if_false, Nat.reduceEqDiff, hbT, evBuild, evLit, evMake, tab, isShift, thenA, blockA, reduceCtorEq, reduceIte, Nat.reduceBEq, Int.reduceLE, Int.reduceToNat, Nat.reduceAdd, Nat.reduceLT, Nat.reduceLeDiff, plA, plC, jnA, jnC, splice_all, Int.reduceBNe, Option.getD_none, Option.isSome_none, noRt, if_false, Bool.false_eq_true])
        | with_reducible refine awp_block_s ?_
        | with_reducible refine awp_block_c ?_
        | with_reducible refine awp_block_r ?_
        | with_reducible refine awp_skip ?_
        | with_reducible apply And.intro
        | (show Program.eqGuardType _ _ _ = false; kernel_rfl)
        | (show numFieldsB _ _ _ = true; kernel_rfl)
        | (show Program.stoodInHeld _ _ = false; kernel_rfl)
        | (show (_ : Nat) = (_ : Nat); rfl)
        | ((with_reducible refine awp_ret ?_); (first | refine ret_ct (.inr rfl) rfl rfl rfl (fun _ _ => rfl) ok44 (k := n + 1) (off := 0) rfl (dom_loc _ (by simp)) (look_loc _ (Nat.le_refl _) 1) rfl rfl ?_ | refine ret_ct (.inr rfl) rfl rfl rfl (fun _ _ => rfl) ok44 (k := m + 1) (off := 0) rfl (dom_loc _ (by simp)) (look_loc _ hm 1) rfl rfl ?_) <;> first | rfl | exact AV.le.rfl _ | (simp only [patch, sl, ti44, List.map_nil, plA, plC, jnA, jnC, splice_all, Int.reduceBNe, Option.getD_none, Option.isSome_none, noRt, if_false, Bool.false_eq_true]; done) | rfl | skip)
        | ((with_reducible refine awp_ret ?_); refine Or.inr ⟨(by intro h; cases h), ?_⟩; refine ret_ct (.inr rfl) rfl rfl rfl (fun _ _ => rfl) ok44 (k := n + 1) (off := 0) rfl (dom_loc _ (by simp)) (look_loc _ (Nat.le_refl _) 1) rfl rfl ?_ <;> first | rfl | exact AV.le.rfl _ | (simp only [patch, sl, ti44, List.map_nil, plA, plC, jnA, jnC, splice_all, Int.reduceBNe, Option.getD_none, Option.isSome_none, noRt, if_false, Bool.false_eq_true]; done) | rfl | skip)
        | (refine call_pure (cc) ?_)
        | (refine call_pure (cf) ?_)
        | ((with_reducible refine gsel_case (fun hg => ?_) (fun hg => ?_)) <;> (try simp only [Bool.not_eq_true', Bool.not_eq_false'] at hg) <;> simp (maxSteps := 4000000) only [sx, sy, ne_eq, eq_self, if_true, if_false, Nat.reduceEqDiff, hbT, evBuild, evLit, evMake, tab, isShift, thenA, blockA, reduceCtorEq, reduceIte, Nat.reduceBEq, Int.reduceLE, Int.reduceToNat, Nat.reduceAdd, Nat.reduceLT, Nat.reduceLeDiff, hg, plA, plC, jnA, jnC, splice_all, Int.reduceBNe, Option.getD_none, Option.isSome_none, noRt, if_false, Bool.false_eq_true])
        | ((with_reducible refine awp_exit ?_); simp only [thenA, blockA, if_true, if_false, reduceIte, Nat.reduceEqDiff])
        | (refine hK _ ?_; clear hK K)
        | refine awp_cond_t rfl ?_
        | refine awp_cond_f rfl ?_
        | refine awp_if rfl (fun hg => ?_) (fun hg => ?_)
        | (refine Or.inl ⟨rfl, ?_⟩; refine le_of_all ?_ ?_ rfl rfl rfl rfl <;> simp only [patch, sl, plA, plC, jnA, jnC, splice_all, Int.reduceBNe, Option.getD_none, Option.isSome_none, noRt, if_false, Bool.false_eq_true])
        | clear hK K)
    | some x =>
      rw [hf] at cf
      refine acall_of 4 Try.func74 rfl fun n out _ _ => ?_
      simp only [Try.ntmps74, List.length_cons, List.length_nil, List.length_map, List.length_replicate, rep_map, Nat.reduceAdd, Nat.reduceSub, List.replicate, List.cons_append, List.nil_append]
      repeat' (first
        | with_reducible refine awp_seq_k fun K hK => ?_
        | (with_reducible refine awp_ev tab_ok [] ?_)
        | (with_reducible refine awp_ev_quiet tab_ok follows (by kernel_rfl) ?_)
        | ((first | (with_reducible show evRun _ _ _ _ _ _ _ _) | (with_reducible show contR _ _ _ _ _ _) | (with_reducible show evRunD _ _ _ _ _ _ _ _ _) | (with_reducible show contD _ _ _ _ _ _)); simp (maxSteps := 4000000) only [sx, sy, ne_eq, eq_self, if_true, if_false, Nat.reduceEqDiff, hbT, evBuild, evLit, evMake, tab, isShift, thenA, blockA, reduceCtorEq, reduceIte, Nat.reduceBEq, Int.reduceLE, Int.reduceToNat, Nat.reduceAdd, Nat.reduceLT, Nat.reduceLeDiff, plA, plC, jnA, jnC, splice_all, Int.reduceBNe, Option.getD_some, Option.isSome_some])
        | with_reducible refine awp_block_s ?_
        | with_reducible refine awp_block_c ?_
        | with_reducible refine awp_block_r ?_
        | with_reducible refine awp_skip ?_
        | with_reducible apply And.intro
        | (show Program.eqGuardType _ _ _ = false; kernel_rfl)
        | (show numFieldsB _ _ _ = true; kernel_rfl)
        | (show Program.stoodInHeld _ _ = false; kernel_rfl)
        | (show (_ : Nat) = (_ : Nat); rfl)
        | ((with_reducible refine awp_ret ?_); (first | refine ret_ct (.inr rfl) rfl rfl rfl (fun _ _ => rfl) ok44 (k := n + 1) (off := 0) rfl (dom_loc _ (by simp)) (look_loc _ (Nat.le_refl _) 1) rfl rfl ?_ | refine ret_ct (.inr rfl) rfl rfl rfl (fun _ _ => rfl) ok44 (k := m + 1) (off := 0) rfl (dom_loc _ (by simp)) (look_loc _ hm 1) rfl rfl ?_) <;> first | rfl | exact AV.le.rfl _ | (simp only [patch, sl, ti44, List.map_nil, plA, plC, jnA, jnC, splice_all, Int.reduceBNe, Option.getD_some, Option.isSome_some]; done) | rfl | skip)
        | ((with_reducible refine awp_ret ?_); refine Or.inr ⟨(by intro h; cases h), ?_⟩; refine ret_ct (.inr rfl) rfl rfl rfl (fun _ _ => rfl) ok44 (k := n + 1) (off := 0) rfl (dom_loc _ (by simp)) (look_loc _ (Nat.le_refl _) 1) rfl rfl ?_ <;> first | rfl | exact AV.le.rfl _ | (simp only [patch, sl, ti44, List.map_nil, plA, plC, jnA, jnC, splice_all, Int.reduceBNe, Option.getD_some, Option.isSome_some]; done) | rfl | skip)
        | (refine call_pure (cc) ?_)
        | (refine call_pure (cf) ?_)
        | ((with_reducible refine gsel_case (fun hg => ?_) (fun hg => ?_)) <;> (try simp only [Bool.not_eq_true', Bool.not_eq_false'] at hg) <;> simp (maxSteps := 4000000) only [sx, sy, ne_eq, eq_self, if_true, if_false, Nat.reduceEqDiff, hbT, evBuild, evLit, evMake, tab, isShift, thenA, blockA, reduceCtorEq, reduceIte, Nat.reduceBEq, Int.reduceLE, Int.reduceToNat, Nat.reduceAdd, Nat.reduceLT, Nat.reduceLeDiff, hg, plA, plC, jnA, jnC, splice_all, Int.reduceBNe, Option.getD_some, Option.isSome_some])
        | ((with_reducible refine awp_exit ?_); simp only [thenA, blockA, if_true, if_false, reduceIte, Nat.reduceEqDiff])
        | (refine hK _ ?_; clear hK K)
        | refine awp_cond_t rfl ?_
        | refine awp_cond_f rfl ?_
        | refine awp_if rfl (fun hg => ?_) (fun hg => ?_)
        | (refine Or.inl ⟨rfl, ?_⟩; refine le_of_all ?_ ?_ rfl rfl rfl rfl <;> simp only [patch, sl, plA, plC, jnA, jnC, splice_all, Int.reduceBNe, Option.getD_some, Option.isSome_some])
        | clear hK K)
theorem c_asked_sg (p : Pl) (hs : Sm p) (l : List (Int × Int × Int)) (hl : l.length ≤ 1000000) (b : Int) : ACall Try.prog 72 [plA p, .sl 3 (l.map sgC) .sh, i64 b] [] (.tup [sgA (elD (mayP p) (getG l b) ((0, 0, 0) : Int × Int × Int)), i64 (elE (mayP p) (getG l b))]) [] := by
  have cc := c_pcheck p hs
  have cf := c_find_sg l b hl
  cases hm : mayP p with
  | false =>
    rw [hm] at cc
    simp only [elD, elE, Bool.false_eq_true, if_false] at cc ⊢
    refine acall_of 4 Try.func72 rfl fun n out _ _ => ?_
    simp only [Try.ntmps72, List.length_cons, List.length_nil, List.length_map, List.length_replicate, rep_map, Nat.reduceAdd, Nat.reduceSub, List.replicate, List.cons_append, List.nil_append]
    repeat' (first
      | with_reducible refine awp_seq_k fun K hK => ?_
      | (with_reducible refine awp_ev tab_ok [] ?_)
      | (with_reducible refine awp_ev_quiet tab_ok follows (by kernel_rfl) ?_)
      | ((first | (with_reducible show evRun _ _ _ _ _ _ _ _) | (with_reducible show contR _ _ _ _ _ _) | (with_reducible show evRunD _ _ _ _ _ _ _ _ _) | (with_reducible show contD _ _ _ _ _ _)); simp (maxSteps := 4000000) only [sx, sy, ne_eq, eq_self, if_true, if_false, Nat.reduceEqDiff, hbT, evBuild, evLit, evMake, tab, isShift, thenA, blockA, reduceCtorEq, reduceIte, Nat.reduceBEq, Int.reduceLE, Int.reduceToNat, Nat.reduceAdd, Nat.reduceLT, Nat.reduceLeDiff, plA, plC, sgA, sgC, splice_all, Int.reduceBNe, noRt])
      | with_reducible refine awp_block_s ?_
      | with_reducible refine awp_block_c ?_
      | with_reducible refine awp_block_r ?_
      | with_reducible refine awp_skip ?_
      | with_reducible apply And.intro
      | (show Program.eqGuardType _ _ _ = false; kernel_rfl)
      | (show numFieldsB _ _ _ = true; kernel_rfl)
      | (show Program.stoodInHeld _ _ = false; kernel_rfl)
      | (show (_ : Nat) = (_ : Nat); rfl)
      | ((with_reducible refine awp_ret ?_); (first | refine ret_ct (.inr rfl) rfl rfl rfl (fun _ _ => rfl) ok48 (k := n + 1) (off := 0) rfl (dom_loc _ (by simp)) (look_loc _ (Nat.le_refl _) 1) rfl rfl ?_ | refine ret_ct (.inr rfl) rfl rfl rfl (fun _ _ => rfl) ok48 (k := m + 1) (off := 0) rfl (dom_loc _ (by simp)) (look_loc _ hm 1) rfl rfl ?_) <;> first | rfl | exact AV.le.rfl _ | (simp only [patch, sl, ti48, List.map_nil, plA, plC, sgA, sgC, splice_all, Int.reduceBNe, noRt]; done) | rfl | skip)
      | ((with_reducible refine awp_ret ?_); refine Or.inr ⟨(by intro h; cases h), ?_⟩; refine ret_ct (.inr rfl) rfl rfl rfl (fun _ _ => rfl) ok48 (k := n + 1) (off := 0) rfl (dom_loc _ (by simp)) (look_loc _ (Nat.le_refl _) 1) rfl rfl ?_ <;> first | rfl | exact AV.le.rfl _ | (simp only [patch, sl, ti48, List.map_nil, plA, plC, sgA, sgC, splice_all, Int.reduceBNe, noRt]; done) | rfl | skip)
      | (refine call_pure (cc) ?_)
      | ((with_reducible refine gsel_case (fun hg => ?_) (fun hg => ?_)) <;> (try simp only [Bool.not_eq_true', Bool.not_eq_false'] at hg) <;> simp (maxSteps := 4000000) only [sx, sy, ne_eq, eq_self, if_true, if_false, Nat.reduceEqDiff, hbT, evBuild, evLit, evMake, tab, isShift, thenA, blockA, reduceCtorEq, reduceIte, Nat.reduceBEq, Int.reduceLE, Int.reduceToNat, Nat.reduceAdd, Nat.reduceLT, Nat.reduceLeDiff, hg, plA, plC, sgA, sgC, splice_all, Int.reduceBNe, noRt])
      | ((with_reducible refine awp_exit ?_); simp only [thenA, blockA, if_true, if_false, reduceIte, Nat.reduceEqDiff])
      | (refine hK _ ?_; clear hK K)
      | refine awp_cond_t rfl ?_
      | refine awp_cond_f rfl ?_
      | refine awp_if rfl (fun hg => ?_) (fun hg => ?_)
      | (refine Or.inl ⟨rfl, ?_⟩; refine le_of_all ?_ ?_ rfl rfl rfl rfl <;> simp only [patch, sl, plA, plC, sgA, sgC, splice_all, Int.reduceBNe, noRt])
      | clear hK K)
  | true =>
    rw [hm] at cc
    simp only [elD, elE, if_true] at cc ⊢
    cases hf : getG l b with
    | none =>
      rw [hf] at cf
      refine acall_of 4 Try.func72 rfl fun n out _ _ => ?_
      simp only [Try.ntmps72, List.length_cons, List.length_nil, List.length_map, List.length_replicate, rep_map, Nat.reduceAdd, Nat.reduceSub, List.replicate, List.cons_append, List.nil_append]
      repeat' (first
        | with_reducible refine awp_seq_k fun K hK => ?_
        | (with_reducible refine awp_ev tab_ok [] ?_)
        | (with_reducible refine awp_ev_quiet tab_ok follows (by kernel_rfl) ?_)
        | ((first | (with_reducible show evRun _ _ _ _ _ _ _ _) | (with_reducible show contR _ _ _ _ _ _) | (with_reducible show evRunD _ _ _ _ _ _ _ _ _) | (with_reducible show contD _ _ _ _ _ _)); simp (maxSteps := 4000000) only [sx, sy, ne_eq, eq_self, if_true, if_false, Nat.reduceEqDiff, hbT, evBuild, evLit, evMake, tab, isShift, thenA, blockA, reduceCtorEq, reduceIte, Nat.reduceBEq, Int.reduceLE, Int.reduceToNat, Nat.reduceAdd, Nat.reduceLT, Nat.reduceLeDiff, plA, plC, sgA, sgC, splice_all, Int.reduceBNe, Option.getD_none, Option.isSome_none, noRt, if_false, Bool.false_eq_true])
        | with_reducible refine awp_block_s ?_
        | with_reducible refine awp_block_c ?_
        | with_reducible refine awp_block_r ?_
        | with_reducible refine awp_skip ?_
        | with_reducible apply And.intro
        | (show Program.eqGuardType _ _ _ = false; kernel_rfl)
        | (show numFieldsB _ _ _ = true; kernel_rfl)
        | (show Program.stoodInHeld _ _ = false; kernel_rfl)
        | (show (_ : Nat) = (_ : Nat); rfl)
        | ((with_reducible refine awp_ret ?_); (first | refine ret_ct (.inr rfl) rfl rfl rfl (fun _ _ => rfl) ok48 (k := n + 1) (off := 0) rfl (dom_loc _ (by simp)) (look_loc _ (Nat.le_refl _) 1) rfl rfl ?_ | refine ret_ct (.inr rfl) rfl rfl rfl (fun _ _ => rfl) ok48 (k := m + 1) (off := 0) rfl (dom_loc _ (by simp)) (look_loc _ hm 1) rfl rfl ?_) <;> first | rfl | exact AV.le.rfl _ | (simp only [patch, sl, ti48, List.map_nil, plA, plC, sgA, sgC, splice_all, Int.reduceBNe, Option.getD_none, Option.isSome_none, noRt, if_false, Bool.false_eq_true]; done) | rfl | skip)
        | ((with_reducible refine awp_ret ?_); refine Or.inr ⟨(by intro h; cases h), ?_⟩; refine ret_ct (.inr rfl) rfl rfl rfl (fun _ _ => rfl) ok48 (k := n + 1) (off := 0) rfl (dom_loc _ (by simp)) (look_loc _ (Nat.le_refl _) 1) rfl rfl ?_ <;> first | rfl | exact AV.le.rfl _ | (simp only [patch, sl, ti48, List.map_nil, plA, plC, sgA, sgC, splice_all, Int.reduceBNe, Option.getD_none, Option.isSome_none, noRt, if_false, Bool.false_eq_true]; done) | rfl | skip)
        | (refine call_pure (cc) ?_)
        | (refine call_pure (cf) ?_)
        | ((with_reducible refine gsel_case (fun hg => ?_) (fun hg => ?_)) <;> (try simp only [Bool.not_eq_true', Bool.not_eq_false'] at hg) <;> simp (maxSteps := 4000000) only [sx, sy, ne_eq, eq_self, if_true, if_false, Nat.reduceEqDiff, hbT, evBuild, evLit, evMake, tab, isShift, thenA, blockA, reduceCtorEq, reduceIte, Nat.reduceBEq, Int.reduceLE, Int.reduceToNat, Nat.reduceAdd, Nat.reduceLT, Nat.reduceLeDiff, hg, plA, plC, sgA, sgC, splice_all, Int.reduceBNe, Option.getD_none, Option.isSome_none, noRt, if_false, Bool.false_eq_true])
        | ((with_reducible refine awp_exit ?_); simp only [thenA, blockA, if_true, if_false, reduceIte, Nat.reduceEqDiff])
        | (refine hK _ ?_; clear hK K)
        | refine awp_cond_t rfl ?_
        | refine awp_cond_f rfl ?_
        | refine awp_if rfl (fun hg => ?_) (fun hg => ?_)
        | (refine Or.inl ⟨rfl, ?_⟩; refine le_of_all ?_ ?_ rfl rfl rfl rfl <;> simp only [patch, sl, plA, plC, sgA, sgC, splice_all, Int.reduceBNe, Option.getD_none, Option.isSome_none, noRt, if_false, Bool.false_eq_true])
        | clear hK K)
    | some x =>
      rw [hf] at cf
      refine acall_of 4 Try.func72 rfl fun n out _ _ => ?_
      simp only [Try.ntmps72, List.length_cons, List.length_nil, List.length_map, List.length_replicate, rep_map, Nat.reduceAdd, Nat.reduceSub, List.replicate, List.cons_append, List.nil_append]
      repeat' (first
        | with_reducible refine awp_seq_k fun K hK => ?_
        | (with_reducible refine awp_ev tab_ok [] ?_)
        | (with_reducible refine awp_ev_quiet tab_ok follows (by kernel_rfl) ?_)
        | ((first | (with_reducible show evRun _ _ _ _ _ _ _ _) | (with_reducible show contR _ _ _ _ _ _) | (with_reducible show evRunD _ _ _ _ _ _ _ _ _) | (with_reducible show contD _ _ _ _ _ _)); simp (maxSteps := 4000000) only [sx, sy, ne_eq, eq_self, if_true, if_false, Nat.reduceEqDiff, hbT, evBuild, evLit, evMake, tab, isShift, thenA, blockA, reduceCtorEq, reduceIte, Nat.reduceBEq, Int.reduceLE, Int.reduceToNat, Nat.reduceAdd, Nat.reduceLT, Nat.reduceLeDiff, plA, plC, sgA, sgC, splice_all, Int.reduceBNe, Option.getD_some, Option.isSome_some])
        | with_reducible refine awp_block_s ?_
        | with_reducible refine awp_block_c ?_
        | with_reducible refine awp_block_r ?_
        | with_reducible refine awp_skip ?_
        | with_reducible apply And.intro
        | (show Program.eqGuardType _ _ _ = false; kernel_rfl)
        | (show numFieldsB _ _ _ = true; kernel_rfl)
        | (show Program.stoodInHeld _ _ = false; kernel_rfl)
        | (show (_ : Nat) = (_ : Nat); rfl)
        | ((with_reducible refine awp_ret ?_); (first | refine ret_ct (.inr rfl) rfl rfl rfl (fun _ _ => rfl) ok48 (k := n + 1) (off := 0) rfl (dom_loc _ (by simp)) (look_loc _ (Nat.le_refl _) 1) rfl rfl ?_ | refine ret_ct (.inr rfl) rfl rfl rfl (fun _ _ => rfl) ok48 (k := m + 1) (off := 0) rfl (dom_loc _ (by simp)) (look_loc _ hm 1) rfl rfl ?_) <;> first | rfl | exact AV.le.rfl _ | (simp only [patch, sl, ti48, List.map_nil, plA, plC, sgA, sgC, splice_all, Int.reduceBNe, Option.getD_some, Option.isSome_some]; done) | rfl | skip)
        | ((with_reducible refine awp_ret ?_); refine Or.inr ⟨(by intro h; cases h), ?_⟩; refine ret_ct (.inr rfl) rfl rfl rfl (fun _ _ => rfl) ok48 (k := n + 1) (off := 0) rfl (dom_loc _ (by simp)) (look_loc _ (Nat.le_refl _) 1) rfl rfl ?_ <;> first | rfl | exact AV.le.rfl _ | (simp only [patch, sl, ti48, List.map_nil, plA, plC, sgA, sgC, splice_all, Int.reduceBNe, Option.getD_some, Option.isSome_some]; done) | rfl | skip)
        | (refine call_pure (cc) ?_)
        | (refine call_pure (cf) ?_)
        | ((with_reducible refine gsel_case (fun hg => ?_) (fun hg => ?_)) <;> (try simp only [Bool.not_eq_true', Bool.not_eq_false'] at hg) <;> simp (maxSteps := 4000000) only [sx, sy, ne_eq, eq_self, if_true, if_false, Nat.reduceEqDiff, hbT, evBuild, evLit, evMake, tab, isShift, thenA, blockA, reduceCtorEq, reduceIte, Nat.reduceBEq, Int.reduceLE, Int.reduceToNat, Nat.reduceAdd, Nat.reduceLT, Nat.reduceLeDiff, hg, plA, plC, sgA, sgC, splice_all, Int.reduceBNe, Option.getD_some, Option.isSome_some])
        | ((with_reducible refine awp_exit ?_); simp only [thenA, blockA, if_true, if_false, reduceIte, Nat.reduceEqDiff])
        | (refine hK _ ?_; clear hK K)
        | refine awp_cond_t rfl ?_
        | refine awp_cond_f rfl ?_
        | refine awp_if rfl (fun hg => ?_) (fun hg => ?_)
        | (refine Or.inl ⟨rfl, ?_⟩; refine le_of_all ?_ ?_ rfl rfl rfl rfl <;> simp only [patch, sl, plA, plC, sgA, sgC, splice_all, Int.reduceBNe, Option.getD_some, Option.isSome_some])
        | clear hK K)
theorem c_asked_rt (p : Pl) (hs : Sm p) (l : List (Rt)) (hl : l.length ≤ 1000000) (b : Int) : ACall Try.prog 73 [plA p, .sl 7 (l.map rtC) .sh, i64 b] [] (.tup [rtA (elD (mayP p) (getR l b) noRt), i64 (elE (mayP p) (getR l b))]) [] := by
  have cc := c_pcheck p hs
  have cf := c_find_rt l b hl
  cases hm : mayP p with
  | false =>
    rw [hm] at cc
    simp only [elD, elE, Bool.false_eq_true, if_false] at cc ⊢
    refine acall_of 4 Try.func73 rfl fun n out _ _ => ?_
    simp only [Try.ntmps73, List.length_cons, List.length_nil, List.length_map, List.length_replicate, rep_map, Nat.reduceAdd, Nat.reduceSub, List.replicate, List.cons_append, List.nil_append]
    repeat' (first
      | with_reducible refine awp_seq_k fun K hK => ?_
      | (with_reducible refine awp_ev tab_ok [] ?_)
      | (with_reducible refine awp_ev_quiet tab_ok follows (by kernel_rfl) ?_)
      | ((first | (with_reducible show evRun _ _ _ _ _ _ _ _) | (with_reducible show contR _ _ _ _ _ _) | (with_reducible show evRunD _ _ _ _ _ _ _ _ _) | (with_reducible show contD _ _ _ _ _ _)); simp (maxSteps := 4000000) only [sx, sy, ne_eq, eq_self, if_true, if_false, Nat.reduceEqDiff, hbT, evBuild, evLit, evMake, tab, isShift, thenA, blockA, reduceCtorEq, reduceIte, Nat.reduceBEq, Int.reduceLE, Int.reduceToNat, Nat.reduceAdd, Nat.reduceLT, Nat.reduceLeDiff, plA, plC, rtA, rtC, splice_all, Int.reduceBNe, noRt])
      | with_reducible refine awp_block_s ?_
      | with_reducible refine awp_block_c ?_
      | with_reducible refine awp_block_r ?_
      | with_reducible refine awp_skip ?_
      | with_reducible apply And.intro
      | (show Program.eqGuardType _ _ _ = false; kernel_rfl)
      | (show numFieldsB _ _ _ = true; kernel_rfl)
      | (show Program.stoodInHeld _ _ = false; kernel_rfl)
      | (show (_ : Nat) = (_ : Nat); rfl)
      | ((with_reducible refine awp_ret ?_); (first | refine ret_ct (.inr rfl) rfl rfl rfl (fun _ _ => rfl) ok34 (k := n + 1) (off := 0) rfl (dom_loc _ (by simp)) (look_loc _ (Nat.le_refl _) 1) rfl rfl ?_ | refine ret_ct (.inr rfl) rfl rfl rfl (fun _ _ => rfl) ok34 (k := m + 1) (off := 0) rfl (dom_loc _ (by simp)) (look_loc _ hm 1) rfl rfl ?_) <;> first | rfl | exact AV.le.rfl _ | (simp only [patch, sl, ti34, List.map_nil, plA, plC, rtA, rtC, splice_all, Int.reduceBNe, noRt]; done) | rfl | skip)
      | ((with_reducible refine awp_ret ?_); refine Or.inr ⟨(by intro h; cases h), ?_⟩; refine ret_ct (.inr rfl) rfl rfl rfl (fun _ _ => rfl) ok34 (k := n + 1) (off := 0) rfl (dom_loc _ (by simp)) (look_loc _ (Nat.le_refl _) 1) rfl rfl ?_ <;> first | rfl | exact AV.le.rfl _ | (simp only [patch, sl, ti34, List.map_nil, plA, plC, rtA, rtC, splice_all, Int.reduceBNe, noRt]; done) | rfl | skip)
      | (refine call_pure (cc) ?_)
      | ((with_reducible refine gsel_case (fun hg => ?_) (fun hg => ?_)) <;> (try simp only [Bool.not_eq_true', Bool.not_eq_false'] at hg) <;> simp (maxSteps := 4000000) only [sx, sy, ne_eq, eq_self, if_true, if_false, Nat.reduceEqDiff, hbT, evBuild, evLit, evMake, tab, isShift, thenA, blockA, reduceCtorEq, reduceIte, Nat.reduceBEq, Int.reduceLE, Int.reduceToNat, Nat.reduceAdd, Nat.reduceLT, Nat.reduceLeDiff, hg, plA, plC, rtA, rtC, splice_all, Int.reduceBNe, noRt])
      | ((with_reducible refine awp_exit ?_); simp only [thenA, blockA, if_true, if_false, reduceIte, Nat.reduceEqDiff])
      | (refine hK _ ?_; clear hK K)
      | refine awp_cond_t rfl ?_
      | refine awp_cond_f rfl ?_
      | refine awp_if rfl (fun hg => ?_) (fun hg => ?_)
      | (refine Or.inl ⟨rfl, ?_⟩; refine le_of_all ?_ ?_ rfl rfl rfl rfl <;> simp only [patch, sl, plA, plC, rtA, rtC, splice_all, Int.reduceBNe, noRt])
      | clear hK K)
  | true =>
    rw [hm] at cc
    simp only [elD, elE, if_true] at cc ⊢
    cases hf : getR l b with
    | none =>
      rw [hf] at cf
      refine acall_of 4 Try.func73 rfl fun n out _ _ => ?_
      simp only [Try.ntmps73, List.length_cons, List.length_nil, List.length_map, List.length_replicate, rep_map, Nat.reduceAdd, Nat.reduceSub, List.replicate, List.cons_append, List.nil_append]
      repeat' (first
        | with_reducible refine awp_seq_k fun K hK => ?_
        | (with_reducible refine awp_ev tab_ok [] ?_)
        | (with_reducible refine awp_ev_quiet tab_ok follows (by kernel_rfl) ?_)
        | ((first | (with_reducible show evRun _ _ _ _ _ _ _ _) | (with_reducible show contR _ _ _ _ _ _) | (with_reducible show evRunD _ _ _ _ _ _ _ _ _) | (with_reducible show contD _ _ _ _ _ _)); simp (maxSteps := 4000000) only [sx, sy, ne_eq, eq_self, if_true, if_false, Nat.reduceEqDiff, hbT, evBuild, evLit, evMake, tab, isShift, thenA, blockA, reduceCtorEq, reduceIte, Nat.reduceBEq, Int.reduceLE, Int.reduceToNat, Nat.reduceAdd, Nat.reduceLT, Nat.reduceLeDiff, plA, plC, rtA, rtC, splice_all, Int.reduceBNe, Option.getD_none, Option.isSome_none, noRt, if_false, Bool.false_eq_true])
        | with_reducible refine awp_block_s ?_
        | with_reducible refine awp_block_c ?_
        | with_reducible refine awp_block_r ?_
        | with_reducible refine awp_skip ?_
        | with_reducible apply And.intro
        | (show Program.eqGuardType _ _ _ = false; kernel_rfl)
        | (show numFieldsB _ _ _ = true; kernel_rfl)
        | (show Program.stoodInHeld _ _ = false; kernel_rfl)
        | (show (_ : Nat) = (_ : Nat); rfl)
        | ((with_reducible refine awp_ret ?_); (first | refine ret_ct (.inr rfl) rfl rfl rfl (fun _ _ => rfl) ok34 (k := n + 1) (off := 0) rfl (dom_loc _ (by simp)) (look_loc _ (Nat.le_refl _) 1) rfl rfl ?_ | refine ret_ct (.inr rfl) rfl rfl rfl (fun _ _ => rfl) ok34 (k := m + 1) (off := 0) rfl (dom_loc _ (by simp)) (look_loc _ hm 1) rfl rfl ?_) <;> first | rfl | exact AV.le.rfl _ | (simp only [patch, sl, ti34, List.map_nil, plA, plC, rtA, rtC, splice_all, Int.reduceBNe, Option.getD_none, Option.isSome_none, noRt, if_false, Bool.false_eq_true]; done) | rfl | skip)
        | ((with_reducible refine awp_ret ?_); refine Or.inr ⟨(by intro h; cases h), ?_⟩; refine ret_ct (.inr rfl) rfl rfl rfl (fun _ _ => rfl) ok34 (k := n + 1) (off := 0) rfl (dom_loc _ (by simp)) (look_loc _ (Nat.le_refl _) 1) rfl rfl ?_ <;> first | rfl | exact AV.le.rfl _ | (simp only [patch, sl, ti34, List.map_nil, plA, plC, rtA, rtC, splice_all, Int.reduceBNe, Option.getD_none, Option.isSome_none, noRt, if_false, Bool.false_eq_true]; done) | rfl | skip)
        | (refine call_pure (cc) ?_)
        | (refine call_pure (cf) ?_)
        | ((with_reducible refine gsel_case (fun hg => ?_) (fun hg => ?_)) <;> (try simp only [Bool.not_eq_true', Bool.not_eq_false'] at hg) <;> simp (maxSteps := 4000000) only [sx, sy, ne_eq, eq_self, if_true, if_false, Nat.reduceEqDiff, hbT, evBuild, evLit, evMake, tab, isShift, thenA, blockA, reduceCtorEq, reduceIte, Nat.reduceBEq, Int.reduceLE, Int.reduceToNat, Nat.reduceAdd, Nat.reduceLT, Nat.reduceLeDiff, hg, plA, plC, rtA, rtC, splice_all, Int.reduceBNe, Option.getD_none, Option.isSome_none, noRt, if_false, Bool.false_eq_true])
        | ((with_reducible refine awp_exit ?_); simp only [thenA, blockA, if_true, if_false, reduceIte, Nat.reduceEqDiff])
        | (refine hK _ ?_; clear hK K)
        | refine awp_cond_t rfl ?_
        | refine awp_cond_f rfl ?_
        | refine awp_if rfl (fun hg => ?_) (fun hg => ?_)
        | (refine Or.inl ⟨rfl, ?_⟩; refine le_of_all ?_ ?_ rfl rfl rfl rfl <;> simp only [patch, sl, plA, plC, rtA, rtC, splice_all, Int.reduceBNe, Option.getD_none, Option.isSome_none, noRt, if_false, Bool.false_eq_true])
        | clear hK K)
    | some x =>
      rw [hf] at cf
      refine acall_of 4 Try.func73 rfl fun n out _ _ => ?_
      simp only [Try.ntmps73, List.length_cons, List.length_nil, List.length_map, List.length_replicate, rep_map, Nat.reduceAdd, Nat.reduceSub, List.replicate, List.cons_append, List.nil_append]
      repeat' (first
        | with_reducible refine awp_seq_k fun K hK => ?_
        | (with_reducible refine awp_ev tab_ok [] ?_)
        | (with_reducible refine awp_ev_quiet tab_ok follows (by kernel_rfl) ?_)
        | ((first | (with_reducible show evRun _ _ _ _ _ _ _ _) | (with_reducible show contR _ _ _ _ _ _) | (with_reducible show evRunD _ _ _ _ _ _ _ _ _) | (with_reducible show contD _ _ _ _ _ _)); simp (maxSteps := 4000000) only [sx, sy, ne_eq, eq_self, if_true, if_false, Nat.reduceEqDiff, hbT, evBuild, evLit, evMake, tab, isShift, thenA, blockA, reduceCtorEq, reduceIte, Nat.reduceBEq, Int.reduceLE, Int.reduceToNat, Nat.reduceAdd, Nat.reduceLT, Nat.reduceLeDiff, plA, plC, rtA, rtC, splice_all, Int.reduceBNe, Option.getD_some, Option.isSome_some])
        | with_reducible refine awp_block_s ?_
        | with_reducible refine awp_block_c ?_
        | with_reducible refine awp_block_r ?_
        | with_reducible refine awp_skip ?_
        | with_reducible apply And.intro
        | (show Program.eqGuardType _ _ _ = false; kernel_rfl)
        | (show numFieldsB _ _ _ = true; kernel_rfl)
        | (show Program.stoodInHeld _ _ = false; kernel_rfl)
        | (show (_ : Nat) = (_ : Nat); rfl)
        | ((with_reducible refine awp_ret ?_); (first | refine ret_ct (.inr rfl) rfl rfl rfl (fun _ _ => rfl) ok34 (k := n + 1) (off := 0) rfl (dom_loc _ (by simp)) (look_loc _ (Nat.le_refl _) 1) rfl rfl ?_ | refine ret_ct (.inr rfl) rfl rfl rfl (fun _ _ => rfl) ok34 (k := m + 1) (off := 0) rfl (dom_loc _ (by simp)) (look_loc _ hm 1) rfl rfl ?_) <;> first | rfl | exact AV.le.rfl _ | (simp only [patch, sl, ti34, List.map_nil, plA, plC, rtA, rtC, splice_all, Int.reduceBNe, Option.getD_some, Option.isSome_some]; done) | rfl | skip)
        | ((with_reducible refine awp_ret ?_); refine Or.inr ⟨(by intro h; cases h), ?_⟩; refine ret_ct (.inr rfl) rfl rfl rfl (fun _ _ => rfl) ok34 (k := n + 1) (off := 0) rfl (dom_loc _ (by simp)) (look_loc _ (Nat.le_refl _) 1) rfl rfl ?_ <;> first | rfl | exact AV.le.rfl _ | (simp only [patch, sl, ti34, List.map_nil, plA, plC, rtA, rtC, splice_all, Int.reduceBNe, Option.getD_some, Option.isSome_some]; done) | rfl | skip)
        | (refine call_pure (cc) ?_)
        | (refine call_pure (cf) ?_)
        | ((with_reducible refine gsel_case (fun hg => ?_) (fun hg => ?_)) <;> (try simp only [Bool.not_eq_true', Bool.not_eq_false'] at hg) <;> simp (maxSteps := 4000000) only [sx, sy, ne_eq, eq_self, if_true, if_false, Nat.reduceEqDiff, hbT, evBuild, evLit, evMake, tab, isShift, thenA, blockA, reduceCtorEq, reduceIte, Nat.reduceBEq, Int.reduceLE, Int.reduceToNat, Nat.reduceAdd, Nat.reduceLT, Nat.reduceLeDiff, hg, plA, plC, rtA, rtC, splice_all, Int.reduceBNe, Option.getD_some, Option.isSome_some])
        | ((with_reducible refine awp_exit ?_); simp only [thenA, blockA, if_true, if_false, reduceIte, Nat.reduceEqDiff])
        | (refine hK _ ?_; clear hK K)
        | refine awp_cond_t rfl ?_
        | refine awp_cond_f rfl ?_
        | refine awp_if rfl (fun hg => ?_) (fun hg => ?_)
        | (refine Or.inl ⟨rfl, ?_⟩; refine le_of_all ?_ ?_ rfl rfl rfl rfl <;> simp only [patch, sl, plA, plC, rtA, rtC, splice_all, Int.reduceBNe, Option.getD_some, Option.isSome_some])
        | clear hK K)
theorem c_pPoint (p : Pl) (hs : Sm p) (b : Int) : ACall Try.prog 25 [plA p, i64 b] [] (.tup [jnA (elD (mayP p) (getP p.pts b) ((0, 0) : Int × Int)), i64 (elE (mayP p) (getP p.pts b))]) [] := by
  have cc := c_asked_pt p hs p.pts (by have := hs.pts; omega) b
  generalize elD (mayP p) (getP p.pts b) ((0, 0) : Int × Int) = X at *
  generalize elE (mayP p) (getP p.pts b) = E at *
  simp only [plA, plC] at cc
  refine acall_of 2 Try.func25 rfl fun n out _ _ => ?_
  simp only [Try.ntmps25, List.length_cons, List.length_nil, List.length_map, List.length_replicate, rep_map, Nat.reduceAdd, Nat.reduceSub, List.replicate, List.cons_append, List.nil_append]
  repeat' (first
    | with_reducible refine awp_seq_k fun K hK => ?_
    | (with_reducible refine awp_ev tab_ok [] ?_)
    | (with_reducible refine awp_ev_quiet tab_ok follows (by kernel_rfl) ?_)
    | ((first | (with_reducible show evRun _ _ _ _ _ _ _ _) | (with_reducible show contR _ _ _ _ _ _) | (with_reducible show evRunD _ _ _ _ _ _ _ _ _) | (with_reducible show contD _ _ _ _ _ _)); simp (maxSteps := 4000000) only [sx, sy, ne_eq, eq_self, if_true, if_false, Nat.reduceEqDiff, hbT, evBuild, evLit, evMake, tab, isShift, thenA, blockA, reduceCtorEq, reduceIte, Nat.reduceBEq, Int.reduceLE, Int.reduceToNat, Nat.reduceAdd, Nat.reduceLT, Nat.reduceLeDiff, plA, plC, jnA, jnC, splice_all])
    | with_reducible refine awp_block_s ?_
    | with_reducible refine awp_block_c ?_
    | with_reducible refine awp_block_r ?_
    | with_reducible refine awp_skip ?_
    | with_reducible apply And.intro
    | (show Program.eqGuardType _ _ _ = false; kernel_rfl)
    | (show numFieldsB _ _ _ = true; kernel_rfl)
    | (show Program.stoodInHeld _ _ = false; kernel_rfl)
    | (show (_ : Nat) = (_ : Nat); rfl)
    | ((with_reducible refine awp_ret ?_); (first | refine ret_ct (.inr rfl) rfl rfl rfl (fun _ _ => rfl) ok44 (k := n + 1) (off := 0) rfl (dom_loc _ (by simp)) (look_loc _ (Nat.le_refl _) 1) rfl rfl ?_ | refine ret_ct (.inr rfl) rfl rfl rfl (fun _ _ => rfl) ok44 (k := m + 1) (off := 0) rfl (dom_loc _ (by simp)) (look_loc _ hm 1) rfl rfl ?_) <;> first | rfl | exact AV.le.rfl _ | (simp only [patch, sl, ti44, List.map_nil, plA, plC, jnA, jnC, splice_all]; done) | rfl | skip)
    | ((with_reducible refine awp_ret ?_); refine Or.inr ⟨(by intro h; cases h), ?_⟩; refine ret_ct (.inr rfl) rfl rfl rfl (fun _ _ => rfl) ok44 (k := n + 1) (off := 0) rfl (dom_loc _ (by simp)) (look_loc _ (Nat.le_refl _) 1) rfl rfl ?_ <;> first | rfl | exact AV.le.rfl _ | (simp only [patch, sl, ti44, List.map_nil, plA, plC, jnA, jnC, splice_all]; done) | rfl | skip)
    | (refine call_pure (cc) ?_)
    | ((with_reducible refine gsel_case (fun hg => ?_) (fun hg => ?_)) <;> (try simp only [Bool.not_eq_true', Bool.not_eq_false'] at hg) <;> simp (maxSteps := 4000000) only [sx, sy, ne_eq, eq_self, if_true, if_false, Nat.reduceEqDiff, hbT, evBuild, evLit, evMake, tab, isShift, thenA, blockA, reduceCtorEq, reduceIte, Nat.reduceBEq, Int.reduceLE, Int.reduceToNat, Nat.reduceAdd, Nat.reduceLT, Nat.reduceLeDiff, hg, plA, plC, jnA, jnC, splice_all])
    | ((with_reducible refine awp_exit ?_); simp only [thenA, blockA, if_true, if_false, reduceIte, Nat.reduceEqDiff])
    | (refine hK _ ?_; clear hK K)
    | refine awp_cond_t rfl ?_
    | refine awp_cond_f rfl ?_
    | refine awp_if rfl (fun hg => ?_) (fun hg => ?_)
    | (refine Or.inl ⟨rfl, ?_⟩; refine le_of_all ?_ ?_ rfl rfl rfl rfl <;> simp only [patch, sl, plA, plC, jnA, jnC, splice_all])
    | clear hK K)
theorem c_pSignal (p : Pl) (hs : Sm p) (b : Int) : ACall Try.prog 22 [plA p, i64 b] [] (.tup [sgA (elD (mayP p) (getG p.sgs b) ((0, 0, 0) : Int × Int × Int)), i64 (elE (mayP p) (getG p.sgs b))]) [] := by
  have cc := c_asked_sg p hs p.sgs (by have := hs.sgs; omega) b
  generalize elD (mayP p) (getG p.sgs b) ((0, 0, 0) : Int × Int × Int) = X at *
  generalize elE (mayP p) (getG p.sgs b) = E at *
  simp only [plA, plC] at cc
  refine acall_of 2 Try.func22 rfl fun n out _ _ => ?_
  simp only [Try.ntmps22, List.length_cons, List.length_nil, List.length_map, List.length_replicate, rep_map, Nat.reduceAdd, Nat.reduceSub, List.replicate, List.cons_append, List.nil_append]
  repeat' (first
    | with_reducible refine awp_seq_k fun K hK => ?_
    | (with_reducible refine awp_ev tab_ok [] ?_)
    | (with_reducible refine awp_ev_quiet tab_ok follows (by kernel_rfl) ?_)
    | ((first | (with_reducible show evRun _ _ _ _ _ _ _ _) | (with_reducible show contR _ _ _ _ _ _) | (with_reducible show evRunD _ _ _ _ _ _ _ _ _) | (with_reducible show contD _ _ _ _ _ _)); simp (maxSteps := 4000000) only [sx, sy, ne_eq, eq_self, if_true, if_false, Nat.reduceEqDiff, hbT, evBuild, evLit, evMake, tab, isShift, thenA, blockA, reduceCtorEq, reduceIte, Nat.reduceBEq, Int.reduceLE, Int.reduceToNat, Nat.reduceAdd, Nat.reduceLT, Nat.reduceLeDiff, plA, plC, sgA, sgC, splice_all])
    | with_reducible refine awp_block_s ?_
    | with_reducible refine awp_block_c ?_
    | with_reducible refine awp_block_r ?_
    | with_reducible refine awp_skip ?_
    | with_reducible apply And.intro
    | (show Program.eqGuardType _ _ _ = false; kernel_rfl)
    | (show numFieldsB _ _ _ = true; kernel_rfl)
    | (show Program.stoodInHeld _ _ = false; kernel_rfl)
    | (show (_ : Nat) = (_ : Nat); rfl)
    | ((with_reducible refine awp_ret ?_); (first | refine ret_ct (.inr rfl) rfl rfl rfl (fun _ _ => rfl) ok48 (k := n + 1) (off := 0) rfl (dom_loc _ (by simp)) (look_loc _ (Nat.le_refl _) 1) rfl rfl ?_ | refine ret_ct (.inr rfl) rfl rfl rfl (fun _ _ => rfl) ok48 (k := m + 1) (off := 0) rfl (dom_loc _ (by simp)) (look_loc _ hm 1) rfl rfl ?_) <;> first | rfl | exact AV.le.rfl _ | (simp only [patch, sl, ti48, List.map_nil, plA, plC, sgA, sgC, splice_all]; done) | rfl | skip)
    | ((with_reducible refine awp_ret ?_); refine Or.inr ⟨(by intro h; cases h), ?_⟩; refine ret_ct (.inr rfl) rfl rfl rfl (fun _ _ => rfl) ok48 (k := n + 1) (off := 0) rfl (dom_loc _ (by simp)) (look_loc _ (Nat.le_refl _) 1) rfl rfl ?_ <;> first | rfl | exact AV.le.rfl _ | (simp only [patch, sl, ti48, List.map_nil, plA, plC, sgA, sgC, splice_all]; done) | rfl | skip)
    | (refine call_pure (cc) ?_)
    | ((with_reducible refine gsel_case (fun hg => ?_) (fun hg => ?_)) <;> (try simp only [Bool.not_eq_true', Bool.not_eq_false'] at hg) <;> simp (maxSteps := 4000000) only [sx, sy, ne_eq, eq_self, if_true, if_false, Nat.reduceEqDiff, hbT, evBuild, evLit, evMake, tab, isShift, thenA, blockA, reduceCtorEq, reduceIte, Nat.reduceBEq, Int.reduceLE, Int.reduceToNat, Nat.reduceAdd, Nat.reduceLT, Nat.reduceLeDiff, hg, plA, plC, sgA, sgC, splice_all])
    | ((with_reducible refine awp_exit ?_); simp only [thenA, blockA, if_true, if_false, reduceIte, Nat.reduceEqDiff])
    | (refine hK _ ?_; clear hK K)
    | refine awp_cond_t rfl ?_
    | refine awp_cond_f rfl ?_
    | refine awp_if rfl (fun hg => ?_) (fun hg => ?_)
    | (refine Or.inl ⟨rfl, ?_⟩; refine le_of_all ?_ ?_ rfl rfl rfl rfl <;> simp only [patch, sl, plA, plC, sgA, sgC, splice_all])
    | clear hK K)
theorem c_twin (r : Rt) (h : r.path.length ≤ 20 ∧ r.over.length ≤ 20 ∧ r.flanks.length ≤ 20) : ACall Try.prog 53 [rtA r] [] (rtA r) [] := by
  have c1 := c_clone_int (r.path.map intC) (by simp; omega)
  have c2 := c_clone_int (r.over.map intC) (by simp; omega)
  have c3 := c_clone_fl (r.flanks.map jnC) (by simp; omega)
  refine acall_of 2 Try.func53 rfl fun n out _ _ => ?_
  simp only [Try.ntmps53, List.length_cons, List.length_nil, List.length_map, List.length_replicate, rep_map, Nat.reduceAdd, Nat.reduceSub, List.replicate, List.cons_append, List.nil_append]
  repeat' (first
    | with_reducible refine awp_seq_k fun K hK => ?_
    | (with_reducible refine awp_ev tab_ok [] ?_)
    | (with_reducible refine awp_ev_draw (id := 1) tab_ok [] [[], [0], [], [], [0], [], [], [0], [], [], [0], [], [0], [], [0]] [[], [], [], [], [], [], [], [], [], [], [0], [], [0], [], [0]] follows (by kernel_rfl) (by decide) (by decide) (by kernel_rfl) ?_)
    | (with_reducible refine awp_ev_quiet tab_ok follows (by kernel_rfl) ?_)
    | ((first | (with_reducible show evRun _ _ _ _ _ _ _ _) | (with_reducible show contR _ _ _ _ _ _) | (with_reducible show evRunD _ _ _ _ _ _ _ _ _) | (with_reducible show contD _ _ _ _ _ _)); simp (maxSteps := 4000000) only [sx, sy, ne_eq, eq_self, if_true, if_false, Nat.reduceEqDiff, hbT, evBuild, evLit, evMake, tab, isShift, thenA, blockA, reduceCtorEq, reduceIte, Nat.reduceBEq, Int.reduceLE, Int.reduceToNat, Nat.reduceAdd, Nat.reduceLT, Nat.reduceLeDiff, rtA, rtC, splice_all])
    | with_reducible refine awp_block_s ?_
    | with_reducible refine awp_block_c ?_
    | with_reducible refine awp_block_r ?_
    | with_reducible refine awp_skip ?_
    | with_reducible apply And.intro
    | (show Program.eqGuardType _ _ _ = false; kernel_rfl)
    | (show numFieldsB _ _ _ = true; kernel_rfl)
    | (show Program.stoodInHeld _ _ = false; kernel_rfl)
    | (show (_ : Nat) = (_ : Nat); rfl)
    | ((with_reducible refine awp_ret ?_); (first | refine ret_cell_le (.inr rfl) rfl rfl rfl (fun _ _ => rfl) ok34 (k := n + 1) (off := 0) rfl (dom_loc _ (by simp)) (look_loc _ (Nat.le_refl _) 1) rfl ?_ | refine ret_cell_le (.inr rfl) rfl rfl rfl (fun _ _ => rfl) ok34 (k := m + 1) (off := 0) rfl (dom_loc _ (by simp)) (look_loc _ hm 1) rfl ?_) <;> first | rfl | exact AV.le.rfl _ | (simp only [patch, sl, ti34, List.map_nil, rtA, rtC, splice_all]; done) | rfl | skip)
    | ((with_reducible refine awp_ret ?_); refine Or.inr ⟨(by intro h; cases h), ?_⟩; refine ret_cell_le (.inr rfl) rfl rfl rfl (fun _ _ => rfl) ok34 (k := n + 1) (off := 0) rfl (dom_loc _ (by simp)) (look_loc _ (Nat.le_refl _) 1) rfl ?_ <;> first | rfl | exact AV.le.rfl _ | (simp only [patch, sl, ti34, List.map_nil, rtA, rtC, splice_all]; done) | rfl | skip)
    | (refine call_pure (c1) ?_)
    | (refine call_pure (c2) ?_)
    | (refine call_pure (c3) ?_)
    | ((with_reducible refine gsel_case (fun hg => ?_) (fun hg => ?_)) <;> (try simp only [Bool.not_eq_true', Bool.not_eq_false'] at hg) <;> simp (maxSteps := 4000000) only [sx, sy, ne_eq, eq_self, if_true, if_false, Nat.reduceEqDiff, hbT, evBuild, evLit, evMake, tab, isShift, thenA, blockA, reduceCtorEq, reduceIte, Nat.reduceBEq, Int.reduceLE, Int.reduceToNat, Nat.reduceAdd, Nat.reduceLT, Nat.reduceLeDiff, hg, rtA, rtC, splice_all])
    | ((with_reducible refine awp_exit ?_); simp only [thenA, blockA, if_true, if_false, reduceIte, Nat.reduceEqDiff])
    | (refine hK _ ?_; clear hK K)
    | refine awp_cond_t rfl ?_
    | refine awp_cond_f rfl ?_
    | refine awp_if rfl (fun hg => ?_) (fun hg => ?_)
    | (refine Or.inl ⟨rfl, ?_⟩; refine le_of_all ?_ ?_ rfl rfl rfl rfl <;> simp only [patch, sl, rtA, rtC, splice_all])
    | clear hK K)
theorem elD_rt {p : Pl} (hs : Sm p) (b : Int) : (elD (mayP p) (getR p.rts b) noRt).path.length ≤ 20 ∧ (elD (mayP p) (getR p.rts b) noRt).over.length ≤ 20 ∧ (elD (mayP p) (getR p.rts b) noRt).flanks.length ≤ 20 := by
  unfold elD
  split
  · cases hg : getR p.rts b with
    | none => simp [noRt]
    | some r => exact hs.rt r (List.mem_of_find?_eq_some hg)
  · simp [noRt]
theorem c_pRoute (p : Pl) (hs : Sm p) (b : Int) : ACall Try.prog 24 [plA p, i64 b] [] (.tup [rtA (elD (mayP p) (getR p.rts b) noRt), i64 (elE (mayP p) (getR p.rts b))]) [] := by
  have cc := c_asked_rt p hs p.rts (by have := hs.rts; omega) b
  have ct := c_twin _ (elD_rt hs b)
  generalize elD (mayP p) (getR p.rts b) noRt = X at *
  generalize elE (mayP p) (getR p.rts b) = E at *
  simp only [plA, plC] at cc
  simp only [rtA, rtC] at ct
  refine acall_of 3 Try.func24 rfl fun n out _ _ => ?_
  simp only [Try.ntmps24, List.length_cons, List.length_nil, List.length_map, List.length_replicate, rep_map, Nat.reduceAdd, Nat.reduceSub, List.replicate, List.cons_append, List.nil_append]
  repeat' (first
    | with_reducible refine awp_seq_k fun K hK => ?_
    | (with_reducible refine awp_ev tab_ok [] ?_)
    | (with_reducible refine awp_ev_quiet tab_ok follows (by kernel_rfl) ?_)
    | ((first | (with_reducible show evRun _ _ _ _ _ _ _ _) | (with_reducible show contR _ _ _ _ _ _) | (with_reducible show evRunD _ _ _ _ _ _ _ _ _) | (with_reducible show contD _ _ _ _ _ _)); simp (maxSteps := 4000000) only [sx, sy, ne_eq, eq_self, if_true, if_false, Nat.reduceEqDiff, hbT, evBuild, evLit, evMake, tab, isShift, thenA, blockA, reduceCtorEq, reduceIte, Nat.reduceBEq, Int.reduceLE, Int.reduceToNat, Nat.reduceAdd, Nat.reduceLT, Nat.reduceLeDiff, plA, plC, rtA, rtC, splice_all])
    | with_reducible refine awp_block_s ?_
    | with_reducible refine awp_block_c ?_
    | with_reducible refine awp_block_r ?_
    | with_reducible refine awp_skip ?_
    | with_reducible apply And.intro
    | (show Program.eqGuardType _ _ _ = false; kernel_rfl)
    | (show numFieldsB _ _ _ = true; kernel_rfl)
    | (show Program.stoodInHeld _ _ = false; kernel_rfl)
    | (show (_ : Nat) = (_ : Nat); rfl)
    | ((with_reducible refine awp_ret ?_); (first | refine ret_ct (.inr rfl) rfl rfl rfl (fun _ _ => rfl) ok34 (k := n + 1) (off := 0) rfl (dom_loc _ (by simp)) (look_loc _ (Nat.le_refl _) 1) rfl rfl ?_ | refine ret_ct (.inr rfl) rfl rfl rfl (fun _ _ => rfl) ok34 (k := m + 1) (off := 0) rfl (dom_loc _ (by simp)) (look_loc _ hm 1) rfl rfl ?_) <;> first | rfl | exact AV.le.rfl _ | (simp only [patch, sl, ti34, List.map_nil, plA, plC, rtA, rtC, splice_all]; done) | rfl | skip)
    | ((with_reducible refine awp_ret ?_); refine Or.inr ⟨(by intro h; cases h), ?_⟩; refine ret_ct (.inr rfl) rfl rfl rfl (fun _ _ => rfl) ok34 (k := n + 1) (off := 0) rfl (dom_loc _ (by simp)) (look_loc _ (Nat.le_refl _) 1) rfl rfl ?_ <;> first | rfl | exact AV.le.rfl _ | (simp only [patch, sl, ti34, List.map_nil, plA, plC, rtA, rtC, splice_all]; done) | rfl | skip)
    | (refine call_pure (cc) ?_)
    | (refine call_pure (ct) ?_)
    | ((with_reducible refine gsel_case (fun hg => ?_) (fun hg => ?_)) <;> (try simp only [Bool.not_eq_true', Bool.not_eq_false'] at hg) <;> simp (maxSteps := 4000000) only [sx, sy, ne_eq, eq_self, if_true, if_false, Nat.reduceEqDiff, hbT, evBuild, evLit, evMake, tab, isShift, thenA, blockA, reduceCtorEq, reduceIte, Nat.reduceBEq, Int.reduceLE, Int.reduceToNat, Nat.reduceAdd, Nat.reduceLT, Nat.reduceLeDiff, hg, plA, plC, rtA, rtC, splice_all])
    | ((with_reducible refine awp_exit ?_); simp only [thenA, blockA, if_true, if_false, reduceIte, Nat.reduceEqDiff])
    | (refine hK _ ?_; clear hK K)
    | refine awp_cond_t rfl ?_
    | refine awp_cond_f rfl ?_
    | refine awp_if rfl (fun hg => ?_) (fun hg => ?_)
    | (refine Or.inl ⟨rfl, ?_⟩; refine le_of_all ?_ ?_ rfl rfl rfl rfl <;> simp only [patch, sl, plA, plC, rtA, rtC, splice_all])
    | clear hK K)
end Go.Proofs.Ytdkiciofkifpdaa.Pln
