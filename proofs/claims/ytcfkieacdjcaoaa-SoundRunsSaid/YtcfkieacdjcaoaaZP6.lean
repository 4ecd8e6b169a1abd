/-
  The end at which one comes out.
-/
import Derived.Test.YtcfkieacdjcaoaaZG0
import Derived.Test.YtcfkieacdjcaoaaZP5
namespace Go.Proofs.Ytcfkieacdjcaoaa.Pln
set_option linter.unusedVariables false
set_option linter.unusedSimpArgs false
open Go Go.VS Tab
set_option maxHeartbeats 1000000
set_option maxRecDepth 4000
theorem call_box {P : Program} {σ : AState} {K : AV → List (Nat × Res) → Prop} {f : FuncId} {args : List AV} {k : Nat} {q : Res} {r : AV} (h : ACall P f args [(k, some q)] r []) (h1 : σ.look k = some q) (h2 : σ.dom k)
    (h3 : some q ≠ some .dead) (hK : K r []) : evCall P σ K f args := ⟨_, r, _, h, ⟨h1, trivial⟩, trivial, (fun x hx => by simp at hx; subst hx; exact ⟨h2, h3⟩), hK⟩
theorem c_index (k : Nat) (e : TypeId) (L : List Int) (m : Nat) (hm : L.length = m) (v : Int) (hl : m ≤ 1000) : ACall Try.prog 61 [.bsl k 0 m false, i64 v] [(k, some (.box e (L.map i64)))] (i64 (idx (fun x => v == x) L)) [] := by
  refine acall_of' 0 Try.func61 rfl fun n out _ _ _ => ?_
  simp only [Try.ntmps61, List.length_cons, List.length_nil, List.length_map, List.length_replicate, rep_map, Nat.reduceAdd, Nat.reduceSub, List.replicate, List.cons_append, List.nil_append]
  rename_i hneeds _ hz
  obtain ⟨hk, _⟩ := hneeds
  have hkn : k < n := by
    apply Classical.byContradiction; intro h
    rw [hz k (by omega)] at hk; cases hk
  repeat' (first | (with_reducible first | refine awp_seq_k fun K hK => ?_ | refine awp_ev tab_ok [] ?_ | refine awp_block_s ?_ | refine awp_block_c ?_ | refine awp_block_r ?_ | refine awp_skip ?_ | apply And.intro) | ((with_reducible first | refine gE ?_ | refine gR ?_); simp (maxSteps := 4000000) only [su, evLit, hbT, tab, thenA, blockA, reduceCtorEq, reduceIte, Nat.reduceEqDiff, Nat.reduceBEq, Int.reduceLE, Int.reduceToNat, Nat.reduceAdd, Nat.reduceLT, Nat.reduceLeDiff]) | (show (_ : Nat) = (_ : Nat); rfl) | ((with_reducible refine awp_ret ?_); (try refine Or.inr ⟨(by intro h; cases h), ?_⟩); refine ret_tmp (.inr rfl) rfl rfl rfl (fun _ _ => rfl) ?_ <;> first | rfl | skip) | ((with_reducible refine awp_exit ?_); simp only [thenA, blockA, if_true, if_false, reduceIte, Nat.reduceEqDiff]) | (refine hK _ ?_; clear hK K) | refine awp_cond_t rfl ?_ | refine awp_cond_f rfl ?_ | refine awp_if rfl (fun hg => ?_) (fun hg => ?_) | ((first | show Program.eqGuardType _ _ _ = false | show numFieldsB _ _ _ = true | show Program.stoodInHeld _ _ = false); kernel_rfl) | clear hK K)
  refine awp_block ?_
  refine awp_for_g (fun i : Nat => [(8, i64 (i : Int)), (4, .top), (5, .top), (9, .top), (10, .top), (11, .top), (12, .top), (13, .top), (14, .top), (15, .top), (16, .top), (17, .top), (18, .top)]) (fun i => []) (fun i => out) (fun i => i ≤ m ∧ (∀ j (hj : j < L.length), j < i → (v == L[j]) = false)) (fun i => m - i) 0 ⟨Nat.zero_le _, by intros; omega⟩ ?_ fun i hi => ?_
  · refine le_of_all ?_ ?_ rfl rfl rfl rfl <;> simp only [patch, sl]
  obtain ⟨hi, hq⟩ := hi
  simp only [patch, s_0, s_s]
  refine awp_seq_k fun K hK => awp_ev tab_ok [] ?_
  simp (maxSteps := 4000000) only [su, evLit, hbT, tab, thenA, blockA, reduceCtorEq, reduceIte, Nat.reduceEqDiff, Nat.reduceBEq, Int.reduceLE, Int.reduceToNat, Nat.reduceAdd, Nat.reduceLT, Nat.reduceLeDiff]
  repeat' (first | (with_reducible refine hK _ ?_; clear hK K) | with_reducible apply And.intro)
  refine awp_seq_k fun KC hKC => ?_
  refine awp_if rfl (fun ht => awp_skip (hKC _ ?_)) (fun hf => awp_exit (id ?_))
  rotate_left
  · simp only [thenA, blockA, if_true]
    refine hK _ ?_
    clear hK K hKC KC
    have h_ib : i = m := by have := of_decide_eq_false hf; omega
    subst h_ib
    have e := idx_none (p := fun x => v == x) (l := L) fun i hi => hq i hi (by omega)
    rw [e]
    repeat' (first | (with_reducible first | refine awp_seq_k fun K hK => ?_ | refine awp_ev tab_ok [] ?_ | refine awp_block_s ?_ | refine awp_block_c ?_ | refine awp_block_r ?_ | refine awp_skip ?_ | apply And.intro) | ((with_reducible first | refine gE ?_ | refine gR ?_); simp (maxSteps := 4000000) only [su, evLit, hbT, tab, thenA, blockA, reduceCtorEq, reduceIte, Nat.reduceEqDiff, Nat.reduceBEq, Int.reduceLE, Int.reduceToNat, Nat.reduceAdd, Nat.reduceLT, Nat.reduceLeDiff]) | (show (_ : Nat) = (_ : Nat); rfl) | ((with_reducible refine awp_ret ?_); (try refine Or.inr ⟨(by intro h; cases h), ?_⟩); refine ret_tmp (.inr rfl) rfl rfl rfl (fun _ _ => rfl) ?_ <;> first | rfl | skip) | ((with_reducible refine awp_exit ?_); simp only [thenA, blockA, if_true, if_false, reduceIte, Nat.reduceEqDiff]) | (refine hK _ ?_; clear hK K) | refine awp_cond_t rfl ?_ | refine awp_cond_f rfl ?_ | refine awp_if rfl (fun hg => ?_) (fun hg => ?_) | ((first | show Program.eqGuardType _ _ _ = false | show numFieldsB _ _ _ = true | show Program.stoodInHeld _ _ = false); kernel_rfl) | clear hK K)
  clear hKC KC
  have hlt : i < m := by have := of_decide_eq_true ht; omega
  refine awp_seq_k fun KC hKC => awp_block ?_
  have hlt' : i < L.length := by omega
  have hp := pick_map 1 i64 L i 0 hlt'
  have hd : L.getD i 0 = L[i] := by simp [List.getD_eq_getElem?_getD, hlt']
  rw [hd] at hp
  refine awp_seq_k fun K hK => awp_ev tab_ok [] ?_
  simp (maxSteps := 4000000) only [su, evLit, hbT, tab, thenA, blockA, reduceCtorEq, reduceIte, Nat.reduceEqDiff, Nat.reduceBEq, Int.reduceLE, Int.reduceToNat, Nat.reduceAdd, Nat.reduceLT, Nat.reduceLeDiff]
  repeat' (first | (with_reducible refine hK _ ?_; clear hK K) | with_reducible apply And.intro)
  refine awp_seq_k fun K hK => awp_ev tab_ok [] ?_
  simp (maxSteps := 4000000) only [su, evLit, hbT, tab, thenA, blockA, reduceCtorEq, reduceIte, Nat.reduceEqDiff, Nat.reduceBEq, Int.reduceLE, Int.reduceToNat, Nat.reduceAdd, Nat.reduceLT, Nat.reduceLeDiff, hlt, lk_out hkn, dm_out hkn, hk, hp]
  repeat' (first | (with_reducible refine hK _ ?_; clear hK K) | with_reducible apply And.intro)
  refine awp_if rfl (fun ht => ?_) (fun hf => awp_skip ?_)
  · have e := idx_some (p := fun x => v == x) hlt' ht fun j hj => hq j (by omega) hj
    refine awp_seq_k fun K hK => awp_ev tab_ok [] ?_
    simp (maxSteps := 4000000) only [su, evLit, hbT, tab, thenA, blockA, reduceCtorEq, reduceIte, Nat.reduceEqDiff, Nat.reduceBEq, Int.reduceLE, Int.reduceToNat, Nat.reduceAdd, Nat.reduceLT, Nat.reduceLeDiff]
    repeat' (first | (with_reducible refine hK _ ?_; clear hK K) | with_reducible apply And.intro)
    rw [← e]
    refine awp_ret ?_
    exact ret_tmp (.inr rfl) rfl rfl rfl (fun _ _ => rfl) rfl
  repeat refine And.intro (by omega) ?_
  refine hKC _ ?_
  clear hKC KC
  refine awp_ev tab_ok [] ?_
  simp (maxSteps := 4000000) only [su, evLit, hbT, tab, thenA, blockA, reduceCtorEq, reduceIte, Nat.reduceEqDiff, Nat.reduceBEq, Int.reduceLE, Int.reduceToNat, Nat.reduceAdd, Nat.reduceLT, Nat.reduceLeDiff, addw (n := i) 1 1 rfl (by omega)]
  refine ⟨i + 1, ⟨by omega, ?_⟩, by omega, ?_⟩
  · intro j hj hji
    by_cases h : j = i
    · subst h; exact hf
    · exact hq j hj (by omega)
  refine le_of_all ?_ ?_ rfl rfl rfl rfl <;> simp only [patch, sl]
def outI (s : Sec) (a c : Int) : Int := idx (fun e : Nat => lieF s a e == c) (List.range s.ends.length)
def outL (s : Sec) (a c : Int) : Int := if shaped s ∧ 0 ≤ c ∧ 0 ≤ outI s a c then outI s a c else 0
def outE (s : Sec) (a c : Int) : Int := if shaped s then (if c < 0 ∨ outI s a c < 0 then 2 else 0) else 8
theorem lie_le {s : Sec} {a b : Int} : lieF s a b ≤ 2 := by unfold lieF; repeat' split <;> omega
theorem lie_out {s : Sec} {a b : Int} (h : a < 0 ∨ 2 < a) : lieF s a b = -1 := by
  unfold lieF
  by_cases h0 : s.pt = 0
  · rw [if_pos h0, if_neg (by omega)]
  · rw [if_neg h0, if_neg (by omega), if_neg (by omega)]
theorem outI_none {s : Sec} {a c : Int} (hc : 0 ≤ c) (h : a < 0 ∨ 2 < a ∨ 2 < c) : outI s a c = -1 := idx_none fun i hi => by
  have h1 := lie_le (s := s) (a := a) (b := i)
  rw [List.getElem_range, beq_eq_false_iff_ne]
  by_cases h2 : a < 0 ∨ 2 < a
  · rw [lie_out h2]; omega
  · omega
def lie3 (s : Sec) (c : Int) : Int := if s.pt = 0 ∧ c = 0 then 3 else c
theorem row_out {s : Sec} (hs : shaped s = true) {a c : Nat} (ha : a < 3) (hc : c < 3) : (outI s a c < 0 ∧ (lie3 s c = 0 ∨ idx (fun x => lie3 s c == x) (rowL s a) < 0)) ∨ (0 ≤ outI s a c ∧ lie3 s c ≠ 0 ∧ idx (fun x => lie3 s c == x) (rowL s a) = outI s a c) := by
  have h1 : a = 0 ∨ a = 1 ∨ a = 2 := by omega
  have h2 : c = 0 ∨ c = 1 ∨ c = 2 := by omega
  rw [shaped_iff] at hs
  unfold outI rowL lie3 lieF
  by_cases h : s.pt = 0
  · have hl : s.ends.length = 2 := by omega
    simp only [h, hl, if_true, true_and]
    rcases h1 with rfl | rfl | rfl <;> rcases h2 with rfl | rfl | rfl <;> decide
  · have hl : s.ends.length = 3 := by omega
    simp only [h, hl, if_false, false_and]
    rcases h1 with rfl | rfl | rfl <;> rcases h2 with rfl | rfl | rfl <;> decide
theorem c_out (s : Sec) (a c : Int) : ACall Try.prog 31 [secA s, i64 a, i64 c] [] (.tup [i64 (outL s a c), i64 (outE s a c)]) [] := by
  have cs := c_shaped s
  cases hs : shaped s with
  | false =>
    rw [hs] at cs
    have e1 : outL s a c = 0 := by simp [outL, hs]
    have e2 : outE s a c = 8 := by simp [outE, hs]
    rw [e1, e2]
    refine acall_of 2 Try.func31 rfl fun n out _ _ => ?_
    simp only [Try.ntmps31, List.length_cons, List.length_nil, List.length_map, List.length_replicate, rep_map, Nat.reduceAdd, Nat.reduceSub, List.replicate, List.cons_append, List.nil_append]
    repeat' (first | (with_reducible first | refine awp_seq_k fun K hK => ?_ | refine awp_ev tab_ok [] ?_ | refine awp_block_s ?_ | refine awp_block_c ?_ | refine awp_block_r ?_ | refine awp_skip ?_ | apply And.intro) | ((with_reducible first | refine gE ?_ | refine gR ?_); simp (maxSteps := 4000000) only [su, evLit, hbT, tab, thenA, blockA, reduceCtorEq, reduceIte, Nat.reduceEqDiff, Nat.reduceBEq, Int.reduceLE, Int.reduceToNat, Nat.reduceAdd, Nat.reduceLT, Nat.reduceLeDiff, secA, secC]) | (show (_ : Nat) = (_ : Nat); rfl) | ((with_reducible refine awp_ret ?_); (try refine Or.inr ⟨(by intro h; cases h), ?_⟩); refine ret_tmp2 (.inr rfl) rfl rfl rfl (fun _ _ => rfl) ?_ ?_ <;> first | rfl | skip) | (refine call_pure (cs) ?_) | ((with_reducible refine gsel_case (fun hg => ?_) (fun hg => ?_)) <;> (try simp only [nb] at hg) <;> simp (maxSteps := 4000000) only [su, evLit, hbT, tab, thenA, blockA, reduceCtorEq, reduceIte, Nat.reduceEqDiff, Nat.reduceBEq, Int.reduceLE, Int.reduceToNat, Nat.reduceAdd, Nat.reduceLT, Nat.reduceLeDiff, hg, secA, secC]) | (refine hK _ ?_; clear hK K) | refine awp_cond_t rfl ?_ | refine awp_cond_f rfl ?_ | refine awp_if rfl (fun hg => ?_) (fun hg => ?_) | ((first | show Program.eqGuardType _ _ _ = false | show numFieldsB _ _ _ = true | show Program.stoodInHeld _ _ = false); kernel_rfl) | clear hK K)
  | true =>
    rw [hs] at cs
    by_cases hr : 0 ≤ a ∧ a ≤ 2 ∧ 0 ≤ c ∧ c ≤ 2
    · obtain ⟨na, rfl⟩ := Int.eq_ofNat_of_zero_le hr.1
      obtain ⟨nc, rfl⟩ := Int.eq_ofNat_of_zero_le hr.2.2.1
      have ha : na < 3 := by omega
      have hc : nc < 3 := by omega
      have ha' : ((na : Int) < 3) := by omega
      have ha1 : decide ((na : Int) < 0) = false := decide_eq_false (by omega)
      have ha2 : decide ((na : Int) > 2) = false := decide_eq_false (by omega)
      have hc1 : decide ((nc : Int) < 0) = false := decide_eq_false (by omega)
      have hc2 : decide ((nc : Int) > 2) = false := decide_eq_false (by omega)
      have hrl := row_len s na
      have key := row_out hs ha hc
      have hcs : lie3 s nc = if s.pt = 0 ∧ (nc : Int) = 0 then 3 else (nc : Int) := rfl
      generalize lie3 s nc = g at key hcs
      refine acall_of 2 Try.func31 rfl fun n out _ _ => ?_
      simp only [Try.ntmps31, List.length_cons, List.length_nil, List.length_map, List.length_replicate, rep_map, Nat.reduceAdd, Nat.reduceSub, List.replicate, List.cons_append, List.nil_append]
      repeat' (first | (with_reducible first | refine awp_seq_k fun K hK => ?_ | refine awp_ev tab_ok [] ?_ | refine awp_block_s ?_ | refine awp_block_c ?_ | refine awp_block_r ?_ | refine awp_skip ?_ | apply And.intro) | ((with_reducible first | refine gE ?_ | refine gR ?_); simp (maxSteps := 4000000) only [su, evLit, hbT, tab, thenA, blockA, reduceCtorEq, reduceIte, Nat.reduceEqDiff, Nat.reduceBEq, Int.reduceLE, Int.reduceToNat, Nat.reduceAdd, Nat.reduceLT, Nat.reduceLeDiff, secA, secC, ha, ha', ha1, ha2, hc1, hc2, pick_row s ha, splice_all, List.length_map, hrl, Nat.reduceSub, loOf, hiOf]) | (show (_ : Nat) = (_ : Nat); rfl) | ((with_reducible refine awp_ret ?_); (try refine Or.inr ⟨(by intro h; cases h), ?_⟩); refine ret_tmp2 (.inr rfl) rfl rfl rfl (fun _ _ => rfl) ?_ ?_ <;> first | rfl | (first | rfl | (simp only [g_0, g_s]; refine congrArg i64 ?_; first | (simp [outL, outE, hs] at * <;> omega) | (simp_all [outL, outE, hs] <;> omega))) | skip) | (refine call_pure (cs) ?_) | (refine call_pure (c_ways s) ?_) | (refine call_box (c_index (n + 1) _ (rowL s na) 3 hrl _ (by decide)) (look_loc _ (Nat.le_refl _) 1) (dom_loc _ (by simp)) (by simp) ?_) | ((with_reducible refine gsel_case (fun hg => ?_) (fun hg => ?_)) <;> (try simp only [nb] at hg) <;> simp (maxSteps := 4000000) only [su, evLit, hbT, tab, thenA, blockA, reduceCtorEq, reduceIte, Nat.reduceEqDiff, Nat.reduceBEq, Int.reduceLE, Int.reduceToNat, Nat.reduceAdd, Nat.reduceLT, Nat.reduceLeDiff, hg, secA, secC, ha, ha', ha1, ha2, hc1, hc2, pick_row s ha, splice_all, List.length_map, hrl, Nat.reduceSub, loOf, hiOf]) | (refine hK _ ?_; clear hK K) | refine awp_cond_t rfl ?_ | refine awp_cond_f rfl ?_ | refine awp_if rfl (fun hg => ?_) (fun hg => ?_) | ((first | show Program.eqGuardType _ _ _ = false | show numFieldsB _ _ _ = true | show Program.stoodInHeld _ _ = false); kernel_rfl) | clear hK K)
    · have e1 : outL s a c = 0 := by
        unfold outL
        by_cases hc : 0 ≤ c
        · rw [outI_none hc (by omega), if_neg (by omega)]
        · rw [if_neg (by omega)]
      have e2 : outE s a c = 2 := by
        unfold outE
        rw [if_pos hs]
        by_cases hc : 0 ≤ c
        · rw [outI_none hc (by omega), if_pos (by omega)]
        · rw [if_pos (by omega)]
      rw [e1, e2]
      refine acall_of 2 Try.func31 rfl fun n out _ _ => ?_
      simp only [Try.ntmps31, List.length_cons, List.length_nil, List.length_map, List.length_replicate, rep_map, Nat.reduceAdd, Nat.reduceSub, List.replicate, List.cons_append, List.nil_append]
      repeat' (first | (with_reducible first | refine awp_seq_k fun K hK => ?_ | refine awp_ev tab_ok [] ?_ | refine awp_block_s ?_ | refine awp_block_c ?_ | refine awp_block_r ?_ | refine awp_skip ?_ | apply And.intro) | ((with_reducible first | refine gE ?_ | refine gR ?_); simp (maxSteps := 4000000) only [su, evLit, hbT, tab, thenA, blockA, reduceCtorEq, reduceIte, Nat.reduceEqDiff, Nat.reduceBEq, Int.reduceLE, Int.reduceToNat, Nat.reduceAdd, Nat.reduceLT, Nat.reduceLeDiff, secA, secC]) | (show (_ : Nat) = (_ : Nat); rfl) | ((with_reducible refine awp_ret ?_); (try refine Or.inr ⟨(by intro h; cases h), ?_⟩); refine ret_tmp2 (.inr rfl) rfl rfl rfl (fun _ _ => rfl) ?_ ?_ <;> first | rfl | skip) | (refine call_pure (cs) ?_) | ((with_reducible refine gsel_case (fun hg => ?_) (fun hg => ?_)) <;> (try simp only [nb] at hg) <;> simp (maxSteps := 4000000) only [su, evLit, hbT, tab, thenA, blockA, reduceCtorEq, reduceIte, Nat.reduceEqDiff, Nat.reduceBEq, Int.reduceLE, Int.reduceToNat, Nat.reduceAdd, Nat.reduceLT, Nat.reduceLeDiff, hg, secA, secC]) | (refine hK _ ?_; clear hK K) | refine awp_cond_t rfl ?_ | refine awp_cond_f rfl ?_ | refine awp_if rfl (fun hg => ?_) (fun hg => ?_) | ((first | show Program.eqGuardType _ _ _ = false | show numFieldsB _ _ _ = true | show Program.stoodInHeld _ _ = false); kernel_rfl) | clear hK K)
      all_goals (exfalso; simp at *; omega)
end Go.Proofs.Ytcfkieacdjcaoaa.Pln
