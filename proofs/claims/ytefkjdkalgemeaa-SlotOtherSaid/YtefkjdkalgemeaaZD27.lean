/-
  Rows copied into memory that may be written.
-/
import Derived.Test.YtefkjdkalgemeaaZGA
import Derived.Test.YtefkjdkalgemeaaZD19
namespace Go.Proofs.Ytefkjdkalgemeaa
set_option linter.unusedVariables false
set_option linter.unusedSimpArgs false
open Go Go.VS Tab
set_option maxHeartbeats 1000000
set_option maxRecDepth 4000
theorem c_cloneB (k : Nat) (l : List UInt8) (hl : l.length ≤ 100000000) (h0 : 0 < l.length) : ACall Try.prog 82 [bs l] [(k, none)] (.bsl k 0 l.length false) [(k, .box 5 (l.map b8))] := by
  have hne : bytesAV l ≠ [] := fun h => by simp [bytesAV] at h; subst h; simp at h0
  have hfl : (bytesAV l).flatten = l.map b8 := by
    clear h0 hl hne
    induction l with
    | nil => rfl
    | cons x xs ih => exact congrArg (b8 x :: ·) ih
  refine acall_split (fun h => absurd h hne) ?_
  refine acall_of 1 Try.func82 rfl fun n out _ _ => ?_
  simp only [Try.ntmps82, List.length_cons, List.length_nil, List.length_map, List.length_replicate, rep_map, Nat.reduceAdd, Nat.reduceSub, List.replicate, List.cons_append, List.nil_append]
  rename_i hneeds hgv
  obtain ⟨hk, _⟩ := hneeds
  obtain ⟨hkn, _⟩ := hgv
  refine awp_seq_k fun K hK => awp_ev tab_ok [] ?_
  simp (maxSteps := 4000000) only [su, evLit, hbT, tab, thenA, blockA, reduceCtorEq, reduceIte, Nat.reduceEqDiff, Nat.reduceBEq, Int.reduceLE, Int.reduceToNat, Nat.reduceAdd, Nat.reduceLT, Nat.reduceLeDiff]
  repeat' (first | (with_reducible refine hK _ ?_; clear hK K) | with_reducible apply And.intro)
  refine awp_seq_k fun KB hKB => ?_
  refine awp_seq_k fun K hK => awp_ev tab_ok [] ?_
  simp (maxSteps := 4000000) only [su, evLit, hbT, tab, thenA, blockA, reduceCtorEq, reduceIte, Nat.reduceEqDiff, Nat.reduceBEq, Int.reduceLE, Int.reduceToNat, Nat.reduceAdd, Nat.reduceLT, Nat.reduceLeDiff]
  repeat' (first | (with_reducible refine hK _ ?_; clear hK K) | with_reducible apply And.intro)
  refine awp_cond_f rfl (awp_skip (hKB _ ?_))
  clear hKB KB
  refine awp_seq_k fun K hK => awp_ev tab_ok [(1007, none)] ?_
  simp (maxSteps := 4000000) only [su, evLit, hbT, tab, thenA, blockA, reduceCtorEq, reduceIte, Nat.reduceEqDiff, Nat.reduceBEq, Int.reduceLE, Int.reduceToNat, Nat.reduceAdd, Nat.reduceLT, Nat.reduceLeDiff, bytes_length, show l.length ≤ 140737488355328 by omega, show l.length ≤ 9223372036854775807 by omega, hne, hfl]
  repeat' (first | (with_reducible refine hK _ ?_; clear hK K) | with_reducible apply And.intro)
  refine awp_le (le_box (i := 0) (m := l.length) (sz := 1) (e := 5) (cs := l.map b8) rfl h0) ?_
  simp only [List.map_cons, List.map_nil, AV.bxv, s_0, s_s, reduceCtorEq, if_true, if_false, Nat.reduceEqDiff, reduceIte, and_self]
  refine awp_le (le_toOut1 (i := 0) (k := k) rfl (by exact hkn) (by exact hk)) ?_
  simp only [List.map_cons, List.map_nil, Option.map_some, Option.map_none, Res.ren1, AV.ren1, Nat.add_left_cancel_iff, Nat.reduceEqDiff, Nat.one_ne_zero, reduceIte, zombie, s_0, s_s]
  refine awp_ret ?_
  exact ret_tmp (.inr rfl) rfl rfl rfl (fun _ _ => rfl) rfl
theorem upd1_swp {k kz : Nat} (h : k ≠ kz) (s : Nat → Option Res) (r r' B : Res) : upd1 (upd1 (upd1 s k r) kz B) k r' = upd1 (upd1 s kz B) k r' := by
  funext x
  simp only [upd1]
  by_cases h1 : x = k
  · simp [h1]
  · simp [h1]
theorem c_eachZ_b (k kz : Nat) (hkk : k ≠ kz) (l : List (List UInt8)) (z : Nat) (hz : z < l.length) (hl : l.length ≤ 1000000) (hs : ∀ b, b ∈ l → b.length ≤ 1000000) (hz0 : 0 < (l[z]).length) :
    ACall Try.prog 81 [.sl 1 (l.map secC) .sh, .fn (.func 82) []] [(k, none), (kz, none)] (.sl 1 ((l.map secC).set z [.bsl kz 0 (l[z]).length false]) (.own k)) [(kz, .box 5 ((l[z]).map b8)), (k, .row 37 1 l.length)] := by
  obtain ⟨E, hE⟩ : ∃ E, E = (l.map secC).set z [.bsl kz 0 (l[z]).length false] := ⟨_, rfl⟩
  have hEl : E.length = l.length := by rw [hE]; simp
  obtain ⟨B, hB⟩ : ∃ B, B = Res.box 5 ((l[z]).map b8) := ⟨_, rfl⟩
  rw [← hE, ← hB]
  refine acall_of 0 Try.func81 rfl fun n out _ _ => ?_
  simp only [Try.ntmps81, List.length_cons, List.length_nil, List.length_map, List.length_replicate, rep_map, Nat.reduceAdd, Nat.reduceSub, List.replicate, List.cons_append, List.nil_append]
  rename_i hneeds hgv
  obtain ⟨hk, hk2, _⟩ := hneeds
  obtain ⟨hkn2, hkn, _⟩ := hgv
  refine awp_seq_k fun K hK => awp_ev tab_ok [] ?_
  simp (maxSteps := 4000000) only [su, evLit, hbT, tab, thenA, blockA, reduceCtorEq, reduceIte, Nat.reduceEqDiff, Nat.reduceBEq, Int.reduceLE, Int.reduceToNat, Nat.reduceAdd, Nat.reduceLT, Nat.reduceLeDiff]
  repeat' (first | (with_reducible refine hK _ ?_; clear hK K) | with_reducible apply And.intro)
  refine awp_seq_k fun KB hKB => ?_
  refine awp_seq_k fun K hK => awp_ev tab_ok [] ?_
  simp (maxSteps := 4000000) only [su, evLit, hbT, tab, thenA, blockA, reduceCtorEq, reduceIte, Nat.reduceEqDiff, Nat.reduceBEq, Int.reduceLE, Int.reduceToNat, Nat.reduceAdd, Nat.reduceLT, Nat.reduceLeDiff]
  repeat' (first | (with_reducible refine hK _ ?_; clear hK K) | with_reducible apply And.intro)
  refine awp_le (le_rowN (k := k) 37 1 (by rw [dm_out hkn]; trivial) (by rw [lk_out hkn]; exact hk)) ?_
  rw [gv_out hkn]
  refine awp_block ?_
  refine awp_for_g (fun i : Nat => [(9, i64 (i : Int)), (4, .sl 1 (E.take i) (.own k)), (6, .top), (10, .top), (11, .top), (12, .top), (13, .top), (14, .top), (15, .top), (16, .top), (17, .top), (18, .top), (19, .top)]) (fun i => []) (fun i => upd1 (if i ≤ z then out else upd1 out kz B) k (.row 37 1 i)) (fun i => i ≤ l.length) (fun i => l.length - i) 0 (Nat.zero_le _) ?_ fun i hi => ?_
  · refine le_of_all ?_ ?_ (by first | rfl | (simp only [List.take_zero, Nat.zero_le]; rfl) | simp only [List.take_zero, Nat.zero_le]) rfl rfl rfl <;> simp only [patch, sl, List.take_zero, Nat.zero_le]
  simp only [patch, s_0, s_s]
  refine awp_seq_k fun K hK => awp_ev tab_ok [] ?_
  simp (maxSteps := 4000000) only [su, evLit, hbT, tab, thenA, blockA, reduceCtorEq, reduceIte, Nat.reduceEqDiff, Nat.reduceBEq, Int.reduceLE, Int.reduceToNat, Nat.reduceAdd, Nat.reduceLT, Nat.reduceLeDiff, List.take_zero, Nat.zero_le]
  repeat' (first | (with_reducible refine hK _ ?_; clear hK K) | with_reducible apply And.intro)
  refine awp_seq_k fun KC hKC => ?_
  refine awp_if rfl (fun ht => awp_skip (hKC _ ?_)) (fun hf => awp_exit (id ?_))
  rotate_left
  · simp only [thenA, blockA, if_true]
    refine hKB _ ?_
    clear hKB KB hKC KC
    have h_ib : i = l.length := by have := of_decide_eq_false hf; omega
    subst h_ib
    rw [List.take_of_length_le (by omega), if_neg (by omega)]
    refine awp_ret ?_
    exact ret_tmp (.inr rfl) rfl rfl rfl (fun _ _ => rfl) rfl
  clear hKC KC
  have hlt : i < l.length := by have := of_decide_eq_true ht; omega
  refine awp_seq_k fun KC hKC => awp_block ?_
  have hiE : i < E.length := by omega
  have hbC : hasBody Try.prog 82 = True := hb0 _ (by decide) (by decide)
  have hsn : E.take i ++ [E[i]] = E.take (i + 1) := (List.take_succ_eq_append_getElem hiE).symm
  refine awp_seq_k fun K hK => awp_ev tab_ok [] ?_
  simp (maxSteps := 4000000) only [su, evLit, hbT, tab, thenA, blockA, reduceCtorEq, reduceIte, Nat.reduceEqDiff, Nat.reduceBEq, Int.reduceLE, Int.reduceToNat, Nat.reduceAdd, Nat.reduceLT, Nat.reduceLeDiff, hlt, List.length_map, getD_map secC l i [] hlt, secC]
  repeat' (first | (with_reducible refine hK _ ?_; clear hK K) | with_reducible apply And.intro)
  by_cases hiz : i = z
  · subst hiz
    have hEi : E[i] = [.bsl kz 0 (l[i]).length false] := by subst hE; simp
    rw [hEi] at hsn
    rw [if_pos (Nat.le_refl i)]
    have lit : ∀ (σ : AState) (K : AV → List (Nat × Res) → Prop), evLit tab σ K none 22 1 [(0, .bsl kz 0 (l[i]).length false)] = K (.sl 1 [[.bsl kz 0 (l[i]).length false]] .full) [] := fun σ K => evLit_one (T := tab) (ti := ti22) (te := ti37) rfl rfl rfl (by decide) (by decide) rfl rfl
    refine awp_ev tab_ok [] ?_
    simp (maxSteps := 4000000) only [su, hbT, tab, thenA, blockA, reduceCtorEq, reduceIte, Nat.reduceEqDiff, Nat.reduceBEq, Int.reduceLE, Int.reduceToNat, Nat.reduceAdd, Nat.reduceLT, Nat.reduceLeDiff, hbC]
    refine call_one (c_cloneB kz l[i] (by have := hs _ (List.getElem_mem hlt); omega) hz0) ?_ ?_ (by simp) ?_
    · rw [lk_out hkn2, upd1_ne _ _ hkk.symm]; exact hk2
    · rw [dm_out hkn2]; trivial
    rw [← hB]
    simp (maxSteps := 4000000) only [su, hbT, tab, thenA, blockA, reduceCtorEq, reduceIte, Nat.reduceEqDiff, Nat.reduceBEq, Int.reduceLE, Int.reduceToNat, Nat.reduceAdd, Nat.reduceLT, Nat.reduceLeDiff, lit, lk_out hkn, dm_out hkn, nx_out0 hkn, nx_out0 hkn2, upd1_same, upd1_upd1, upd1_ne _ _ hkk, upd1_swp hkk, List.length_map, List.length_take, hEl, Nat.min_eq_left hi, show (i + 1) ≤ 140737488355328 by omega, show i + 1 ≤ 9223372036854775807 by omega, hsn]
    repeat refine And.intro (by omega) ?_
    refine hKC _ ?_
    clear hKC KC
    refine awp_ev tab_ok [] ?_
    simp (maxSteps := 4000000) only [su, evLit, hbT, tab, thenA, blockA, reduceCtorEq, reduceIte, Nat.reduceEqDiff, Nat.reduceBEq, Int.reduceLE, Int.reduceToNat, Nat.reduceAdd, Nat.reduceLT, Nat.reduceLeDiff, addw (n := i) 1 1 rfl (by omega)]
    refine ⟨i + 1, by omega, by omega, ?_⟩
    rw [if_neg (by omega)]
    refine le_of_all ?_ ?_ rfl rfl rfl rfl <;> simp only [patch, sl]
  · have hEi : E[i] = secC l[i] := by subst hE; rw [List.getElem_set_ne (by omega)]; simp
    rw [hEi] at hsn
    have hoo : (if i + 1 ≤ z then out else upd1 out kz B) = (if i ≤ z then out else upd1 out kz B) := by
      by_cases h : i ≤ z
      · rw [if_pos h, if_pos (by omega)]
      · rw [if_neg h, if_neg (by omega)]
    generalize (if i ≤ z then out else upd1 out kz B) = O at hoo ⊢
    simp only [secC] at hsn
    have lit : ∀ (σ : AState) (K : AV → List (Nat × Res) → Prop), evLit tab σ K none 22 1 [(0, bs l[i])] = K (.sl 1 [[bs l[i]]] .full) [] := fun σ K => evLit_one (T := tab) (ti := ti22) (te := ti37) rfl rfl rfl (by decide) (by decide) rfl rfl
    refine awp_ev tab_ok [] ?_
    simp (maxSteps := 4000000) only [su, hbT, tab, thenA, blockA, reduceCtorEq, reduceIte, Nat.reduceEqDiff, Nat.reduceBEq, Int.reduceLE, Int.reduceToNat, Nat.reduceAdd, Nat.reduceLT, Nat.reduceLeDiff, hbC]
    refine call_pure (c_clone l[i] (by have := hs _ (List.getElem_mem hlt); omega)) ?_
    simp (maxSteps := 4000000) only [su, hbT, tab, thenA, blockA, reduceCtorEq, reduceIte, Nat.reduceEqDiff, Nat.reduceBEq, Int.reduceLE, Int.reduceToNat, Nat.reduceAdd, Nat.reduceLT, Nat.reduceLeDiff, lit, lk_out hkn, dm_out hkn, nx_out0 hkn, upd1_same, upd1_upd1, List.length_map, List.length_take, hEl, Nat.min_eq_left hi, show (i + 1) ≤ 140737488355328 by omega, show i + 1 ≤ 9223372036854775807 by omega, hsn]
    repeat refine And.intro (by omega) ?_
    refine hKC _ ?_
    clear hKC KC
    refine awp_ev tab_ok [] ?_
    simp (maxSteps := 4000000) only [su, evLit, hbT, tab, thenA, blockA, reduceCtorEq, reduceIte, Nat.reduceEqDiff, Nat.reduceBEq, Int.reduceLE, Int.reduceToNat, Nat.reduceAdd, Nat.reduceLT, Nat.reduceLeDiff, addw (n := i) 1 1 rfl (by omega)]
    refine ⟨i + 1, by omega, by omega, ?_⟩
    rw [hoo]
    refine le_of_all ?_ ?_ rfl rfl rfl rfl <;> simp only [patch, sl]
end Go.Proofs.Ytefkjdkalgemeaa
