/-
  slices.Grow of nothing; slices.Concat of two.
-/
import Derived.Test.YtefkjdkalgemeaaZGA
import Derived.Test.YtefkjdkalgemeaaZD5
import Derived.WalkKit
import Derived.Lib.Walk
import Derived.Lib.SliceRun
import Derived.Lib.AppendZerosOnto
namespace Go.Proofs.Ytefkjdkalgemeaa
set_option linter.unusedVariables false
set_option linter.unusedSimpArgs false
open Go Go.VS Tab Go.RowKit Go.Lib
set_option maxHeartbeats 2000000
set_option maxRecDepth 100000
theorem grow_calls_rows (n : Nat) (w : World) (h0 : 0 < n) (hbig : n * 24 ≤ 140737488355328) (i0 : TypeInfo) (z : Value) (hi0 : Try.prog.info? 37 = some i0) (hz0 : i0.zero = some z) (hs0 : 0 < i0.size) (hb0 : i0.bytes = 24) :
    Calls Try.prog 96 #[.slice none 0 0, .int .i64 n] w fun e w' =>
      e = .returned (.slice (some ⟨w.heap.size, 0, none⟩) 0 (grownCap w n 0 37)) ∧
      w' = w.drew.alloc (.cells (#[] ++ Builtin.zeroCells z.cells n ++ Builtin.zeroCells z.cells (grownCap w n 0 37 - n)) 37) := by
  have h1 : ¬ ((n : Int) < 0) := by omega
  have h3 : wrap64 ((n : Int) - 0) = (n : Int) := by unfold wrap64; omega
  have h4 : (n : Int) > 0 := by omega
  have hrz : ∀ ty, (Builtin.append_ #[22, 3] ty #[.slice none 0 0, .int .i64 (n : Int)]).run Try.prog w =
      .ok (.slice (some ⟨w.heap.size, 0, none⟩) n (grownCap w n 0 37)) (w.drew.alloc (.cells (#[] ++ Builtin.zeroCells z.cells n ++ Builtin.zeroCells z.cells (grownCap w n 0 37 - n)) 37)) := fun ty => by
    have h := Lib.run_append_grow_zeros w 22 3 ty 37 i0 z .i64 .i64 Try.underlying22 Try.underlying3 hi0 hz0 none 0 0 [] (run_firstCells_none w.drew i0.size 0 0 0) n h0 hs0 (by omega) (by omega)
      (by rw [hb0]; omega) (growslice_fits (by omega) (by rw [hb0]; omega))
    rw [Nat.zero_add] at h
    exact h
  have hGn : n ≤ grownCap w n 0 37 := VS.grownCap_ge w _ _ _
  have hG63 : grownCap w n 0 37 ≤ 9223372036854775807 := by
    have := grownCap_le_maxLen w n 0 37 (by unfold maxLen; omega)
    unfold maxLen at this
    omega
  generalize grownCap w n 0 37 = G at hrz hGn hG63 ⊢
  go_enter Try.func96, Try.ntmps96
  go_wp2_with (at_builtin; refine Lib.wpList_append_run _ rfl _ _ _ _ rfl _ _ rfl rfl _ _ (hrz _) ?_)
  all_goals (go_ret; exact ⟨rfl, rfl⟩)
theorem c_grow_rows (k n : Nat) (hbig : n * 24 ≤ 140737488355328) :
    ACall Try.prog 96 [.sl 0 [] .nil, i64 (n : Int)] [(k, none)] (.sl 1 [] (.own k)) [(k, .row 37 1 0)] := by
  by_cases h0 : n = 0
  · subst h0
    refine acall_of 0 Try.func96 rfl fun n out _ _ => ?_
    simp only [Try.ntmps96, List.length_cons, List.length_nil, List.length_map, List.length_replicate, rep_map, Nat.reduceAdd, Nat.reduceSub, List.replicate, List.cons_append, List.nil_append]
    rename_i hneeds hgv
    obtain ⟨hk, _⟩ := hneeds
    obtain ⟨hkn, _⟩ := hgv
    refine awp_le (le_rowN (k := k) 37 1 (by rw [dm_out hkn]; trivial) (by rw [lk_out hkn]; exact hk)) ?_
    rw [gv_out hkn]
    refine awp_seq_k fun K hK => awp_ev tab_ok [] ?_
    simp (maxSteps := 4000000) only [su, evLit, hbT, tab, thenA, blockA, reduceCtorEq, reduceIte, Nat.reduceEqDiff, Nat.reduceBEq, Int.reduceLE, Int.reduceToNat, Nat.reduceAdd, Nat.reduceLT, Nat.reduceLeDiff]
    repeat' (first | (with_reducible refine hK _ ?_; clear hK K) | with_reducible apply And.intro)
    refine awp_seq_k fun KA hKA => ?_
    refine awp_seq_k fun K hK => awp_ev tab_ok [] ?_
    simp (maxSteps := 4000000) only [su, evLit, hbT, tab, thenA, blockA, reduceCtorEq, reduceIte, Nat.reduceEqDiff, Nat.reduceBEq, Int.reduceLE, Int.reduceToNat, Nat.reduceAdd, Nat.reduceLT, Nat.reduceLeDiff, nc]
    repeat' (first | (with_reducible refine hK _ ?_; clear hK K) | with_reducible apply And.intro)
    refine awp_cond_f rfl (awp_skip (hKA _ ?_))
    clear hKA KA
    refine awp_seq_k fun KA hKA => ?_
    refine awp_seq_k fun K hK => awp_ev tab_ok [] ?_
    simp (maxSteps := 4000000) only [su, evLit, hbT, tab, thenA, blockA, reduceCtorEq, reduceIte, Nat.reduceEqDiff, Nat.reduceBEq, Int.reduceLE, Int.reduceToNat, Nat.reduceAdd, Nat.reduceLT, Nat.reduceLeDiff, nc, Int.sub_zero, wrap_i64 (x := 0) (by decide) (by decide)]
    repeat' (first | (with_reducible refine hK _ ?_; clear hK K) | with_reducible apply And.intro)
    refine awp_seq_k fun K hK => awp_ev tab_ok [] ?_
    simp (maxSteps := 4000000) only [su, evLit, hbT, tab, thenA, blockA, reduceCtorEq, reduceIte, Nat.reduceEqDiff, Nat.reduceBEq, Int.reduceLE, Int.reduceToNat, Nat.reduceAdd, Nat.reduceLT, Nat.reduceLeDiff, Int.lt_irrefl, decide_false]
    repeat' (first | (with_reducible refine hK _ ?_; clear hK K) | with_reducible apply And.intro)
    refine awp_cond_f rfl (awp_skip (hKA _ ?_))
    clear hKA KA
    refine awp_seq_k fun K hK => awp_ev tab_ok [] ?_
    simp (maxSteps := 4000000) only [su, evLit, hbT, tab, thenA, blockA, reduceCtorEq, reduceIte, Nat.reduceEqDiff, Nat.reduceBEq, Int.reduceLE, Int.reduceToNat, Nat.reduceAdd, Nat.reduceLT, Nat.reduceLeDiff]
    repeat' (first | (with_reducible refine hK _ ?_; clear hK K) | with_reducible apply And.intro)
    refine awp_ret ?_
    exact ret_tmp_le (.inr rfl) rfl rfl rfl (fun _ _ => rfl) (.nil _ _ _ (by intro h; cases h)) rfl
  · intro M N vs hI hR hn hN hu
    obtain ⟨hl, hr⟩ := hR
    obtain ⟨v0, v1, rfl⟩ : ∃ v0 v1, vs = #[v0, v1] := by
      match vs, hl with
      | ⟨[a, b]⟩, _ => exact ⟨a, b, rfl⟩
    have r0 := hr 0 _ _ rfl rfl
    have r1 := hr 1 _ _ rfl rfl
    obtain rfl : v0 = .slice none 0 0 := by
      cases r0 with
      | nil _ _ a h1 h2 => rw [h2 rfl]
      | slice _ _ _ a cap hs hcap hsz hst hc hmd => exact hmd.elim
    have e1 := val_of r1
    subst e1
    obtain ⟨i0, z, hi0, hi1, hi2, hi3, hi4⟩ := ok37.info
    refine (grow_calls_rows n M.w (by omega) hbig i0 z hi0 hi3 (by rw [hi1]; decide) hi2).mono fun e w' hw => ?_
    obtain ⟨rfl, rfl⟩ := hw
    have hcap := VS.grownCap_ge M.w n 0 37
    generalize grownCap M.w n 0 37 = cap at hcap ⊢
    have e0 := Ext.withW (M := M) (w' := M.w.drew) rfl
    have hI0 : Inv (M.withW M.w.drew) := hI.withW rfl rfl rfl rfl
    have hk : rowBelow (M.withW M.w.drew) k 37 1 0 := .inl hn.1
    have hz1 : z.cells.size = 1 := by
      have := ok37.len
      rw [← hi4] at this
      simpa using this
    have hzs : ∀ m, (Builtin.zeroCells z.cells m).size = m * 1 := fun m => by simp [Builtin.zeroCells, hz1]
    have hzl : ∀ v, v ∈ z.cells.toList → leaf v := fun v hv => by
      rw [hi4] at hv
      exact leaf_of_B (List.all_eq_true.1 ok37.leafs v hv)
    refine ⟨_, rfl, (M.withW M.w.drew).moveRow k 37 1 (#[] ++ Builtin.zeroCells z.cells n ++ Builtin.zeroCells z.cells (cap - n)) 0 cap, rfl, e0.trans (Ext.moveRow hI0 hk _ _), hI0.moveRow hk (by simp [hzs]; omega) (Nat.zero_le _) (fun i v h => ?_), fun j _ => rfl, ?_⟩
    · rw [Array.getElem?_append] at h
      split at h
      · rw [Array.empty_append] at h; exact zeroCells_leaf hzl (by rw [hz1]; decide) _ _ _ h
      · exact zeroCells_leaf hzl (by rw [hz1]; decide) _ _ _ h
    · have hβ : ((M.withW M.w.drew).moveRow k 37 1 (#[] ++ Builtin.zeroCells z.cells n ++ Builtin.zeroCells z.cells (cap - n)) 0 cap).β k = M.w.heap.size := by simp [Mem.moveRow, Mem.withW]
      exact .slice 1 [] (.own k) ⟨M.w.heap.size, 0, none⟩ cap rfl (Nat.zero_le _) (fun row h => by simp at h) (fun o ho => by simp at ho) (fun i j row c v h => by simp at h)
        ⟨37, 0, by simp [Mem.moveRow, upd1], Nat.le_refl _, fun _ => .inr ⟨rfl, hβ.symm, by simp [Mem.moveRow]⟩⟩
theorem c_concat_rows (k : Nat) (a b : List (List AV)) (m0 m1 m2 : Md) (hb : a.length + b.length ≤ 1000000) :
    ACall Try.prog 70 [.sl 1 [[.sl 1 a m1], [.sl 1 b m2]] m0] [(k, none)] (.sl 1 (a ++ b) (.own k)) [(k, .row 37 1 (a.length + b.length))] := by
  refine acall_of 0 Try.func70 rfl fun n out _ _ => ?_
  simp only [Try.ntmps70, List.length_cons, List.length_nil, List.length_map, List.length_replicate, rep_map, Nat.reduceAdd, Nat.reduceSub, List.replicate, List.cons_append, List.nil_append]
  rename_i hneeds hg
  obtain ⟨hk, _⟩ := hneeds
  obtain ⟨hkn, _⟩ := hg
  obtain ⟨els, hels⟩ : ∃ els, els = [[AV.sl 1 a m1], [AV.sl 1 b m2]] := ⟨_, rfl⟩
  rw [← hels]
  have hl2 : els.length = 2 := by rw [hels]; rfl
  obtain ⟨cat, hcat⟩ : ∃ cat : Nat → List (List AV), cat = fun c => (([a, b] : List (List (List AV))).take c).flatten := ⟨_, rfl⟩
  have elem : ∀ c, c < 2 → ∃ l md, els.getD c [] = [.sl 1 l md] ∧ cat (c + 1) = cat c ++ l := fun c hc => by
    rw [hels, hcat]
    match c, hc with
    | 0, _ => exact ⟨a, m1, rfl, by simp⟩
    | 1, _ => exact ⟨b, m2, rfl, by simp⟩
  have cat0 : cat 0 = [] := by rw [hcat]; rfl
  have cat2 : cat 2 = a ++ b := by rw [hcat]; simp
  have catl : ∀ c, c ≤ 2 → (cat c).length ≤ a.length + b.length := fun c hc => by
    rw [hcat]
    match c, hc with
    | 0, _ => simp
    | 1, _ => simp
    | 2, _ => simp
  refine awp_seq_k fun K hK => awp_ev tab_ok [] ?_
  simp (maxSteps := 4000000) only [su, evLit, hbT, tab, thenA, blockA, reduceCtorEq, reduceIte, Nat.reduceEqDiff, Nat.reduceBEq, Int.reduceLE, Int.reduceToNat, Nat.reduceAdd, Nat.reduceLT, Nat.reduceLeDiff]
  repeat' (first | (with_reducible refine hK _ ?_; clear hK K) | with_reducible apply And.intro)
  refine awp_seq_k fun K hK => awp_ev tab_ok [] ?_
  simp (maxSteps := 4000000) only [su, evLit, hbT, tab, thenA, blockA, reduceCtorEq, reduceIte, Nat.reduceEqDiff, Nat.reduceBEq, Int.reduceLE, Int.reduceToNat, Nat.reduceAdd, Nat.reduceLT, Nat.reduceLeDiff]
  repeat' (first | (with_reducible refine hK _ ?_; clear hK K) | with_reducible apply And.intro)
  refine awp_seq_k fun KB hKB => ?_
  refine awp_seq_k fun K hK => awp_ev tab_ok [] ?_
  simp (maxSteps := 4000000) only [su, evLit, hbT, tab, thenA, blockA, reduceCtorEq, reduceIte, Nat.reduceEqDiff, Nat.reduceBEq, Int.reduceLE, Int.reduceToNat, Nat.reduceAdd, Nat.reduceLT, Nat.reduceLeDiff, hl2]
  repeat' (first | (with_reducible refine hK _ ?_; clear hK K) | with_reducible apply And.intro)
  refine awp_block ?_
  refine awp_for_g (fun c : Nat => [(11, i64 (c : Int)), (3, i64 (((cat c).length : Nat) : Int)), (5, .top), (12, .top), (13, .top), (14, .top), (15, .top), (16, .top), (17, .top), (18, .top), (19, .top), (20, .top), (21, .top), (22, .top)]) (fun c => []) (fun c => out) (fun c => c ≤ 2) (fun c => 2 - c) 0 (Nat.zero_le _) ?_ fun c hc => ?_
  · refine le_of_all ?_ ?_ (by first | rfl | (simp only [cat0, List.length_nil]; rfl) | simp only [cat0, List.length_nil]) rfl rfl rfl <;> simp only [patch, sl, cat0, List.length_nil]
  simp only [patch, s_0, s_s]
  refine awp_seq_k fun K hK => awp_ev tab_ok [] ?_
  simp (maxSteps := 4000000) only [su, evLit, hbT, tab, thenA, blockA, reduceCtorEq, reduceIte, Nat.reduceEqDiff, Nat.reduceBEq, Int.reduceLE, Int.reduceToNat, Nat.reduceAdd, Nat.reduceLT, Nat.reduceLeDiff, cat0, List.length_nil]
  repeat' (first | (with_reducible refine hK _ ?_; clear hK K) | with_reducible apply And.intro)
  refine awp_seq_k fun KC hKC => ?_
  refine awp_if rfl (fun ht => awp_skip (hKC _ ?_)) (fun hf => awp_exit (id ?_))
  rotate_left
  · simp only [thenA, blockA, if_true]
    refine hKB _ ?_
    clear hKB KB hKC KC
    have hc2 : c = 2 := by have := of_decide_eq_false hf; omega
    subst hc2
    rw [cat2]
    have hlab : (a ++ b).length = a.length + b.length := List.length_append
    rw [hlab]
    refine awp_seq_k fun K hK => awp_ev tab_ok [] ?_
    simp (maxSteps := 4000000) only [su, evLit, hbT, tab, thenA, blockA, reduceCtorEq, reduceIte, Nat.reduceEqDiff, Nat.reduceBEq, Int.reduceLE, Int.reduceToNat, Nat.reduceAdd, Nat.reduceLT, Nat.reduceLeDiff]
    repeat' (first | (with_reducible refine hK _ ?_; clear hK K) | with_reducible apply And.intro)
    refine call_one (c_grow_rows k _ (by omega)) (by rw [lk_out hkn]; exact hk) (by rw [dm_out hkn]; trivial) (by simp) ?_
    simp (maxSteps := 4000000) only [su, evLit, hbT, tab, thenA, blockA, reduceCtorEq, reduceIte, Nat.reduceEqDiff, Nat.reduceBEq, Int.reduceLE, Int.reduceToNat, Nat.reduceAdd, Nat.reduceLT, Nat.reduceLeDiff, lk_out hkn, dm_out hkn, nx_out0 hkn]
    repeat' (first | (with_reducible refine hK _ ?_; clear hK K) | with_reducible apply And.intro)
    refine awp_seq_k fun KB hKB => ?_
    refine awp_seq_k fun K hK => awp_ev tab_ok [] ?_
    simp (maxSteps := 4000000) only [su, evLit, hbT, tab, thenA, blockA, reduceCtorEq, reduceIte, Nat.reduceEqDiff, Nat.reduceBEq, Int.reduceLE, Int.reduceToNat, Nat.reduceAdd, Nat.reduceLT, Nat.reduceLeDiff, hl2]
    repeat' (first | (with_reducible refine hK _ ?_; clear hK K) | with_reducible apply And.intro)
    refine awp_block ?_
    refine awp_for_g (fun c : Nat => [(27, i64 (c : Int)), (6, .sl 1 (cat c) (.own k)), (8, .top), (28, .top), (29, .top), (30, .top), (31, .top), (32, .top), (33, .top), (34, .top)]) (fun c => []) (fun c => upd1 out k (.row 37 1 (cat c).length)) (fun c => c ≤ 2) (fun c => 2 - c) 0 (Nat.zero_le _) ?_ fun c hc => ?_
    · refine le_of_all ?_ ?_ (by first | rfl | (simp only [cat0, List.length_nil]; rfl) | simp only [cat0, List.length_nil]) rfl rfl rfl <;> simp only [patch, sl, cat0, List.length_nil]
    simp only [patch, s_0, s_s]
    refine awp_seq_k fun K hK => awp_ev tab_ok [] ?_
    simp (maxSteps := 4000000) only [su, evLit, hbT, tab, thenA, blockA, reduceCtorEq, reduceIte, Nat.reduceEqDiff, Nat.reduceBEq, Int.reduceLE, Int.reduceToNat, Nat.reduceAdd, Nat.reduceLT, Nat.reduceLeDiff, cat0, List.length_nil]
    repeat' (first | (with_reducible refine hK _ ?_; clear hK K) | with_reducible apply And.intro)
    refine awp_seq_k fun KC hKC => ?_
    refine awp_if rfl (fun ht => awp_skip (hKC _ ?_)) (fun hf => awp_exit (id ?_))
    rotate_left
    · simp only [thenA, blockA, if_true]
      refine hKB _ ?_
      clear hKB KB hKC KC
      have hc2 : c = 2 := by have := of_decide_eq_false hf; omega
      subst hc2
      rw [cat2, hlab]
      refine awp_seq_k fun K hK => awp_ev tab_ok [] ?_
      simp (maxSteps := 4000000) only [su, evLit, hbT, tab, thenA, blockA, reduceCtorEq, reduceIte, Nat.reduceEqDiff, Nat.reduceBEq, Int.reduceLE, Int.reduceToNat, Nat.reduceAdd, Nat.reduceLT, Nat.reduceLeDiff]
      repeat' (first | (with_reducible refine hK _ ?_; clear hK K) | with_reducible apply And.intro)
      refine awp_ret ?_
      exact ret_tmp (.inr rfl) rfl rfl rfl (fun _ _ => rfl) rfl
    clear hKC KC
    have hc2 : c < 2 := by have := of_decide_eq_true ht; omega
    have hc3 : (c : Int) < 2 := by omega
    obtain ⟨l, md, hel, hct⟩ := elem c hc2
    have hcl := catl (c + 1) (by omega)
    have hcl2 : (cat c).length + l.length = (cat (c + 1)).length := by rw [hct, List.length_append]
    have e3 : (cat (c + 1)).length ≤ 140737488355328 := by omega
    have e4 : (cat (c + 1)).length ≤ 9223372036854775807 := by omega
    refine awp_seq_k fun KC hKC => awp_block ?_
    refine awp_seq_k fun K hK => awp_ev tab_ok [] ?_
    simp (maxSteps := 4000000) only [su, evLit, hbT, tab, thenA, blockA, reduceCtorEq, reduceIte, Nat.reduceEqDiff, Nat.reduceBEq, Int.reduceLE, Int.reduceToNat, Nat.reduceAdd, Nat.reduceLT, Nat.reduceLeDiff, hl2, hel, hc2, hc3, nc]
    repeat' (first | (with_reducible refine hK _ ?_; clear hK K) | with_reducible apply And.intro)
    refine awp_ev tab_ok [] ?_
    simp (maxSteps := 4000000) only [su, evLit, hbT, tab, thenA, blockA, reduceCtorEq, reduceIte, Nat.reduceEqDiff, Nat.reduceBEq, Int.reduceLE, Int.reduceToNat, Nat.reduceAdd, Nat.reduceLT, Nat.reduceLeDiff, hcl2, e3, e4, lk_out hkn, dm_out hkn, nx_out0 hkn, upd1_same, upd1_upd1]
    repeat refine And.intro (by omega) ?_
    refine hKC _ ?_
    clear hKC KC
    refine awp_ev tab_ok [] ?_
    simp (maxSteps := 4000000) only [su, evLit, hbT, tab, thenA, blockA, reduceCtorEq, reduceIte, Nat.reduceEqDiff, Nat.reduceBEq, Int.reduceLE, Int.reduceToNat, Nat.reduceAdd, Nat.reduceLT, Nat.reduceLeDiff, addw (n := c) 1 1 rfl (by omega)]
    refine ⟨c + 1, by omega, by omega, ?_⟩
    rw [hct]
    refine le_of_all ?_ ?_ rfl rfl rfl rfl <;> simp only [patch, sl]
  clear hKC KC
  have hc2 : c < 2 := by have := of_decide_eq_true ht; omega
  have hc3 : (c : Int) < 2 := by omega
  obtain ⟨l, md, hel, hct⟩ := elem c hc2
  have hcl := catl (c + 1) (by omega)
  have hcl2 : (cat (c + 1)).length = (cat c).length + l.length := by rw [hct, List.length_append]
  have q1 : IntKind.i64.wrap (((cat c).length : Int) + (l.length : Int)) = (((cat (c + 1)).length : Nat) : Int) := by rw [wrap_i64] <;> omega
  have q2 : decide ((((cat (c + 1)).length : Nat) : Int) < 0) = false := decide_eq_false (by omega)
  refine awp_seq_k fun KC hKC => awp_block ?_
  refine awp_seq_k fun K hK => awp_ev tab_ok [] ?_
  simp (maxSteps := 4000000) only [su, evLit, hbT, tab, thenA, blockA, reduceCtorEq, reduceIte, Nat.reduceEqDiff, Nat.reduceBEq, Int.reduceLE, Int.reduceToNat, Nat.reduceAdd, Nat.reduceLT, Nat.reduceLeDiff, hl2, hel, hc2, hc3, nc]
  repeat' (first | (with_reducible refine hK _ ?_; clear hK K) | with_reducible apply And.intro)
  refine awp_seq_k fun K hK => awp_ev tab_ok [] ?_
  simp (maxSteps := 4000000) only [su, evLit, hbT, tab, thenA, blockA, reduceCtorEq, reduceIte, Nat.reduceEqDiff, Nat.reduceBEq, Int.reduceLE, Int.reduceToNat, Nat.reduceAdd, Nat.reduceLT, Nat.reduceLeDiff, q1]
  repeat' (first | (with_reducible refine hK _ ?_; clear hK K) | with_reducible apply And.intro)
  refine awp_seq_k fun K hK => awp_ev tab_ok [] ?_
  simp (maxSteps := 4000000) only [su, evLit, hbT, tab, thenA, blockA, reduceCtorEq, reduceIte, Nat.reduceEqDiff, Nat.reduceBEq, Int.reduceLE, Int.reduceToNat, Nat.reduceAdd, Nat.reduceLT, Nat.reduceLeDiff, q2]
  repeat' (first | (with_reducible refine hK _ ?_; clear hK K) | with_reducible apply And.intro)
  refine awp_cond_f rfl (awp_skip (id ?_))
  simp only [blockA, thenA]
  refine hKC _ ?_
  clear hKC KC
  refine awp_ev tab_ok [] ?_
  simp (maxSteps := 4000000) only [su, evLit, hbT, tab, thenA, blockA, reduceCtorEq, reduceIte, Nat.reduceEqDiff, Nat.reduceBEq, Int.reduceLE, Int.reduceToNat, Nat.reduceAdd, Nat.reduceLT, Nat.reduceLeDiff, addw (n := c) 1 1 rfl (by omega)]
  refine ⟨c + 1, by omega, by omega, ?_⟩
  refine le_of_all ?_ ?_ rfl rfl rfl rfl <;> simp only [patch, sl]
end Go.Proofs.Ytefkjdkalgemeaa
