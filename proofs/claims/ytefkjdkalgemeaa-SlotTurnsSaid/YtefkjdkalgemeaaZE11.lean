/-
  The generation behind another one.
-/
import Derived.Test.YtefkjdkalgemeaaZGA
import Derived.Test.YtefkjdkalgemeaaZE10
namespace Go.Proofs.Ytefkjdkalgemeaa
set_option linter.unusedVariables false
set_option linter.unusedSimpArgs false
open Go Go.VS Tab
set_option maxHeartbeats 16000000
set_option maxRecDepth 8000
theorem andNot1 (x : BitVec 64) : x &&& ~~~ (1 : BitVec 64) = (x >>> 1) <<< 1 := by
  refine BitVec.eq_of_getLsbD_eq fun i hi => ?_
  simp only [BitVec.getLsbD_and, BitVec.getLsbD_not, BitVec.getLsbD_shiftLeft, BitVec.getLsbD_ushiftRight]
  match i, hi with
  | 0, _ => simp
  | i + 1, hi =>
    have e : (1 : BitVec 64).getLsbD (i + 1) = false := by
      show (1#64).getLsbD (i + 1) = false
      rw [BitVec.getLsbD_one]; simp
    simp [e, hi, Nat.add_comm]
theorem w64_even (y : Nat) (h : y < 18446744073709551616) : evInt .andNot .u64 (y : Int) 1 = some (.int .u64 ((y / 2 * 2 : Nat) : Int)) := by
  show some (Value.int .u64 (IntKind.u64.wrap (((BitVec.ofInt 64 (y : Int) &&& ~~~ BitVec.ofInt 64 1).toNat : Nat) : Int))) = _
  rw [ofInt_nat, show BitVec.ofInt 64 1 = (1 : BitVec 64) from rfl, andNot1]
  congr 2
  have e : ((BitVec.ofNat 64 y >>> 1) <<< 1).toNat = y / 2 * 2 := by
    rw [BitVec.toNat_shiftLeft, BitVec.toNat_ushiftRight, BitVec.toNat_ofNat, Nat.mod_eq_of_lt h, Nat.shiftLeft_eq, Nat.shiftRight_eq_div_pow]
    omega
  rw [e, wrap_u64 (by omega) (by omega)]
theorem stepN_max (n g : Nat) : stepN n g ≤ max g (n + 2) := by unfold stepN; split <;> omega
theorem nextS_max (d : Dsk) (s g : Nat) (h : g ≤ 4294967297) : ∀ i, nextS d s g i ≤ 4294967297
  | 0 => h
  | i + 1 => by
    have ih := nextS_max d s g h i
    have h1 := stepN_max (headB (readB d ((s + i : Nat) : Int))).toNat (nextS d s g i)
    have h2 := stepN_max (tailB (readB d ((s + i : Nat) : Int))).toNat (stepN (headB (readB d ((s + i : Nat) : Int))).toNat (nextS d s g i))
    have h3 := (headB (readB d ((s + i : Nat) : Int))).isLt
    have h4 := (tailB (readB d ((s + i : Nat) : Int))).isLt
    show stepN _ (stepN _ _) ≤ _
    omega
abbrev u64 (x : Nat) : AV := .val (.int .u64 (x : Int))
theorem c_slotNext (d : Dsk) (g : BitVec 32) (h1 : d.sectors.length ≤ 1000) (h2 : d.waits.length ≤ 1000) : ACall Try.prog 49 [dskA d, w32 g] [] (.tup [w32 (nextW d g), i64 (nextE d g)]) [] := by
  have cc := c_check d h1 h2
  have cr := fun (i : Nat) => c_read d (i : Int) h1 h2
  simp only [dskA, dskC] at cc cr
  cases hmd : may d with
  | false =>
    have hE : nextE d g = 8 := by unfold nextE; rw [hmd]; rfl
    have hW : nextW d g = 0 := by unfold nextW; rw [hE, if_neg (by decide)]
    rw [hE, hW]
    rw [hmd] at cc
    simp only [Bool.false_eq_true, if_false] at cc
    refine acall_of 1 Try.func49 rfl fun n out _ _ => ?_
    simp only [Try.ntmps49, List.length_cons, List.length_nil, List.length_map, List.length_replicate, rep_map, Nat.reduceAdd, Nat.reduceSub, List.replicate, List.cons_append, List.nil_append]
    repeat' (first | (with_reducible first | refine awp_seq_k fun K hK => ?_ | refine awp_ev tab_ok [] ?_ | refine awp_block_s ?_ | refine awp_block_c ?_ | refine awp_block_r ?_ | refine awp_skip ?_ | apply And.intro | refine awp_ev_quiet tab_ok follows (by kernel_rfl) ?_) | ((with_reducible first | refine gE ?_ | refine gR ?_); simp (maxSteps := 4000000) only [su, evLit, hbT, tab, thenA, blockA, reduceCtorEq, reduceIte, Nat.reduceEqDiff, Nat.reduceBEq, Int.reduceLE, Int.reduceToNat, Nat.reduceAdd, Nat.reduceLT, Nat.reduceLeDiff, dskA, dskC, Int.reduceBNe]) | (show (_ : Nat) = (_ : Nat); rfl) | ((with_reducible refine awp_ret ?_); refine ret_tmp2 (.inr rfl) rfl rfl rfl (fun _ _ => rfl) ?_ ?_ <;> first | rfl | skip) | (refine call_pure (cc) ?_) | ((with_reducible refine awp_exit ?_); simp only [thenA, blockA, if_true, if_false, reduceIte, Nat.reduceEqDiff]) | (refine hK _ ?_; clear hK K) | refine awp_cond_t rfl ?_ | refine awp_cond_f rfl ?_ | refine awp_if rfl (fun hg => ?_) (fun hg => ?_) | clear hK K)
  | true =>
    rw [hmd] at cc
    simp only [if_true] at cc
    have hgl := g.isLt
    have hs := slot_le (g + 1)
    have csl := c_slot (g + 1)
    have q1 : IntKind.u64.wrap (g.toNat : Int) = (g.toNat : Int) := wrap_u64 (by omega) (by omega)
    have q2 : IntKind.u64.wrap ((g.toNat : Int) + 1) = ((g.toNat + 1 : Nat) : Int) := by rw [wrap_u64 (by omega) (by omega)]; rfl
    have q3 : IntKind.u32.wrap ((g.toNat : Int) + 1) = ((g + 1).toNat : Int) := w32_add g 1
    obtain ⟨s, hss⟩ : ∃ s, s = slotN (g + 1) := ⟨_, rfl⟩
    obtain ⟨X, hX⟩ : ∃ X : Nat → Nat, X = nextS d s (g.toNat + 1) := ⟨_, rfl⟩
    have hX0 : X 0 = g.toNat + 1 := by rw [hX]; rfl
    have hXS : ∀ i, X (i + 1) = stepN (tailB (readB d ((s + i : Nat) : Int))).toNat (stepN (headB (readB d ((s + i : Nat) : Int))).toNat (X i)) := fun i => by rw [hX]; rfl
    have hXm : ∀ i, X i ≤ 4294967297 := fun i => by rw [hX]; exact nextS_max d s _ (by omega) i
    have hN : nextN d g = X 16 := by rw [hX, hss]; rfl
    rw [← hss] at csl
    clear hX
    refine acall_of 1 Try.func49 rfl fun n out _ _ => ?_
    simp only [Try.ntmps49, List.length_cons, List.length_nil, List.length_map, List.length_replicate, rep_map, Nat.reduceAdd, Nat.reduceSub, List.replicate, List.cons_append, List.nil_append]
    repeat' (first | (with_reducible first | refine awp_seq_k fun K hK => ?_ | refine awp_ev tab_ok [] ?_ | refine awp_block_s ?_ | refine awp_block_c ?_ | refine awp_block_r ?_ | refine awp_skip ?_ | apply And.intro | refine awp_ev_quiet tab_ok follows (by kernel_rfl) ?_) | ((with_reducible first | refine gE ?_ | refine gR ?_); simp (maxSteps := 4000000) only [su, evLit, hbT, tab, thenA, blockA, reduceCtorEq, reduceIte, Nat.reduceEqDiff, Nat.reduceBEq, Int.reduceLE, Int.reduceToNat, Nat.reduceAdd, Nat.reduceLT, Nat.reduceLeDiff, dskA, dskC, Int.reduceBNe, q1, q2, q3]) | (show (_ : Nat) = (_ : Nat); rfl) | ((with_reducible refine awp_ret ?_); refine ret_tmp2 (.inr rfl) rfl rfl rfl (fun _ _ => rfl) ?_ ?_ <;> first | rfl | skip) | (refine call_pure (cc) ?_) | (refine call_pure (csl) ?_) | ((with_reducible refine awp_exit ?_); simp only [thenA, blockA, if_true, if_false, reduceIte, Nat.reduceEqDiff]) | (refine hK _ ?_; clear hK K) | refine awp_cond_t rfl ?_ | refine awp_cond_f rfl ?_ | refine awp_if rfl (fun hg => ?_) (fun hg => ?_) | clear hK K)
    refine awp_block ?_
    refine awp_for_g (fun i : Nat => [(7, u64 (X i)), (25, i64 (i : Int)), (9, .top), (10, .top), (11, .top), (13, .top), (26, .top), (27, .top), (28, .top), (29, .top), (30, .top), (31, .top), (32, .top), (33, .top), (34, .top), (35, .top), (36, .top), (37, .top), (38, .top), (39, .top), (40, .top), (41, .top), (42, .top), (43, .top), (44, .top), (45, .top), (46, .top), (47, .top), (48, .top), (49, .top), (50, .top), (51, .top), (52, .top), (53, .top), (54, .top), (55, .top), (56, .top), (57, .top), (58, .top), (59, .top), (60, .top), (61, .top)]) (fun i => [some (.box 25 (dskC d))]) (fun i => out) (fun i => i ≤ 16) (fun i => 16 - i) 0 (Nat.zero_le _) ?_ fun i hi => ?_
    · refine le_of_all ?_ ?_ (by first | rfl | (simp only [dskC, hX0]; rfl) | simp only [dskC, hX0]) rfl rfl rfl <;> simp only [patch, sl, dskC, hX0]
    simp only [patch, s_0, s_s]
    have hw := addw (n := i) 1 1 rfl (by omega)
    by_cases hlt : i < 16
    · have hlt' : (i : Int) < 16 := by omega
      have hws := addw (n := s) (i : Int) i rfl (by omega)
      have c1 := cr (s + i)
      rw [readE_0.2 ⟨hmd, by omega, by omega⟩] at c1
      have lb : (readB d ((s + i : Nat) : Int)).length = 128 := read_len hmd (by omega)
      have hXi := hXS i
      obtain ⟨B, hB⟩ : ∃ B, B = readB d ((s + i : Nat) : Int) := ⟨_, rfl⟩
      rw [← hB] at c1 lb hXi
      have c2 := c_get (B.take 4) .sh (by rw [List.length_take]; omega)
      have c3 := c_get (B.drop 124) .sh (by rw [List.length_drop]; omega)
      have t124 : List.take (128 - 124) (List.drop 124 B) = B.drop 124 := List.take_of_length_le (by rw [List.length_drop]; omega)
      have lit : ∀ (σ : AState) (K : AV → List (Nat × Res) → Prop), evLit tab σ K none 118 2 [(0, w32 (getB (B.take 4))), (1, w32 (getB (B.drop 124)))] = K (.sl 1 [[w32 (getB (B.take 4))], [w32 (getB (B.drop 124))]] .full) [] := fun σ K => evLit_two (T := tab) (ti := ti118) (te := ti63) rfl rfl rfl rfl rfl rfl
      repeat' (first | (with_reducible first | refine awp_seq_k fun K hK => ?_ | refine awp_ev tab_ok [] ?_ | refine awp_block_s ?_ | refine awp_block_c ?_ | refine awp_block_r ?_ | refine awp_skip ?_ | apply And.intro | refine awp_ev_quiet tab_ok follows (by kernel_rfl) ?_) | ((with_reducible first | refine gE ?_ | refine gR ?_); simp (maxSteps := 4000000) only [su, hbT, tab, thenA, blockA, reduceCtorEq, reduceIte, Nat.reduceEqDiff, Nat.reduceBEq, Int.reduceLE, Int.reduceToNat, Nat.reduceAdd, Nat.reduceLT, Nat.reduceLeDiff, lit, dskC, hlt', hws, bytes_length, lb, loOf, hiOf, bytes_take, bytes_drop, Nat.sub_zero, Int.reduceToNat, t124]) | (show (_ : Nat) = (_ : Nat); rfl) | ((with_reducible refine awp_ret ?_); refine ret_tmp2 (.inr rfl) rfl rfl rfl (fun _ _ => rfl) ?_ ?_ <;> first | rfl | skip) | (refine call_pure (c1) ?_) | (refine call_pure (c2) ?_) | (refine call_pure (c3) ?_) | ((with_reducible refine awp_exit ?_); simp only [thenA, blockA, if_true, if_false, reduceIte, Nat.reduceEqDiff]) | (refine hK _ ?_; clear hK K) | refine awp_cond_t rfl ?_ | refine awp_cond_f rfl ?_ | refine awp_if rfl (fun hg => ?_) (fun hg => ?_) | clear hK K)
      obtain ⟨H, hH⟩ : ∃ H, H = getB (B.take 4) := ⟨_, rfl⟩
      obtain ⟨T, hT⟩ : ∃ T, T = getB (B.drop 124) := ⟨_, rfl⟩
      rw [← hH, ← hT]
      have hX2 : X (i + 1) = stepN T.toNat (stepN H.toNat (X i)) := by rw [hXi, hH, hT]; rfl
      obtain ⟨Y, hY⟩ : ∃ Y : Nat → Nat, Y = fun j => if j = 0 then X i else if j = 1 then stepN H.toNat (X i) else stepN T.toNat (stepN H.toNat (X i)) := ⟨_, rfl⟩
      have Y0 : Y 0 = X i := by rw [hY]; rfl
      have Y1 : Y 1 = stepN H.toNat (Y 0) := by rw [hY]; rfl
      have Y2 : Y 2 = stepN T.toNat (Y 1) := by rw [hY]; rfl
      have Y2' : Y 2 = X (i + 1) := by rw [hX2, hY]; rfl
      have hYm : ∀ j, j < 2 → Y j ≤ 4294967297 := fun j hj => by
        have := hXm i
        have := stepN_max H.toNat (Y 0)
        have := H.isLt
        rcases (show j = 0 ∨ j = 1 by omega) with rfl | rfl <;> omega
      clear hY
      rw [← Y0]
      refine awp_block ?_
      refine awp_for_g (fun j : Nat => [(7, u64 (Y j)), (44, i64 (j : Int)), (13, .top), (45, .top), (46, .top), (47, .top), (48, .top), (49, .top), (50, .top), (51, .top), (52, .top), (53, .top), (54, .top), (55, .top), (56, .top), (57, .top), (58, .top), (59, .top), (60, .top)]) (fun j => [some (.box 25 (dskC d))]) (fun j => out) (fun j => j ≤ 2) (fun j => 2 - j) 0 (Nat.zero_le _) ?_ fun j hj => ?_
      · refine le_of_all ?_ ?_ (by first | rfl | (simp only [dskC]; rfl) | simp only [dskC]) rfl rfl rfl <;> simp only [patch, sl, dskC]
      simp only [patch, s_0, s_s]
      have hwj := addw (n := j) 1 1 rfl (by omega)
      by_cases hj2 : j < 2
      · have hj2' : (j : Int) < 2 := by omega
        obtain ⟨N, gN, hNS, hNl⟩ : ∃ N : BitVec 32, ([[w32 H], [w32 T]] : List (List AV)).getD j [] = [w32 N] ∧ Y (j + 1) = stepN N.toNat (Y j) ∧ N.toNat < 4294967296 := by
          rcases (show j = 0 ∨ j = 1 by omega) with rfl | rfl
          · exact ⟨H, rfl, Y1, H.isLt⟩
          · exact ⟨T, rfl, Y2, T.isLt⟩
        have hYj := hYm j hj2
        have r1 : IntKind.u64.wrap (N.toNat : Int) = (N.toNat : Int) := wrap_u64 (by omega) (by omega)
        by_cases hge : Y j ≤ N.toNat
        · have hS : Y (j + 1) = Y j + (N.toNat - Y j + 2) / 2 * 2 := by rw [hNS]; unfold stepN; rw [if_pos hge]
          have r2 : IntKind.u64.wrap ((N.toNat : Int) - (Y j : Int)) = ((N.toNat - Y j : Nat) : Int) := by rw [wrap_u64 (by omega) (by omega)]; omega
          have r3 : IntKind.u64.wrap (((N.toNat - Y j : Nat) : Int) + 2) = ((N.toNat - Y j + 2 : Nat) : Int) := by rw [wrap_u64 (by omega) (by omega)]; rfl
          have r4 := w64_even (N.toNat - Y j + 2) (by omega)
          have r5 : IntKind.u64.wrap ((Y j : Int) + (((N.toNat - Y j + 2) / 2 * 2 : Nat) : Int)) = (Y (j + 1) : Int) := by rw [hS, wrap_u64 (by omega) (by omega)]; omega
          repeat' (first | (with_reducible first | refine awp_seq_k fun K hK => ?_ | refine awp_ev tab_ok [] ?_ | refine awp_block_s ?_ | refine awp_block_c ?_ | refine awp_block_r ?_ | refine awp_skip ?_ | apply And.intro | refine awp_ev_quiet tab_ok follows (by kernel_rfl) ?_) | ((with_reducible first | refine gE ?_ | refine gR ?_); simp (maxSteps := 4000000) only [su, evLit, hbT, tab, thenA, blockA, reduceCtorEq, reduceIte, Nat.reduceEqDiff, Nat.reduceBEq, Int.reduceLE, Int.reduceToNat, Nat.reduceAdd, Nat.reduceLT, Nat.reduceLeDiff, dskC, hj2', hj2, hwj, gN, pick_cons, r1, r2, r3, r4, r5, hge, ge_iff_le, Int.ofNat_le]) | (show (_ : Nat) = (_ : Nat); rfl) | ((with_reducible refine awp_ret ?_); refine ret_tmp2 (.inr rfl) rfl rfl rfl (fun _ _ => rfl) ?_ ?_ <;> first | rfl | skip) | ((with_reducible refine awp_exit ?_); simp only [thenA, blockA, if_true, if_false, reduceIte, Nat.reduceEqDiff]) | (refine hK _ ?_; clear hK K) | refine awp_cond_t rfl ?_ | refine awp_cond_f rfl ?_ | refine awp_if rfl (fun hg => ?_) (fun hg => ?_) | clear hK K)
          refine ⟨j + 1, by omega, by omega, ?_⟩
          refine le_of_all ?_ ?_ rfl rfl rfl rfl <;> simp only [patch, sl, dskC, hj2', decide_true]
        · have hS : Y (j + 1) = Y j := by rw [hNS]; unfold stepN; rw [if_neg hge]
          repeat' (first | (with_reducible first | refine awp_seq_k fun K hK => ?_ | refine awp_ev tab_ok [] ?_ | refine awp_block_s ?_ | refine awp_block_c ?_ | refine awp_block_r ?_ | refine awp_skip ?_ | apply And.intro | refine awp_ev_quiet tab_ok follows (by kernel_rfl) ?_) | ((with_reducible first | refine gE ?_ | refine gR ?_); simp (maxSteps := 4000000) only [su, evLit, hbT, tab, thenA, blockA, reduceCtorEq, reduceIte, Nat.reduceEqDiff, Nat.reduceBEq, Int.reduceLE, Int.reduceToNat, Nat.reduceAdd, Nat.reduceLT, Nat.reduceLeDiff, dskC, hj2', hj2, hwj, gN, pick_cons, r1, hge, ge_iff_le, Int.ofNat_le]) | (show (_ : Nat) = (_ : Nat); rfl) | ((with_reducible refine awp_ret ?_); refine ret_tmp2 (.inr rfl) rfl rfl rfl (fun _ _ => rfl) ?_ ?_ <;> first | rfl | skip) | ((with_reducible refine awp_exit ?_); simp only [thenA, blockA, if_true, if_false, reduceIte, Nat.reduceEqDiff]) | (refine hK _ ?_; clear hK K) | refine awp_cond_t rfl ?_ | refine awp_cond_f rfl ?_ | refine awp_if rfl (fun hg => ?_) (fun hg => ?_) | clear hK K)
          rw [← hS]
          refine ⟨j + 1, by omega, by omega, ?_⟩
          refine le_of_all ?_ ?_ rfl rfl rfl rfl <;> simp only [patch, sl, dskC, hj2', decide_true]
      · obtain rfl : j = 2 := by omega
        repeat' (first | (with_reducible first | refine awp_seq_k fun K hK => ?_ | refine awp_ev tab_ok [] ?_ | refine awp_block_s ?_ | refine awp_block_c ?_ | refine awp_block_r ?_ | refine awp_skip ?_ | apply And.intro | refine awp_ev_quiet tab_ok follows (by kernel_rfl) ?_) | ((with_reducible first | refine gE ?_ | refine gR ?_); simp (maxSteps := 4000000) only [su, evLit, hbT, tab, thenA, blockA, reduceCtorEq, reduceIte, Nat.reduceEqDiff, Nat.reduceBEq, Int.reduceLE, Int.reduceToNat, Nat.reduceAdd, Nat.reduceLT, Nat.reduceLeDiff, dskC, hj2, hw]) | (show (_ : Nat) = (_ : Nat); rfl) | ((with_reducible refine awp_ret ?_); refine ret_tmp2 (.inr rfl) rfl rfl rfl (fun _ _ => rfl) ?_ ?_ <;> first | rfl | skip) | ((with_reducible refine awp_exit ?_); simp only [thenA, blockA, if_true, if_false, reduceIte, Nat.reduceEqDiff]) | (refine hK _ ?_; clear hK K) | refine awp_cond_t rfl ?_ | refine awp_cond_f rfl ?_ | refine awp_if rfl (fun hg => ?_) (fun hg => ?_) | clear hK K)
        rw [Y2']
        refine ⟨i + 1, by omega, by omega, ?_⟩
        refine le_of_all ?_ ?_ rfl rfl rfl rfl <;> simp only [patch, sl, dskC, hlt', decide_true]
    · obtain rfl : i = 16 := by omega
      have hE : nextE d g = if 4294967295 < X 16 then 9 else 0 := by unfold nextE; rw [hmd, if_pos rfl, hN]
      have hW : nextW d g = if nextE d g = 0 then BitVec.ofNat 32 (X 16) else 0 := by unfold nextW; rw [hN]
      by_cases hbig : 4294967295 < X 16
      · rw [if_pos hbig] at hE
        rw [hE, if_neg (by decide)] at hW
        have hbI : (4294967295 : Int) < (X 16 : Int) := by omega
        have hbG : decide ((X 16 : Int) > 4294967295) = true := decide_eq_true hbI
        repeat' (first | (with_reducible first | refine awp_seq_k fun K hK => ?_ | refine awp_ev tab_ok [] ?_ | refine awp_block_s ?_ | refine awp_block_c ?_ | refine awp_block_r ?_ | refine awp_skip ?_ | apply And.intro | refine awp_ev_quiet tab_ok follows (by kernel_rfl) ?_) | ((with_reducible first | refine gE ?_ | refine gR ?_); simp (maxSteps := 4000000) only [su, evLit, hbT, tab, thenA, blockA, reduceCtorEq, reduceIte, Nat.reduceEqDiff, Nat.reduceBEq, Int.reduceLE, Int.reduceToNat, Nat.reduceAdd, Nat.reduceLT, Nat.reduceLeDiff, dskC, hlt, hbI, hbG]) | (show (_ : Nat) = (_ : Nat); rfl) | ((with_reducible refine awp_ret ?_); refine ret_tmp2 (.inr rfl) rfl rfl rfl (fun _ _ => rfl) ?_ ?_ <;> first | rfl | skip) | ((with_reducible refine awp_exit ?_); simp only [thenA, blockA, if_true, if_false, reduceIte, Nat.reduceEqDiff]) | (refine hK _ ?_; clear hK K) | refine awp_cond_t rfl ?_ | refine awp_cond_f rfl ?_ | refine awp_if rfl (fun hg => ?_) (fun hg => ?_) | clear hK K)
        · rw [hW]; rfl
        · rw [hE]; rfl
      · rw [if_neg hbig] at hE
        rw [hE, if_pos rfl] at hW
        have r6 : IntKind.u32.wrap (X 16 : Int) = ((BitVec.ofNat 32 (X 16)).toNat : Int) := by rw [wrap_u32', BitVec.toNat_ofNat]; omega
        have hbI : ¬ (4294967295 : Int) < (X 16 : Int) := by omega
        have hbG : decide ((X 16 : Int) > 4294967295) = false := decide_eq_false hbI
        repeat' (first | (with_reducible first | refine awp_seq_k fun K hK => ?_ | refine awp_ev tab_ok [] ?_ | refine awp_block_s ?_ | refine awp_block_c ?_ | refine awp_block_r ?_ | refine awp_skip ?_ | apply And.intro | refine awp_ev_quiet tab_ok follows (by kernel_rfl) ?_) | ((with_reducible first | refine gE ?_ | refine gR ?_); simp (maxSteps := 4000000) only [su, evLit, hbT, tab, thenA, blockA, reduceCtorEq, reduceIte, Nat.reduceEqDiff, Nat.reduceBEq, Int.reduceLE, Int.reduceToNat, Nat.reduceAdd, Nat.reduceLT, Nat.reduceLeDiff, dskC, hlt, hbI, hbG, r6]) | (show (_ : Nat) = (_ : Nat); rfl) | ((with_reducible refine awp_ret ?_); refine ret_tmp2 (.inr rfl) rfl rfl rfl (fun _ _ => rfl) ?_ ?_ <;> first | rfl | skip) | ((with_reducible refine awp_exit ?_); simp only [thenA, blockA, if_true, if_false, reduceIte, Nat.reduceEqDiff]) | (refine hK _ ?_; clear hK K) | refine awp_cond_t rfl ?_ | refine awp_cond_f rfl ?_ | refine awp_if rfl (fun hg => ?_) (fun hg => ?_) | clear hK K)
        · rw [hW]; rfl
        · rw [hE]; rfl
end Go.Proofs.Ytefkjdkalgemeaa
