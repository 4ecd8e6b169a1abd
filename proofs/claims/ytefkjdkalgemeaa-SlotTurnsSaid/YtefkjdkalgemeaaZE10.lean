/-
  All records that are whole.
-/
import Derived.Test.YtefkjdkalgemeaaZGA
import Derived.Test.YtefkjdkalgemeaaZE9
import Derived.Test.YtefkjdkalgemeaaZVsBox
namespace Go.Proofs.Ytefkjdkalgemeaa
set_option linter.unusedVariables false
set_option linter.unusedSimpArgs false
open Go Go.VS Tab
set_option maxHeartbeats 16000000
set_option maxRecDepth 8000
def optL (o : Option Rc) : List Rc := match o with | some r => [r] | none => []
theorem find_opt {d : Dsk} (hd : may d = true) (h : ∀ x y, wholeB d 0 = some x → wholeB d 16 = some y → ¬ x.gen.toNat < y.gen.toNat) : findL d = optL (wholeB d 0) ++ optL (wholeB d 16) := by
  rw [find_eq hd]
  cases h0 : wholeB d 0 with
  | none => cases h1 : wholeB d 16 <;> rfl
  | some x =>
    cases h1 : wholeB d 16 with
    | none => rfl
    | some y => rw [sort_two, if_neg (h x y h0 h1)]; rfl
theorem c_slotFind (d : Dsk) (h1 : d.sectors.length ≤ 1000) (h2 : d.waits.length ≤ 1000) : ACall Try.prog 42 [dskA d] [] (.tup [.sl 2 ((findL d).map rcC) .sh, i64 (if may d then 0 else 8)]) [] := by
  have cc := c_check d h1 h2
  simp only [dskA, dskC] at cc
  cases hmd : may d with
  | false =>
    have hF : findL d = [] := by unfold findL; rw [hmd]; rfl
    rw [hF]
    rw [hmd] at cc
    simp only [Bool.false_eq_true, if_false] at cc ⊢
    refine acall_of 3 Try.func42 rfl fun n out _ _ => ?_
    simp only [Try.ntmps42, List.length_cons, List.length_nil, List.length_map, List.length_replicate, rep_map, Nat.reduceAdd, Nat.reduceSub, List.replicate, List.cons_append, List.nil_append]
    repeat' (first | (with_reducible first | refine awp_seq_k fun K hK => ?_ | refine awp_ev tab_ok [] ?_ | refine awp_block_s ?_ | refine awp_block_c ?_ | refine awp_block_r ?_ | refine awp_skip ?_ | apply And.intro | refine awp_ev_quiet tab_ok follows (by kernel_rfl) ?_) | ((with_reducible first | refine gE ?_ | refine gR ?_); simp (maxSteps := 4000000) only [su, evLit, hbT, tab, thenA, blockA, reduceCtorEq, reduceIte, Nat.reduceEqDiff, Nat.reduceBEq, Int.reduceLE, Int.reduceToNat, Nat.reduceAdd, Nat.reduceLT, Nat.reduceLeDiff, dskA, dskC, Int.reduceBNe, List.map_nil]) | (show (_ : Nat) = (_ : Nat); rfl) | ((with_reducible refine awp_ret ?_); refine ret_tmps_le (.inr rfl) rfl rfl rfl (fun _ _ => rfl) rfl rfl ?_ ?_ <;> first | rfl | (exact AV.le.rfl _) | (simp only [patch, sl, dskA, dskC, Int.reduceBNe, List.map_nil]; done) | rfl | skip) | (refine call_pure (cc) ?_) | ((with_reducible refine gsel_case (fun hg => ?_) (fun hg => ?_)) <;> (try simp only [nb] at hg) <;> simp (maxSteps := 4000000) only [su, evLit, hbT, tab, thenA, blockA, reduceCtorEq, reduceIte, Nat.reduceEqDiff, Nat.reduceBEq, Int.reduceLE, Int.reduceToNat, Nat.reduceAdd, Nat.reduceLT, Nat.reduceLeDiff, hg, dskA, dskC, Int.reduceBNe, List.map_nil]) | ((with_reducible refine awp_exit ?_); simp only [thenA, blockA, if_true, if_false, reduceIte, Nat.reduceEqDiff]) | (refine hK _ ?_; clear hK K) | refine awp_cond_t rfl ?_ | refine awp_cond_f rfl ?_ | refine awp_if rfl (fun hg => ?_) (fun hg => ?_) | clear hK K)
  | true =>
    rw [hmd] at cc
    simp only [if_true] at cc ⊢
    have lit : ∀ (σ : AState) (K : AV → List (Nat × Res) → Prop), evLit tab σ K none 26 2 [(0, i64 0), (1, i64 16)] = K (.sl 1 [[i64 0], [i64 16]] .full) [] := fun σ K => evLit_two (T := tab) (ti := ti26) (te := ti3) rfl rfl rfl rfl rfl rfl
    have lit2 : ∀ (σ : AState) (K : AV → List (Nat × Res) → Prop) (g : BitVec 32) (t : List UInt8), evLit tab σ K none 66 1 [(0, .agg [w32 g, bs t])] = K (.sl 2 [[w32 g, bs t]] .full) [] := fun σ K g t => evLit_one (T := tab) (ti := ti66) (te := ti65) rfl rfl rfl (by decide) (by decide) rfl rfl
    have cw0 := c_slotWhole d 0 hmd (.inl rfl)
    have cw1 := c_slotWhole d 16 hmd (.inr rfl)
    obtain ⟨a, ha⟩ : ∃ a, a = wholeB d 0 := ⟨_, rfl⟩
    obtain ⟨b, hb⟩ : ∃ b, b = wholeB d 16 := ⟨_, rfl⟩
    rw [← ha] at cw0
    rw [← hb] at cw1
    simp only [dskA, dskC, wholeA, rcA, rcC, Int.cast_ofNat_Int] at cw0 cw1
    by_cases hx : ∃ x y, a = some x ∧ b = some y ∧ x.gen.toNat < y.gen.toNat
    · obtain ⟨x, y, rfl, rfl, hxy⟩ := hx
      have hF : findL d = [y, x] := by rw [find_eq hmd, ← ha, ← hb, sort_two, if_pos hxy]
      rw [hF]
      simp only [Option.getD_some, Option.isSome_some] at cw0 cw1
      obtain ⟨V, hV⟩ : ∃ V : Nat → List AV, V = fun i => if i = 1 then rcC x else rcC x ++ rcC y := ⟨_, rfl⟩
      have V1 : V 1 = [w32 x.gen, bs x.text] := by rw [hV]; rfl
      have V2 : V 2 = [w32 x.gen, bs x.text, w32 y.gen, bs y.text] := by rw [hV]; rfl
      clear hV
      refine acall_of 3 Try.func42 rfl fun n out _ _ => ?_
      simp only [Try.ntmps42, List.length_cons, List.length_nil, List.length_map, List.length_replicate, rep_map, Nat.reduceAdd, Nat.reduceSub, List.replicate, List.cons_append, List.nil_append]
      repeat' (first | (with_reducible first | refine awp_seq_k fun K hK => ?_ | refine awp_ev tab_ok [] ?_ | refine awp_block_s ?_ | refine awp_block_c ?_ | refine awp_block_r ?_ | refine awp_skip ?_ | apply And.intro | refine awp_ev_quiet tab_ok follows (by kernel_rfl) ?_) | ((with_reducible first | refine gE ?_ | refine gR ?_); simp (maxSteps := 4000000) only [su, hbT, tab, thenA, blockA, reduceCtorEq, reduceIte, Nat.reduceEqDiff, Nat.reduceBEq, Int.reduceLE, Int.reduceToNat, Nat.reduceAdd, Nat.reduceLT, Nat.reduceLeDiff, lit, dskA, dskC, Int.reduceBNe]) | (show (_ : Nat) = (_ : Nat); rfl) | ((with_reducible refine awp_ret ?_); refine ret_tmp2 (.inr rfl) rfl rfl rfl (fun _ _ => rfl) ?_ ?_ <;> first | rfl | skip) | (refine call_pure (cc) ?_) | ((with_reducible refine gsel_case (fun hg => ?_) (fun hg => ?_)) <;> (try simp only [nb] at hg) <;> simp (maxSteps := 4000000) only [su, hbT, tab, thenA, blockA, reduceCtorEq, reduceIte, Nat.reduceEqDiff, Nat.reduceBEq, Int.reduceLE, Int.reduceToNat, Nat.reduceAdd, Nat.reduceLT, Nat.reduceLeDiff, hg, lit, dskA, dskC, Int.reduceBNe]) | ((with_reducible refine awp_exit ?_); simp only [thenA, blockA, if_true, if_false, reduceIte, Nat.reduceEqDiff]) | (refine hK _ ?_; clear hK K) | refine awp_cond_t rfl ?_ | refine awp_cond_f rfl ?_ | refine awp_if rfl (fun hg => ?_) (fun hg => ?_) | clear hK K)
      refine awp_block ?_
      refine awp_for_mv (fun m (i : Nat) => [(16, i64 (i : Int)), (1, .ptr (m + 0) 0), (2, if i = 0 then .sl 0 [] .nil else .vsl (m + 2) i), (6, .top), (7, .top), (8, .top), (17, .top), (18, .top), (19, .top), (20, .top), (21, .top), (22, .top), (23, .top), (24, .top), (25, .top), (26, .top), (27, .top), (28, .top), (29, .top), (30, .top), (31, .top)]) (fun m i => [some (.box 25 (dskC d)), none, if i = 0 then none else some (.vec 65 2 i (V i))]) (fun i => out) (fun i => i ≤ 2) (fun i => 2 - i) 0 (Nat.zero_le _) ?_ fun m i hm hi => ?_
      · refine le_of_all ?_ ?_ (by first | rfl | (simp only [dskC, if_true]; rfl) | simp only [dskC, if_true]) rfl rfl rfl <;> simp only [patch, sl, dskC, if_true]
      simp only [patch, s_0, s_s]
      have hw := addw (n := i) 1 1 rfl (by omega)
      by_cases hlt : i < 2
      · have hlt' : (i : Int) < 2 := by omega
        rcases (show i = 0 ∨ i = 1 by omega) with rfl | rfl
        · have g0 : ([[i64 0], [i64 16]] : List (List AV)).getD 0 [] = [i64 0] := rfl
          rw [if_pos rfl, if_pos rfl]
          repeat' (first | (with_reducible first | refine awp_seq_k fun K hK => ?_ | refine awp_ev tab_ok [(1030, none)] ?_ | refine awp_block_s ?_ | refine awp_block_c ?_ | refine awp_block_r ?_ | refine awp_skip ?_ | apply And.intro | refine awp_ev_quiet tab_ok follows (by kernel_rfl) ?_) | ((with_reducible first | refine gE ?_ | refine gR ?_); simp (maxSteps := 4000000) only [su, hbT, tab, thenA, blockA, reduceCtorEq, reduceIte, Nat.reduceEqDiff, Nat.reduceBEq, Int.reduceLE, Int.reduceToNat, Nat.reduceAdd, Nat.reduceLT, Nat.reduceLeDiff, lit2, locM hm, dskC, hlt', hw, g0, pick_cons, splice_all, List.flatten_cons, List.flatten_nil, List.append_nil]) | (show (_ : Nat) = (_ : Nat); rfl) | ((with_reducible refine awp_ret ?_); refine ret_tmp2 (.inr rfl) rfl rfl rfl (fun _ _ => rfl) ?_ ?_ <;> first | rfl | skip) | (refine call_pure (cw0) ?_) | ((with_reducible refine gsel_case (fun hg => ?_) (fun hg => ?_)) <;> (try simp only [nb] at hg) <;> simp (maxSteps := 4000000) only [su, hbT, tab, thenA, blockA, reduceCtorEq, reduceIte, Nat.reduceEqDiff, Nat.reduceBEq, Int.reduceLE, Int.reduceToNat, Nat.reduceAdd, Nat.reduceLT, Nat.reduceLeDiff, hg, lit2, locM hm, dskC, hlt', hw, g0, pick_cons, splice_all, List.flatten_cons, List.flatten_nil, List.append_nil]) | ((with_reducible refine awp_exit ?_); simp only [thenA, blockA, if_true, if_false, reduceIte, Nat.reduceEqDiff]) | (refine hK _ ?_; clear hK K) | refine awp_cond_t rfl ?_ | refine awp_cond_f rfl ?_ | refine awp_if rfl (fun hg => ?_) (fun hg => ?_) | clear hK K)
          · decide
          refine ⟨1, by omega, by omega, ?_⟩
          have hn1 : ((1 : Nat) = 0) = False := by simp
          refine le_move [true, false, true] (fun n_ => ?_) (fun n_ => ?_) <;> simp only [patch, sm, dskC, hn1, if_false, V1]
        · have g1 : ([[i64 0], [i64 16]] : List (List AV)).getD 1 [] = [i64 16] := rfl
          rw [if_neg (by decide), if_neg (by decide), V1]
          repeat' (first | (with_reducible first | refine awp_seq_k fun K hK => ?_ | refine awp_ev tab_ok [] ?_ | refine awp_block_s ?_ | refine awp_block_c ?_ | refine awp_block_r ?_ | refine awp_skip ?_ | apply And.intro | refine awp_ev_quiet tab_ok follows (by kernel_rfl) ?_) | ((with_reducible first | refine gE ?_ | refine gR ?_); simp (maxSteps := 4000000) only [su, hbT, tab, thenA, blockA, reduceCtorEq, reduceIte, Nat.reduceEqDiff, Nat.reduceBEq, Int.reduceLE, Int.reduceToNat, Nat.reduceAdd, Nat.reduceLT, Nat.reduceLeDiff, lit2, locM hm, dskC, hlt', hw, g1, pick_cons, splice_all, List.flatten_cons, List.flatten_nil, List.append_nil, List.cons_append]) | (show (_ : Nat) = (_ : Nat); rfl) | ((with_reducible refine awp_ret ?_); refine ret_tmp2 (.inr rfl) rfl rfl rfl (fun _ _ => rfl) ?_ ?_ <;> first | rfl | skip) | (refine call_pure (cw1) ?_) | ((with_reducible refine gsel_case (fun hg => ?_) (fun hg => ?_)) <;> (try simp only [nb] at hg) <;> simp (maxSteps := 4000000) only [su, hbT, tab, thenA, blockA, reduceCtorEq, reduceIte, Nat.reduceEqDiff, Nat.reduceBEq, Int.reduceLE, Int.reduceToNat, Nat.reduceAdd, Nat.reduceLT, Nat.reduceLeDiff, hg, lit2, locM hm, dskC, hlt', hw, g1, pick_cons, splice_all, List.flatten_cons, List.flatten_nil, List.append_nil, List.cons_append]) | ((with_reducible refine awp_exit ?_); simp only [thenA, blockA, if_true, if_false, reduceIte, Nat.reduceEqDiff]) | (refine hK _ ?_; clear hK K) | refine awp_cond_t rfl ?_ | refine awp_cond_f rfl ?_ | refine awp_if rfl (fun hg => ?_) (fun hg => ?_) | clear hK K)
          · decide
          refine ⟨2, by omega, by omega, ?_⟩
          have hn2 : ((2 : Nat) = 0) = False := by simp
          refine le_move [true, false, true] (fun n_ => ?_) (fun n_ => ?_) <;> simp only [patch, sm, dskC, hn2, if_false, V2]
      · obtain rfl : i = 2 := by omega
        have h22 : ¬ ((2 : Nat) : Int) < ((2 : Nat) : Int) := by omega
        rw [if_neg (by decide), if_neg (by decide), V2]
        refine awp_le (le_boxP (i := 2) (m := 2) (sz := 2) (e := 65) (cs := [w32 x.gen, bs x.text, w32 y.gen, bs y.text]) [(2, .bsl (m + 2) 0 2 false)] (lo1 := [some (.box 25 (dskC d)), none, some (.vec 65 2 2 [w32 x.gen, bs x.text, w32 y.gen, bs y.text])]) rfl (by decide) ?_ ?_) ?_
        · simp only [patch, s_0, s_s, bxL_cons, bxL_nil, bx_same, bx_vsl, true_and, and_true]
        · simp only [bxRL_cons, bxRL_nil, bxRes_same, true_and, and_true]
        simp only [patch, s_0, s_s]
        repeat' (first | (with_reducible first | refine awp_seq_k fun K hK => ?_ | refine awp_ev tab_ok [] ?_ | refine awp_block_s ?_ | refine awp_block_c ?_ | refine awp_block_r ?_ | refine awp_skip ?_ | apply And.intro | refine awp_ev_draw (id := 11) tab_ok [] [[],[],[],[],[],[],[],[2],[],[],[],[2],[],[]] [[],[],[],[],[],[],[],[],[],[],[],[],[],[]] follows (by kernel_rfl) (by decide) (by decide) (by kernel_rfl) ?_) | ((with_reducible first | refine gE ?_ | refine gR ?_ | refine gD ?_ | refine gF ?_); simp (maxSteps := 4000000) only [su, evLit, hbT, tab, thenA, blockA, reduceCtorEq, reduceIte, Nat.reduceEqDiff, Nat.reduceBEq, Int.reduceLE, Int.reduceToNat, Nat.reduceAdd, Nat.reduceLT, Nat.reduceLeDiff, sg, locM hm, dskC, h22, Int.cast_ofNat_Int, Int.reduceLT, Int.reduceBEq, hxy]) | (show (_ : Nat) = (_ : Nat); rfl) | ((with_reducible refine awp_ret ?_); refine ret_tmp2 (.inr rfl) rfl rfl rfl (fun _ _ => rfl) ?_ ?_ <;> first | rfl | skip) | ((with_reducible first | refine gsel_case (fun hg => ?_) (fun hg => ?_) | refine gselD_case (fun hg => ?_) (fun hg => ?_)) <;> (try simp only [nb] at hg) <;> simp (maxSteps := 4000000) only [su, evLit, hbT, tab, thenA, blockA, reduceCtorEq, reduceIte, Nat.reduceEqDiff, Nat.reduceBEq, Int.reduceLE, Int.reduceToNat, Nat.reduceAdd, Nat.reduceLT, Nat.reduceLeDiff, hg, sg, locM hm, dskC, h22, Int.cast_ofNat_Int, Int.reduceLT, Int.reduceBEq, hxy]) | ((with_reducible refine awp_exit ?_); simp only [thenA, blockA, if_true, if_false, reduceIte, Nat.reduceEqDiff]) | (refine hK _ ?_; clear hK K) | refine awp_cond_t rfl ?_ | refine awp_cond_f rfl ?_ | refine awp_if rfl (fun hg => ?_) (fun hg => ?_) | clear hK K)
        refine awp_ev_draw tab_ok [] [[], [], [], [], [2], [], [], [2], [], [2], [], [2]] [[], [], [], [], [], [], [], [], [], [2], [], [2]] follows (by kernel_rfl) (by decide) (by decide) (by kernel_rfl) ?_
        simp (maxSteps := 4000000) only [su, evLit, hbT, tab, thenA, blockA, reduceCtorEq, reduceIte, Nat.reduceEqDiff, Nat.reduceBEq, Int.reduceLE, Int.reduceToNat, Nat.reduceAdd, Nat.reduceLT, Nat.reduceLeDiff, locM hm, splice_all]
        have hfz : Fz (m + 2) 2 [w32 y.gen, bs y.text, w32 x.gen, bs x.text] (.bsl (m + 2) 0 2 false) (.sl 2 ([y, x].map rcC) .sh) :=
          Fz.bsl (k := m + 2) (sz := 2) (cs := [w32 y.gen, bs y.text, w32 x.gen, bs x.text]) 0 2 false ⟨by decide, Nat.le_refl 4⟩
        refine ⟨by decide, by decide, by decide, by decide, ?_⟩
        refine hK _ ?_
        clear hK K
        refine awp_le (le_freezeAt (i := 2) (t := 2) 2 (.sl 2 ([y, x].map rcC) .sh) rfl rfl hfz) ?_
        simp only [s_0, s_s]
        repeat' (first | (with_reducible first | refine awp_seq_k fun K hK => ?_ | refine awp_ev tab_ok [] ?_ | refine awp_block_s ?_ | refine awp_block_c ?_ | refine awp_block_r ?_ | refine awp_skip ?_ | apply And.intro | refine awp_ev_quiet tab_ok follows (by kernel_rfl) ?_) | ((with_reducible first | refine gE ?_ | refine gR ?_); simp (maxSteps := 4000000) only [su, evLit, hbT, tab, thenA, blockA, reduceCtorEq, reduceIte, Nat.reduceEqDiff, Nat.reduceBEq, Int.reduceLE, Int.reduceToNat, Nat.reduceAdd, Nat.reduceLT, Nat.reduceLeDiff, locM hm]) | (show (_ : Nat) = (_ : Nat); rfl) | ((with_reducible refine awp_ret ?_); refine ret_tmps_le (.inr rfl) rfl rfl rfl (fun _ _ => rfl) rfl rfl ?_ ?_ <;> first | rfl | (exact AV.le.rfl _) | (simp only [patch, sl, locM hm]; done) | rfl | skip) | ((with_reducible refine gsel_case (fun hg => ?_) (fun hg => ?_)) <;> (try simp only [nb] at hg) <;> simp (maxSteps := 4000000) only [su, evLit, hbT, tab, thenA, blockA, reduceCtorEq, reduceIte, Nat.reduceEqDiff, Nat.reduceBEq, Int.reduceLE, Int.reduceToNat, Nat.reduceAdd, Nat.reduceLT, Nat.reduceLeDiff, hg, locM hm]) | ((with_reducible refine awp_exit ?_); simp only [thenA, blockA, if_true, if_false, reduceIte, Nat.reduceEqDiff]) | (refine hK _ ?_; clear hK K) | refine awp_cond_t rfl ?_ | refine awp_cond_f rfl ?_ | refine awp_if rfl (fun hg => ?_) (fun hg => ?_) | clear hK K)
    · have hF : findL d = optL a ++ optL b := by
        rw [ha, hb]
        exact find_opt hmd fun x y h0 h1 hlt => hx ⟨x, y, by rw [ha, h0], by rw [hb, h1], hlt⟩
      obtain ⟨L, hL⟩ : ∃ L : Nat → List Rc, L = fun i => if i = 0 then [] else if i = 1 then optL a else optL a ++ optL b := ⟨_, rfl⟩
      have L0 : L 0 = [] := by rw [hL]; rfl
      have L1 : L 1 = optL a := by rw [hL]; rfl
      have L2 : L 2 = optL a ++ optL b := by rw [hL]; rfl
      have o1 : (optL a).length ≤ 1 := by cases a <;> simp [optL]
      have o2 : (optL b).length ≤ 1 := by cases b <;> simp [optL]
      clear hL
      rw [hF, ← L2]
      refine acall_of 3 Try.func42 rfl fun n out _ _ => ?_
      simp only [Try.ntmps42, List.length_cons, List.length_nil, List.length_map, List.length_replicate, rep_map, Nat.reduceAdd, Nat.reduceSub, List.replicate, List.cons_append, List.nil_append]
      repeat' (first | (with_reducible first | refine awp_seq_k fun K hK => ?_ | refine awp_ev tab_ok [] ?_ | refine awp_block_s ?_ | refine awp_block_c ?_ | refine awp_block_r ?_ | refine awp_skip ?_ | apply And.intro | refine awp_ev_quiet tab_ok follows (by kernel_rfl) ?_) | ((with_reducible first | refine gE ?_ | refine gR ?_); simp (maxSteps := 4000000) only [su, hbT, tab, thenA, blockA, reduceCtorEq, reduceIte, Nat.reduceEqDiff, Nat.reduceBEq, Int.reduceLE, Int.reduceToNat, Nat.reduceAdd, Nat.reduceLT, Nat.reduceLeDiff, lit, dskA, dskC, Int.reduceBNe]) | (show (_ : Nat) = (_ : Nat); rfl) | ((with_reducible refine awp_ret ?_); refine ret_tmp2 (.inr rfl) rfl rfl rfl (fun _ _ => rfl) ?_ ?_ <;> first | rfl | skip) | (refine call_pure (cc) ?_) | ((with_reducible refine gsel_case (fun hg => ?_) (fun hg => ?_)) <;> (try simp only [nb] at hg) <;> simp (maxSteps := 4000000) only [su, hbT, tab, thenA, blockA, reduceCtorEq, reduceIte, Nat.reduceEqDiff, Nat.reduceBEq, Int.reduceLE, Int.reduceToNat, Nat.reduceAdd, Nat.reduceLT, Nat.reduceLeDiff, hg, lit, dskA, dskC, Int.reduceBNe]) | ((with_reducible refine awp_exit ?_); simp only [thenA, blockA, if_true, if_false, reduceIte, Nat.reduceEqDiff]) | (refine hK _ ?_; clear hK K) | refine awp_cond_t rfl ?_ | refine awp_cond_f rfl ?_ | refine awp_if rfl (fun hg => ?_) (fun hg => ?_) | clear hK K)
      refine awp_le (le_row (i := 1) 65 2 rfl) ?_
      simp only [s_0, s_s]
      refine awp_block ?_
      refine awp_for_mv (fun m (i : Nat) => [(16, i64 (i : Int)), (1, .ptr (m + 0) 0), (2, .sl 2 ((L i).map rcC) (.own (m + 1))), (6, .top), (7, .top), (8, .top), (17, .top), (18, .top), (19, .top), (20, .top), (21, .top), (22, .top), (23, .top), (24, .top), (25, .top), (26, .top), (27, .top), (28, .top), (29, .top), (30, .top), (31, .top)]) (fun m i => [some (.box 25 (dskC d)), some (.row 65 2 (L i).length), none]) (fun i => out) (fun i => i ≤ 2) (fun i => 2 - i) 0 (Nat.zero_le _) ?_ fun m i hm hi => ?_
      · refine le_of_all ?_ ?_ (by first | rfl | (simp only [dskC, L0, List.map_nil, List.length_nil]; rfl) | simp only [dskC, L0, List.map_nil, List.length_nil]) rfl rfl rfl <;> simp only [patch, sl, dskC, L0, List.map_nil, List.length_nil]
      simp only [patch, s_0, s_s]
      have hw := addw (n := i) 1 1 rfl (by omega)
      by_cases hlt : i < 2
      · have hlt' : (i : Int) < 2 := by omega
        rcases (show i = 0 ∨ i = 1 by omega) with rfl | rfl
        · have g0 : ([[i64 0], [i64 16]] : List (List AV)).getD 0 [] = [i64 0] := rfl
          cases a with
          | none =>
            have e1 : L 0 = L 1 := by rw [L0, L1]; rfl
            rw [e1]
            simp only [Option.getD_none, Option.isSome_none] at cw0
            repeat' (first | (with_reducible first | refine awp_seq_k fun K hK => ?_ | refine awp_ev tab_ok [] ?_ | refine awp_block_s ?_ | refine awp_block_c ?_ | refine awp_block_r ?_ | refine awp_skip ?_ | apply And.intro | refine awp_ev_quiet tab_ok follows (by kernel_rfl) ?_) | ((with_reducible first | refine gE ?_ | refine gR ?_); simp (maxSteps := 4000000) only [su, hbT, tab, thenA, blockA, reduceCtorEq, reduceIte, Nat.reduceEqDiff, Nat.reduceBEq, Int.reduceLE, Int.reduceToNat, Nat.reduceAdd, Nat.reduceLT, Nat.reduceLeDiff, lit2, locM hm, dskC, hlt', hw, g0, pick_cons, splice_all]) | (show (_ : Nat) = (_ : Nat); rfl) | ((with_reducible refine awp_ret ?_); refine ret_tmp2 (.inr rfl) rfl rfl rfl (fun _ _ => rfl) ?_ ?_ <;> first | rfl | skip) | (refine call_pure (cw0) ?_) | ((with_reducible refine gsel_case (fun hg => ?_) (fun hg => ?_)) <;> (try simp only [nb] at hg) <;> simp (maxSteps := 4000000) only [su, hbT, tab, thenA, blockA, reduceCtorEq, reduceIte, Nat.reduceEqDiff, Nat.reduceBEq, Int.reduceLE, Int.reduceToNat, Nat.reduceAdd, Nat.reduceLT, Nat.reduceLeDiff, hg, lit2, locM hm, dskC, hlt', hw, g0, pick_cons, splice_all]) | ((with_reducible refine awp_exit ?_); simp only [thenA, blockA, if_true, if_false, reduceIte, Nat.reduceEqDiff]) | (refine hK _ ?_; clear hK K) | refine awp_cond_t rfl ?_ | refine awp_cond_f rfl ?_ | refine awp_if rfl (fun hg => ?_) (fun hg => ?_) | clear hK K)
            refine ⟨1, by omega, by omega, ?_⟩
            refine le_move [true, true, false] (fun n_ => ?_) (fun n_ => ?_) <;> simp only [patch, sm, dskC]
          | some x =>
            have e1 : (L 0).map rcC ++ [[w32 x.gen, bs x.text]] = (L 1).map rcC := by rw [L0, L1]; rfl
            have l1 : (L 0).length + 1 = (L 1).length := by rw [L0, L1]; rfl
            have l0 : (L 0).length ≤ 1 := by rw [L0]; decide
            simp only [Option.getD_some, Option.isSome_some] at cw0
            repeat' (first | (with_reducible first | refine awp_seq_k fun K hK => ?_ | refine awp_ev tab_ok [] ?_ | refine awp_block_s ?_ | refine awp_block_c ?_ | refine awp_block_r ?_ | refine awp_skip ?_ | apply And.intro | refine awp_ev_quiet tab_ok follows (by kernel_rfl) ?_) | ((with_reducible first | refine gE ?_ | refine gR ?_); simp (maxSteps := 4000000) only [su, hbT, tab, thenA, blockA, reduceCtorEq, reduceIte, Nat.reduceEqDiff, Nat.reduceBEq, Int.reduceLE, Int.reduceToNat, Nat.reduceAdd, Nat.reduceLT, Nat.reduceLeDiff, lit2, locM hm, dskC, hlt', hw, g0, pick_cons, splice_all, e1, List.length_map, l1]) | (show (_ : Nat) = (_ : Nat); rfl) | ((with_reducible refine awp_ret ?_); refine ret_tmp2 (.inr rfl) rfl rfl rfl (fun _ _ => rfl) ?_ ?_ <;> first | rfl | skip) | (refine call_pure (cw0) ?_) | ((with_reducible refine gsel_case (fun hg => ?_) (fun hg => ?_)) <;> (try simp only [nb] at hg) <;> simp (maxSteps := 4000000) only [su, hbT, tab, thenA, blockA, reduceCtorEq, reduceIte, Nat.reduceEqDiff, Nat.reduceBEq, Int.reduceLE, Int.reduceToNat, Nat.reduceAdd, Nat.reduceLT, Nat.reduceLeDiff, hg, lit2, locM hm, dskC, hlt', hw, g0, pick_cons, splice_all, e1, List.length_map, l1]) | ((with_reducible refine awp_exit ?_); simp only [thenA, blockA, if_true, if_false, reduceIte, Nat.reduceEqDiff]) | (refine hK _ ?_; clear hK K) | refine awp_cond_t rfl ?_ | refine awp_cond_f rfl ?_ | refine awp_if rfl (fun hg => ?_) (fun hg => ?_) | clear hK K)
            · omega
            · omega
            refine ⟨1, by omega, by omega, ?_⟩
            refine le_move [true, true, false] (fun n_ => ?_) (fun n_ => ?_) <;> simp only [patch, sm, dskC]
        · have g1 : ([[i64 0], [i64 16]] : List (List AV)).getD 1 [] = [i64 16] := rfl
          cases b with
          | none =>
            have e1 : L 1 = L 2 := by rw [L1, L2]; cases a <;> rfl
            rw [e1]
            simp only [Option.getD_none, Option.isSome_none] at cw1
            repeat' (first | (with_reducible first | refine awp_seq_k fun K hK => ?_ | refine awp_ev tab_ok [] ?_ | refine awp_block_s ?_ | refine awp_block_c ?_ | refine awp_block_r ?_ | refine awp_skip ?_ | apply And.intro | refine awp_ev_quiet tab_ok follows (by kernel_rfl) ?_) | ((with_reducible first | refine gE ?_ | refine gR ?_); simp (maxSteps := 4000000) only [su, hbT, tab, thenA, blockA, reduceCtorEq, reduceIte, Nat.reduceEqDiff, Nat.reduceBEq, Int.reduceLE, Int.reduceToNat, Nat.reduceAdd, Nat.reduceLT, Nat.reduceLeDiff, lit2, locM hm, dskC, hlt', hw, g1, pick_cons, splice_all]) | (show (_ : Nat) = (_ : Nat); rfl) | ((with_reducible refine awp_ret ?_); refine ret_tmp2 (.inr rfl) rfl rfl rfl (fun _ _ => rfl) ?_ ?_ <;> first | rfl | skip) | (refine call_pure (cw1) ?_) | ((with_reducible refine gsel_case (fun hg => ?_) (fun hg => ?_)) <;> (try simp only [nb] at hg) <;> simp (maxSteps := 4000000) only [su, hbT, tab, thenA, blockA, reduceCtorEq, reduceIte, Nat.reduceEqDiff, Nat.reduceBEq, Int.reduceLE, Int.reduceToNat, Nat.reduceAdd, Nat.reduceLT, Nat.reduceLeDiff, hg, lit2, locM hm, dskC, hlt', hw, g1, pick_cons, splice_all]) | ((with_reducible refine awp_exit ?_); simp only [thenA, blockA, if_true, if_false, reduceIte, Nat.reduceEqDiff]) | (refine hK _ ?_; clear hK K) | refine awp_cond_t rfl ?_ | refine awp_cond_f rfl ?_ | refine awp_if rfl (fun hg => ?_) (fun hg => ?_) | clear hK K)
            refine ⟨2, by omega, by omega, ?_⟩
            refine le_move [true, true, false] (fun n_ => ?_) (fun n_ => ?_) <;> simp only [patch, sm, dskC]
          | some y =>
            have e1 : (L 1).map rcC ++ [[w32 y.gen, bs y.text]] = (L 2).map rcC := by rw [L1, L2, List.map_append]; rfl
            have l1 : (L 1).length + 1 = (L 2).length := by rw [L1, L2, List.length_append]; rfl
            have l0 : (L 1).length ≤ 1 := by rw [L1]; exact o1
            simp only [Option.getD_some, Option.isSome_some] at cw1
            repeat' (first | (with_reducible first | refine awp_seq_k fun K hK => ?_ | refine awp_ev tab_ok [] ?_ | refine awp_block_s ?_ | refine awp_block_c ?_ | refine awp_block_r ?_ | refine awp_skip ?_ | apply And.intro | refine awp_ev_quiet tab_ok follows (by kernel_rfl) ?_) | ((with_reducible first | refine gE ?_ | refine gR ?_); simp (maxSteps := 4000000) only [su, hbT, tab, thenA, blockA, reduceCtorEq, reduceIte, Nat.reduceEqDiff, Nat.reduceBEq, Int.reduceLE, Int.reduceToNat, Nat.reduceAdd, Nat.reduceLT, Nat.reduceLeDiff, lit2, locM hm, dskC, hlt', hw, g1, pick_cons, splice_all, e1, List.length_map, l1]) | (show (_ : Nat) = (_ : Nat); rfl) | ((with_reducible refine awp_ret ?_); refine ret_tmp2 (.inr rfl) rfl rfl rfl (fun _ _ => rfl) ?_ ?_ <;> first | rfl | skip) | (refine call_pure (cw1) ?_) | ((with_reducible refine gsel_case (fun hg => ?_) (fun hg => ?_)) <;> (try simp only [nb] at hg) <;> simp (maxSteps := 4000000) only [su, hbT, tab, thenA, blockA, reduceCtorEq, reduceIte, Nat.reduceEqDiff, Nat.reduceBEq, Int.reduceLE, Int.reduceToNat, Nat.reduceAdd, Nat.reduceLT, Nat.reduceLeDiff, hg, lit2, locM hm, dskC, hlt', hw, g1, pick_cons, splice_all, e1, List.length_map, l1]) | ((with_reducible refine awp_exit ?_); simp only [thenA, blockA, if_true, if_false, reduceIte, Nat.reduceEqDiff]) | (refine hK _ ?_; clear hK K) | refine awp_cond_t rfl ?_ | refine awp_cond_f rfl ?_ | refine awp_if rfl (fun hg => ?_) (fun hg => ?_) | clear hK K)
            · omega
            · omega
            refine ⟨2, by omega, by omega, ?_⟩
            refine le_move [true, true, false] (fun n_ => ?_) (fun n_ => ?_) <;> simp only [patch, sm, dskC]
      · obtain rfl : i = 2 := by omega
        have h22 : ¬ ((2 : Nat) : Int) < ((2 : Nat) : Int) := by omega
        cases a with
        | none =>
          cases b with
          | none =>
            have hq : L 2 = [] := L2
            rw [hq]
            repeat' (first | (with_reducible first | refine awp_seq_k fun K hK => ?_ | refine awp_ev tab_ok [] ?_ | refine awp_block_s ?_ | refine awp_block_c ?_ | refine awp_block_r ?_ | refine awp_skip ?_ | apply And.intro | refine awp_ev_quiet tab_ok follows (by kernel_rfl) ?_) | ((with_reducible first | refine gE ?_ | refine gR ?_); simp (maxSteps := 4000000) only [su, evLit, hbT, tab, thenA, blockA, reduceCtorEq, reduceIte, Nat.reduceEqDiff, Nat.reduceBEq, Int.reduceLE, Int.reduceToNat, Nat.reduceAdd, Nat.reduceLT, Nat.reduceLeDiff, locM hm, dskC, List.map_nil, List.length_nil, h22, Int.reduceBEq, Int.cast_ofNat_Int, Int.reduceLT]) | (show (_ : Nat) = (_ : Nat); rfl) | ((with_reducible refine awp_ret ?_); refine ret_tmps_le (.inr rfl) rfl rfl rfl (fun _ _ => rfl) rfl rfl ?_ ?_ <;> first | rfl | (exact AV.le.rfl _) | (simp only [patch, sl, locM hm, dskC, List.map_nil, List.length_nil, h22, Int.reduceBEq, Int.cast_ofNat_Int, Int.reduceLT]; done) | rfl | skip) | ((with_reducible refine gsel_case (fun hg => ?_) (fun hg => ?_)) <;> (try simp only [nb] at hg) <;> simp (maxSteps := 4000000) only [su, evLit, hbT, tab, thenA, blockA, reduceCtorEq, reduceIte, Nat.reduceEqDiff, Nat.reduceBEq, Int.reduceLE, Int.reduceToNat, Nat.reduceAdd, Nat.reduceLT, Nat.reduceLeDiff, hg, locM hm, dskC, List.map_nil, List.length_nil, h22, Int.reduceBEq, Int.cast_ofNat_Int, Int.reduceLT]) | ((with_reducible refine awp_exit ?_); simp only [thenA, blockA, if_true, if_false, reduceIte, Nat.reduceEqDiff]) | (refine hK _ ?_; clear hK K) | refine awp_cond_t rfl ?_ | refine awp_cond_f rfl ?_ | refine awp_if rfl (fun hg => ?_) (fun hg => ?_) | clear hK K)
            rw [hq]; exact .sh _ _ _
          | some y =>
            have hq : L 2 = [y] := L2
            rw [hq]
            repeat' (first | (with_reducible first | refine awp_seq_k fun K hK => ?_ | refine awp_ev tab_ok [] ?_ | refine awp_block_s ?_ | refine awp_block_c ?_ | refine awp_block_r ?_ | refine awp_skip ?_ | apply And.intro | refine awp_ev_quiet tab_ok follows (by kernel_rfl) ?_) | ((with_reducible first | refine gE ?_ | refine gR ?_); simp (maxSteps := 4000000) only [su, evLit, hbT, tab, thenA, blockA, reduceCtorEq, reduceIte, Nat.reduceEqDiff, Nat.reduceBEq, Int.reduceLE, Int.reduceToNat, Nat.reduceAdd, Nat.reduceLT, Nat.reduceLeDiff, locM hm, dskC, List.map_nil, List.length_nil, h22, Int.reduceBEq, Int.cast_ofNat_Int, Int.reduceLT]) | (show (_ : Nat) = (_ : Nat); rfl) | ((with_reducible refine awp_ret ?_); refine ret_tmps_le (.inr rfl) rfl rfl rfl (fun _ _ => rfl) rfl rfl ?_ ?_ <;> first | rfl | (exact AV.le.rfl _) | (simp only [patch, sl, locM hm, dskC, List.map_nil, List.length_nil, h22, Int.reduceBEq, Int.cast_ofNat_Int, Int.reduceLT]; done) | rfl | skip) | ((with_reducible refine gsel_case (fun hg => ?_) (fun hg => ?_)) <;> (try simp only [nb] at hg) <;> simp (maxSteps := 4000000) only [su, evLit, hbT, tab, thenA, blockA, reduceCtorEq, reduceIte, Nat.reduceEqDiff, Nat.reduceBEq, Int.reduceLE, Int.reduceToNat, Nat.reduceAdd, Nat.reduceLT, Nat.reduceLeDiff, hg, locM hm, dskC, List.map_nil, List.length_nil, h22, Int.reduceBEq, Int.cast_ofNat_Int, Int.reduceLT]) | ((with_reducible refine awp_exit ?_); simp only [thenA, blockA, if_true, if_false, reduceIte, Nat.reduceEqDiff]) | (refine hK _ ?_; clear hK K) | refine awp_cond_t rfl ?_ | refine awp_cond_f rfl ?_ | refine awp_if rfl (fun hg => ?_) (fun hg => ?_) | clear hK K)
            rw [hq]; exact .sh _ _ _
        | some x =>
          cases b with
          | none =>
            have hq : L 2 = [x] := L2
            rw [hq]
            repeat' (first | (with_reducible first | refine awp_seq_k fun K hK => ?_ | refine awp_ev tab_ok [] ?_ | refine awp_block_s ?_ | refine awp_block_c ?_ | refine awp_block_r ?_ | refine awp_skip ?_ | apply And.intro | refine awp_ev_quiet tab_ok follows (by kernel_rfl) ?_) | ((with_reducible first | refine gE ?_ | refine gR ?_); simp (maxSteps := 4000000) only [su, evLit, hbT, tab, thenA, blockA, reduceCtorEq, reduceIte, Nat.reduceEqDiff, Nat.reduceBEq, Int.reduceLE, Int.reduceToNat, Nat.reduceAdd, Nat.reduceLT, Nat.reduceLeDiff, locM hm, dskC, List.map_nil, List.length_nil, h22, Int.reduceBEq, Int.cast_ofNat_Int, Int.reduceLT]) | (show (_ : Nat) = (_ : Nat); rfl) | ((with_reducible refine awp_ret ?_); refine ret_tmps_le (.inr rfl) rfl rfl rfl (fun _ _ => rfl) rfl rfl ?_ ?_ <;> first | rfl | (exact AV.le.rfl _) | (simp only [patch, sl, locM hm, dskC, List.map_nil, List.length_nil, h22, Int.reduceBEq, Int.cast_ofNat_Int, Int.reduceLT]; done) | rfl | skip) | ((with_reducible refine gsel_case (fun hg => ?_) (fun hg => ?_)) <;> (try simp only [nb] at hg) <;> simp (maxSteps := 4000000) only [su, evLit, hbT, tab, thenA, blockA, reduceCtorEq, reduceIte, Nat.reduceEqDiff, Nat.reduceBEq, Int.reduceLE, Int.reduceToNat, Nat.reduceAdd, Nat.reduceLT, Nat.reduceLeDiff, hg, locM hm, dskC, List.map_nil, List.length_nil, h22, Int.reduceBEq, Int.cast_ofNat_Int, Int.reduceLT]) | ((with_reducible refine awp_exit ?_); simp only [thenA, blockA, if_true, if_false, reduceIte, Nat.reduceEqDiff]) | (refine hK _ ?_; clear hK K) | refine awp_cond_t rfl ?_ | refine awp_cond_f rfl ?_ | refine awp_if rfl (fun hg => ?_) (fun hg => ?_) | clear hK K)
            rw [hq]; exact .sh _ _ _
          | some y =>
            have hq : L 2 = [x, y] := L2
            rw [hq]
            have hxy : ¬ x.gen.toNat < y.gen.toNat := fun h => hx ⟨x, y, rfl, rfl, h⟩
            have q0 : ([[w32 x.gen, bs x.text], [w32 y.gen, bs y.text]] : List (List AV)).getD 0 [] = [w32 x.gen, bs x.text] := rfl
            have q1 : ([[w32 x.gen, bs x.text], [w32 y.gen, bs y.text]] : List (List AV)).getD 1 [] = [w32 y.gen, bs y.text] := rfl
            repeat' (first | (with_reducible first | refine awp_seq_k fun K hK => ?_ | refine awp_ev tab_ok [] ?_ | refine awp_block_s ?_ | refine awp_block_c ?_ | refine awp_block_r ?_ | refine awp_skip ?_ | apply And.intro | refine awp_ev_quiet tab_ok follows (by kernel_rfl) ?_) | ((with_reducible first | refine gE ?_ | refine gR ?_); simp (maxSteps := 4000000) only [su, evLit, hbT, tab, thenA, blockA, reduceCtorEq, reduceIte, Nat.reduceEqDiff, Nat.reduceBEq, Int.reduceLE, Int.reduceToNat, Nat.reduceAdd, Nat.reduceLT, Nat.reduceLeDiff, locM hm, dskC, rcC, List.map_nil, List.length_nil, h22, Int.reduceBEq, Int.cast_ofNat_Int, Int.reduceLT, hxy, q0, q1, pick_cons]) | (show (_ : Nat) = (_ : Nat); rfl) | ((with_reducible refine awp_ret ?_); refine ret_tmps_le (.inr rfl) rfl rfl rfl (fun _ _ => rfl) rfl rfl ?_ ?_ <;> first | rfl | (exact AV.le.rfl _) | (simp only [patch, sl, locM hm, dskC, rcC, List.map_nil, List.length_nil, h22, Int.reduceBEq, Int.cast_ofNat_Int, Int.reduceLT, hxy, q0, q1, pick_cons]; done) | rfl | skip) | ((with_reducible refine gsel_case (fun hg => ?_) (fun hg => ?_)) <;> (try simp only [nb] at hg) <;> simp (maxSteps := 4000000) only [su, evLit, hbT, tab, thenA, blockA, reduceCtorEq, reduceIte, Nat.reduceEqDiff, Nat.reduceBEq, Int.reduceLE, Int.reduceToNat, Nat.reduceAdd, Nat.reduceLT, Nat.reduceLeDiff, hg, locM hm, dskC, rcC, List.map_nil, List.length_nil, h22, Int.reduceBEq, Int.cast_ofNat_Int, Int.reduceLT, hxy, q0, q1, pick_cons]) | ((with_reducible refine awp_exit ?_); simp only [thenA, blockA, if_true, if_false, reduceIte, Nat.reduceEqDiff]) | (refine hK _ ?_; clear hK K) | refine awp_cond_t rfl ?_ | refine awp_cond_f rfl ?_ | refine awp_if rfl (fun hg => ?_) (fun hg => ?_) | clear hK K)
            rw [hq]; exact .sh _ _ _
end Go.Proofs.Ytefkjdkalgemeaa
