/-
  The record that is whole in a slot.
-/
import Derived.Test.YtefkjdkalgemeaaZGA
import Derived.Test.YtefkjdkalgemeaaZE8
namespace Go.Proofs.Ytefkjdkalgemeaa
set_option linter.unusedVariables false
set_option linter.unusedSimpArgs false
open Go Go.VS Tab
set_option maxHeartbeats 16000000
set_option maxRecDepth 8000
theorem eqBy_eq : ∀ (l m : List (List UInt8)), eqBy (fun a b => a == b) l m = (l == m)
  | [], [] => rfl
  | x :: l, y :: m => by rw [eqBy, eqBy_eq l m]; rfl
  | [], _ :: _ => rfl
  | _ :: _, [] => rfl
def allS (S : List (List UInt8)) (i : Nat) : List UInt8 := (S.take i).flatMap fun b => (b.drop 6).take 118
theorem allS_0 (S : List (List UInt8)) : allS S 0 = [] := by unfold allS; simp
theorem allS_succ (S : List (List UInt8)) {i : Nat} (h : i < S.length) : allS S (i + 1) = allS S i ++ (S[i].drop 6).take 118 := by
  unfold allS
  rw [List.take_succ_eq_append_getElem h, List.flatMap_append]
  simp
def wholeA (o : Option Rc) : AV := .tup [rcA (o.getD ⟨0, []⟩), bool o.isSome]
theorem c_slotWhole (d : Dsk) (s : Nat) (hm : may d = true) (hs : s = 0 ∨ s = 16) : ACall Try.prog 84 [dskA d, i64 (s : Int)] [] (wholeA (wholeB d s)) [] := by
  have hsm := may_small hm
  have cr := fun i (hi : i < 16) => c_read d ((s + i : Nat) : Int) hsm.s hsm.w
  have er : ∀ i, i < 16 → readE d ((s + i : Nat) : Int) = 0 := fun i hi => readE_0.2 ⟨hm, by omega, by omega⟩
  have hS16 := seen_len d s
  have hS128 := seen_rows hm hs
  have hSat := fun i (hi : i < 16) => seen_at d s hi
  obtain ⟨O, hO⟩ : ∃ O, O = wholeB d s := ⟨_, rfl⟩
  obtain ⟨S, hS⟩ : ∃ S, S = seenB d s := ⟨_, rfl⟩
  unfold wholeB at hO
  rw [← hS] at hO hS16 hS128 hSat
  have hSg : ∀ i (hi : i < S.length), S[i] = readB d ((s + i : Nat) : Int) := fun i hi => by
    rw [← hSat i (by omega)]; simp [List.getD_eq_getElem?_getD, hi]
  rw [show wholeB d s = O from by rw [hO, hS]; rfl]
  simp only [dskA, dskC] at cr
  refine acall_of 4 Try.func84 rfl fun n out _ _ => ?_
  simp only [Try.ntmps84, List.length_cons, List.length_nil, List.length_map, List.length_replicate, rep_map, Nat.reduceAdd, Nat.reduceSub, List.replicate, List.cons_append, List.nil_append]
  repeat' (first | (with_reducible first | refine awp_seq_k fun K hK => ?_ | refine awp_ev tab_ok [] ?_ | refine awp_block_s ?_ | refine awp_block_c ?_ | refine awp_block_r ?_ | refine awp_skip ?_ | apply And.intro | refine awp_ev_quiet tab_ok follows (by kernel_rfl) ?_) | ((with_reducible first | refine gE ?_ | refine gR ?_); simp (maxSteps := 4000000) only [su, evLit, hbT, tab, thenA, blockA, reduceCtorEq, reduceIte, Nat.reduceEqDiff, Nat.reduceBEq, Int.reduceLE, Int.reduceToNat, Nat.reduceAdd, Nat.reduceLT, Nat.reduceLeDiff, dskA, dskC]) | (show (_ : Nat) = (_ : Nat); rfl) | ((with_reducible refine awp_ret ?_); (first | refine ret_ct (.inr rfl) rfl rfl rfl (fun _ _ => rfl) ok65 (k := n + 1) (off := 0) rfl (dom_loc _ (by simp)) (look_loc _ (Nat.le_refl _) 1) rfl rfl ?_ | refine ret_ct (.inr rfl) rfl rfl rfl (fun _ _ => rfl) ok65 (k := m + 1) (off := 0) rfl (dom_loc _ (by simp)) (look_loc _ hm 1) rfl rfl ?_) <;> first | rfl | exact AV.le.rfl _ | (simp only [patch, sl, ti65, List.map_nil, dskA, dskC]; done) | rfl | skip) | ((with_reducible refine gsel_case (fun hg => ?_) (fun hg => ?_)) <;> (try simp only [nb] at hg) <;> simp (maxSteps := 4000000) only [su, evLit, hbT, tab, thenA, blockA, reduceCtorEq, reduceIte, Nat.reduceEqDiff, Nat.reduceBEq, Int.reduceLE, Int.reduceToNat, Nat.reduceAdd, Nat.reduceLT, Nat.reduceLeDiff, hg, dskA, dskC]) | ((with_reducible refine awp_exit ?_); simp only [thenA, blockA, if_true, if_false, reduceIte, Nat.reduceEqDiff]) | (refine hK _ ?_; clear hK K) | refine awp_cond_t rfl ?_ | refine awp_cond_f rfl ?_ | refine awp_if rfl (fun hg => ?_) (fun hg => ?_) | clear hK K)
  refine awp_le (le_row (i := 2) 37 1 rfl) ?_
  refine awp_le (le_row (i := 3) 5 1 rfl) ?_
  simp only [s_0, s_s]
  refine awp_block ?_
  refine awp_for_g (fun i : Nat => [(15, i64 (i : Int)), (6, .sl 1 ((S.take i).map secC) (.own (n + 2))), (7, .top), (8, .top), (9, .top), (16, .top), (17, .top), (18, .top), (19, .top), (20, .top), (21, .top), (22, .top), (23, .top), (24, .top), (25, .top), (26, .top), (27, .top), (28, .top), (29, .top), (30, .top)]) (fun i => [some (.box 25 (dskC d)), some (.box 65 [.val (.int .u32 0), .sl 0 [] .nil]), some (.row 37 1 i), some (.row 5 1 0)]) (fun i => out) (fun i => i ≤ 16) (fun i => 16 - i) 0 (Nat.zero_le _) ?_ fun i hi => ?_
  · refine le_of_all ?_ ?_ (by first | rfl | (simp only [dskC, List.take_zero, List.map_nil]; rfl) | simp only [dskC, List.take_zero, List.map_nil]) rfl rfl rfl <;> simp only [patch, sl, dskC, List.take_zero, List.map_nil]
  simp only [patch, s_0, s_s]
  have hw := addw (n := i) 1 1 rfl (by omega)
  by_cases hlt : i < 16
  · have hlt' : (i : Int) < 16 := by omega
    have hws := addw (n := s) (i : Int) i rfl (by omega)
    have c1 := cr i hlt
    rw [er i hlt, ← hSg i (by omega)] at c1
    have y1 : (i + 1) * 24 ≤ 140737488355328 := by omega
    have y2 : i + 1 ≤ 9223372036854775807 := by omega
    have tl : (S.take i).length = i := by rw [List.length_take]; omega
    have lit : ∀ (σ : AState) (K : AV → List (Nat × Res) → Prop), evLit tab σ K none 22 1 [(0, bs S[i])] = K (.sl 1 [[bs S[i]]] .full) [] := fun σ K => evLit_one (T := tab) (ti := ti22) (te := ti37) rfl rfl rfl (by decide) (by decide) rfl rfl
    have sn : (S.take i).map secC ++ [[bs S[i]]] = (S.take (i + 1)).map secC := by
      rw [List.take_succ_eq_append_getElem (by omega), List.map_append]; rfl
    repeat' (first | (with_reducible first | refine awp_seq_k fun K hK => ?_ | refine awp_ev tab_ok [] ?_ | refine awp_block_s ?_ | refine awp_block_c ?_ | refine awp_block_r ?_ | refine awp_skip ?_ | apply And.intro | refine awp_ev_quiet tab_ok follows (by kernel_rfl) ?_) | ((with_reducible first | refine gE ?_ | refine gR ?_); simp (maxSteps := 4000000) only [su, hbT, tab, thenA, blockA, reduceCtorEq, reduceIte, Nat.reduceEqDiff, Nat.reduceBEq, Int.reduceLE, Int.reduceToNat, Nat.reduceAdd, Nat.reduceLT, Nat.reduceLeDiff, lit, dskC, hlt', hws, List.length_map, tl, y1, y2, hw]) | (show (_ : Nat) = (_ : Nat); rfl) | ((with_reducible refine awp_ret ?_); (first | refine ret_ct (.inr rfl) rfl rfl rfl (fun _ _ => rfl) ok65 (k := n + 1) (off := 0) rfl (dom_loc _ (by simp)) (look_loc _ (Nat.le_refl _) 1) rfl rfl ?_ | refine ret_ct (.inr rfl) rfl rfl rfl (fun _ _ => rfl) ok65 (k := m + 1) (off := 0) rfl (dom_loc _ (by simp)) (look_loc _ hm 1) rfl rfl ?_) <;> first | rfl | exact AV.le.rfl _ | (simp only [patch, sl, ti65, List.map_nil, lit, dskC, hlt', hws, List.length_map, tl, y1, y2, hw]; done) | rfl | skip) | (refine call_pure (c1) ?_) | ((with_reducible refine gsel_case (fun hg => ?_) (fun hg => ?_)) <;> (try simp only [nb] at hg) <;> simp (maxSteps := 4000000) only [su, hbT, tab, thenA, blockA, reduceCtorEq, reduceIte, Nat.reduceEqDiff, Nat.reduceBEq, Int.reduceLE, Int.reduceToNat, Nat.reduceAdd, Nat.reduceLT, Nat.reduceLeDiff, hg, lit, dskC, hlt', hws, List.length_map, tl, y1, y2, hw]) | ((with_reducible refine awp_exit ?_); simp only [thenA, blockA, if_true, if_false, reduceIte, Nat.reduceEqDiff]) | (refine hK _ ?_; clear hK K) | refine awp_cond_t rfl ?_ | refine awp_cond_f rfl ?_ | refine awp_if rfl (fun hg => ?_) (fun hg => ?_) | clear hK K)
    rw [sn]
    refine ⟨i + 1, by omega, by omega, ?_⟩
    refine le_of_all ?_ ?_ rfl rfl rfl rfl <;> simp only [patch, sl, dskC, hlt', decide_true]
  · obtain rfl : i = 16 := by omega
    rw [List.take_of_length_le (by omega)]
    have h0 : 0 < S.length := by omega
    have g0 := getD_map secC S 0 [] h0
    have l0 : S[0].length = 128 := hS128 _ (List.getElem_mem h0)
    have d0 : S.getD 0 [] = S[0] := by simp [List.getD_eq_getElem?_getD, h0]
    have g5 := bytes_get S[0] 5 (by omega)
    have c2 := c_get (S[0].take 4) .sh (by rw [List.length_take]; omega)
    unfold whole16 at hO
    rw [d0] at hO
    obtain ⟨M, hM⟩ : ∃ M, M = (S[0].getD 5 0).toNat := ⟨_, rfl⟩
    obtain ⟨G, hG⟩ : ∃ G, G = getB (S[0].take 4) := ⟨_, rfl⟩
    rw [← hM, ← hG] at hO
    rw [← hG] at c2
    have c3 := c_slot G
    have hM256 : M < 256 := by rw [hM]; exact UInt8.toNat_lt _
    have hc1 : IntKind.i64.wrap ((S[0].getD 5 0).toNat : Int) = (M : Int) := by rw [← hM, wrap_i64] <;> omega
    have none_le : O = none → AV.le (.tup [.agg [.val (.int .u32 0), .sl 0 [] .nil], bool false]) (wholeA O) := fun h => by
      rw [h]
      simp only [wholeA, rcA, rcC, Option.getD_none, Option.isSome_none, w0, patch, sl]
      exact (le_nil_iff _ _).2 trivial
    have hbad : (M < 1 ∨ 16 < M ∨ G = 0 ∨ slotN G ≠ s) → O = none := fun h => by rw [hO, if_pos h]
    repeat' (first | (with_reducible first | refine awp_seq_k fun K hK => ?_ | refine awp_ev tab_ok [] ?_ | refine awp_block_s ?_ | refine awp_block_c ?_ | refine awp_block_r ?_ | refine awp_skip ?_ | apply And.intro | refine awp_ev_quiet tab_ok follows (by kernel_rfl) ?_) | ((with_reducible first | refine gE ?_ | refine gR ?_); simp (maxSteps := 4000000) only [su, evLit, hbT, tab, thenA, blockA, reduceCtorEq, reduceIte, Nat.reduceEqDiff, Nat.reduceBEq, Int.reduceLE, Int.reduceToNat, Nat.reduceAdd, Nat.reduceLT, Nat.reduceLeDiff, dskC, List.length_map, hS16, g0, secC, bytes_length, l0, g5, hc1, loOf, hiOf, bytes_take, Nat.sub_zero, Int.reduceToNat, gen_zero]) | (show (_ : Nat) = (_ : Nat); rfl) | ((with_reducible refine awp_ret ?_); (first | refine ret_ct (.inr rfl) rfl rfl rfl (fun _ _ => rfl) ok65 (k := n + 1) (off := 0) rfl (dom_loc _ (by simp)) (look_loc _ (Nat.le_refl _) 1) rfl rfl ?_ | refine ret_ct (.inr rfl) rfl rfl rfl (fun _ _ => rfl) ok65 (k := m + 1) (off := 0) rfl (dom_loc _ (by simp)) (look_loc _ hm 1) rfl rfl ?_) <;> first | rfl | exact AV.le.rfl _ | (simp only [patch, sl, ti65, List.map_nil, dskC, List.length_map, hS16, g0, secC, bytes_length, l0, g5, hc1, loOf, hiOf, bytes_take, Nat.sub_zero, Int.reduceToNat, gen_zero]; done) | rfl | skip) | (refine call_pure (c2) ?_) | (refine call_pure (c3) ?_) | ((with_reducible refine gsel_case (fun hg => ?_) (fun hg => ?_)) <;> (try simp only [nb] at hg) <;> simp (maxSteps := 4000000) only [su, evLit, hbT, tab, thenA, blockA, reduceCtorEq, reduceIte, Nat.reduceEqDiff, Nat.reduceBEq, Int.reduceLE, Int.reduceToNat, Nat.reduceAdd, Nat.reduceLT, Nat.reduceLeDiff, hg, dskC, List.length_map, hS16, g0, secC, bytes_length, l0, g5, hc1, loOf, hiOf, bytes_take, Nat.sub_zero, Int.reduceToNat, gen_zero]) | ((with_reducible refine awp_exit ?_); simp only [thenA, blockA, if_true, if_false, reduceIte, Nat.reduceEqDiff]) | (refine hK _ ?_; clear hK K) | refine awp_cond_t rfl ?_ | refine awp_cond_f rfl ?_ | refine awp_if rfl (fun hg => ?_) (fun hg => ?_) | clear hK K)
    · refine none_le (hbad (.inl ?_))
      have h : decide ((M : Int) < 1) = true := by assumption
      have := of_decide_eq_true h
      omega
    · refine none_le (hbad (.inr (.inl ?_)))
      have h : decide ((M : Int) > 16) = true := by assumption
      have := of_decide_eq_true h
      omega
    · refine none_le (hbad (.inr (.inr (.inl ?_))))
      have h : decide (G = 0) = true := by assumption
      exact of_decide_eq_true h
    · refine none_le (hbad (.inr (.inr (.inr ?_))))
      have h : ((slotN G : Int) != (s : Int)) = true := by assumption
      intro e
      rw [e] at h; simp at h
    · have h : decide ((M : Int) > 16) = false := by assumption
      have := of_decide_eq_false h
      omega
    have hM1 : 1 ≤ M := by
      have h : decide ((M : Int) < 1) = false := by assumption
      have := of_decide_eq_false h
      omega
    have hM16 : M ≤ 16 := by
      have h : decide ((M : Int) > 16) = false := by assumption
      have := of_decide_eq_false h
      omega
    have hG0 : G ≠ 0 := by
      have h : decide (G = 0) = false := by assumption
      exact of_decide_eq_false h
    have hGs : slotN G = s := by
      have h : ((slotN G : Int) != (s : Int)) = false := by assumption
      simp at h; omega
    rw [if_neg (by simp only [not_or]; exact ⟨by omega, by omega, hG0, by simpa using hGs⟩)] at hO
    have htl : ((S.map secC).take M).length = M := by rw [List.length_take, List.length_map]; omega
    have hal : ∀ i, i ≤ M → (allS S i).length = 118 * i := fun i hi => rows_flat hS128 (by omega)
    refine awp_block ?_
    refine awp_for_g (fun i : Nat => [(66, i64 (i : Int)), (11, .sl 1 (bytesAV (allS S i)) (.own (n + 3))), (13, .top), (67, .top), (68, .top), (69, .top), (70, .top), (71, .top), (72, .top), (73, .top), (74, .top)]) (fun i => [some (.box 25 (dskC d)), some (.box 65 [w32 G, .sl 0 [] .nil]), some (.row 37 1 16), some (.row 5 1 (118 * i))]) (fun i => out) (fun i => i ≤ M) (fun i => M - i) 0 (Nat.zero_le _) ?_ fun i hi => ?_
    · refine le_of_all ?_ ?_ (by first | rfl | (simp only [dskC, allS_0, bytes_nil, Nat.mul_zero]; rfl) | simp only [dskC, allS_0, bytes_nil, Nat.mul_zero]) rfl rfl rfl <;> simp only [patch, sl, dskC, allS_0, bytes_nil, Nat.mul_zero]
    simp only [patch, s_0, s_s]
    have hw := addw (n := i) 1 1 rfl (by omega)
    by_cases hlt : i < M
    · have hlt' : (i : Int) < (M : Int) := by omega
      have gt : ((S.map secC).take M).getD i [] = secC S[i] := by
        rw [← List.map_take, getD_map secC (S.take M) i [] (by rw [List.length_take]; omega)]; simp
      have li : S[i].length = 128 := hS128 _ (List.getElem_mem (by omega))
      have hali := hal i (by omega)
      have lS : (List.take 118 (List.drop 6 S[i])).length = 118 := by rw [List.length_take, List.length_drop]; omega
      have y1 : 118 * i + 118 ≤ 140737488355328 := by omega
      have y2 : 118 * i + 118 ≤ 9223372036854775807 := by omega
      have sn : bytesAV (allS S i) ++ bytesAV ((S[i].drop 6).take 118) = bytesAV (allS S (i + 1)) := by
        rw [bytes_app, ← allS_succ S (by omega)]
      repeat' (first | (with_reducible first | refine awp_seq_k fun K hK => ?_ | refine awp_ev tab_ok [] ?_ | refine awp_block_s ?_ | refine awp_block_c ?_ | refine awp_block_r ?_ | refine awp_skip ?_ | apply And.intro | refine awp_ev_quiet tab_ok follows (by kernel_rfl) ?_) | ((with_reducible first | refine gE ?_ | refine gR ?_); simp (maxSteps := 4000000) only [su, evLit, hbT, tab, thenA, blockA, reduceCtorEq, reduceIte, Nat.reduceEqDiff, Nat.reduceBEq, Int.reduceLE, Int.reduceToNat, Nat.reduceAdd, Nat.reduceLT, Nat.reduceLeDiff, dskC, hlt', htl, hlt, gt, secC, bytes_length, li, lS, loOf, hiOf, bytes_take, bytes_drop, Int.reduceToNat, Nat.reduceSub, hali, y1, y2, sn, hw]) | (show (_ : Nat) = (_ : Nat); rfl) | ((with_reducible refine awp_ret ?_); (first | refine ret_ct (.inr rfl) rfl rfl rfl (fun _ _ => rfl) ok65 (k := n + 1) (off := 0) rfl (dom_loc _ (by simp)) (look_loc _ (Nat.le_refl _) 1) rfl rfl ?_ | refine ret_ct (.inr rfl) rfl rfl rfl (fun _ _ => rfl) ok65 (k := m + 1) (off := 0) rfl (dom_loc _ (by simp)) (look_loc _ hm 1) rfl rfl ?_) <;> first | rfl | exact AV.le.rfl _ | (simp only [patch, sl, ti65, List.map_nil, dskC, hlt', htl, hlt, gt, secC, bytes_length, li, lS, loOf, hiOf, bytes_take, bytes_drop, Int.reduceToNat, Nat.reduceSub, hali, y1, y2, sn, hw]; done) | rfl | skip) | ((with_reducible refine gsel_case (fun hg => ?_) (fun hg => ?_)) <;> (try simp only [nb] at hg) <;> simp (maxSteps := 4000000) only [su, evLit, hbT, tab, thenA, blockA, reduceCtorEq, reduceIte, Nat.reduceEqDiff, Nat.reduceBEq, Int.reduceLE, Int.reduceToNat, Nat.reduceAdd, Nat.reduceLT, Nat.reduceLeDiff, hg, dskC, hlt', htl, hlt, gt, secC, bytes_length, li, lS, loOf, hiOf, bytes_take, bytes_drop, Int.reduceToNat, Nat.reduceSub, hali, y1, y2, sn, hw]) | ((with_reducible refine awp_exit ?_); simp only [thenA, blockA, if_true, if_false, reduceIte, Nat.reduceEqDiff]) | (refine hK _ ?_; clear hK K) | refine awp_cond_t rfl ?_ | refine awp_cond_f rfl ?_ | refine awp_if rfl (fun hg => ?_) (fun hg => ?_) | clear hK K)
      refine ⟨i + 1, by omega, by omega, ?_⟩
      refine le_of_all ?_ ?_ rfl rfl rfl rfl <;> simp only [patch, sl, dskC, hlt', htl, hlt, decide_true, Nat.mul_succ]
    · obtain rfl : i = M := by omega
      have hlt' : ¬ (i : Int) < (i : Int) := by omega
      have hA := hal i (Nat.le_refl _)
      obtain ⟨A, hAA⟩ : ∃ A, A = allS S i := ⟨_, rfl⟩
      have hO' : O = if A.length - 6 < (getB ((A.drop 4).take 2)).toNat then none else if sectorsB ⟨G, (A.drop 6).take (getB ((A.drop 4).take 2)).toNat⟩ = S.take i then some ⟨G, (A.drop 6).take (getB ((A.drop 4).take 2)).toNat⟩ else none := by rw [hO, hAA]; rfl
      clear hO
      rw [← hAA] at hA ⊢
      have c4 := c_get ((A.drop 4).take 2) .sh (by rw [List.length_take]; omega)
      obtain ⟨sz, hsz⟩ : ∃ sz, sz = (getB ((A.drop 4).take 2)).toNat := ⟨_, rfl⟩
      have hsz32 : sz < 4294967296 := by rw [hsz]; exact BitVec.isLt _
      have hc2 : IntKind.i64.wrap ((getB ((A.drop 4).take 2)).toNat : Int) = (sz : Int) := by rw [← hsz, wrap_i64] <;> omega
      rw [← hsz] at hO'
      have hsub := subw (n := A.length) 6 6 rfl (by omega) (by omega)
      repeat' (first | (with_reducible first | refine awp_seq_k fun K hK => ?_ | refine awp_ev tab_ok [] ?_ | refine awp_block_s ?_ | refine awp_block_c ?_ | refine awp_block_r ?_ | refine awp_skip ?_ | apply And.intro | refine awp_ev_quiet tab_ok follows (by kernel_rfl) ?_) | ((with_reducible first | refine gE ?_ | refine gR ?_); simp (maxSteps := 4000000) only [su, evLit, hbT, tab, thenA, blockA, reduceCtorEq, reduceIte, Nat.reduceEqDiff, Nat.reduceBEq, Int.reduceLE, Int.reduceToNat, Nat.reduceAdd, Nat.reduceLT, Nat.reduceLeDiff, dskC, hlt', htl, bytes_length, bytes_take, bytes_drop, loOf, hiOf, Int.reduceToNat, Nat.reduceSub]) | (show (_ : Nat) = (_ : Nat); rfl) | ((with_reducible refine awp_ret ?_); (first | refine ret_ct (.inr rfl) rfl rfl rfl (fun _ _ => rfl) ok65 (k := n + 1) (off := 0) rfl (dom_loc _ (by simp)) (look_loc _ (Nat.le_refl _) 1) rfl rfl ?_ | refine ret_ct (.inr rfl) rfl rfl rfl (fun _ _ => rfl) ok65 (k := m + 1) (off := 0) rfl (dom_loc _ (by simp)) (look_loc _ hm 1) rfl rfl ?_) <;> first | rfl | exact AV.le.rfl _ | (simp only [patch, sl, ti65, List.map_nil, dskC, hlt', htl, bytes_length, bytes_take, bytes_drop, loOf, hiOf, Int.reduceToNat, Nat.reduceSub]; done) | rfl | skip) | ((with_reducible refine gsel_case (fun hg => ?_) (fun hg => ?_)) <;> (try simp only [nb] at hg) <;> simp (maxSteps := 4000000) only [su, evLit, hbT, tab, thenA, blockA, reduceCtorEq, reduceIte, Nat.reduceEqDiff, Nat.reduceBEq, Int.reduceLE, Int.reduceToNat, Nat.reduceAdd, Nat.reduceLT, Nat.reduceLeDiff, hg, dskC, hlt', htl, bytes_length, bytes_take, bytes_drop, loOf, hiOf, Int.reduceToNat, Nat.reduceSub]) | ((with_reducible refine awp_exit ?_); simp only [thenA, blockA, if_true, if_false, reduceIte, Nat.reduceEqDiff]) | (refine hK _ ?_; clear hK K) | refine awp_cond_t rfl ?_ | refine awp_cond_f rfl ?_ | refine awp_if rfl (fun hg => ?_) (fun hg => ?_) | clear hK K)
      · omega
      refine call_pure c4 ?_
      simp (maxSteps := 4000000) only [su, evLit, hbT, tab, thenA, blockA, reduceCtorEq, reduceIte, Nat.reduceEqDiff, Nat.reduceBEq, Int.reduceLE, Int.reduceToNat, Nat.reduceAdd, Nat.reduceLT, Nat.reduceLeDiff, hc2]
      repeat' (first | (with_reducible refine hK _ ?_; clear hK K) | with_reducible apply And.intro)
      by_cases hbig : A.length - 6 < sz
      · rw [if_pos hbig] at hO'
        repeat' (first | (with_reducible first | refine awp_seq_k fun K hK => ?_ | refine awp_ev tab_ok [] ?_ | refine awp_block_s ?_ | refine awp_block_c ?_ | refine awp_block_r ?_ | refine awp_skip ?_ | apply And.intro | refine awp_ev_quiet tab_ok follows (by kernel_rfl) ?_) | ((with_reducible first | refine gE ?_ | refine gR ?_); simp (maxSteps := 4000000) only [su, evLit, hbT, tab, thenA, blockA, reduceCtorEq, reduceIte, Nat.reduceEqDiff, Nat.reduceBEq, Int.reduceLE, Int.reduceToNat, Nat.reduceAdd, Nat.reduceLT, Nat.reduceLeDiff, bytes_length, hsub, hbig]) | (show (_ : Nat) = (_ : Nat); rfl) | ((with_reducible refine awp_ret ?_); (first | refine ret_ct (.inr rfl) rfl rfl rfl (fun _ _ => rfl) ok65 (k := n + 1) (off := 0) rfl (dom_loc _ (by simp)) (look_loc _ (Nat.le_refl _) 1) rfl rfl ?_ | refine ret_ct (.inr rfl) rfl rfl rfl (fun _ _ => rfl) ok65 (k := m + 1) (off := 0) rfl (dom_loc _ (by simp)) (look_loc _ hm 1) rfl rfl ?_) <;> first | rfl | exact AV.le.rfl _ | (simp only [patch, sl, ti65, List.map_nil, bytes_length, hsub, hbig]; done) | rfl | skip) | ((with_reducible refine gsel_case (fun hg => ?_) (fun hg => ?_)) <;> (try simp only [nb] at hg) <;> simp (maxSteps := 4000000) only [su, evLit, hbT, tab, thenA, blockA, reduceCtorEq, reduceIte, Nat.reduceEqDiff, Nat.reduceBEq, Int.reduceLE, Int.reduceToNat, Nat.reduceAdd, Nat.reduceLT, Nat.reduceLeDiff, hg, bytes_length, hsub, hbig]) | ((with_reducible refine awp_exit ?_); simp only [thenA, blockA, if_true, if_false, reduceIte, Nat.reduceEqDiff]) | (refine hK _ ?_; clear hK K) | refine awp_cond_t rfl ?_ | refine awp_cond_f rfl ?_ | refine awp_if rfl (fun hg => ?_) (fun hg => ?_) | clear hK K)
        exact none_le hO'
      · rw [if_neg hbig] at hO'
        have hadd : IntKind.i64.wrap (6 + (sz : Int)) = ((6 + sz : Nat) : Int) := by rw [wrap_i64] <;> omega
        have hTl : ((A.drop 6).take sz).length ≤ 1882 := by rw [List.length_take, List.length_drop]; omega
        have c5 := c_clone ((A.drop 6).take sz) (by omega)
        have c6 := c_sectors ⟨G, (A.drop 6).take sz⟩ (by show ((A.drop 6).take sz).length ≤ 10000; omega)
        have c7 := c_equalFunc_b (sectorsB ⟨G, (A.drop 6).take sz⟩) (S.take i) 78 [] (fun a b => a == b) (hb0 _ (by decide) (by decide)) (by rw [sectors_len]; have := many_le (r := ⟨G, (A.drop 6).take sz⟩) hTl; omega) (fun x _ y _ => c_bequal x y)
        rw [eqBy_eq] at c7
        have ht : List.take i (List.map secC S) = List.map secC (S.take i) := by rw [List.map_take]
        have e6 : 6 + sz ≤ A.length := by omega
        have e7 : 6 ≤ 6 + sz := by omega
        obtain ⟨T, hT⟩ : ∃ T, T = (A.drop 6).take sz := ⟨_, rfl⟩
        rw [← hT] at c5 c6 c7 hO' hTl
        simp only [rcA, rcC] at c6
        cases hq : (sectorsB ⟨G, T⟩ == S.take i) with
        | false =>
          rw [hq] at c7
          rw [if_neg (by simpa using hq)] at hO'
          repeat' (first | (with_reducible first | refine awp_seq_k fun K hK => ?_ | refine awp_ev tab_ok [] ?_ | refine awp_block_s ?_ | refine awp_block_c ?_ | refine awp_block_r ?_ | refine awp_skip ?_ | apply And.intro | refine awp_ev_draw (id := 22) tab_ok [] [[1],[],[],[],[],[],[]] [[],[],[],[],[],[],[]] follows (by kernel_rfl) (by decide) (by decide) (by kernel_rfl) ?_ | refine awp_ev_quiet tab_ok follows (by kernel_rfl) ?_) | ((with_reducible first | refine gE ?_ | refine gR ?_ | refine gD ?_ | refine gF ?_); simp (maxSteps := 4000000) only [su, evLit, hbT, tab, thenA, blockA, reduceCtorEq, reduceIte, Nat.reduceEqDiff, Nat.reduceBEq, Int.reduceLE, Int.reduceToNat, Nat.reduceAdd, Nat.reduceLT, Nat.reduceLeDiff, bytes_length, hsub, hbig, ht, bytes_take, bytes_drop, loOf, hiOf, Int.reduceToNat, Nat.add_sub_cancel_left, Nat.sub_zero, hadd, e6, e7, ← hT, List.length_map, hS16, Bool.not_false]) | (show (_ : Nat) = (_ : Nat); rfl) | ((with_reducible refine awp_ret ?_); (first | refine ret_ct (.inr rfl) rfl rfl rfl (fun _ _ => rfl) ok65 (k := n + 1) (off := 0) rfl (dom_loc _ (by simp)) (look_loc _ (Nat.le_refl _) 1) rfl rfl ?_ | refine ret_ct (.inr rfl) rfl rfl rfl (fun _ _ => rfl) ok65 (k := m + 1) (off := 0) rfl (dom_loc _ (by simp)) (look_loc _ hm 1) rfl rfl ?_) <;> first | rfl | exact AV.le.rfl _ | (simp only [patch, sl, ti65, List.map_nil, bytes_length, hsub, hbig, ht, bytes_take, bytes_drop, loOf, hiOf, Int.reduceToNat, Nat.add_sub_cancel_left, Nat.sub_zero, hadd, e6, e7, ← hT, List.length_map, hS16, Bool.not_false]; done) | rfl | skip) | (refine call_pure (c5) ?_) | (refine call_pure (c6) ?_) | (refine call_pure (c7) ?_) | ((with_reducible refine gsel_case (fun hg => ?_) (fun hg => ?_)) <;> (try simp only [nb] at hg) <;> simp (maxSteps := 4000000) only [su, evLit, hbT, tab, thenA, blockA, reduceCtorEq, reduceIte, Nat.reduceEqDiff, Nat.reduceBEq, Int.reduceLE, Int.reduceToNat, Nat.reduceAdd, Nat.reduceLT, Nat.reduceLeDiff, hg, bytes_length, hsub, hbig, ht, bytes_take, bytes_drop, loOf, hiOf, Int.reduceToNat, Nat.add_sub_cancel_left, Nat.sub_zero, hadd, e6, e7, ← hT, List.length_map, hS16, Bool.not_false]) | ((with_reducible refine awp_exit ?_); simp only [thenA, blockA, if_true, if_false, reduceIte, Nat.reduceEqDiff]) | (refine hK _ ?_; clear hK K) | refine awp_cond_t rfl ?_ | refine awp_cond_f rfl ?_ | refine awp_if rfl (fun hg => ?_) (fun hg => ?_) | clear hK K)
          · omega
          exact none_le hO'
        | true =>
          rw [hq] at c7
          rw [if_pos (by simpa using hq)] at hO'
          repeat' (first | (with_reducible first | refine awp_seq_k fun K hK => ?_ | refine awp_ev tab_ok [] ?_ | refine awp_block_s ?_ | refine awp_block_c ?_ | refine awp_block_r ?_ | refine awp_skip ?_ | apply And.intro | refine awp_ev_draw (id := 22) tab_ok [] [[1],[],[],[],[],[],[]] [[],[],[],[],[],[],[]] follows (by kernel_rfl) (by decide) (by decide) (by kernel_rfl) ?_ | refine awp_ev_quiet tab_ok follows (by kernel_rfl) ?_) | ((with_reducible first | refine gE ?_ | refine gR ?_ | refine gD ?_ | refine gF ?_); simp (maxSteps := 4000000) only [su, evLit, hbT, tab, thenA, blockA, reduceCtorEq, reduceIte, Nat.reduceEqDiff, Nat.reduceBEq, Int.reduceLE, Int.reduceToNat, Nat.reduceAdd, Nat.reduceLT, Nat.reduceLeDiff, bytes_length, hsub, hbig, ht, bytes_take, bytes_drop, loOf, hiOf, Int.reduceToNat, Nat.add_sub_cancel_left, Nat.sub_zero, hadd, e6, e7, ← hT, List.length_map, hS16, Bool.not_true]) | (show (_ : Nat) = (_ : Nat); rfl) | ((with_reducible refine awp_ret ?_); (first | refine ret_ct (.inr rfl) rfl rfl rfl (fun _ _ => rfl) ok65 (k := n + 1) (off := 0) rfl (dom_loc _ (by simp)) (look_loc _ (Nat.le_refl _) 1) rfl rfl ?_ | refine ret_ct (.inr rfl) rfl rfl rfl (fun _ _ => rfl) ok65 (k := m + 1) (off := 0) rfl (dom_loc _ (by simp)) (look_loc _ hm 1) rfl rfl ?_) <;> first | rfl | exact AV.le.rfl _ | (simp only [patch, sl, ti65, List.map_nil, bytes_length, hsub, hbig, ht, bytes_take, bytes_drop, loOf, hiOf, Int.reduceToNat, Nat.add_sub_cancel_left, Nat.sub_zero, hadd, e6, e7, ← hT, List.length_map, hS16, Bool.not_true]; done) | rfl | skip) | (refine call_pure (c5) ?_) | (refine call_pure (c6) ?_) | (refine call_pure (c7) ?_) | ((with_reducible refine gsel_case (fun hg => ?_) (fun hg => ?_)) <;> (try simp only [nb] at hg) <;> simp (maxSteps := 4000000) only [su, evLit, hbT, tab, thenA, blockA, reduceCtorEq, reduceIte, Nat.reduceEqDiff, Nat.reduceBEq, Int.reduceLE, Int.reduceToNat, Nat.reduceAdd, Nat.reduceLT, Nat.reduceLeDiff, hg, bytes_length, hsub, hbig, ht, bytes_take, bytes_drop, loOf, hiOf, Int.reduceToNat, Nat.add_sub_cancel_left, Nat.sub_zero, hadd, e6, e7, ← hT, List.length_map, hS16, Bool.not_true]) | ((with_reducible refine awp_exit ?_); simp only [thenA, blockA, if_true, if_false, reduceIte, Nat.reduceEqDiff]) | (refine hK _ ?_; clear hK K) | refine awp_cond_t rfl ?_ | refine awp_cond_f rfl ?_ | refine awp_if rfl (fun hg => ?_) (fun hg => ?_) | clear hK K)
          · omega
          rw [hO']
          exact AV.le.rfl _
end Go.Proofs.Ytefkjdkalgemeaa
