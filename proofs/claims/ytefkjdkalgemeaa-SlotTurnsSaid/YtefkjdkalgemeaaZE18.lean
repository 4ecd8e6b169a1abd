/-
  The law SlotTurns.
-/
import Derived.Test.YtefkjdkalgemeaaZGA
import Derived.Test.YtefkjdkalgemeaaZE17
namespace Go.Proofs.Ytefkjdkalgemeaa
set_option linter.unusedVariables false
set_option linter.unusedSimpArgs false
open Go Go.VS Tab
set_option maxHeartbeats 32000000
set_option maxRecDepth 8000
def recsT (tx : List (List UInt8)) (i : Nat) : List Rc := (List.range i).map fun j => recT tx (j + 1)
theorem recsT_len (tx : List (List UInt8)) (i : Nat) : (recsT tx i).length = i := by unfold recsT; simp
theorem recsT_at (tx : List (List UInt8)) {i j : Nat} (h : j < i) : ((recsT tx i).map rcC).getD j [] = [w32 (recT tx (j + 1)).gen, bs (recT tx (j + 1)).text] := by
  rw [getD_map rcC (recsT tx i) j [] (by rw [recsT_len]; exact h)]
  unfold recsT
  simp [rcC]
theorem recsT_succ (tx : List (List UInt8)) (i : Nat) : (recsT tx i).map rcC ++ [[w32 (recT tx (i + 1)).gen, bs (recT tx (i + 1)).text]] = (recsT tx (i + 1)).map rcC := by
  unfold recsT
  rw [List.range_succ, List.map_append, List.map_append]; rfl
theorem chunk_ints : ∀ l : List Int, chunk 1 l.length (l.map i64) = l.map intC
  | [] => rfl
  | x :: l => by
    have := chunk_ints l
    simp only [List.length_cons, List.map_cons, chunk, List.take_succ_cons, List.take_zero, List.drop_succ_cons, List.drop_zero, this]
    rfl
theorem far_nil {kp : List UInt8} (h : kp.length = 0) (w k q : Nat) : farL kp w k = farL kp w q := by
  obtain rfl : kp = [] := List.eq_nil_of_length_eq_zero h
  unfold farL
  refine List.map_congr_left fun j _ => ?_
  have e : ((([] : List UInt8).getD (j % ([] : List UInt8).length) 0).toNat % 129 : Nat) = 0 := rfl
  rw [e]
  split <;> split <;> rfl
theorem c_lawTurns (tx : List (List UInt8)) (kp : List UInt8) : ACall Try.prog 17 [.sl 1 (tx.map secC) .sh, bs kp] [] (bool true) [] := by
  by_cases h6 : 6 < tx.length
  · have h6I : decide ((tx.length : Int) > 6) = true := decide_eq_true (by omega)
    refine acall_of 6 Try.func17 rfl fun n out _ _ => ?_
    simp only [Try.ntmps17, List.length_cons, List.length_nil, List.length_map, List.length_replicate, rep_map, Nat.reduceAdd, Nat.reduceSub, List.replicate, List.cons_append, List.nil_append]
    repeat' (first | (with_reducible first | refine awp_seq_k fun K hK => ?_ | refine awp_ev tab_ok [] ?_ | refine awp_block_s ?_ | refine awp_block_c ?_ | refine awp_block_r ?_ | refine awp_skip ?_ | apply And.intro | refine awp_ev_quiet tab_ok follows (by kernel_rfl) ?_) | ((with_reducible first | refine gE ?_ | refine gR ?_); simp (maxSteps := 4000000) only [su, evLit, hbT, tab, thenA, blockA, reduceCtorEq, reduceIte, Nat.reduceEqDiff, Nat.reduceBEq, Int.reduceLE, Int.reduceToNat, Nat.reduceAdd, Nat.reduceLT, Nat.reduceLeDiff, List.length_map, h6I]) | (show (_ : Nat) = (_ : Nat); rfl) | ((with_reducible refine awp_ret ?_); (try refine Or.inr ⟨(by intro h; cases h), ?_⟩); refine ret_tmp (.inr rfl) rfl rfl rfl (fun _ _ => rfl) ?_ <;> first | rfl | skip) | (refine call_pure (c_alive06) ?_) | ((with_reducible refine gsel_case (fun hg => ?_) (fun hg => ?_)) <;> (try simp only [nb] at hg) <;> simp (maxSteps := 4000000) only [su, evLit, hbT, tab, thenA, blockA, reduceCtorEq, reduceIte, Nat.reduceEqDiff, Nat.reduceBEq, Int.reduceLE, Int.reduceToNat, Nat.reduceAdd, Nat.reduceLT, Nat.reduceLeDiff, hg, List.length_map, h6I]) | ((with_reducible refine awp_exit ?_); simp only [thenA, blockA, if_true, if_false, reduceIte, Nat.reduceEqDiff]) | (refine hK _ ?_; clear hK K) | refine awp_cond_t rfl ?_ | refine awp_cond_f rfl ?_ | refine awp_if rfl (fun hg => ?_) (fun hg => ?_) | (refine Or.inl ⟨rfl, ?_⟩; refine le_of_all ?_ ?_ rfl rfl rfl rfl <;> simp only [patch, sl, List.length_map, h6I]) | clear hK K)
  have h6I : decide ((tx.length : Int) > 6) = false := decide_eq_false (by omega)
  by_cases hk : 1000 < kp.length
  · have hkI : decide ((kp.length : Int) > 1000) = true := decide_eq_true (by omega)
    refine acall_of 6 Try.func17 rfl fun n out _ _ => ?_
    simp only [Try.ntmps17, List.length_cons, List.length_nil, List.length_map, List.length_replicate, rep_map, Nat.reduceAdd, Nat.reduceSub, List.replicate, List.cons_append, List.nil_append]
    repeat' (first | (with_reducible first | refine awp_seq_k fun K hK => ?_ | refine awp_ev tab_ok [] ?_ | refine awp_block_s ?_ | refine awp_block_c ?_ | refine awp_block_r ?_ | refine awp_skip ?_ | apply And.intro | refine awp_ev_quiet tab_ok follows (by kernel_rfl) ?_) | ((with_reducible first | refine gE ?_ | refine gR ?_); simp (maxSteps := 4000000) only [su, evLit, hbT, tab, thenA, blockA, reduceCtorEq, reduceIte, Nat.reduceEqDiff, Nat.reduceBEq, Int.reduceLE, Int.reduceToNat, Nat.reduceAdd, Nat.reduceLT, Nat.reduceLeDiff, List.length_map, h6I, bytes_length, hkI]) | (show (_ : Nat) = (_ : Nat); rfl) | ((with_reducible refine awp_ret ?_); (try refine Or.inr ⟨(by intro h; cases h), ?_⟩); refine ret_tmp (.inr rfl) rfl rfl rfl (fun _ _ => rfl) ?_ <;> first | rfl | skip) | (refine call_pure (c_alive06) ?_) | ((with_reducible refine gsel_case (fun hg => ?_) (fun hg => ?_)) <;> (try simp only [nb] at hg) <;> simp (maxSteps := 4000000) only [su, evLit, hbT, tab, thenA, blockA, reduceCtorEq, reduceIte, Nat.reduceEqDiff, Nat.reduceBEq, Int.reduceLE, Int.reduceToNat, Nat.reduceAdd, Nat.reduceLT, Nat.reduceLeDiff, hg, List.length_map, h6I, bytes_length, hkI]) | ((with_reducible refine awp_exit ?_); simp only [thenA, blockA, if_true, if_false, reduceIte, Nat.reduceEqDiff]) | (refine hK _ ?_; clear hK K) | refine awp_cond_t rfl ?_ | refine awp_cond_f rfl ?_ | refine awp_if rfl (fun hg => ?_) (fun hg => ?_) | (refine Or.inl ⟨rfl, ?_⟩; refine le_of_all ?_ ?_ rfl rfl rfl rfl <;> simp only [patch, sl, List.length_map, h6I, bytes_length, hkI]) | clear hK K)
  have hkI : decide ((kp.length : Int) > 1000) = false := decide_eq_false (by omega)
  have c0 := c_new
  simp only [dskA, dskC] at c0
  have D0 : dskT tx 0 = newD := rfl
  have R0 : recsT tx 0 = [] := rfl
  refine acall_of 6 Try.func17 rfl fun n out _ _ => ?_
  simp only [Try.ntmps17, List.length_cons, List.length_nil, List.length_map, List.length_replicate, rep_map, Nat.reduceAdd, Nat.reduceSub, List.replicate, List.cons_append, List.nil_append]
  repeat' (first | (with_reducible first | refine awp_seq_k fun K hK => ?_ | refine awp_ev tab_ok [] ?_ | refine awp_block_s ?_ | refine awp_block_c ?_ | refine awp_block_r ?_ | refine awp_skip ?_ | apply And.intro | refine awp_ev_quiet tab_ok follows (by kernel_rfl) ?_) | ((with_reducible first | refine gE ?_ | refine gR ?_); simp (maxSteps := 4000000) only [su, evLit, hbT, tab, thenA, blockA, reduceCtorEq, reduceIte, Nat.reduceEqDiff, Nat.reduceBEq, Int.reduceLE, Int.reduceToNat, Nat.reduceAdd, Nat.reduceLT, Nat.reduceLeDiff, List.length_map, h6I, bytes_length, hkI]) | (show (_ : Nat) = (_ : Nat); rfl) | ((with_reducible refine awp_ret ?_); (try refine Or.inr ⟨(by intro h; cases h), ?_⟩); refine ret_tmp (.inr rfl) rfl rfl rfl (fun _ _ => rfl) ?_ <;> first | rfl | skip) | (refine call_pure (c_alive06) ?_) | (refine call_pure (c0) ?_) | ((with_reducible refine gsel_case (fun hg => ?_) (fun hg => ?_)) <;> (try simp only [nb] at hg) <;> simp (maxSteps := 4000000) only [su, evLit, hbT, tab, thenA, blockA, reduceCtorEq, reduceIte, Nat.reduceEqDiff, Nat.reduceBEq, Int.reduceLE, Int.reduceToNat, Nat.reduceAdd, Nat.reduceLT, Nat.reduceLeDiff, hg, List.length_map, h6I, bytes_length, hkI]) | ((with_reducible refine awp_exit ?_); simp only [thenA, blockA, if_true, if_false, reduceIte, Nat.reduceEqDiff]) | (refine hK _ ?_; clear hK K) | refine awp_cond_t rfl ?_ | refine awp_cond_f rfl ?_ | refine awp_if rfl (fun hg => ?_) (fun hg => ?_) | (refine Or.inl ⟨rfl, ?_⟩; refine le_of_all ?_ ?_ rfl rfl rfl rfl <;> simp only [patch, sl, List.length_map, h6I, bytes_length, hkI]) | clear hK K)
  refine awp_le (le_row (i := 1) 65 2 rfl) ?_
  simp only [s_0, s_s]
  refine awp_block ?_
  refine awp_for_mv (fun m (i : Nat) => [(6, .ptr (m + 0) 0), (7, .sl 2 ((recsT tx i).map rcC) (.own (m + 1))), (8, i64 (i : Int)), (4, .top), (9, .top), (10, .top), (11, .top), (12, .top), (13, .top), (14, .top), (15, .top), (16, .top), (17, .top), (18, .top), (19, .top), (20, .top), (21, .top), (37, .top), (38, .top), (39, .top), (40, .top), (41, .top), (42, .top), (43, .top), (44, .top), (45, .top), (46, .top), (47, .top), (48, .top), (49, .top), (50, .top), (51, .top), (52, .top), (53, .top), (54, .top), (55, .top), (56, .top), (57, .top), (58, .top), (59, .top), (60, .top), (61, .top), (62, .top), (63, .top), (64, .top), (65, .top), (66, .top), (67, .top), (68, .top), (69, .top), (70, .top), (71, .top), (72, .top), (73, .top), (74, .top), (75, .top), (76, .top), (77, .top), (78, .top), (79, .top), (80, .top), (81, .top), (82, .top), (83, .top), (84, .top), (85, .top), (86, .top), (87, .top), (88, .top), (89, .top), (90, .top), (91, .top), (92, .top), (93, .top), (94, .top), (95, .top), (96, .top), (97, .top), (98, .top), (99, .top), (100, .top), (101, .top), (102, .top), (103, .top), (104, .top), (105, .top), (106, .top), (107, .top), (108, .top), (109, .top), (110, .top), (111, .top), (112, .top), (113, .top), (114, .top), (115, .top), (116, .top), (117, .top), (118, .top), (119, .top), (120, .top), (121, .top), (122, .top), (123, .top), (124, .top), (125, .top), (126, .top), (127, .top), (128, .top), (129, .top), (130, .top), (131, .top), (132, .top), (133, .top), (134, .top), (135, .top), (136, .top), (137, .top), (138, .top), (139, .top), (140, .top), (141, .top), (142, .top), (143, .top), (144, .top), (145, .top), (146, .top), (147, .top), (148, .top), (149, .top), (150, .top), (151, .top), (152, .top), (153, .top), (154, .top), (155, .top), (156, .top), (157, .top), (158, .top), (159, .top), (160, .top), (161, .top), (162, .top), (163, .top), (164, .top), (165, .top), (166, .top), (167, .top), (168, .top), (169, .top), (170, .top), (171, .top), (172, .top), (173, .top), (174, .top), (175, .top), (176, .top), (177, .top), (178, .top), (179, .top), (180, .top), (181, .top), (182, .top), (183, .top), (184, .top), (185, .top), (186, .top), (187, .top), (188, .top), (189, .top), (190, .top), (191, .top), (192, .top), (193, .top), (194, .top), (195, .top), (196, .top), (197, .top), (198, .top), (199, .top), (200, .top), (201, .top), (202, .top), (203, .top), (204, .top), (205, .top), (206, .top), (207, .top), (208, .top), (209, .top), (210, .top), (211, .top)]) (fun m i => [some (.box 25 (dskC (dskT tx i))), some (.row 65 2 i), none, none, none, none]) (fun i => out) (fun i => i ≤ tx.length ∧ (∀ j, j < tx.length → j < i → (recT tx (j + 1)).text.length ≤ 1882)) (fun i => tx.length - i) 0 ⟨Nat.zero_le _, by intros; omega⟩ ?_ fun m i hm hi => ?_
  · refine le_of_all ?_ ?_ (by first | rfl | (simp only [dskC, D0, R0, List.map_nil]; rfl) | simp only [dskC, D0, R0, List.map_nil]) rfl rfl rfl <;> simp only [patch, sl, dskC, D0, R0, List.map_nil]
  obtain ⟨hi, hq⟩ := hi
  simp only [patch, s_0, s_s]
  have hw := addw (n := i) 1 1 rfl (by omega)
  by_cases hlt : i < tx.length
  · have hT := turn_all tx i (by omega) fun j hj => hq j (by omega) hj
    have gi := getD_map secC tx i [] hlt
    have et : (recT tx (i + 1)).text = tx[i] := by
      show tx.getD (i + 1 - 1) [] = tx[i]
      rw [Nat.add_sub_cancel]; simp [List.getD_eq_getElem?_getD, hlt]
    have eg : (recT tx (i + 1)).gen = BitVec.ofNat 32 (i + 1) := rfl
    obtain ⟨nE, nW⟩ := turn_next hT (by omega)
    have hDs := (may_small hT.m)
    have cN := c_slotNext (dskT tx i) (BitVec.ofNat 32 i) hDs.s hDs.w
    rw [nE, nW] at cN
    have cP := c_slotPut' (dskT tx i) (recT tx (i + 1)) hDs.s hDs.w
    simp only [rcA, rcC, dskA, dskC, et, eg] at cN cP
    have hL := recsT_len tx i
    have y1 : (i + 1) * 32 ≤ 140737488355328 := by omega
    have y2 : i + 1 ≤ 9223372036854775807 := by omega
    have hg : ∀ h : 0 < i, ((recsT tx i).map rcC).getD (i - 1) [] = [w32 (BitVec.ofNat 32 i), bs (recT tx i).text] := fun h => by
      rw [recsT_at tx (j := i - 1) (by omega), Nat.sub_add_cancel (by omega)]; rfl
    by_cases hbig : 1882 < tx[i].length
    · have hE := turn_big hT (by omega) (by rw [et]; exact hbig)
      have hbI : decide ((tx[i].length : Int) > 1882) = true := decide_eq_true (by omega)
      rw [hE] at cP
      by_cases hi0 : i = 0
      · subst hi0
        repeat' (first | (with_reducible first | refine awp_seq_k fun K hK => ?_ | refine awp_ev tab_ok [] ?_ | refine awp_block_s ?_ | refine awp_block_c ?_ | refine awp_block_r ?_ | refine awp_skip ?_ | apply And.intro | refine awp_ev_draw (id := 13) tab_ok [] [[0],[],[],[],[],[],[],[],[],[],[],[2],[2],[]] [[],[],[],[],[],[],[],[],[],[],[],[2],[2],[]] follows (by kernel_rfl) (by decide) (by decide) (by kernel_rfl) ?_ | refine awp_ev_quiet tab_ok follows (by kernel_rfl) ?_) | ((with_reducible first | refine gE ?_ | refine gR ?_ | refine gD ?_ | refine gF ?_); simp (maxSteps := 4000000) only [su, evLit, hbT, tab, thenA, blockA, reduceCtorEq, reduceIte, Nat.reduceEqDiff, Nat.reduceBEq, Int.reduceLE, Int.reduceToNat, Nat.reduceAdd, Nat.reduceLT, Nat.reduceLeDiff, locM hm, dskC, List.length_map, hlt, gi, secC, pick_cons, hL, hbI, bytes_length, Int.cast_ofNat_Int, gt_iff_lt, Int.lt_irrefl]) | (show (_ : Nat) = (_ : Nat); rfl) | ((with_reducible refine awp_ret ?_); (try refine Or.inr ⟨(by intro h; cases h), ?_⟩); refine ret_tmp (.inr rfl) rfl rfl rfl (fun _ _ => rfl) ?_ <;> first | rfl | skip) | (refine call_pure (cN) ?_) | (refine call_pure (cP) ?_) | ((with_reducible refine gsel_case (fun hg => ?_) (fun hg => ?_)) <;> (try simp only [nb] at hg) <;> simp (maxSteps := 4000000) only [su, evLit, hbT, tab, thenA, blockA, reduceCtorEq, reduceIte, Nat.reduceEqDiff, Nat.reduceBEq, Int.reduceLE, Int.reduceToNat, Nat.reduceAdd, Nat.reduceLT, Nat.reduceLeDiff, hg, locM hm, dskC, List.length_map, hlt, gi, secC, pick_cons, hL, hbI, bytes_length, Int.cast_ofNat_Int, gt_iff_lt, Int.lt_irrefl]) | ((with_reducible refine awp_exit ?_); simp only [thenA, blockA, if_true, if_false, reduceIte, Nat.reduceEqDiff]) | (refine hK _ ?_; clear hK K) | refine awp_cond_t rfl ?_ | refine awp_cond_f rfl ?_ | refine awp_if rfl (fun hg => ?_) (fun hg => ?_) | (refine Or.inl ⟨rfl, ?_⟩; refine le_of_all ?_ ?_ rfl rfl rfl rfl <;> simp only [patch, sl, locM hm, dskC, List.length_map, hlt, gi, secC, pick_cons, hL, hbI, bytes_length, Int.cast_ofNat_Int, gt_iff_lt, Int.lt_irrefl]) | clear hK K)
      · have hs1 := subw (n := i) 1 1 rfl (by omega) (by omega)
        have hpos : (0 : Int) < (i : Int) := by omega
        have hg' := hg (by omega)
        repeat' (first | (with_reducible first | refine awp_seq_k fun K hK => ?_ | refine awp_ev tab_ok [] ?_ | refine awp_block_s ?_ | refine awp_block_c ?_ | refine awp_block_r ?_ | refine awp_skip ?_ | apply And.intro | refine awp_ev_draw (id := 13) tab_ok [] [[0],[],[],[],[],[],[],[],[],[],[],[2],[2],[]] [[],[],[],[],[],[],[],[],[],[],[],[2],[2],[]] follows (by kernel_rfl) (by decide) (by decide) (by kernel_rfl) ?_ | refine awp_ev_quiet tab_ok follows (by kernel_rfl) ?_) | ((with_reducible first | refine gE ?_ | refine gR ?_ | refine gD ?_ | refine gF ?_); simp (maxSteps := 4000000) only [su, evLit, hbT, tab, thenA, blockA, reduceCtorEq, reduceIte, Nat.reduceEqDiff, Nat.reduceBEq, Int.reduceLE, Int.reduceToNat, Nat.reduceAdd, Nat.reduceLT, Nat.reduceLeDiff, locM hm, dskC, List.length_map, hlt, gi, secC, pick_cons, hL, hbI, bytes_length, gt_iff_lt, hpos, hs1, hg']) | (show (_ : Nat) = (_ : Nat); rfl) | ((with_reducible refine awp_ret ?_); (try refine Or.inr ⟨(by intro h; cases h), ?_⟩); refine ret_tmp (.inr rfl) rfl rfl rfl (fun _ _ => rfl) ?_ <;> first | rfl | skip) | (refine call_pure (cN) ?_) | (refine call_pure (cP) ?_) | ((with_reducible refine gsel_case (fun hg => ?_) (fun hg => ?_)) <;> (try simp only [nb] at hg) <;> simp (maxSteps := 4000000) only [su, evLit, hbT, tab, thenA, blockA, reduceCtorEq, reduceIte, Nat.reduceEqDiff, Nat.reduceBEq, Int.reduceLE, Int.reduceToNat, Nat.reduceAdd, Nat.reduceLT, Nat.reduceLeDiff, hg, locM hm, dskC, List.length_map, hlt, gi, secC, pick_cons, hL, hbI, bytes_length, gt_iff_lt, hpos, hs1, hg']) | ((with_reducible refine awp_exit ?_); simp only [thenA, blockA, if_true, if_false, reduceIte, Nat.reduceEqDiff]) | (refine hK _ ?_; clear hK K) | refine awp_cond_t rfl ?_ | refine awp_cond_f rfl ?_ | refine awp_if rfl (fun hg => ?_) (fun hg => ?_) | (refine Or.inl ⟨rfl, ?_⟩; refine le_of_all ?_ ?_ rfl rfl rfl rfl <;> simp only [patch, sl, locM hm, dskC, List.length_map, hlt, gi, secC, pick_cons, hL, hbI, bytes_length, gt_iff_lt, hpos, hs1, hg']) | clear hK K)
        all_goals omega
    · have hE := turn_put hT (by omega) (by rw [et]; omega)
      have hbI : decide ((tx[i].length : Int) > 1882) = false := decide_eq_false (by omega)
      have ht : (recT tx (i + 1)).text.length ≤ 1882 := by rw [et]; omega
      obtain ⟨pw1, pw2⟩ := put_waits hE hT.w
      obtain ⟨w, hwd⟩ : ∃ w, w = manyB (recT tx (i + 1)) := ⟨_, rfl⟩
      have hw1 : 1 ≤ w := by rw [hwd]; exact many_pos _
      have hw16 : w ≤ 16 := by rw [hwd]; exact many_le ht
      have hmX := may_put hE
      have hcr := fun F (h1 : F.length = w) (h2 : ∀ x, x ∈ F → 0 ≤ x ∧ x < 129) => turn_crash hT (by omega) ht (kp := F) (by rw [h1, hwd]) h2
      obtain ⟨hT', hfS⟩ := turn_sync hT (by omega) ht
      have hwX : (putD (dskT tx i) (recT tx (i + 1))).waits.length = w := by rw [pw1, recW_len, hwd]
      have cC := fun F (h1 : F.length ≤ 1000000) => c_crash (putD (dskT tx i) (recT tx (i + 1))) F (may_small hmX).s (may_small hmX).w h1
      have cS := c_sync (putD (dskT tx i) (recT tx (i + 1))) (may_small hmX).s (may_small hmX).w
      have hDS : syncD (putD (dskT tx i) (recT tx (i + 1))) = dskT tx (i + 1) := rfl
      rw [hDS] at hT' hfS cS
      rw [hmX, if_pos rfl] at cS
      obtain ⟨X, hX⟩ : ∃ X, X = putD (dskT tx i) (recT tx (i + 1)) := ⟨_, rfl⟩
      rw [← hX] at cP cS hwX
      simp only [← hX] at cC hcr
      rw [hE] at cP
      obtain ⟨F, hF⟩ : ∃ F, F = farL kp w w := ⟨_, rfl⟩
      have hFl : F.length = w := by rw [hF]; exact far_len _ _ _
      obtain ⟨x1, x2, x3⟩ := hcr F hFl (by rw [hF]; exact far_in _ _ _)
      have cCF := cC F (by omega)
      rw [x1] at cCF
      have cF1 := c_slotFind (crashD X F) (may_small x2).s (may_small x2).w
      rw [x2, if_pos rfl] at cF1
      obtain ⟨N, hN⟩ : ∃ N, N = findL (crashD X F) := ⟨_, rfl⟩
      have hNl : N.length ≤ 2 := by rw [hN]; exact find_len _
      rw [← hN] at x3 cF1
      obtain ⟨C, hC⟩ : ∃ C, C = crashD X F := ⟨_, rfl⟩
      rw [← hC] at cCF cF1
      have cF2 := c_slotFind (dskT tx (i + 1)) (may_small hT'.m).s (may_small hT'.m).w
      rw [hT'.m, hfS, if_pos rfl] at cF2
      have hz : repZero [Value.int .i64 0] w = (farL kp w 0).map i64 := by
        rw [far_0]
        simp only [repZero, List.length_cons, List.length_nil, Nat.zero_add, Nat.mod_one, List.map_replicate, List.getD_cons_zero, c_int]
        rw [List.map_const', List.length_range]
      have lit : ∀ (σ : AState) (K : AV → List (Nat × Res) → Prop) (q : BitVec 32) (t : List UInt8), evLit tab σ K none 66 1 [(0, .agg [w32 q, bs t])] = K (.sl 2 [[w32 q, bs t]] .full) [] := fun σ K q t => evLit_one (T := tab) (ti := ti66) (te := ti65) rfl rfl rfl (by decide) (by decide) rfl rfl
      have hsn := recsT_succ tx i
      rw [et, eg] at hsn
      simp only [dskA, dskC] at cCF cF1 cS cF2
      clear cC hcr
      by_cases hi0 : i = 0
      · subst hi0
        repeat' (first | (with_reducible first | refine awp_seq_k fun K hK => ?_ | refine awp_ev tab_ok [(90, none)] ?_ | refine awp_block_s ?_ | refine awp_block_c ?_ | refine awp_block_r ?_ | refine awp_skip ?_ | apply And.intro | refine awp_ev_draw (id := 13) tab_ok [(90, none)] [[0],[],[],[],[],[],[],[],[],[],[],[2],[2],[]] [[],[],[],[],[],[],[],[],[],[],[],[2],[2],[]] follows (by kernel_rfl) (by decide) (by decide) (by kernel_rfl) ?_ | refine awp_ev_quiet tab_ok follows (by kernel_rfl) ?_) | ((with_reducible first | refine gE ?_ | refine gR ?_ | refine gD ?_ | refine gF ?_); simp (maxSteps := 4000000) only [su, evLit, hbT, tab, thenA, blockA, reduceCtorEq, reduceIte, Nat.reduceEqDiff, Nat.reduceBEq, Int.reduceLE, Int.reduceToNat, Nat.reduceAdd, Nat.reduceLT, Nat.reduceLeDiff, locM hm, dskC, List.length_map, hlt, gi, secC, pick_cons, hL, hbI, bytes_length, Int.cast_ofNat_Int, gt_iff_lt, Int.lt_irrefl, bne_self_eq_false, hwX, hz]) | (show (_ : Nat) = (_ : Nat); rfl) | ((with_reducible refine awp_ret ?_); (try refine Or.inr ⟨(by intro h; cases h), ?_⟩); refine ret_tmp (.inr rfl) rfl rfl rfl (fun _ _ => rfl) ?_ <;> first | rfl | skip) | (refine call_pure (cN) ?_) | (refine call_pure (cP) ?_) | ((with_reducible refine gsel_case (fun hg => ?_) (fun hg => ?_)) <;> (try simp only [nb] at hg) <;> simp (maxSteps := 4000000) only [su, evLit, hbT, tab, thenA, blockA, reduceCtorEq, reduceIte, Nat.reduceEqDiff, Nat.reduceBEq, Int.reduceLE, Int.reduceToNat, Nat.reduceAdd, Nat.reduceLT, Nat.reduceLeDiff, hg, locM hm, dskC, List.length_map, hlt, gi, secC, pick_cons, hL, hbI, bytes_length, Int.cast_ofNat_Int, gt_iff_lt, Int.lt_irrefl, bne_self_eq_false, hwX, hz]) | ((with_reducible refine awp_exit ?_); simp only [thenA, blockA, if_true, if_false, reduceIte, Nat.reduceEqDiff]) | (refine hK _ ?_; clear hK K) | refine awp_cond_t rfl ?_ | refine awp_cond_f rfl ?_ | refine awp_if rfl (fun hg => ?_) (fun hg => ?_) | (refine Or.inl ⟨rfl, ?_⟩; refine le_of_all ?_ ?_ rfl rfl rfl rfl <;> simp only [patch, sl, locM hm, dskC, List.length_map, hlt, gi, secC, pick_cons, hL, hbI, bytes_length, Int.cast_ofNat_Int, gt_iff_lt, Int.lt_irrefl, bne_self_eq_false, hwX, hz]) | clear hK K)
        · omega
        · omega
        · omega
        refine awp_block_to [(14, .bsl (m + 3) 0 w true), (15, .top), (91, .top), (92, .top), (93, .top), (94, .top), (95, .top), (96, .top), (97, .top), (98, .top), (99, .top), (100, .top), (101, .top), (102, .top), (103, .top), (104, .top), (105, .top), (106, .top), (107, .top), (108, .top), (109, .top), (110, .top), (111, .top), (112, .top), (113, .top)] [some (.box 25 (dskC (dskT tx 0))), some (.row 65 2 0), some (.box 25 (dskC X)), some (.box 3 (F.map i64)), none, none] out (id ?_) (awp_for_g (fun k : Nat => [(15, i64 (k : Int)), (14, .bsl (m + 3) 0 w true), (91, .top), (92, .top), (93, .top), (94, .top), (95, .top), (96, .top), (97, .top), (98, .top), (99, .top), (100, .top), (101, .top), (102, .top), (103, .top), (104, .top), (105, .top), (106, .top), (107, .top), (108, .top), (109, .top), (110, .top), (111, .top), (112, .top), (113, .top)]) (fun k => [some (.box 25 (dskC (dskT tx 0))), some (.row 65 2 0), some (.box 25 (dskC X)), some (.box 3 ((farL kp w k).map i64)), none, none]) (fun k => out) (fun k => k ≤ w ∧ (k = 0 ∨ 0 < kp.length)) (fun k => w - k) 0 ⟨Nat.zero_le _, ?_⟩ ?_ fun k hk => ?_)
        rotate_left
        · exact .inl rfl
        · refine le_of_all ?_ ?_ rfl rfl rfl rfl <;> simp only [patch, sl, dskC, Int.cast_ofNat_Int]
        · obtain ⟨hk1, hk2⟩ := hk
          simp only [patch, s_0, s_s]
          have hwk := addw (n := k) 1 1 rfl (by omega)
          have hfl := far_len kp w k
          by_cases hkw : k < w
          · by_cases hkp : 0 < kp.length
            · have hkpI : (0 : Int) < (kp.length : Int) := by omega
              have hrem : evInt .rem .i64 (k : Int) (kp.length : Int) = some (.int .i64 ((k % kp.length : Nat) : Int)) := by rw [i_rem _ _ (by omega)]; rfl
              have hmod : k % kp.length < kp.length := Nat.mod_lt _ hkp
              have gk := bytes_get kp (k % kp.length) hmod
              have hub := (kp.getD (k % kp.length) 0).toNat_lt
              have hcv : IntKind.i64.wrap ((kp.getD (k % kp.length) 0).toNat : Int) = ((kp.getD (k % kp.length) 0).toNat : Int) := by rw [wrap_i64] <;> omega
              have hr2 : evInt .rem .i64 ((kp.getD (k % kp.length) 0).toNat : Int) 129 = some (.int .i64 (((kp.getD (k % kp.length) 0).toNat % 129 : Nat) : Int)) := by rw [i_rem _ _ (by decide)]; rfl
              have hsp := splice_map i64 (farL kp w k) k (((kp.getD (k % kp.length) 0).toNat % 129 : Nat) : Int) (by omega)
              rw [far_succ kp hkw] at hsp
              repeat' (first | (with_reducible first | refine awp_seq_k fun K hK => ?_ | refine awp_ev tab_ok [] ?_ | refine awp_block_s ?_ | refine awp_block_c ?_ | refine awp_block_r ?_ | refine awp_skip ?_ | apply And.intro | refine awp_ev_quiet tab_ok follows (by kernel_rfl) ?_) | ((with_reducible first | refine gE ?_ | refine gR ?_); simp (maxSteps := 4000000) only [su, evLit, hbT, tab, thenA, blockA, reduceCtorEq, reduceIte, Nat.reduceEqDiff, Nat.reduceBEq, Int.reduceLE, Int.reduceToNat, Nat.reduceAdd, Nat.reduceLT, Nat.reduceLeDiff, locM hm, dskC, hkw, gt_iff_lt, hkpI, hrem, hmod, gk, hcv, hr2, hsp, hfl, bytes_length, List.length_map, hwk]) | (show (_ : Nat) = (_ : Nat); rfl) | ((with_reducible refine awp_ret ?_); (try refine Or.inr ⟨(by intro h; cases h), ?_⟩); refine ret_tmp (.inr rfl) rfl rfl rfl (fun _ _ => rfl) ?_ <;> first | rfl | skip) | ((with_reducible refine gsel_case (fun hg => ?_) (fun hg => ?_)) <;> (try simp only [nb] at hg) <;> simp (maxSteps := 4000000) only [su, evLit, hbT, tab, thenA, blockA, reduceCtorEq, reduceIte, Nat.reduceEqDiff, Nat.reduceBEq, Int.reduceLE, Int.reduceToNat, Nat.reduceAdd, Nat.reduceLT, Nat.reduceLeDiff, hg, locM hm, dskC, hkw, gt_iff_lt, hkpI, hrem, hmod, gk, hcv, hr2, hsp, hfl, bytes_length, List.length_map, hwk]) | ((with_reducible refine awp_exit ?_); simp only [thenA, blockA, if_true, if_false, reduceIte, Nat.reduceEqDiff]) | (refine hK _ ?_; clear hK K) | refine awp_cond_t rfl ?_ | refine awp_cond_f rfl ?_ | refine awp_if rfl (fun hg => ?_) (fun hg => ?_) | (refine Or.inl ⟨rfl, ?_⟩; refine le_of_all ?_ ?_ rfl rfl rfl rfl <;> simp only [patch, sl, locM hm, dskC, hkw, gt_iff_lt, hkpI, hrem, hmod, gk, hcv, hr2, hsp, hfl, bytes_length, List.length_map, hwk]) | clear hK K)
              · omega
              refine ⟨k + 1, ⟨by omega, .inr hkp⟩, by omega, ?_⟩
              refine le_of_all ?_ ?_ rfl rfl rfl rfl <;> simp only [patch, sl, dskC, hkw, decide_true]
            · have hkpI : ¬ (0 : Int) < (kp.length : Int) := by omega
              rw [show farL kp w k = F from (far_nil (by omega) w k w).trans hF.symm]
              repeat' (first | (with_reducible first | refine awp_seq_k fun K hK => ?_ | refine awp_ev tab_ok [] ?_ | refine awp_block_s ?_ | refine awp_block_c ?_ | refine awp_block_r ?_ | refine awp_skip ?_ | apply And.intro | refine awp_ev_quiet tab_ok follows (by kernel_rfl) ?_) | ((with_reducible first | refine gE ?_ | refine gR ?_); simp (maxSteps := 4000000) only [su, evLit, hbT, tab, thenA, blockA, reduceCtorEq, reduceIte, Nat.reduceEqDiff, Nat.reduceBEq, Int.reduceLE, Int.reduceToNat, Nat.reduceAdd, Nat.reduceLT, Nat.reduceLeDiff, locM hm, dskC, hkw, gt_iff_lt, hkpI, hFl, bytes_length, List.length_map]) | (show (_ : Nat) = (_ : Nat); rfl) | ((with_reducible refine awp_ret ?_); (try refine Or.inr ⟨(by intro h; cases h), ?_⟩); refine ret_tmp (.inr rfl) rfl rfl rfl (fun _ _ => rfl) ?_ <;> first | rfl | skip) | ((with_reducible refine gsel_case (fun hg => ?_) (fun hg => ?_)) <;> (try simp only [nb] at hg) <;> simp (maxSteps := 4000000) only [su, evLit, hbT, tab, thenA, blockA, reduceCtorEq, reduceIte, Nat.reduceEqDiff, Nat.reduceBEq, Int.reduceLE, Int.reduceToNat, Nat.reduceAdd, Nat.reduceLT, Nat.reduceLeDiff, hg, locM hm, dskC, hkw, gt_iff_lt, hkpI, hFl, bytes_length, List.length_map]) | ((with_reducible refine awp_exit ?_); simp only [thenA, blockA, if_true, if_false, reduceIte, Nat.reduceEqDiff]) | (refine hK _ ?_; clear hK K) | refine awp_cond_t rfl ?_ | refine awp_cond_f rfl ?_ | refine awp_if rfl (fun hg => ?_) (fun hg => ?_) | (refine Or.inl ⟨rfl, ?_⟩; refine le_of_all ?_ ?_ rfl rfl rfl rfl <;> simp only [patch, sl, locM hm, dskC, hkw, gt_iff_lt, hkpI, hFl, bytes_length, List.length_map]) | clear hK K)
              refine .inl ⟨trivial, ?_⟩
              refine le_of_all ?_ ?_ rfl rfl rfl rfl <;> simp only [patch, sl, dskC]
          · obtain rfl : k = w := by omega
            rw [← hF]
            repeat' (first | (with_reducible first | refine awp_seq_k fun K hK => ?_ | refine awp_ev tab_ok [] ?_ | refine awp_block_s ?_ | refine awp_block_c ?_ | refine awp_block_r ?_ | refine awp_skip ?_ | apply And.intro | refine awp_ev_quiet tab_ok follows (by kernel_rfl) ?_) | ((with_reducible first | refine gE ?_ | refine gR ?_); simp (maxSteps := 4000000) only [su, evLit, hbT, tab, thenA, blockA, reduceCtorEq, reduceIte, Nat.reduceEqDiff, Nat.reduceBEq, Int.reduceLE, Int.reduceToNat, Nat.reduceAdd, Nat.reduceLT, Nat.reduceLeDiff, locM hm, dskC, hkw, gt_iff_lt, hFl, bytes_length, List.length_map]) | (show (_ : Nat) = (_ : Nat); rfl) | ((with_reducible refine awp_ret ?_); (try refine Or.inr ⟨(by intro h; cases h), ?_⟩); refine ret_tmp (.inr rfl) rfl rfl rfl (fun _ _ => rfl) ?_ <;> first | rfl | skip) | ((with_reducible refine gsel_case (fun hg => ?_) (fun hg => ?_)) <;> (try simp only [nb] at hg) <;> simp (maxSteps := 4000000) only [su, evLit, hbT, tab, thenA, blockA, reduceCtorEq, reduceIte, Nat.reduceEqDiff, Nat.reduceBEq, Int.reduceLE, Int.reduceToNat, Nat.reduceAdd, Nat.reduceLT, Nat.reduceLeDiff, hg, locM hm, dskC, hkw, gt_iff_lt, hFl, bytes_length, List.length_map]) | ((with_reducible refine awp_exit ?_); simp only [thenA, blockA, if_true, if_false, reduceIte, Nat.reduceEqDiff]) | (refine hK _ ?_; clear hK K) | refine awp_cond_t rfl ?_ | refine awp_cond_f rfl ?_ | refine awp_if rfl (fun hg => ?_) (fun hg => ?_) | (refine Or.inl ⟨rfl, ?_⟩; refine le_of_all ?_ ?_ rfl rfl rfl rfl <;> simp only [patch, sl, locM hm, dskC, hkw, gt_iff_lt, hFl, bytes_length, List.length_map]) | clear hK K)
            refine .inl ⟨trivial, ?_⟩
            refine le_of_all ?_ ?_ rfl rfl rfl rfl <;> simp only [patch, sl, dskC]
        refine hK _ ?_
        clear hK K
        simp only [patch, s_0, s_s]
        have hfz : Fz (m + 3) 1 (F.map i64) (.bsl (m + 3) 0 w true) (.sl 1 (F.map intC) .sh) := by
          have h := Fz.bsl (k := m + 3) (sz := 1) (cs := F.map i64) 0 w true ⟨by omega, by rw [List.length_map, hFl]; omega⟩
          rw [List.drop_zero, ← hFl, chunk_ints F] at h
          rw [← hFl]
          exact h
        refine awp_le (le_freezeAt (i := 3) (t := 14) 1 (.sl 1 (F.map intC) .sh) rfl rfl hfz) ?_
        simp only [s_0, s_s]
        have k0 := c_sameR (recT tx (0 + 1)) (recT tx (0 + 1))
        rw [(sameR_iff _ _).2 rfl] at k0
        rw [if_neg (by decide)] at cF2
        have l1 := recsT_len tx (0 + 1)
        have ra := recsT_at tx (i := 0 + 1) (j := 0) (by decide)
        have q0 : ([rcC (recT tx (0 + 1))] : List (List AV)).getD 0 [] = [w32 (BitVec.ofNat 32 (0 + 1)), bs tx[0]] := by rw [← et, ← eg]; rfl
        rw [et, eg] at ra
        simp only [rcA, rcC, et, eg] at k0
        simp only [List.map_cons, List.map_nil] at cF2
        repeat' (first | (with_reducible first | refine awp_seq_k fun K hK => ?_ | refine awp_ev tab_ok [] ?_ | refine awp_block_s ?_ | refine awp_block_c ?_ | refine awp_block_r ?_ | refine awp_skip ?_ | apply And.intro | refine awp_ev_quiet tab_ok follows (by kernel_rfl) ?_) | ((with_reducible first | refine gE ?_ | refine gR ?_); simp (maxSteps := 4000000) only [su, hbT, tab, thenA, blockA, reduceCtorEq, reduceIte, Nat.reduceEqDiff, Nat.reduceBEq, Int.reduceLE, Int.reduceToNat, Nat.reduceAdd, Nat.reduceLT, Nat.reduceLeDiff, lit, locM hm, dskC, List.length_map, hlt, gi, secC, pick_cons, hL, bytes_length, Int.cast_ofNat_Int, gt_iff_lt, Int.lt_irrefl, bne_self_eq_false, hsn, y1, y2, l1, ra, q0, Int.reduceLT, Int.reduceBNe, Int.reduceSub, show IntKind.i64.wrap 0 = 0 from rfl, Int.le_refl, Int.toNat_zero, Nat.lt_one_iff, List.length_cons, List.length_nil, Bool.not_true, splice_all]) | (show (_ : Nat) = (_ : Nat); rfl) | ((with_reducible refine awp_ret ?_); (try refine Or.inr ⟨(by intro h; cases h), ?_⟩); refine ret_tmp (.inr rfl) rfl rfl rfl (fun _ _ => rfl) ?_ <;> first | rfl | skip) | (refine call_pure (cCF) ?_) | (refine call_pure (cF1) ?_) | (refine call_pure (cS) ?_) | (refine call_pure (cF2) ?_) | (refine call_pure (k0) ?_) | ((with_reducible refine gsel_case (fun hg => ?_) (fun hg => ?_)) <;> (try simp only [nb] at hg) <;> simp (maxSteps := 4000000) only [su, hbT, tab, thenA, blockA, reduceCtorEq, reduceIte, Nat.reduceEqDiff, Nat.reduceBEq, Int.reduceLE, Int.reduceToNat, Nat.reduceAdd, Nat.reduceLT, Nat.reduceLeDiff, hg, lit, locM hm, dskC, List.length_map, hlt, gi, secC, pick_cons, hL, bytes_length, Int.cast_ofNat_Int, gt_iff_lt, Int.lt_irrefl, bne_self_eq_false, hsn, y1, y2, l1, ra, q0, Int.reduceLT, Int.reduceBNe, Int.reduceSub, show IntKind.i64.wrap 0 = 0 from rfl, Int.le_refl, Int.toNat_zero, Nat.lt_one_iff, List.length_cons, List.length_nil, Bool.not_true, splice_all]) | ((with_reducible refine awp_exit ?_); simp only [thenA, blockA, if_true, if_false, reduceIte, Nat.reduceEqDiff]) | (refine hK _ ?_; clear hK K) | refine awp_cond_t rfl ?_ | refine awp_cond_f rfl ?_ | refine awp_if rfl (fun hg => ?_) (fun hg => ?_) | (refine Or.inl ⟨rfl, ?_⟩; refine le_of_all ?_ ?_ rfl rfl rfl rfl <;> simp only [patch, sl, lit, locM hm, dskC, List.length_map, hlt, gi, secC, pick_cons, hL, bytes_length, Int.cast_ofNat_Int, gt_iff_lt, Int.lt_irrefl, bne_self_eq_false, hsn, y1, y2, l1, ra, q0, Int.reduceLT, Int.reduceBNe, Int.reduceSub, show IntKind.i64.wrap 0 = 0 from rfl, Int.le_refl, Int.toNat_zero, Nat.lt_one_iff, List.length_cons, List.length_nil, Bool.not_true, splice_all]) | clear hK K)
        all_goals try omega
        refine ⟨1, ⟨by omega, fun j hj hj1 => ?_⟩, by omega, ?_⟩
        · obtain rfl : j = 0 := by omega
          exact ht
        refine le_move [true, true, false, false, false, false] (fun n_ => ?_) (fun n_ => ?_) <;> simp only [patch, sm, dskC, Int.cast_ofNat_Int, show IntKind.i64.wrap (0 + 1) = 1 from rfl]
      · have hs1 := subw (n := i) 1 1 rfl (by omega) (by omega)
        have hpos : (0 : Int) < (i : Int) := by omega
        have hg' := hg (by omega)
        have cA := c_among N (recT tx i) (by omega)
        rw [(among_iff N _).2 (x3 (by omega))] at cA
        simp only [rcA, rcC, show (recT tx i).gen = BitVec.ofNat 32 i from rfl] at cA
        repeat' (first | (with_reducible first | refine awp_seq_k fun K hK => ?_ | refine awp_ev tab_ok [(90, none)] ?_ | refine awp_block_s ?_ | refine awp_block_c ?_ | refine awp_block_r ?_ | refine awp_skip ?_ | apply And.intro | refine awp_ev_draw (id := 13) tab_ok [(90, none)] [[0],[],[],[],[],[],[],[],[],[],[],[2],[2],[]] [[],[],[],[],[],[],[],[],[],[],[],[2],[2],[]] follows (by kernel_rfl) (by decide) (by decide) (by kernel_rfl) ?_ | refine awp_ev_quiet tab_ok follows (by kernel_rfl) ?_) | ((with_reducible first | refine gE ?_ | refine gR ?_ | refine gD ?_ | refine gF ?_); simp (maxSteps := 4000000) only [su, evLit, hbT, tab, thenA, blockA, reduceCtorEq, reduceIte, Nat.reduceEqDiff, Nat.reduceBEq, Int.reduceLE, Int.reduceToNat, Nat.reduceAdd, Nat.reduceLT, Nat.reduceLeDiff, locM hm, dskC, List.length_map, hlt, gi, secC, pick_cons, hL, hbI, bytes_length, gt_iff_lt, hpos, hs1, hg', bne_self_eq_false, hwX, hz]) | (show (_ : Nat) = (_ : Nat); rfl) | ((with_reducible refine awp_ret ?_); (try refine Or.inr ⟨(by intro h; cases h), ?_⟩); refine ret_tmp (.inr rfl) rfl rfl rfl (fun _ _ => rfl) ?_ <;> first | rfl | skip) | (refine call_pure (cN) ?_) | (refine call_pure (cP) ?_) | ((with_reducible refine gsel_case (fun hg => ?_) (fun hg => ?_)) <;> (try simp only [nb] at hg) <;> simp (maxSteps := 4000000) only [su, evLit, hbT, tab, thenA, blockA, reduceCtorEq, reduceIte, Nat.reduceEqDiff, Nat.reduceBEq, Int.reduceLE, Int.reduceToNat, Nat.reduceAdd, Nat.reduceLT, Nat.reduceLeDiff, hg, locM hm, dskC, List.length_map, hlt, gi, secC, pick_cons, hL, hbI, bytes_length, gt_iff_lt, hpos, hs1, hg', bne_self_eq_false, hwX, hz]) | ((with_reducible refine awp_exit ?_); simp only [thenA, blockA, if_true, if_false, reduceIte, Nat.reduceEqDiff]) | (refine hK _ ?_; clear hK K) | refine awp_cond_t rfl ?_ | refine awp_cond_f rfl ?_ | refine awp_if rfl (fun hg => ?_) (fun hg => ?_) | (refine Or.inl ⟨rfl, ?_⟩; refine le_of_all ?_ ?_ rfl rfl rfl rfl <;> simp only [patch, sl, locM hm, dskC, List.length_map, hlt, gi, secC, pick_cons, hL, hbI, bytes_length, gt_iff_lt, hpos, hs1, hg', bne_self_eq_false, hwX, hz]) | clear hK K)
        · omega
        · omega
        · omega
        · omega
        refine awp_block_to [(14, .bsl (m + 3) 0 w true), (15, .top), (91, .top), (92, .top), (93, .top), (94, .top), (95, .top), (96, .top), (97, .top), (98, .top), (99, .top), (100, .top), (101, .top), (102, .top), (103, .top), (104, .top), (105, .top), (106, .top), (107, .top), (108, .top), (109, .top), (110, .top), (111, .top), (112, .top), (113, .top)] [some (.box 25 (dskC (dskT tx i))), some (.row 65 2 i), some (.box 25 (dskC X)), some (.box 3 (F.map i64)), none, none] out (id ?_) (awp_for_g (fun k : Nat => [(15, i64 (k : Int)), (14, .bsl (m + 3) 0 w true), (91, .top), (92, .top), (93, .top), (94, .top), (95, .top), (96, .top), (97, .top), (98, .top), (99, .top), (100, .top), (101, .top), (102, .top), (103, .top), (104, .top), (105, .top), (106, .top), (107, .top), (108, .top), (109, .top), (110, .top), (111, .top), (112, .top), (113, .top)]) (fun k => [some (.box 25 (dskC (dskT tx i))), some (.row 65 2 i), some (.box 25 (dskC X)), some (.box 3 ((farL kp w k).map i64)), none, none]) (fun k => out) (fun k => k ≤ w ∧ (k = 0 ∨ 0 < kp.length)) (fun k => w - k) 0 ⟨Nat.zero_le _, ?_⟩ ?_ fun k hk => ?_)
        rotate_left
        · exact .inl rfl
        · refine le_of_all ?_ ?_ rfl rfl rfl rfl <;> simp only [patch, sl, dskC, Int.cast_ofNat_Int]
        · obtain ⟨hk1, hk2⟩ := hk
          simp only [patch, s_0, s_s]
          have hwk := addw (n := k) 1 1 rfl (by omega)
          have hfl := far_len kp w k
          by_cases hkw : k < w
          · by_cases hkp : 0 < kp.length
            · have hkpI : (0 : Int) < (kp.length : Int) := by omega
              have hrem : evInt .rem .i64 (k : Int) (kp.length : Int) = some (.int .i64 ((k % kp.length : Nat) : Int)) := by rw [i_rem _ _ (by omega)]; rfl
              have hmod : k % kp.length < kp.length := Nat.mod_lt _ hkp
              have gk := bytes_get kp (k % kp.length) hmod
              have hub := (kp.getD (k % kp.length) 0).toNat_lt
              have hcv : IntKind.i64.wrap ((kp.getD (k % kp.length) 0).toNat : Int) = ((kp.getD (k % kp.length) 0).toNat : Int) := by rw [wrap_i64] <;> omega
              have hr2 : evInt .rem .i64 ((kp.getD (k % kp.length) 0).toNat : Int) 129 = some (.int .i64 (((kp.getD (k % kp.length) 0).toNat % 129 : Nat) : Int)) := by rw [i_rem _ _ (by decide)]; rfl
              have hsp := splice_map i64 (farL kp w k) k (((kp.getD (k % kp.length) 0).toNat % 129 : Nat) : Int) (by omega)
              rw [far_succ kp hkw] at hsp
              repeat' (first | (with_reducible first | refine awp_seq_k fun K hK => ?_ | refine awp_ev tab_ok [] ?_ | refine awp_block_s ?_ | refine awp_block_c ?_ | refine awp_block_r ?_ | refine awp_skip ?_ | apply And.intro | refine awp_ev_quiet tab_ok follows (by kernel_rfl) ?_) | ((with_reducible first | refine gE ?_ | refine gR ?_); simp (maxSteps := 4000000) only [su, evLit, hbT, tab, thenA, blockA, reduceCtorEq, reduceIte, Nat.reduceEqDiff, Nat.reduceBEq, Int.reduceLE, Int.reduceToNat, Nat.reduceAdd, Nat.reduceLT, Nat.reduceLeDiff, locM hm, dskC, hkw, gt_iff_lt, hkpI, hrem, hmod, gk, hcv, hr2, hsp, hfl, bytes_length, List.length_map, hwk]) | (show (_ : Nat) = (_ : Nat); rfl) | ((with_reducible refine awp_ret ?_); (try refine Or.inr ⟨(by intro h; cases h), ?_⟩); refine ret_tmp (.inr rfl) rfl rfl rfl (fun _ _ => rfl) ?_ <;> first | rfl | skip) | ((with_reducible refine gsel_case (fun hg => ?_) (fun hg => ?_)) <;> (try simp only [nb] at hg) <;> simp (maxSteps := 4000000) only [su, evLit, hbT, tab, thenA, blockA, reduceCtorEq, reduceIte, Nat.reduceEqDiff, Nat.reduceBEq, Int.reduceLE, Int.reduceToNat, Nat.reduceAdd, Nat.reduceLT, Nat.reduceLeDiff, hg, locM hm, dskC, hkw, gt_iff_lt, hkpI, hrem, hmod, gk, hcv, hr2, hsp, hfl, bytes_length, List.length_map, hwk]) | ((with_reducible refine awp_exit ?_); simp only [thenA, blockA, if_true, if_false, reduceIte, Nat.reduceEqDiff]) | (refine hK _ ?_; clear hK K) | refine awp_cond_t rfl ?_ | refine awp_cond_f rfl ?_ | refine awp_if rfl (fun hg => ?_) (fun hg => ?_) | (refine Or.inl ⟨rfl, ?_⟩; refine le_of_all ?_ ?_ rfl rfl rfl rfl <;> simp only [patch, sl, locM hm, dskC, hkw, gt_iff_lt, hkpI, hrem, hmod, gk, hcv, hr2, hsp, hfl, bytes_length, List.length_map, hwk]) | clear hK K)
              · omega
              refine ⟨k + 1, ⟨by omega, .inr hkp⟩, by omega, ?_⟩
              refine le_of_all ?_ ?_ rfl rfl rfl rfl <;> simp only [patch, sl, dskC, hkw, decide_true]
            · have hkpI : ¬ (0 : Int) < (kp.length : Int) := by omega
              rw [show farL kp w k = F from (far_nil (by omega) w k w).trans hF.symm]
              repeat' (first | (with_reducible first | refine awp_seq_k fun K hK => ?_ | refine awp_ev tab_ok [] ?_ | refine awp_block_s ?_ | refine awp_block_c ?_ | refine awp_block_r ?_ | refine awp_skip ?_ | apply And.intro | refine awp_ev_quiet tab_ok follows (by kernel_rfl) ?_) | ((with_reducible first | refine gE ?_ | refine gR ?_); simp (maxSteps := 4000000) only [su, evLit, hbT, tab, thenA, blockA, reduceCtorEq, reduceIte, Nat.reduceEqDiff, Nat.reduceBEq, Int.reduceLE, Int.reduceToNat, Nat.reduceAdd, Nat.reduceLT, Nat.reduceLeDiff, locM hm, dskC, hkw, gt_iff_lt, hkpI, hFl, bytes_length, List.length_map]) | (show (_ : Nat) = (_ : Nat); rfl) | ((with_reducible refine awp_ret ?_); (try refine Or.inr ⟨(by intro h; cases h), ?_⟩); refine ret_tmp (.inr rfl) rfl rfl rfl (fun _ _ => rfl) ?_ <;> first | rfl | skip) | ((with_reducible refine gsel_case (fun hg => ?_) (fun hg => ?_)) <;> (try simp only [nb] at hg) <;> simp (maxSteps := 4000000) only [su, evLit, hbT, tab, thenA, blockA, reduceCtorEq, reduceIte, Nat.reduceEqDiff, Nat.reduceBEq, Int.reduceLE, Int.reduceToNat, Nat.reduceAdd, Nat.reduceLT, Nat.reduceLeDiff, hg, locM hm, dskC, hkw, gt_iff_lt, hkpI, hFl, bytes_length, List.length_map]) | ((with_reducible refine awp_exit ?_); simp only [thenA, blockA, if_true, if_false, reduceIte, Nat.reduceEqDiff]) | (refine hK _ ?_; clear hK K) | refine awp_cond_t rfl ?_ | refine awp_cond_f rfl ?_ | refine awp_if rfl (fun hg => ?_) (fun hg => ?_) | (refine Or.inl ⟨rfl, ?_⟩; refine le_of_all ?_ ?_ rfl rfl rfl rfl <;> simp only [patch, sl, locM hm, dskC, hkw, gt_iff_lt, hkpI, hFl, bytes_length, List.length_map]) | clear hK K)
              refine .inl ⟨trivial, ?_⟩
              refine le_of_all ?_ ?_ rfl rfl rfl rfl <;> simp only [patch, sl, dskC]
          · obtain rfl : k = w := by omega
            rw [← hF]
            repeat' (first | (with_reducible first | refine awp_seq_k fun K hK => ?_ | refine awp_ev tab_ok [] ?_ | refine awp_block_s ?_ | refine awp_block_c ?_ | refine awp_block_r ?_ | refine awp_skip ?_ | apply And.intro | refine awp_ev_quiet tab_ok follows (by kernel_rfl) ?_) | ((with_reducible first | refine gE ?_ | refine gR ?_); simp (maxSteps := 4000000) only [su, evLit, hbT, tab, thenA, blockA, reduceCtorEq, reduceIte, Nat.reduceEqDiff, Nat.reduceBEq, Int.reduceLE, Int.reduceToNat, Nat.reduceAdd, Nat.reduceLT, Nat.reduceLeDiff, locM hm, dskC, hkw, gt_iff_lt, hFl, bytes_length, List.length_map]) | (show (_ : Nat) = (_ : Nat); rfl) | ((with_reducible refine awp_ret ?_); (try refine Or.inr ⟨(by intro h; cases h), ?_⟩); refine ret_tmp (.inr rfl) rfl rfl rfl (fun _ _ => rfl) ?_ <;> first | rfl | skip) | ((with_reducible refine gsel_case (fun hg => ?_) (fun hg => ?_)) <;> (try simp only [nb] at hg) <;> simp (maxSteps := 4000000) only [su, evLit, hbT, tab, thenA, blockA, reduceCtorEq, reduceIte, Nat.reduceEqDiff, Nat.reduceBEq, Int.reduceLE, Int.reduceToNat, Nat.reduceAdd, Nat.reduceLT, Nat.reduceLeDiff, hg, locM hm, dskC, hkw, gt_iff_lt, hFl, bytes_length, List.length_map]) | ((with_reducible refine awp_exit ?_); simp only [thenA, blockA, if_true, if_false, reduceIte, Nat.reduceEqDiff]) | (refine hK _ ?_; clear hK K) | refine awp_cond_t rfl ?_ | refine awp_cond_f rfl ?_ | refine awp_if rfl (fun hg => ?_) (fun hg => ?_) | (refine Or.inl ⟨rfl, ?_⟩; refine le_of_all ?_ ?_ rfl rfl rfl rfl <;> simp only [patch, sl, locM hm, dskC, hkw, gt_iff_lt, hFl, bytes_length, List.length_map]) | clear hK K)
            refine .inl ⟨trivial, ?_⟩
            refine le_of_all ?_ ?_ rfl rfl rfl rfl <;> simp only [patch, sl, dskC]
        refine hK _ ?_
        clear hK K
        simp only [patch, s_0, s_s]
        have hfz : Fz (m + 3) 1 (F.map i64) (.bsl (m + 3) 0 w true) (.sl 1 (F.map intC) .sh) := by
          have h := Fz.bsl (k := m + 3) (sz := 1) (cs := F.map i64) 0 w true ⟨by omega, by rw [List.length_map, hFl]; omega⟩
          rw [List.drop_zero, ← hFl, chunk_ints F] at h
          rw [← hFl]
          exact h
        refine awp_le (le_freezeAt (i := 3) (t := 14) 1 (.sl 1 (F.map intC) .sh) rfl rfl hfz) ?_
        simp only [s_0, s_s]
        have k0 := c_sameR (recT tx (i + 1)) (recT tx (i + 1))
        have k1 := c_sameR (recT tx i) (recT tx i)
        rw [(sameR_iff _ _).2 rfl] at k0 k1
        rw [if_pos (by omega)] at cF2
        have l1 := recsT_len tx (i + 1)
        have ra := recsT_at tx (i := i + 1) (j := i) (by omega)
        have rb := recsT_at tx (i := i + 1) (j := i - 1) (by omega)
        rw [Nat.sub_add_cancel (by omega)] at rb
        have q0 : ([rcC (recT tx (i + 1)), rcC (recT tx i)] : List (List AV)).getD 0 [] = [w32 (BitVec.ofNat 32 (i + 1)), bs tx[i]] := by rw [← et, ← eg]; rfl
        have q1 : ([rcC (recT tx (i + 1)), rcC (recT tx i)] : List (List AV)).getD 1 [] = [w32 (BitVec.ofNat 32 i), bs (recT tx i).text] := rfl
        rw [et, eg] at ra
        simp only [show (recT tx i).gen = BitVec.ofNat 32 i from rfl] at rb
        simp only [rcA, rcC, et, eg, show (recT tx i).gen = BitVec.ofNat 32 i from rfl] at k0 k1
        simp only [List.map_cons, List.map_nil] at cF2
        have hs2 := subw (n := i + 1) 1 1 rfl (by omega) (by omega)
        have hs3 := subw (n := i + 1) 2 2 rfl (by omega) (by omega)
        rw [Nat.add_sub_cancel] at hs2
        rw [show i + 1 - 2 = i - 1 by omega] at hs3
        have hmin : ¬ ((i + 1 : Nat) : Int) < 2 := by omega
        have hgt1 : (1 : Int) < ((i + 1 : Nat) : Int) := by omega
        repeat' (first | (with_reducible first | refine awp_seq_k fun K hK => ?_ | refine awp_ev tab_ok [] ?_ | refine awp_block_s ?_ | refine awp_block_c ?_ | refine awp_block_r ?_ | refine awp_skip ?_ | apply And.intro | refine awp_ev_quiet tab_ok follows (by kernel_rfl) ?_) | ((with_reducible first | refine gE ?_ | refine gR ?_); simp (maxSteps := 4000000) only [su, hbT, tab, thenA, blockA, reduceCtorEq, reduceIte, Nat.reduceEqDiff, Nat.reduceBEq, Int.reduceLE, Int.reduceToNat, Nat.reduceAdd, Nat.reduceLT, Nat.reduceLeDiff, lit, locM hm, dskC, List.length_map, hlt, gi, secC, pick_cons, hL, bytes_length, Int.cast_ofNat_Int, gt_iff_lt, hpos, hs1, hg', bne_self_eq_false, hsn, y1, y2, l1, ra, rb, q0, q1, hs2, hs3, hmin, hgt1, Int.reduceLT, Int.reduceBNe, Int.reduceSub, List.length_cons, List.length_nil, Bool.not_true, splice_all]) | (show (_ : Nat) = (_ : Nat); rfl) | ((with_reducible refine awp_ret ?_); (try refine Or.inr ⟨(by intro h; cases h), ?_⟩); refine ret_tmp (.inr rfl) rfl rfl rfl (fun _ _ => rfl) ?_ <;> first | rfl | skip) | (refine call_pure (cCF) ?_) | (refine call_pure (cF1) ?_) | (refine call_pure (cA) ?_) | (refine call_pure (cS) ?_) | (refine call_pure (cF2) ?_) | (refine call_pure (k0) ?_) | (refine call_pure (k1) ?_) | ((with_reducible refine gsel_case (fun hg => ?_) (fun hg => ?_)) <;> (try simp only [nb] at hg) <;> simp (maxSteps := 4000000) only [su, hbT, tab, thenA, blockA, reduceCtorEq, reduceIte, Nat.reduceEqDiff, Nat.reduceBEq, Int.reduceLE, Int.reduceToNat, Nat.reduceAdd, Nat.reduceLT, Nat.reduceLeDiff, hg, lit, locM hm, dskC, List.length_map, hlt, gi, secC, pick_cons, hL, bytes_length, Int.cast_ofNat_Int, gt_iff_lt, hpos, hs1, hg', bne_self_eq_false, hsn, y1, y2, l1, ra, rb, q0, q1, hs2, hs3, hmin, hgt1, Int.reduceLT, Int.reduceBNe, Int.reduceSub, List.length_cons, List.length_nil, Bool.not_true, splice_all]) | ((with_reducible refine awp_exit ?_); simp only [thenA, blockA, if_true, if_false, reduceIte, Nat.reduceEqDiff]) | (refine hK _ ?_; clear hK K) | refine awp_cond_t rfl ?_ | refine awp_cond_f rfl ?_ | refine awp_if rfl (fun hg => ?_) (fun hg => ?_) | (refine Or.inl ⟨rfl, ?_⟩; refine le_of_all ?_ ?_ rfl rfl rfl rfl <;> simp only [patch, sl, lit, locM hm, dskC, List.length_map, hlt, gi, secC, pick_cons, hL, bytes_length, Int.cast_ofNat_Int, gt_iff_lt, hpos, hs1, hg', bne_self_eq_false, hsn, y1, y2, l1, ra, rb, q0, q1, hs2, hs3, hmin, hgt1, Int.reduceLT, Int.reduceBNe, Int.reduceSub, List.length_cons, List.length_nil, Bool.not_true, splice_all]) | clear hK K)
        all_goals try omega
        refine ⟨i + 1, ⟨by omega, fun j hj hj1 => ?_⟩, by omega, ?_⟩
        · by_cases hji : j = i
          · subst hji; exact ht
          · exact hq j hj (by omega)
        refine le_move [true, true, false, false, false, false] (fun n_ => ?_) (fun n_ => ?_) <;> simp only [patch, sm, dskC, hw]
  · obtain rfl : i = tx.length := by omega
    repeat' (first | (with_reducible first | refine awp_seq_k fun K hK => ?_ | refine awp_ev tab_ok [] ?_ | refine awp_block_s ?_ | refine awp_block_c ?_ | refine awp_block_r ?_ | refine awp_skip ?_ | apply And.intro | refine awp_ev_quiet tab_ok follows (by kernel_rfl) ?_) | ((with_reducible first | refine gE ?_ | refine gR ?_); simp (maxSteps := 4000000) only [su, evLit, hbT, tab, thenA, blockA, reduceCtorEq, reduceIte, Nat.reduceEqDiff, Nat.reduceBEq, Int.reduceLE, Int.reduceToNat, Nat.reduceAdd, Nat.reduceLT, Nat.reduceLeDiff, List.length_map, hlt]) | (show (_ : Nat) = (_ : Nat); rfl) | ((with_reducible refine awp_ret ?_); (try refine Or.inr ⟨(by intro h; cases h), ?_⟩); refine ret_tmp (.inr rfl) rfl rfl rfl (fun _ _ => rfl) ?_ <;> first | rfl | skip) | ((with_reducible refine gsel_case (fun hg => ?_) (fun hg => ?_)) <;> (try simp only [nb] at hg) <;> simp (maxSteps := 4000000) only [su, evLit, hbT, tab, thenA, blockA, reduceCtorEq, reduceIte, Nat.reduceEqDiff, Nat.reduceBEq, Int.reduceLE, Int.reduceToNat, Nat.reduceAdd, Nat.reduceLT, Nat.reduceLeDiff, hg, List.length_map, hlt]) | ((with_reducible refine awp_exit ?_); simp only [thenA, blockA, if_true, if_false, reduceIte, Nat.reduceEqDiff]) | (refine hK _ ?_; clear hK K) | refine awp_cond_t rfl ?_ | refine awp_cond_f rfl ?_ | refine awp_if rfl (fun hg => ?_) (fun hg => ?_) | (refine Or.inl ⟨rfl, ?_⟩; refine le_of_all ?_ ?_ rfl rfl rfl rfl <;> simp only [patch, sl, List.length_map, hlt]) | clear hK K)
end Go.Proofs.Ytefkjdkalgemeaa
