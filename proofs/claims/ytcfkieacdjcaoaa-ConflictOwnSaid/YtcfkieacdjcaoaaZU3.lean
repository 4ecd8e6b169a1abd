/-
  The law ConflictBoth.
-/
import Derived.Test.YtcfkieacdjcaoaaZG0
import Derived.Test.YtcfkieacdjcaoaaZU2
import Derived.Test.YtcfkieacdjcaoaaZT4
namespace Go.Proofs.Ytcfkieacdjcaoaa.Pln
set_option linter.unusedVariables false
set_option linter.unusedSimpArgs false
open Go Go.VS Tab
set_option maxHeartbeats 8000000
set_option maxRecDepth 4000
theorem tabPre_pre (p : Pl) (i : Nat) : ∀ n, i ≤ n → n ≤ p.rts.length → ∃ t, tabPre p n = tabPre p i ++ t
  | 0, h, _ => ⟨[], by obtain rfl : i = 0 := by omega
                       simp⟩
  | n + 1, h, hn => by
    by_cases e : i = n + 1
    · exact ⟨[], by rw [e]; simp⟩
    · obtain ⟨t, ht⟩ := tabPre_pre p i n (by omega) (by omega)
      exact ⟨t ++ tabIn p p.rts[n] (p.rts.drop (n + 1)), by rw [tabPre_succ p n (by omega), ht, List.append_assoc]⟩
theorem tabIn_app (p : Pl) (a : Rt) (l k : List Rt) : tabIn p a (l ++ k) = tabIn p a l ++ tabIn p a k := by
  unfold tabIn; rw [List.filter_append, List.map_append]
def tabX (p : Pl) (i k : Nat) : List (Int × Int) := tabPre p i ++ tabIn p (p.rts.getD i noRt) ((p.rts.drop (i + 1)).take k)
theorem tabX_zero (p : Pl) (i : Nat) : tabX p i 0 = tabPre p i := by unfold tabX; simp [tabIn_nil]
theorem getD_rt {p : Pl} {i : Nat} (h : i < p.rts.length) : p.rts.getD i noRt = p.rts[i] := by simp [List.getD_eq_getElem?_getD, h]
theorem tabX_end {p : Pl} {i : Nat} (h : i < p.rts.length) : tabX p i (p.rts.length - (i + 1)) = tabPre p (i + 1) := by
  rw [tabPre_succ p i h]
  unfold tabX
  rw [getD_rt h, List.take_of_length_le (by rw [List.length_drop]; exact Nat.le_refl _)]
theorem tabX_succ {p : Pl} {i k : Nat} (h : i < p.rts.length) (hk : i + 1 + k < p.rts.length) : tabX p i (k + 1) = tabX p i k ++ if (twoE p p.rts[i].id p.rts[i + 1 + k].id == 0 && twoB p p.rts[i].id p.rts[i + 1 + k].id) = true then [(p.rts[i].id, p.rts[i + 1 + k].id)] else [] := by
  unfold tabX
  rw [getD_rt h, tabIn_succ p p.rts[i] (p.rts.drop (i + 1)) k (by rw [List.length_drop]; omega), List.append_assoc]
  simp only [List.getElem_drop]
theorem tabX_at {p : Pl} {i k : Nat} (h : i < p.rts.length) (hk : i + 1 + k < p.rts.length) (hc : (twoE p p.rts[i].id p.rts[i + 1 + k].id == 0 && twoB p p.rts[i].id p.rts[i + 1 + k].id) = true) :
    ∃ hl : (tabX p i k).length < (tabPre p p.rts.length).length, (tabPre p p.rts.length)[(tabX p i k).length] = (p.rts[i].id, p.rts[i + 1 + k].id) := by
  have h1 := tabX_succ h hk
  rw [hc, if_pos rfl] at h1
  have h2 : ∃ t, tabPre p (i + 1) = tabX p i (k + 1) ++ t := by
    refine ⟨tabIn p p.rts[i] ((p.rts.drop (i + 1)).drop (k + 1)), ?_⟩
    rw [tabPre_succ p i h]
    unfold tabX
    rw [getD_rt h, List.append_assoc, ← tabIn_app, List.take_append_drop]
  obtain ⟨t, ht⟩ := h2
  obtain ⟨t', ht'⟩ := tabPre_pre p (i + 1) p.rts.length (by omega) (Nat.le_refl _)
  have e : tabPre p p.rts.length = tabX p i k ++ ((p.rts[i].id, p.rts[i + 1 + k].id) :: (t ++ t')) := by
    rw [ht', ht, h1]; simp [List.append_assoc]
  have hl : (tabX p i k).length < (tabPre p p.rts.length).length := by rw [e]; simp
  refine ⟨hl, ?_⟩
  simp only [e]
  rw [List.getElem_append_right (Nat.le_refl _)]
  simp
theorem c_lawCBoth (p : Pl) : ACall Try.prog 8 [plA p] [] (bool true) [] := by
  have cg := c_rgreat p
  simp only [plA, plC] at cg
  cases hG : greatP p with
  | true =>
    rw [hG] at cg
    refine acall_of 1 Try.func8 rfl fun n out _ _ => ?_
    simp only [Try.ntmps8, List.length_cons, List.length_nil, List.length_map, List.length_replicate, rep_map, Nat.reduceAdd, Nat.reduceSub, List.replicate, List.cons_append, List.nil_append]
    repeat' (first | (with_reducible first | refine awp_seq_k fun K hK => ?_ | refine awp_ev tab_ok [] ?_ | refine awp_block_s ?_ | refine awp_block_c ?_ | refine awp_block_r ?_ | refine awp_skip ?_ | apply And.intro) | (with_reducible refine awp_ev_quiet tab_ok follows (by kernel_rfl) ?_) | ((with_reducible first | refine gE ?_ | refine gR ?_); simp (maxSteps := 4000000) only [su, evLit, hbT, tab, thenA, blockA, reduceCtorEq, reduceIte, Nat.reduceEqDiff, Nat.reduceBEq, Int.reduceLE, Int.reduceToNat, Nat.reduceAdd, Nat.reduceLT, Nat.reduceLeDiff, plA, plC]) | (show (_ : Nat) = (_ : Nat); rfl) | ((with_reducible refine awp_ret ?_); (try refine Or.inr ⟨(by intro h; cases h), ?_⟩); refine ret_tmp (.inr rfl) rfl rfl rfl (fun _ _ => rfl) ?_ <;> first | rfl | skip) | (refine call_pure (cg) ?_) | (refine call_pure (c_calive) ?_) | ((with_reducible refine gsel_case (fun hg => ?_) (fun hg => ?_)) <;> (try simp only [nb] at hg) <;> simp (maxSteps := 4000000) only [su, evLit, hbT, tab, thenA, blockA, reduceCtorEq, reduceIte, Nat.reduceEqDiff, Nat.reduceBEq, Int.reduceLE, Int.reduceToNat, Nat.reduceAdd, Nat.reduceLT, Nat.reduceLeDiff, hg, plA, plC]) | ((with_reducible refine awp_exit ?_); simp only [thenA, blockA, if_true, if_false, reduceIte, Nat.reduceEqDiff]) | (refine hK _ ?_; clear hK K) | refine awp_cond_t rfl ?_ | refine awp_cond_f rfl ?_ | refine awp_if rfl (fun hg => ?_) (fun hg => ?_) | ((first | show Program.eqGuardType _ _ _ = false | show numFieldsB _ _ _ = true | show Program.stoodInHeld _ _ = false); kernel_rfl) | clear hK K)
  | false =>
    rw [hG] at cg
    have hs := small_of hG
    have c1 := c_table p hs
    have c2 := c_soundC p hs
    have hrl := hs.rts
    simp only [plA, plC] at c1 c2
    by_cases hE : soundE p = 0
    · have hTL : tabL p = tabPre p p.rts.length := by unfold tabL; rw [if_pos hE]
      have hm := (sound_zero hE).1
      have hT2 := fun (a b : Int) => c_two p hs a b
      have pair : ∀ i k (hi : i < p.rts.length) (hk : i + 1 + k < p.rts.length), ∃ C, ACall Try.prog 23 [plA p, i64 p.rts[i].id, i64 p.rts[i + 1 + k].id] [] (.tup [bool C, i64 0]) [] ∧
          ACall Try.prog 23 [plA p, i64 p.rts[i + 1 + k].id, i64 p.rts[i].id] [] (.tup [bool C, i64 0]) [] ∧ (C = false → (p.rts[i].entry == p.rts[i + 1 + k].entry) = false) ∧
          (C = false → (tabX p i (k + 1)) = tabX p i k) ∧ (C = true → (tabX p i (k + 1)).length = (tabX p i k).length + 1 ∧ ∃ hl : (tabX p i k).length < (tabPre p p.rts.length).length, (tabPre p p.rts.length)[(tabX p i k).length] = (p.rts[i].id, p.rts[i + 1 + k].id)) := fun i k hi hk => by
        have hlt := rts_rise hm (i + 1 + k) hk i (by omega)
        have m1 := List.getElem_mem hi
        have m2 := List.getElem_mem hk
        obtain ⟨x1, x2⟩ := two_of hE m1 m2 (by omega)
        obtain ⟨y1, y2⟩ := two_of hE m2 m1 (by omega)
        have h1 := hT2 p.rts[i].id p.rts[i + 1 + k].id
        have h2 := hT2 p.rts[i + 1 + k].id p.rts[i].id
        rw [confW_symm] at y2
        have h3 := tabX_succ hi hk
        have h4 := tabX_at hi hk
        rw [x1, x2] at h1 h3 h4
        rw [y1, y2] at h2
        refine ⟨_, h1, h2, fun hC => ?_, fun hC => ?_, fun hC => ?_⟩
        · rw [Bool.eq_false_iff]
          intro he
          rw [two_entry hE m1 m2 (by simpa using he)] at hC
          cases hC
        · rw [h3, hC]; simp
        · rw [hC] at h3 h4
          refine ⟨by rw [h3]; simp, h4 rfl⟩
      have hX0 := tabX_zero p
      have hXe := fun i (hi : i < p.rts.length) => tabX_end hi
      have hPl := tabPre_len p
      have hP0 : tabPre p 0 = [] := rfl
      rw [hTL, hE] at c1
      clear hT2 hE hTL
      have hTn : (tabPre p p.rts.length).length ≤ 1600 := Nat.le_trans (hPl _ (Nat.le_refl _)) (Nat.le_trans (Nat.mul_le_mul hrl hrl) (by decide))
      obtain ⟨TL, hTL⟩ : ∃ TL, TL = tabPre p p.rts.length := ⟨_, rfl⟩
      rw [← hTL] at c1 hTn
      simp only [← hTL, plA, plC] at pair
      refine acall_of 1 Try.func8 rfl fun n out _ _ => ?_
      simp only [Try.ntmps8, List.length_cons, List.length_nil, List.length_map, List.length_replicate, rep_map, Nat.reduceAdd, Nat.reduceSub, List.replicate, List.cons_append, List.nil_append]
      repeat' (first | (with_reducible first | refine awp_seq_k fun K hK => ?_ | refine awp_ev tab_ok [] ?_ | refine awp_block_s ?_ | refine awp_block_c ?_ | refine awp_block_r ?_ | refine awp_skip ?_ | apply And.intro) | (with_reducible refine awp_ev_quiet tab_ok follows (by kernel_rfl) ?_) | ((with_reducible first | refine gE ?_ | refine gR ?_); simp (maxSteps := 4000000) only [su, evLit, hbT, tab, thenA, blockA, reduceCtorEq, reduceIte, Nat.reduceEqDiff, Nat.reduceBEq, Int.reduceLE, Int.reduceToNat, Nat.reduceAdd, Nat.reduceLT, Nat.reduceLeDiff, plA, plC, List.length_map, Int.reduceBNe]) | (show (_ : Nat) = (_ : Nat); rfl) | ((with_reducible refine awp_ret ?_); (try refine Or.inr ⟨(by intro h; cases h), ?_⟩); refine ret_tmp (.inr rfl) rfl rfl rfl (fun _ _ => rfl) ?_ <;> first | rfl | skip) | (refine call_pure (cg) ?_) | (refine call_pure (c_calive) ?_) | (refine call_pure (c1) ?_) | ((with_reducible refine gsel_case (fun hg => ?_) (fun hg => ?_)) <;> (try simp only [nb] at hg) <;> simp (maxSteps := 4000000) only [su, evLit, hbT, tab, thenA, blockA, reduceCtorEq, reduceIte, Nat.reduceEqDiff, Nat.reduceBEq, Int.reduceLE, Int.reduceToNat, Nat.reduceAdd, Nat.reduceLT, Nat.reduceLeDiff, hg, plA, plC, List.length_map, Int.reduceBNe]) | ((with_reducible refine awp_exit ?_); simp only [thenA, blockA, if_true, if_false, reduceIte, Nat.reduceEqDiff]) | (refine hK _ ?_; clear hK K) | refine awp_cond_t rfl ?_ | refine awp_cond_f rfl ?_ | refine awp_if rfl (fun hg => ?_) (fun hg => ?_) | ((first | show Program.eqGuardType _ _ _ = false | show numFieldsB _ _ _ = true | show Program.stoodInHeld _ _ = false); kernel_rfl) | clear hK K)
      refine awp_block ?_
      refine awp_for_mv (fun m (i : Nat) => [(7, i64 (i : Int)), (6, i64 ((tabPre p i).length : Int)), (1, .ptr (m + 0) 0), (2, .top), (8, .top), (9, .top), (10, .top), (11, .top), (12, .top), (13, .top), (14, .top), (39, .top), (40, .top), (41, .top), (42, .top), (43, .top), (44, .top), (45, .top), (46, .top), (47, .top), (48, .top), (49, .top), (50, .top), (51, .top), (52, .top), (53, .top), (54, .top), (55, .top), (56, .top), (57, .top), (58, .top), (59, .top), (60, .top), (61, .top), (62, .top), (63, .top), (64, .top), (65, .top), (66, .top), (67, .top), (68, .top), (69, .top), (70, .top), (71, .top), (72, .top), (73, .top), (74, .top), (75, .top), (76, .top), (77, .top), (78, .top), (79, .top), (80, .top), (81, .top), (82, .top), (83, .top), (84, .top), (85, .top), (86, .top), (87, .top), (88, .top), (89, .top), (90, .top), (91, .top), (92, .top), (93, .top), (94, .top), (95, .top), (96, .top), (97, .top), (98, .top), (99, .top), (100, .top), (101, .top), (102, .top), (103, .top), (104, .top), (105, .top), (106, .top), (107, .top), (108, .top), (109, .top), (110, .top), (111, .top), (112, .top), (113, .top), (114, .top), (115, .top), (116, .top), (117, .top), (118, .top), (119, .top), (120, .top), (121, .top), (122, .top), (123, .top), (124, .top), (125, .top), (126, .top), (127, .top), (128, .top)]) (fun m i => [some (.box 27 (plC p))]) (fun i => out) (fun i => i ≤ p.rts.length) (fun i => p.rts.length - i) 0 (Nat.zero_le _) ?_ fun m i hm hi => ?_
      · refine le_of_all ?_ ?_ (by first | rfl | (simp only [plC, hP0, List.length_nil]; rfl) | simp only [plC, hP0, List.length_nil]) rfl rfl rfl <;> simp only [patch, sl, plC, hP0, List.length_nil]
      simp only [patch, s_0, s_s]
      have hw := addw (n := i) 1 1 rfl (by omega)
      by_cases hlt : i < p.rts.length
      · have gi := getD_map rtC p.rts i [] hlt
        have hXi := hXe i hlt
        have hX0i := hX0 i
        have hpair := fun k hk => pair i k hlt hk
        clear pair hPl hXe hX0
        have hlti := hlt
        repeat' (first | (with_reducible first | refine awp_seq_k fun K hK => ?_ | refine awp_ev tab_ok [] ?_ | refine awp_block_s ?_ | refine awp_block_c ?_ | refine awp_block_r ?_ | refine awp_skip ?_ | apply And.intro) | (with_reducible refine awp_ev_quiet tab_ok follows (by kernel_rfl) ?_) | ((with_reducible first | refine gE ?_ | refine gR ?_); simp (maxSteps := 4000000) only [su, evLit, hbT, tab, thenA, blockA, reduceCtorEq, reduceIte, Nat.reduceEqDiff, Nat.reduceBEq, Int.reduceLE, Int.reduceToNat, Nat.reduceAdd, Nat.reduceLT, Nat.reduceLeDiff, locM hm, plC, List.length_map, hlt, splice_all, hw]) | (show (_ : Nat) = (_ : Nat); rfl) | ((with_reducible refine awp_ret ?_); (try refine Or.inr ⟨(by intro h; cases h), ?_⟩); refine ret_tmp (.inr rfl) rfl rfl rfl (fun _ _ => rfl) ?_ <;> first | rfl | skip) | ((with_reducible refine gsel_case (fun hg => ?_) (fun hg => ?_)) <;> (try simp only [nb] at hg) <;> simp (maxSteps := 4000000) only [su, evLit, hbT, tab, thenA, blockA, reduceCtorEq, reduceIte, Nat.reduceEqDiff, Nat.reduceBEq, Int.reduceLE, Int.reduceToNat, Nat.reduceAdd, Nat.reduceLT, Nat.reduceLeDiff, hg, locM hm, plC, List.length_map, hlt, splice_all, hw]) | ((with_reducible refine awp_exit ?_); simp only [thenA, blockA, if_true, if_false, reduceIte, Nat.reduceEqDiff]) | (refine hK _ ?_; clear hK K) | refine awp_cond_t rfl ?_ | refine awp_cond_f rfl ?_ | refine awp_if rfl (fun hg => ?_) (fun hg => ?_) | ((first | show Program.eqGuardType _ _ _ = false | show numFieldsB _ _ _ = true | show Program.stoodInHeld _ _ = false); kernel_rfl) | clear hK K)
        obtain ⟨NL, hNL⟩ : ∃ NL, NL = p.rts.length - (i + 1) := ⟨_, rfl⟩
        refine awp_block ?_
        refine awp_for_mv (fun m (k : Nat) => [(8, i64 ((i + 1 + k : Nat) : Int)), (6, i64 ((tabX p i k).length : Int)), (1, .ptr (m + 0) 0), (2, .top), (9, .top), (10, .top), (11, .top), (12, .top), (13, .top), (14, .top), (48, .top), (49, .top), (50, .top), (51, .top), (52, .top), (53, .top), (54, .top), (55, .top), (56, .top), (57, .top), (58, .top), (59, .top), (60, .top), (61, .top), (62, .top), (63, .top), (64, .top), (65, .top), (66, .top), (67, .top), (68, .top), (69, .top), (70, .top), (71, .top), (72, .top), (73, .top), (74, .top), (75, .top), (76, .top), (77, .top), (78, .top), (79, .top), (80, .top), (81, .top), (82, .top), (83, .top), (84, .top), (85, .top), (86, .top), (87, .top), (88, .top), (89, .top), (90, .top), (91, .top), (92, .top), (93, .top), (94, .top), (95, .top), (96, .top), (97, .top), (98, .top), (99, .top), (100, .top), (101, .top), (102, .top), (103, .top), (104, .top), (105, .top), (106, .top), (107, .top), (108, .top), (109, .top), (110, .top), (111, .top), (112, .top), (113, .top), (114, .top), (115, .top), (116, .top), (117, .top), (118, .top), (119, .top), (120, .top), (121, .top), (122, .top), (123, .top), (124, .top), (125, .top), (126, .top), (127, .top), (128, .top)]) (fun m k => [some (.box 27 (plC p))]) (fun k => out) (fun k => k ≤ NL) (fun k => NL - k) 0 (Nat.zero_le _) ?_ fun m k hm hk => ?_
        · refine le_of_all ?_ ?_ (by first | rfl | (simp only [plC, hX0i, Nat.add_zero]; rfl) | simp only [plC, hX0i, Nat.add_zero]) rfl rfl rfl <;> simp only [patch, sl, plC, hX0i, Nat.add_zero]
        simp only [patch, s_0, s_s]
        have hw2 := addw (n := i + 1 + k) 1 1 rfl (by omega)
        by_cases hlt : k < NL
        · have hk2 : i + 1 + k < p.rts.length := by omega
          have gk := getD_map rtC p.rts (i + 1 + k) [] hk2
          obtain ⟨C, h1, h2, h3, h4, h5⟩ := hpair k hk2
          clear hpair
          cases C with
          | false =>
            have hne := h3 rfl
            have hX := h4 rfl
            repeat' (first | (with_reducible first | refine awp_seq_k fun K hK => ?_ | refine awp_ev tab_ok [] ?_ | refine awp_block_s ?_ | refine awp_block_c ?_ | refine awp_block_r ?_ | refine awp_skip ?_ | apply And.intro) | (with_reducible refine awp_ev_quiet tab_ok follows (by kernel_rfl) ?_) | ((with_reducible first | refine gE ?_ | refine gR ?_); simp (maxSteps := 4000000) only [su, evLit, hbT, tab, thenA, blockA, reduceCtorEq, reduceIte, Nat.reduceEqDiff, Nat.reduceBEq, Int.reduceLE, Int.reduceToNat, Nat.reduceAdd, Nat.reduceLT, Nat.reduceLeDiff, locM hm, plC, rtC, List.length_map, hlti, hk2, gi, gk, splice_all, Int.reduceBNe, bne_self_eq_false, hne, hw2]) | (show (_ : Nat) = (_ : Nat); rfl) | ((with_reducible refine awp_ret ?_); (try refine Or.inr ⟨(by intro h; cases h), ?_⟩); refine ret_tmp (.inr rfl) rfl rfl rfl (fun _ _ => rfl) ?_ <;> first | rfl | skip) | (refine call_pure (h1) ?_) | (refine call_pure (h2) ?_) | ((with_reducible refine gsel_case (fun hg => ?_) (fun hg => ?_)) <;> (try simp only [nb] at hg) <;> simp (maxSteps := 4000000) only [su, evLit, hbT, tab, thenA, blockA, reduceCtorEq, reduceIte, Nat.reduceEqDiff, Nat.reduceBEq, Int.reduceLE, Int.reduceToNat, Nat.reduceAdd, Nat.reduceLT, Nat.reduceLeDiff, hg, locM hm, plC, rtC, List.length_map, hlti, hk2, gi, gk, splice_all, Int.reduceBNe, bne_self_eq_false, hne, hw2]) | ((with_reducible refine awp_exit ?_); simp only [thenA, blockA, if_true, if_false, reduceIte, Nat.reduceEqDiff]) | (refine hK _ ?_; clear hK K) | refine awp_cond_t rfl ?_ | refine awp_cond_f rfl ?_ | refine awp_if rfl (fun hg => ?_) (fun hg => ?_) | ((first | show Program.eqGuardType _ _ _ = false | show numFieldsB _ _ _ = true | show Program.stoodInHeld _ _ = false); kernel_rfl) | clear hK K)
            refine ⟨k + 1, by omega, by omega, ?_⟩
            rw [hX, show i + 1 + (k + 1) = i + 1 + k + 1 from rfl]
            refine le_move [true] (fun n_ => ?_) (fun n_ => ?_) <;> simp only [patch, sm, plC, hk2, decide_true]
          | true =>
            obtain ⟨h6, hl, h7⟩ := h5 rfl
            have g7 := getD_map jnC TL _ [] hl
            rw [h7] at g7
            have hn1 := addw (n := (tabX p i k).length) 1 1 rfl (by omega)
            have hge : decide (((tabX p i k).length : Int) ≥ (TL.length : Int)) = false := decide_eq_false (by omega)
            cases hB : (p.rts[i].entry == p.rts[i + 1 + k].entry)
            · repeat' (first | (with_reducible first | refine awp_seq_k fun K hK => ?_ | refine awp_ev tab_ok [] ?_ | refine awp_block_s ?_ | refine awp_block_c ?_ | refine awp_block_r ?_ | refine awp_skip ?_ | apply And.intro) | (with_reducible refine awp_ev_quiet tab_ok follows (by kernel_rfl) ?_) | ((with_reducible first | refine gE ?_ | refine gR ?_); simp (maxSteps := 4000000) only [su, evLit, hbT, tab, thenA, blockA, reduceCtorEq, reduceIte, Nat.reduceEqDiff, Nat.reduceBEq, Int.reduceLE, Int.reduceToNat, Nat.reduceAdd, Nat.reduceLT, Nat.reduceLeDiff, locM hm, plC, rtC, jnC, List.length_map, hlti, hk2, gi, gk, hl, g7, splice_all, Int.reduceBNe, bne_self_eq_false, hB, hge, hn1, hw2, evEq_ii, af_ii, Bool.and_self, Bool.not_true]) | (show (_ : Nat) = (_ : Nat); rfl) | ((with_reducible refine awp_ret ?_); (try refine Or.inr ⟨(by intro h; cases h), ?_⟩); refine ret_tmp (.inr rfl) rfl rfl rfl (fun _ _ => rfl) ?_ <;> first | rfl | skip) | (refine call_pure (h1) ?_) | (refine call_pure (h2) ?_) | ((with_reducible refine gsel_case (fun hg => ?_) (fun hg => ?_)) <;> (try simp only [nb] at hg) <;> simp (maxSteps := 4000000) only [su, evLit, hbT, tab, thenA, blockA, reduceCtorEq, reduceIte, Nat.reduceEqDiff, Nat.reduceBEq, Int.reduceLE, Int.reduceToNat, Nat.reduceAdd, Nat.reduceLT, Nat.reduceLeDiff, hg, locM hm, plC, rtC, jnC, List.length_map, hlti, hk2, gi, gk, hl, g7, splice_all, Int.reduceBNe, bne_self_eq_false, hB, hge, hn1, hw2, evEq_ii, af_ii, Bool.and_self, Bool.not_true]) | ((with_reducible refine awp_exit ?_); simp only [thenA, blockA, if_true, if_false, reduceIte, Nat.reduceEqDiff]) | (refine hK _ ?_; clear hK K) | refine awp_cond_t rfl ?_ | refine awp_cond_f rfl ?_ | refine awp_if rfl (fun hg => ?_) (fun hg => ?_) | ((first | show Program.eqGuardType _ _ _ = false | show numFieldsB _ _ _ = true | show Program.stoodInHeld _ _ = false); kernel_rfl) | clear hK K)
              refine ⟨k + 1, by omega, by omega, ?_⟩
              rw [h6, show i + 1 + (k + 1) = i + 1 + k + 1 from rfl]
              refine le_move [true] (fun n_ => ?_) (fun n_ => ?_) <;> simp only [patch, sm, plC, hk2, decide_true]
            · repeat' (first | (with_reducible first | refine awp_seq_k fun K hK => ?_ | refine awp_ev tab_ok [] ?_ | refine awp_block_s ?_ | refine awp_block_c ?_ | refine awp_block_r ?_ | refine awp_skip ?_ | apply And.intro) | (with_reducible refine awp_ev_quiet tab_ok follows (by kernel_rfl) ?_) | ((with_reducible first | refine gE ?_ | refine gR ?_); simp (maxSteps := 4000000) only [su, evLit, hbT, tab, thenA, blockA, reduceCtorEq, reduceIte, Nat.reduceEqDiff, Nat.reduceBEq, Int.reduceLE, Int.reduceToNat, Nat.reduceAdd, Nat.reduceLT, Nat.reduceLeDiff, locM hm, plC, rtC, jnC, List.length_map, hlti, hk2, gi, gk, hl, g7, splice_all, Int.reduceBNe, bne_self_eq_false, hB, hge, hn1, hw2, evEq_ii, af_ii, Bool.and_self, Bool.not_true]) | (show (_ : Nat) = (_ : Nat); rfl) | ((with_reducible refine awp_ret ?_); (try refine Or.inr ⟨(by intro h; cases h), ?_⟩); refine ret_tmp (.inr rfl) rfl rfl rfl (fun _ _ => rfl) ?_ <;> first | rfl | skip) | (refine call_pure (h1) ?_) | (refine call_pure (h2) ?_) | ((with_reducible refine gsel_case (fun hg => ?_) (fun hg => ?_)) <;> (try simp only [nb] at hg) <;> simp (maxSteps := 4000000) only [su, evLit, hbT, tab, thenA, blockA, reduceCtorEq, reduceIte, Nat.reduceEqDiff, Nat.reduceBEq, Int.reduceLE, Int.reduceToNat, Nat.reduceAdd, Nat.reduceLT, Nat.reduceLeDiff, hg, locM hm, plC, rtC, jnC, List.length_map, hlti, hk2, gi, gk, hl, g7, splice_all, Int.reduceBNe, bne_self_eq_false, hB, hge, hn1, hw2, evEq_ii, af_ii, Bool.and_self, Bool.not_true]) | ((with_reducible refine awp_exit ?_); simp only [thenA, blockA, if_true, if_false, reduceIte, Nat.reduceEqDiff]) | (refine hK _ ?_; clear hK K) | refine awp_cond_t rfl ?_ | refine awp_cond_f rfl ?_ | refine awp_if rfl (fun hg => ?_) (fun hg => ?_) | ((first | show Program.eqGuardType _ _ _ = false | show numFieldsB _ _ _ = true | show Program.stoodInHeld _ _ = false); kernel_rfl) | clear hK K)
              refine ⟨k + 1, by omega, by omega, ?_⟩
              rw [h6, show i + 1 + (k + 1) = i + 1 + k + 1 from rfl]
              refine le_move [true] (fun n_ => ?_) (fun n_ => ?_) <;> simp only [patch, sm, plC, hk2, decide_true]
        · obtain rfl : k = NL := by omega
          have hXf : tabX p i k = tabPre p (i + 1) := by rw [← hXi, hNL]
          have hk3 : ¬ i + 1 + k < p.rts.length := by omega
          repeat' (first | (with_reducible first | refine awp_seq_k fun K hK => ?_ | refine awp_ev tab_ok [] ?_ | refine awp_block_s ?_ | refine awp_block_c ?_ | refine awp_block_r ?_ | refine awp_skip ?_ | apply And.intro) | (with_reducible refine awp_ev_quiet tab_ok follows (by kernel_rfl) ?_) | ((with_reducible first | refine gE ?_ | refine gR ?_); simp (maxSteps := 4000000) only [su, evLit, hbT, tab, thenA, blockA, reduceCtorEq, reduceIte, Nat.reduceEqDiff, Nat.reduceBEq, Int.reduceLE, Int.reduceToNat, Nat.reduceAdd, Nat.reduceLT, Nat.reduceLeDiff, locM hm, plC, splice_all, List.length_map, hk3, hw]) | (show (_ : Nat) = (_ : Nat); rfl) | ((with_reducible refine awp_ret ?_); (try refine Or.inr ⟨(by intro h; cases h), ?_⟩); refine ret_tmp (.inr rfl) rfl rfl rfl (fun _ _ => rfl) ?_ <;> first | rfl | skip) | ((with_reducible refine gsel_case (fun hg => ?_) (fun hg => ?_)) <;> (try simp only [nb] at hg) <;> simp (maxSteps := 4000000) only [su, evLit, hbT, tab, thenA, blockA, reduceCtorEq, reduceIte, Nat.reduceEqDiff, Nat.reduceBEq, Int.reduceLE, Int.reduceToNat, Nat.reduceAdd, Nat.reduceLT, Nat.reduceLeDiff, hg, locM hm, plC, splice_all, List.length_map, hk3, hw]) | ((with_reducible refine awp_exit ?_); simp only [thenA, blockA, if_true, if_false, reduceIte, Nat.reduceEqDiff]) | (refine hK _ ?_; clear hK K) | refine awp_cond_t rfl ?_ | refine awp_cond_f rfl ?_ | refine awp_if rfl (fun hg => ?_) (fun hg => ?_) | ((first | show Program.eqGuardType _ _ _ = false | show numFieldsB _ _ _ = true | show Program.stoodInHeld _ _ = false); kernel_rfl) | clear hK K)
          refine ⟨i + 1, by omega, by omega, ?_⟩
          rw [hXf]
          refine le_move [true] (fun n_ => ?_) (fun n_ => ?_) <;> simp only [patch, sm, plC, hlti, decide_true]
      · obtain rfl : i = p.rts.length := by omega
        repeat' (first | (with_reducible first | refine awp_seq_k fun K hK => ?_ | refine awp_ev tab_ok [] ?_ | refine awp_block_s ?_ | refine awp_block_c ?_ | refine awp_block_r ?_ | refine awp_skip ?_ | apply And.intro) | (with_reducible refine awp_ev_quiet tab_ok follows (by kernel_rfl) ?_) | ((with_reducible first | refine gE ?_ | refine gR ?_); simp (maxSteps := 4000000) only [su, evLit, hbT, tab, thenA, blockA, reduceCtorEq, reduceIte, Nat.reduceEqDiff, Nat.reduceBEq, Int.reduceLE, Int.reduceToNat, Nat.reduceAdd, Nat.reduceLT, Nat.reduceLeDiff, locM hm, plC, List.length_map, hlt, splice_all, ← hTL]) | (show (_ : Nat) = (_ : Nat); rfl) | ((with_reducible refine awp_ret ?_); (try refine Or.inr ⟨(by intro h; cases h), ?_⟩); refine ret_tmp (.inr rfl) rfl rfl rfl (fun _ _ => rfl) ?_ <;> first | rfl | skip) | ((with_reducible refine gsel_case (fun hg => ?_) (fun hg => ?_)) <;> (try simp only [nb] at hg) <;> simp (maxSteps := 4000000) only [su, evLit, hbT, tab, thenA, blockA, reduceCtorEq, reduceIte, Nat.reduceEqDiff, Nat.reduceBEq, Int.reduceLE, Int.reduceToNat, Nat.reduceAdd, Nat.reduceLT, Nat.reduceLeDiff, hg, locM hm, plC, List.length_map, hlt, splice_all, ← hTL]) | ((with_reducible refine awp_exit ?_); simp only [thenA, blockA, if_true, if_false, reduceIte, Nat.reduceEqDiff]) | (refine hK _ ?_; clear hK K) | refine awp_cond_t rfl ?_ | refine awp_cond_f rfl ?_ | refine awp_if rfl (fun hg => ?_) (fun hg => ?_) | ((first | show Program.eqGuardType _ _ _ = false | show numFieldsB _ _ _ = true | show Program.stoodInHeld _ _ = false); kernel_rfl) | clear hK K)
    · have e1 : tabL p = [] := by unfold tabL; rw [if_neg hE]
      have hE' : (soundE p != 0) = true := by simpa using hE
      rw [e1] at c1
      refine acall_of 1 Try.func8 rfl fun n out _ _ => ?_
      simp only [Try.ntmps8, List.length_cons, List.length_nil, List.length_map, List.length_replicate, rep_map, Nat.reduceAdd, Nat.reduceSub, List.replicate, List.cons_append, List.nil_append]
      repeat' (first | (with_reducible first | refine awp_seq_k fun K hK => ?_ | refine awp_ev tab_ok [] ?_ | refine awp_block_s ?_ | refine awp_block_c ?_ | refine awp_block_r ?_ | refine awp_skip ?_ | apply And.intro) | (with_reducible refine awp_ev_quiet tab_ok follows (by kernel_rfl) ?_) | ((with_reducible first | refine gE ?_ | refine gR ?_); simp (maxSteps := 4000000) only [su, evLit, hbT, tab, thenA, blockA, reduceCtorEq, reduceIte, Nat.reduceEqDiff, Nat.reduceBEq, Int.reduceLE, Int.reduceToNat, Nat.reduceAdd, Nat.reduceLT, Nat.reduceLeDiff, plA, plC, hE', List.map_nil, List.length_nil, beq_self_eq_true]) | (show (_ : Nat) = (_ : Nat); rfl) | ((with_reducible refine awp_ret ?_); (try refine Or.inr ⟨(by intro h; cases h), ?_⟩); refine ret_tmp (.inr rfl) rfl rfl rfl (fun _ _ => rfl) ?_ <;> first | rfl | skip) | (refine call_pure (cg) ?_) | (refine call_pure (c_calive) ?_) | (refine call_pure (c1) ?_) | (refine call_pure (c2) ?_) | ((with_reducible refine gsel_case (fun hg => ?_) (fun hg => ?_)) <;> (try simp only [nb] at hg) <;> simp (maxSteps := 4000000) only [su, evLit, hbT, tab, thenA, blockA, reduceCtorEq, reduceIte, Nat.reduceEqDiff, Nat.reduceBEq, Int.reduceLE, Int.reduceToNat, Nat.reduceAdd, Nat.reduceLT, Nat.reduceLeDiff, hg, plA, plC, hE', List.map_nil, List.length_nil, beq_self_eq_true]) | ((with_reducible refine awp_exit ?_); simp only [thenA, blockA, if_true, if_false, reduceIte, Nat.reduceEqDiff]) | (refine hK _ ?_; clear hK K) | refine awp_cond_t rfl ?_ | refine awp_cond_f rfl ?_ | refine awp_if rfl (fun hg => ?_) (fun hg => ?_) | ((first | show Program.eqGuardType _ _ _ = false | show numFieldsB _ _ _ = true | show Program.stoodInHeld _ _ = false); kernel_rfl) | clear hK K)
end Go.Proofs.Ytcfkieacdjcaoaa.Pln
