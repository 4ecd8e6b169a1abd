/-
  The law SlotNext.
-/
import Derived.Test.YtefkjdkalgemeaaZGA
import Derived.Test.YtefkjdkalgemeaaZE12
namespace Go.Proofs.Ytefkjdkalgemeaa
set_option linter.unusedVariables false
set_option linter.unusedSimpArgs false
open Go Go.VS Tab
set_option maxHeartbeats 32000000
set_option maxRecDepth 8000
theorem subW {a b : BitVec 32} (h : a.toNat ≤ b.toNat) : IntKind.u32.wrap ((b.toNat : Int) - (a.toNat : Int)) = ((b.toNat - a.toNat : Nat) : Int) := by
  have := b.isLt
  rw [wrap_u32 (by omega) (by omega)]; omega
theorem put_small' {d : Dsk} (r : Rc) : (putD d r).sectors.length ≤ 1000 ∧ (putD d r).waits.length ≤ 1000 := by
  by_cases h : putE d r = 0
  · have hm := (may_iff _).1 (may_put h)
    exact ⟨by have := hm.1; omega, by have := hm.2.1; omega⟩
  · unfold putD
    rw [if_neg h]
    exact ⟨by decide, by decide⟩
theorem c_lawNext (d : Dsk) (g : BitVec 32) (tx : List UInt8) (hd : DOk d) : ACall Try.prog 16 [dskA d, w32 g, bs tx] [] (bool true) [] := by
  have cg := c_great' d hd
  simp only [dskA, dskC] at cg
  by_cases g1 : great d = true
  · rw [g1] at cg
    refine acall_of 2 Try.func16 rfl fun n out _ _ => ?_
    simp only [Try.ntmps16, List.length_cons, List.length_nil, List.length_map, List.length_replicate, rep_map, Nat.reduceAdd, Nat.reduceSub, List.replicate, List.cons_append, List.nil_append]
    repeat' (first | (with_reducible first | refine awp_seq_k fun K hK => ?_ | refine awp_ev tab_ok [] ?_ | refine awp_block_s ?_ | refine awp_block_c ?_ | refine awp_block_r ?_ | refine awp_skip ?_ | apply And.intro | refine awp_ev_quiet tab_ok follows (by kernel_rfl) ?_) | ((with_reducible first | refine gE ?_ | refine gR ?_); simp (maxSteps := 4000000) only [su, evLit, hbT, tab, thenA, blockA, reduceCtorEq, reduceIte, Nat.reduceEqDiff, Nat.reduceBEq, Int.reduceLE, Int.reduceToNat, Nat.reduceAdd, Nat.reduceLT, Nat.reduceLeDiff, dskA, dskC]) | (show (_ : Nat) = (_ : Nat); rfl) | ((with_reducible refine awp_ret ?_); refine ret_tmp (.inr rfl) rfl rfl rfl (fun _ _ => rfl) ?_ <;> first | rfl | skip) | (refine call_pure (cg) ?_) | (refine call_pure (c_alive06) ?_) | ((with_reducible refine gsel_case (fun hg => ?_) (fun hg => ?_)) <;> (try simp only [nb] at hg) <;> simp (maxSteps := 4000000) only [su, evLit, hbT, tab, thenA, blockA, reduceCtorEq, reduceIte, Nat.reduceEqDiff, Nat.reduceBEq, Int.reduceLE, Int.reduceToNat, Nat.reduceAdd, Nat.reduceLT, Nat.reduceLeDiff, hg, dskA, dskC]) | ((with_reducible refine awp_exit ?_); simp only [thenA, blockA, if_true, if_false, reduceIte, Nat.reduceEqDiff]) | (refine hK _ ?_; clear hK K) | refine awp_cond_t rfl ?_ | refine awp_cond_f rfl ?_ | refine awp_if rfl (fun hg => ?_) (fun hg => ?_) | clear hK K)
  have g1 : great d = false := by simpa using g1
  rw [g1] at cg
  obtain ⟨hsm, hsw⟩ := small_of g1
  by_cases hr : 10000 < tx.length
  · have hrI : decide ((tx.length : Int) > 10000) = true := decide_eq_true (by omega)
    refine acall_of 2 Try.func16 rfl fun n out _ _ => ?_
    simp only [Try.ntmps16, List.length_cons, List.length_nil, List.length_map, List.length_replicate, rep_map, Nat.reduceAdd, Nat.reduceSub, List.replicate, List.cons_append, List.nil_append]
    repeat' (first | (with_reducible first | refine awp_seq_k fun K hK => ?_ | refine awp_ev tab_ok [] ?_ | refine awp_block_s ?_ | refine awp_block_c ?_ | refine awp_block_r ?_ | refine awp_skip ?_ | apply And.intro | refine awp_ev_quiet tab_ok follows (by kernel_rfl) ?_) | ((with_reducible first | refine gE ?_ | refine gR ?_); simp (maxSteps := 4000000) only [su, evLit, hbT, tab, thenA, blockA, reduceCtorEq, reduceIte, Nat.reduceEqDiff, Nat.reduceBEq, Int.reduceLE, Int.reduceToNat, Nat.reduceAdd, Nat.reduceLT, Nat.reduceLeDiff, dskA, dskC, bytes_length, hrI]) | (show (_ : Nat) = (_ : Nat); rfl) | ((with_reducible refine awp_ret ?_); refine ret_tmp (.inr rfl) rfl rfl rfl (fun _ _ => rfl) ?_ <;> first | rfl | skip) | (refine call_pure (cg) ?_) | (refine call_pure (c_alive06) ?_) | ((with_reducible refine gsel_case (fun hg => ?_) (fun hg => ?_)) <;> (try simp only [nb] at hg) <;> simp (maxSteps := 4000000) only [su, evLit, hbT, tab, thenA, blockA, reduceCtorEq, reduceIte, Nat.reduceEqDiff, Nat.reduceBEq, Int.reduceLE, Int.reduceToNat, Nat.reduceAdd, Nat.reduceLT, Nat.reduceLeDiff, hg, dskA, dskC, bytes_length, hrI]) | ((with_reducible refine awp_exit ?_); simp only [thenA, blockA, if_true, if_false, reduceIte, Nat.reduceEqDiff]) | (refine hK _ ?_; clear hK K) | refine awp_cond_t rfl ?_ | refine awp_cond_f rfl ?_ | refine awp_if rfl (fun hg => ?_) (fun hg => ?_) | clear hK K)
  have hrI : decide ((tx.length : Int) > 10000) = false := decide_eq_false (by omega)
  have c1 := c_slotNext d g hsm.s hsm.w
  have cc := c_check d hsm.s hsm.w
  by_cases hE : nextE d g = 0
  · obtain ⟨hm, hN⟩ := nextE_0.1 hE
    obtain ⟨W, hW⟩ : ∃ W, W = nextW d g := ⟨_, rfl⟩
    have hWn : W.toNat = nextN d g := by rw [hW]; exact nextW_nat hE
    have hgt : g.toNat < W.toNat := by rw [hW]; exact next_gt hE
    have hsl : slotN W = slotN (g + 1) := by rw [hW]; exact next_slot hE
    have hne : slotN W ≠ slotN g := by rw [hW]; exact next_turns hE
    rw [hE, ← hW] at c1
    have l1 : ¬ W.toNat ≤ g.toNat := by omega
    have hne' : ((slotN W : Int) == (slotN g : Int)) = false := by rw [beq_eq_false_iff_ne]; omega
    have sg := subW (a := g) (b := W) (by omega)
    have cW := c_slot W
    have cgl := c_slot g
    have hs := slot_le W
    have hhd : ∀ i, i < 16 → (headB (readB d ((slotN W + i : Nat) : Int))).toNat < W.toNat := fun i hi => by rw [hWn, hsl]; exact nextS_head d _ _ hi
    have htl : ∀ i, i < 16 → (tailB (readB d ((slotN W + i : Nat) : Int))).toNat < W.toNat := fun i hi => by rw [hWn, hsl]; exact nextS_tail d _ _ hi
    obtain ⟨p0, hp0⟩ : ∃ p0, p0 = decide (W.toNat - g.toNat < 3) := ⟨_, rfl⟩
    obtain ⟨pa, hpa⟩ : ∃ pa : Nat → Bool, pa = fun i => decide (W.toNat - (headB (readB d ((slotN W + i : Nat) : Int))).toNat < 3) := ⟨_, rfl⟩
    obtain ⟨pb, hpb⟩ : ∃ pb : Nat → Bool, pb = fun i => decide (W.toNat - (tailB (readB d ((slotN W + i : Nat) : Int))).toNat < 3) := ⟨_, rfl⟩
    obtain ⟨B, hB⟩ : ∃ B : Nat → Bool, B = fun i => p0 || (List.range i).any fun j => pa j || pb j := ⟨_, rfl⟩
    have hB0 : B 0 = p0 := by rw [hB]; simp
    have hBS : ∀ i, B (i + 1) = (B i || (pa i || pb i)) := fun i => by rw [hB]; dsimp only; rw [List.range_succ, List.any_append, Bool.or_assoc]; simp
    have hB16 : B 16 = true := by
      have hx := nextS_near d (slotN (g + 1)) (g.toNat + 1) 16
      rw [← show nextN d g = nextS d (slotN (g + 1)) (g.toNat + 1) 16 from rfl, ← hWn, ← hsl] at hx
      rw [hB]
      rw [Bool.or_eq_true, List.any_eq_true]
      rcases hx with h | ⟨i, hi, h | h⟩
      · left; rw [hp0, decide_eq_true_eq]; omega
      · right
        refine ⟨i, List.mem_range.2 hi, ?_⟩
        rw [hpa, Bool.or_eq_true, decide_eq_true_eq]
        left; omega
      · right
        refine ⟨i, List.mem_range.2 hi, ?_⟩
        rw [hpb, Bool.or_eq_true, decide_eq_true_eq]
        right; omega
    have fa : ∀ i, decide (W.toNat - (headB (readB d ((slotN W + i : Nat) : Int))).toNat < 3) = pa i := fun i => by rw [hpa]
    have fb : ∀ i, decide (W.toNat - (tailB (readB d ((slotN W + i : Nat) : Int))).toNat < 3) = pb i := fun i => by rw [hpb]
    clear hB hpa hpb
    have fp : decide (((W.toNat - g.toNat : Nat) : Int) < 3) = p0 := by
      rw [hp0]; exact decide_eq_decide.2 (by omega)
    have cp := c_slotPut d ⟨W, tx⟩ hsm.s hsm.w (by show tx.length ≤ 10000; omega)
    have cf := c_slotFind (putD d ⟨W, tx⟩) (put_small' _).1 (put_small' _).2
    have hfst := fun (h : putE d ⟨W, tx⟩ = 0) => put_some h
    have hfs2 := fun (h : putE d ⟨W, tx⟩ = 0) a l (e : findL (putD d ⟨W, tx⟩) = a :: l) => put_first h e
    have hmp := fun (h : putE d ⟨W, tx⟩ = 0) => may_put h
    obtain ⟨X, hX⟩ : ∃ X, X = putD d ⟨W, tx⟩ := ⟨_, rfl⟩
    rw [← hX] at cp cf hfst hfs2 hmp
    simp only [rcA, rcC, dskA, dskC] at c1 cp cf
    refine acall_of 2 Try.func16 rfl fun n out _ _ => ?_
    simp only [Try.ntmps16, List.length_cons, List.length_nil, List.length_map, List.length_replicate, rep_map, Nat.reduceAdd, Nat.reduceSub, List.replicate, List.cons_append, List.nil_append]
    repeat' (first | (with_reducible first | refine awp_seq_k fun K hK => ?_ | refine awp_ev tab_ok [] ?_ | refine awp_block_s ?_ | refine awp_block_c ?_ | refine awp_block_r ?_ | refine awp_skip ?_ | apply And.intro | refine awp_ev_quiet tab_ok follows (by kernel_rfl) ?_) | ((with_reducible first | refine gE ?_ | refine gR ?_); simp (maxSteps := 4000000) only [su, evLit, hbT, tab, thenA, blockA, reduceCtorEq, reduceIte, Nat.reduceEqDiff, Nat.reduceBEq, Int.reduceLE, Int.reduceToNat, Nat.reduceAdd, Nat.reduceLT, Nat.reduceLeDiff, dskA, dskC, bytes_length, hrI, Int.reduceBNe, bne_self_eq_false, Int.ofNat_le, l1, hne', sg, fp]) | (show (_ : Nat) = (_ : Nat); rfl) | ((with_reducible refine awp_ret ?_); refine ret_tmp (.inr rfl) rfl rfl rfl (fun _ _ => rfl) ?_ <;> first | rfl | skip) | (refine call_pure (cg) ?_) | (refine call_pure (c_alive06) ?_) | (refine call_pure (c1) ?_) | (refine call_pure (cW) ?_) | (refine call_pure (cgl) ?_) | ((with_reducible refine gsel_case (fun hg => ?_) (fun hg => ?_)) <;> (try simp only [nb] at hg) <;> simp (maxSteps := 4000000) only [su, evLit, hbT, tab, thenA, blockA, reduceCtorEq, reduceIte, Nat.reduceEqDiff, Nat.reduceBEq, Int.reduceLE, Int.reduceToNat, Nat.reduceAdd, Nat.reduceLT, Nat.reduceLeDiff, hg, dskA, dskC, bytes_length, hrI, Int.reduceBNe, bne_self_eq_false, Int.ofNat_le, l1, hne', sg, fp]) | ((with_reducible refine awp_exit ?_); simp only [thenA, blockA, if_true, if_false, reduceIte, Nat.reduceEqDiff]) | (refine hK _ ?_; clear hK K) | refine awp_cond_t rfl ?_ | refine awp_cond_f rfl ?_ | refine awp_if rfl (fun hg => ?_) (fun hg => ?_) | clear hK K)
    refine awp_block ?_
    refine awp_for_g (fun i : Nat => [(10, bool (B i)), (11, i64 (i : Int)), (6, .top), (12, .top), (13, .top), (14, .top), (15, .top), (70, .top), (71, .top), (72, .top), (73, .top), (74, .top), (75, .top), (76, .top), (77, .top), (78, .top), (79, .top), (80, .top), (81, .top), (82, .top), (83, .top), (84, .top), (85, .top), (86, .top), (87, .top), (88, .top), (89, .top), (90, .top), (91, .top), (92, .top), (93, .top), (94, .top), (95, .top), (96, .top), (97, .top), (98, .top), (99, .top), (100, .top), (101, .top), (102, .top), (103, .top), (104, .top), (105, .top), (106, .top), (107, .top), (108, .top), (109, .top), (110, .top), (111, .top)]) (fun i => [some (.box 25 (dskC d)), none]) (fun i => out) (fun i => i ≤ 16) (fun i => 16 - i) 0 (Nat.zero_le _) ?_ fun i hi => ?_
    · refine le_of_all ?_ ?_ (by first | rfl | (simp only [dskC, hB0]; rfl) | simp only [dskC, hB0]) rfl rfl rfl <;> simp only [patch, sl, dskC, hB0]
    simp only [patch, s_0, s_s]
    have hw := addw (n := i) 1 1 rfl (by omega)
    by_cases hlt : i < 16
    · have hlt' : (i : Int) < 16 := by omega
      have hws := addw (n := slotN W) (i : Int) i rfl (by omega)
      have cr := c_read d ((slotN W + i : Nat) : Int) hsm.s hsm.w
      rw [readE_0.2 ⟨hm, by omega, by omega⟩] at cr
      have lb := read_len hm (z := slotN W + i) (by omega)
      have ha := hhd i hlt
      have hb := htl i hlt
      have fai := fa i
      have fbi := fb i
      have hBi := hBS i
      clear hhd htl fa fb hBS
      unfold headB at ha fai
      unfold tailB at hb fbi
      generalize readB d ((slotN W + i : Nat) : Int) = Q at *
      have n1 := c_number (Q.take 4) .sh (by rw [List.length_take]; omega)
      have n2 := c_number (Q.drop 124) .sh (by rw [List.length_drop]; omega)
      have t124 : List.take (128 - 124) (List.drop 124 Q) = Q.drop 124 := List.take_of_length_le (by rw [List.length_drop]; omega)
      have s1 := subW (a := getB (Q.take 4)) (b := W) (by omega)
      have s2 := subW (a := getB (Q.drop 124)) (b := W) (by omega)
      have fai' : decide (((W.toNat - (getB (Q.take 4)).toNat : Nat) : Int) < 3) = pa i := by rw [← fai]; exact decide_eq_decide.2 (by omega)
      have fbi' : decide (((W.toNat - (getB (Q.drop 124)).toNat : Nat) : Int) < 3) = pb i := by rw [← fbi]; exact decide_eq_decide.2 (by omega)
      have g1 : ¬ W.toNat ≤ (getB (Q.take 4)).toNat := by omega
      have g2 : ¬ W.toNat ≤ (getB (Q.drop 124)).toNat := by omega
      simp only [dskA, dskC] at cr
      cases hBc : B i with
      | true =>
        repeat' (first | (with_reducible first | refine awp_seq_k fun K hK => ?_ | refine awp_ev tab_ok [] ?_ | refine awp_block_s ?_ | refine awp_block_c ?_ | refine awp_block_r ?_ | refine awp_skip ?_ | apply And.intro | refine awp_ev_draw (id := 13) tab_ok [] [[0],[],[],[],[],[],[],[],[],[],[]] [[],[],[],[],[],[],[],[],[],[],[]] follows (by kernel_rfl) (by decide) (by decide) (by kernel_rfl) ?_ | refine awp_ev_quiet tab_ok follows (by kernel_rfl) ?_) | ((with_reducible first | refine gE ?_ | refine gR ?_ | refine gD ?_ | refine gF ?_); simp (maxSteps := 4000000) only [su, evLit, hbT, tab, thenA, blockA, reduceCtorEq, reduceIte, Nat.reduceEqDiff, Nat.reduceBEq, Int.reduceLE, Int.reduceToNat, Nat.reduceAdd, Nat.reduceLT, Nat.reduceLeDiff, dskC, hlt', hws, bytes_length, lb, loOf, hiOf, bytes_take, bytes_drop, Nat.sub_zero, Int.reduceToNat, t124, Int.reduceBNe, bne_self_eq_false, ge_iff_le, Int.ofNat_le, g1, g2, s1, s2, hw]) | (show (_ : Nat) = (_ : Nat); rfl) | ((with_reducible refine awp_ret ?_); refine ret_tmp (.inr rfl) rfl rfl rfl (fun _ _ => rfl) ?_ <;> first | rfl | skip) | (refine call_pure (cW) ?_) | (refine call_pure (cr) ?_) | (refine call_pure (n1) ?_) | (refine call_pure (n2) ?_) | ((with_reducible refine gsel_case (fun hg => ?_) (fun hg => ?_)) <;> (try simp only [nb] at hg) <;> simp (maxSteps := 4000000) only [su, evLit, hbT, tab, thenA, blockA, reduceCtorEq, reduceIte, Nat.reduceEqDiff, Nat.reduceBEq, Int.reduceLE, Int.reduceToNat, Nat.reduceAdd, Nat.reduceLT, Nat.reduceLeDiff, hg, dskC, hlt', hws, bytes_length, lb, loOf, hiOf, bytes_take, bytes_drop, Nat.sub_zero, Int.reduceToNat, t124, Int.reduceBNe, bne_self_eq_false, ge_iff_le, Int.ofNat_le, g1, g2, s1, s2, hw]) | ((with_reducible refine awp_exit ?_); simp only [thenA, blockA, if_true, if_false, reduceIte, Nat.reduceEqDiff]) | (refine hK _ ?_; clear hK K) | refine awp_cond_t rfl ?_ | refine awp_cond_f rfl ?_ | refine awp_if rfl (fun hg => ?_) (fun hg => ?_) | clear hK K)
        refine ⟨i + 1, by omega, by omega, ?_⟩
        refine le_of_all ?_ ?_ rfl rfl rfl rfl <;> simp only [patch, sl, dskC, hlt', decide_true, hBi, hBc, Bool.true_or]
      | false =>
        cases hpc : pa i with
        | true =>
          rw [hpc] at fai'
          repeat' (first | (with_reducible first | refine awp_seq_k fun K hK => ?_ | refine awp_ev tab_ok [] ?_ | refine awp_block_s ?_ | refine awp_block_c ?_ | refine awp_block_r ?_ | refine awp_skip ?_ | apply And.intro | refine awp_ev_draw (id := 13) tab_ok [] [[0],[],[],[],[],[],[],[],[],[],[]] [[],[],[],[],[],[],[],[],[],[],[]] follows (by kernel_rfl) (by decide) (by decide) (by kernel_rfl) ?_ | refine awp_ev_quiet tab_ok follows (by kernel_rfl) ?_) | ((with_reducible first | refine gE ?_ | refine gR ?_ | refine gD ?_ | refine gF ?_); simp (maxSteps := 4000000) only [su, evLit, hbT, tab, thenA, blockA, reduceCtorEq, reduceIte, Nat.reduceEqDiff, Nat.reduceBEq, Int.reduceLE, Int.reduceToNat, Nat.reduceAdd, Nat.reduceLT, Nat.reduceLeDiff, dskC, hlt', hws, bytes_length, lb, loOf, hiOf, bytes_take, bytes_drop, Nat.sub_zero, Int.reduceToNat, t124, Int.reduceBNe, bne_self_eq_false, ge_iff_le, Int.ofNat_le, g1, g2, s1, s2, fai', hw]) | (show (_ : Nat) = (_ : Nat); rfl) | ((with_reducible refine awp_ret ?_); refine ret_tmp (.inr rfl) rfl rfl rfl (fun _ _ => rfl) ?_ <;> first | rfl | skip) | (refine call_pure (cW) ?_) | (refine call_pure (cr) ?_) | (refine call_pure (n1) ?_) | (refine call_pure (n2) ?_) | ((with_reducible refine gsel_case (fun hg => ?_) (fun hg => ?_)) <;> (try simp only [nb] at hg) <;> simp (maxSteps := 4000000) only [su, evLit, hbT, tab, thenA, blockA, reduceCtorEq, reduceIte, Nat.reduceEqDiff, Nat.reduceBEq, Int.reduceLE, Int.reduceToNat, Nat.reduceAdd, Nat.reduceLT, Nat.reduceLeDiff, hg, dskC, hlt', hws, bytes_length, lb, loOf, hiOf, bytes_take, bytes_drop, Nat.sub_zero, Int.reduceToNat, t124, Int.reduceBNe, bne_self_eq_false, ge_iff_le, Int.ofNat_le, g1, g2, s1, s2, fai', hw]) | ((with_reducible refine awp_exit ?_); simp only [thenA, blockA, if_true, if_false, reduceIte, Nat.reduceEqDiff]) | (refine hK _ ?_; clear hK K) | refine awp_cond_t rfl ?_ | refine awp_cond_f rfl ?_ | refine awp_if rfl (fun hg => ?_) (fun hg => ?_) | clear hK K)
          refine ⟨i + 1, by omega, by omega, ?_⟩
          refine le_of_all ?_ ?_ rfl rfl rfl rfl <;> simp only [patch, sl, dskC, hlt', decide_true, hBi, hBc, hpc, Bool.true_or, Bool.false_or]
        | false =>
          rw [hpc] at fai'
          repeat' (first | (with_reducible first | refine awp_seq_k fun K hK => ?_ | refine awp_ev tab_ok [] ?_ | refine awp_block_s ?_ | refine awp_block_c ?_ | refine awp_block_r ?_ | refine awp_skip ?_ | apply And.intro | refine awp_ev_draw (id := 13) tab_ok [] [[0],[],[],[],[],[],[],[],[],[],[]] [[],[],[],[],[],[],[],[],[],[],[]] follows (by kernel_rfl) (by decide) (by decide) (by kernel_rfl) ?_ | refine awp_ev_quiet tab_ok follows (by kernel_rfl) ?_) | ((with_reducible first | refine gE ?_ | refine gR ?_ | refine gD ?_ | refine gF ?_); simp (maxSteps := 4000000) only [su, evLit, hbT, tab, thenA, blockA, reduceCtorEq, reduceIte, Nat.reduceEqDiff, Nat.reduceBEq, Int.reduceLE, Int.reduceToNat, Nat.reduceAdd, Nat.reduceLT, Nat.reduceLeDiff, dskC, hlt', hws, bytes_length, lb, loOf, hiOf, bytes_take, bytes_drop, Nat.sub_zero, Int.reduceToNat, t124, Int.reduceBNe, bne_self_eq_false, ge_iff_le, Int.ofNat_le, g1, g2, s1, s2, fai', fbi', hw]) | (show (_ : Nat) = (_ : Nat); rfl) | ((with_reducible refine awp_ret ?_); refine ret_tmp (.inr rfl) rfl rfl rfl (fun _ _ => rfl) ?_ <;> first | rfl | skip) | (refine call_pure (cW) ?_) | (refine call_pure (cr) ?_) | (refine call_pure (n1) ?_) | (refine call_pure (n2) ?_) | ((with_reducible refine gsel_case (fun hg => ?_) (fun hg => ?_)) <;> (try simp only [nb] at hg) <;> simp (maxSteps := 4000000) only [su, evLit, hbT, tab, thenA, blockA, reduceCtorEq, reduceIte, Nat.reduceEqDiff, Nat.reduceBEq, Int.reduceLE, Int.reduceToNat, Nat.reduceAdd, Nat.reduceLT, Nat.reduceLeDiff, hg, dskC, hlt', hws, bytes_length, lb, loOf, hiOf, bytes_take, bytes_drop, Nat.sub_zero, Int.reduceToNat, t124, Int.reduceBNe, bne_self_eq_false, ge_iff_le, Int.ofNat_le, g1, g2, s1, s2, fai', fbi', hw]) | ((with_reducible refine awp_exit ?_); simp only [thenA, blockA, if_true, if_false, reduceIte, Nat.reduceEqDiff]) | (refine hK _ ?_; clear hK K) | refine awp_cond_t rfl ?_ | refine awp_cond_f rfl ?_ | refine awp_if rfl (fun hg => ?_) (fun hg => ?_) | clear hK K)
          refine ⟨i + 1, by omega, by omega, ?_⟩
          refine le_of_all ?_ ?_ rfl rfl rfl rfl <;> simp only [patch, sl, dskC, hlt', decide_true, hBi, hBc, hpc, Bool.true_or, Bool.false_or]
    · obtain rfl : i = 16 := by omega
      have h1616 : ¬ ((16 : Nat) : Int) < 16 := by omega
      rw [hB16]
      by_cases hP : putE d ⟨W, tx⟩ = 0
      · rw [hP] at cp
        have hmX := hmp hP
        rw [hmX] at cf
        obtain ⟨a, l, hL⟩ : ∃ a l, findL X = a :: l := by
          match h : findL X, hfst hP with
          | a :: l, _ => exact ⟨a, l, rfl⟩
        have hf2 := hfs2 hP a l hL
        rw [hL] at cf
        have hlen : (0 : Int) < ((l.length + 1 : Nat) : Int) := by omega
        have ca := c_slot a.gen
        have e0 : (rcC a :: l.map rcC).getD 0 [] = [w32 a.gen, bs a.text] := rfl
        simp only [if_true, List.map_cons] at cf
        rcases hf2 with h | ⟨h, h'⟩
        · have h : a.gen = W := h
          have e1 : ((a.gen.toNat : Int) == (W.toNat : Int)) = true := by rw [h]; exact beq_self_eq_true _
          repeat' (first | (with_reducible first | refine awp_seq_k fun K hK => ?_ | refine awp_ev tab_ok [] ?_ | refine awp_block_s ?_ | refine awp_block_c ?_ | refine awp_block_r ?_ | refine awp_skip ?_ | apply And.intro | refine awp_ev_quiet tab_ok follows (by kernel_rfl) ?_) | ((with_reducible first | refine gE ?_ | refine gR ?_); simp (maxSteps := 4000000) only [su, evLit, hbT, tab, thenA, blockA, reduceCtorEq, reduceIte, Nat.reduceEqDiff, Nat.reduceBEq, Int.reduceLE, Int.reduceToNat, Nat.reduceAdd, Nat.reduceLT, Nat.reduceLeDiff, dskC, h1616, Int.reduceBNe, bne_self_eq_false, beq_self_eq_true, splice_all, List.length_cons, List.length_map, gt_iff_lt, hlen, e0, e1, pick_cons]) | (show (_ : Nat) = (_ : Nat); rfl) | ((with_reducible refine awp_ret ?_); refine ret_tmp (.inr rfl) rfl rfl rfl (fun _ _ => rfl) ?_ <;> first | rfl | skip) | (refine call_pure (cp) ?_) | (refine call_pure (cf) ?_) | ((with_reducible refine gsel_case (fun hg => ?_) (fun hg => ?_)) <;> (try simp only [nb] at hg) <;> simp (maxSteps := 4000000) only [su, evLit, hbT, tab, thenA, blockA, reduceCtorEq, reduceIte, Nat.reduceEqDiff, Nat.reduceBEq, Int.reduceLE, Int.reduceToNat, Nat.reduceAdd, Nat.reduceLT, Nat.reduceLeDiff, hg, dskC, h1616, Int.reduceBNe, bne_self_eq_false, beq_self_eq_true, splice_all, List.length_cons, List.length_map, gt_iff_lt, hlen, e0, e1, pick_cons]) | ((with_reducible refine awp_exit ?_); simp only [thenA, blockA, if_true, if_false, reduceIte, Nat.reduceEqDiff]) | (refine hK _ ?_; clear hK K) | refine awp_cond_t rfl ?_ | refine awp_cond_f rfl ?_ | refine awp_if rfl (fun hg => ?_) (fun hg => ?_) | clear hK K)
          all_goals omega
        · have h : W.toNat < a.gen.toNat := h
          have h' : slotN a.gen ≠ slotN W := h'
          have e1 : ((a.gen.toNat : Int) == (W.toNat : Int)) = false := by rw [beq_eq_false_iff_ne]; omega
          have e2 : ((slotN a.gen : Int) != (slotN W : Int)) = true := by rw [bne_iff_ne]; omega
          repeat' (first | (with_reducible first | refine awp_seq_k fun K hK => ?_ | refine awp_ev tab_ok [] ?_ | refine awp_block_s ?_ | refine awp_block_c ?_ | refine awp_block_r ?_ | refine awp_skip ?_ | apply And.intro | refine awp_ev_quiet tab_ok follows (by kernel_rfl) ?_) | ((with_reducible first | refine gE ?_ | refine gR ?_); simp (maxSteps := 4000000) only [su, evLit, hbT, tab, thenA, blockA, reduceCtorEq, reduceIte, Nat.reduceEqDiff, Nat.reduceBEq, Int.reduceLE, Int.reduceToNat, Nat.reduceAdd, Nat.reduceLT, Nat.reduceLeDiff, dskC, h1616, Int.reduceBNe, bne_self_eq_false, beq_self_eq_true, splice_all, List.length_cons, List.length_map, gt_iff_lt, hlen, e0, e1, e2, h, Int.ofNat_lt, pick_cons]) | (show (_ : Nat) = (_ : Nat); rfl) | ((with_reducible refine awp_ret ?_); refine ret_tmp (.inr rfl) rfl rfl rfl (fun _ _ => rfl) ?_ <;> first | rfl | skip) | (refine call_pure (cp) ?_) | (refine call_pure (cf) ?_) | (refine call_pure (ca) ?_) | (refine call_pure (cW) ?_) | ((with_reducible refine gsel_case (fun hg => ?_) (fun hg => ?_)) <;> (try simp only [nb] at hg) <;> simp (maxSteps := 4000000) only [su, evLit, hbT, tab, thenA, blockA, reduceCtorEq, reduceIte, Nat.reduceEqDiff, Nat.reduceBEq, Int.reduceLE, Int.reduceToNat, Nat.reduceAdd, Nat.reduceLT, Nat.reduceLeDiff, hg, dskC, h1616, Int.reduceBNe, bne_self_eq_false, beq_self_eq_true, splice_all, List.length_cons, List.length_map, gt_iff_lt, hlen, e0, e1, e2, h, Int.ofNat_lt, pick_cons]) | ((with_reducible refine awp_exit ?_); simp only [thenA, blockA, if_true, if_false, reduceIte, Nat.reduceEqDiff]) | (refine hK _ ?_; clear hK K) | refine awp_cond_t rfl ?_ | refine awp_cond_f rfl ?_ | refine awp_if rfl (fun hg => ?_) (fun hg => ?_) | clear hK K)
          all_goals omega
      · have hPb : (putE d ⟨W, tx⟩ != 0) = true := by simpa using hP
        repeat' (first | (with_reducible first | refine awp_seq_k fun K hK => ?_ | refine awp_ev tab_ok [] ?_ | refine awp_block_s ?_ | refine awp_block_c ?_ | refine awp_block_r ?_ | refine awp_skip ?_ | apply And.intro | refine awp_ev_quiet tab_ok follows (by kernel_rfl) ?_) | ((with_reducible first | refine gE ?_ | refine gR ?_); simp (maxSteps := 4000000) only [su, evLit, hbT, tab, thenA, blockA, reduceCtorEq, reduceIte, Nat.reduceEqDiff, Nat.reduceBEq, Int.reduceLE, Int.reduceToNat, Nat.reduceAdd, Nat.reduceLT, Nat.reduceLeDiff, dskC, h1616, hPb, splice_all]) | (show (_ : Nat) = (_ : Nat); rfl) | ((with_reducible refine awp_ret ?_); refine ret_tmp (.inr rfl) rfl rfl rfl (fun _ _ => rfl) ?_ <;> first | rfl | skip) | (refine call_pure (cp) ?_) | (refine call_pure (cf) ?_) | ((with_reducible refine gsel_case (fun hg => ?_) (fun hg => ?_)) <;> (try simp only [nb] at hg) <;> simp (maxSteps := 4000000) only [su, evLit, hbT, tab, thenA, blockA, reduceCtorEq, reduceIte, Nat.reduceEqDiff, Nat.reduceBEq, Int.reduceLE, Int.reduceToNat, Nat.reduceAdd, Nat.reduceLT, Nat.reduceLeDiff, hg, dskC, h1616, hPb, splice_all]) | ((with_reducible refine awp_exit ?_); simp only [thenA, blockA, if_true, if_false, reduceIte, Nat.reduceEqDiff]) | (refine hK _ ?_; clear hK K) | refine awp_cond_t rfl ?_ | refine awp_cond_f rfl ?_ | refine awp_if rfl (fun hg => ?_) (fun hg => ?_) | clear hK K)
  · have hW0 : nextW d g = 0 := by unfold nextW; rw [if_neg hE]
    rw [hW0] at c1
    have w0' : (((0 : BitVec 32).toNat : Int) == 0) = true := rfl
    simp only [dskA, dskC] at c1 cc
    cases hm : may d with
    | false =>
      have hE8 : nextE d g = 8 := by unfold nextE; rw [hm]; rfl
      rw [hE8] at c1
      rw [hm] at cc
      simp only [Bool.false_eq_true, if_false] at cc
      refine acall_of 2 Try.func16 rfl fun n out _ _ => ?_
      simp only [Try.ntmps16, List.length_cons, List.length_nil, List.length_map, List.length_replicate, rep_map, Nat.reduceAdd, Nat.reduceSub, List.replicate, List.cons_append, List.nil_append]
      repeat' (first | (with_reducible first | refine awp_seq_k fun K hK => ?_ | refine awp_ev tab_ok [] ?_ | refine awp_block_s ?_ | refine awp_block_c ?_ | refine awp_block_r ?_ | refine awp_skip ?_ | apply And.intro | refine awp_ev_quiet tab_ok follows (by kernel_rfl) ?_) | ((with_reducible first | refine gE ?_ | refine gR ?_); simp (maxSteps := 4000000) only [su, evLit, hbT, tab, thenA, blockA, reduceCtorEq, reduceIte, Nat.reduceEqDiff, Nat.reduceBEq, Int.reduceLE, Int.reduceToNat, Nat.reduceAdd, Nat.reduceLT, Nat.reduceLeDiff, dskA, dskC, bytes_length, hrI, Int.reduceBNe, Int.reduceBEq, w0', beq_self_eq_true]) | (show (_ : Nat) = (_ : Nat); rfl) | ((with_reducible refine awp_ret ?_); refine ret_tmp (.inr rfl) rfl rfl rfl (fun _ _ => rfl) ?_ <;> first | rfl | skip) | (refine call_pure (cg) ?_) | (refine call_pure (c_alive06) ?_) | (refine call_pure (c1) ?_) | (refine call_pure (cc) ?_) | ((with_reducible refine gsel_case (fun hg => ?_) (fun hg => ?_)) <;> (try simp only [nb] at hg) <;> simp (maxSteps := 4000000) only [su, evLit, hbT, tab, thenA, blockA, reduceCtorEq, reduceIte, Nat.reduceEqDiff, Nat.reduceBEq, Int.reduceLE, Int.reduceToNat, Nat.reduceAdd, Nat.reduceLT, Nat.reduceLeDiff, hg, dskA, dskC, bytes_length, hrI, Int.reduceBNe, Int.reduceBEq, w0', beq_self_eq_true]) | ((with_reducible refine awp_exit ?_); simp only [thenA, blockA, if_true, if_false, reduceIte, Nat.reduceEqDiff]) | (refine hK _ ?_; clear hK K) | refine awp_cond_t rfl ?_ | refine awp_cond_f rfl ?_ | refine awp_if rfl (fun hg => ?_) (fun hg => ?_) | clear hK K)
    | true =>
      have hE9 : nextE d g = 9 := by
        unfold nextE at hE ⊢
        rw [hm, if_pos rfl] at hE ⊢
        split at hE
        · rw [if_pos (by assumption)]
        · exact absurd rfl hE
      rw [hE9] at c1
      rw [hm] at cc
      simp only [if_true] at cc
      refine acall_of 2 Try.func16 rfl fun n out _ _ => ?_
      simp only [Try.ntmps16, List.length_cons, List.length_nil, List.length_map, List.length_replicate, rep_map, Nat.reduceAdd, Nat.reduceSub, List.replicate, List.cons_append, List.nil_append]
      repeat' (first | (with_reducible first | refine awp_seq_k fun K hK => ?_ | refine awp_ev tab_ok [] ?_ | refine awp_block_s ?_ | refine awp_block_c ?_ | refine awp_block_r ?_ | refine awp_skip ?_ | apply And.intro | refine awp_ev_quiet tab_ok follows (by kernel_rfl) ?_) | ((with_reducible first | refine gE ?_ | refine gR ?_); simp (maxSteps := 4000000) only [su, evLit, hbT, tab, thenA, blockA, reduceCtorEq, reduceIte, Nat.reduceEqDiff, Nat.reduceBEq, Int.reduceLE, Int.reduceToNat, Nat.reduceAdd, Nat.reduceLT, Nat.reduceLeDiff, dskA, dskC, bytes_length, hrI, Int.reduceBNe, Int.reduceBEq, w0', beq_self_eq_true]) | (show (_ : Nat) = (_ : Nat); rfl) | ((with_reducible refine awp_ret ?_); refine ret_tmp (.inr rfl) rfl rfl rfl (fun _ _ => rfl) ?_ <;> first | rfl | skip) | (refine call_pure (cg) ?_) | (refine call_pure (c_alive06) ?_) | (refine call_pure (c1) ?_) | (refine call_pure (cc) ?_) | ((with_reducible refine gsel_case (fun hg => ?_) (fun hg => ?_)) <;> (try simp only [nb] at hg) <;> simp (maxSteps := 4000000) only [su, evLit, hbT, tab, thenA, blockA, reduceCtorEq, reduceIte, Nat.reduceEqDiff, Nat.reduceBEq, Int.reduceLE, Int.reduceToNat, Nat.reduceAdd, Nat.reduceLT, Nat.reduceLeDiff, hg, dskA, dskC, bytes_length, hrI, Int.reduceBNe, Int.reduceBEq, w0', beq_self_eq_true]) | ((with_reducible refine awp_exit ?_); simp only [thenA, blockA, if_true, if_false, reduceIte, Nat.reduceEqDiff]) | (refine hK _ ?_; clear hK K) | refine awp_cond_t rfl ?_ | refine awp_cond_f rfl ?_ | refine awp_if rfl (fun hg => ?_) (fun hg => ?_) | clear hK K)
end Go.Proofs.Ytefkjdkalgemeaa
