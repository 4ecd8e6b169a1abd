/-
  The law DevFlips.
-/
import Derived.Test.YtefkjdkalgemeaaZD33
import Derived.Test.YtefkjdkalgemeaaZD13
import Derived.Test.YtefkjdkalgemeaaZGA
namespace Go.Proofs.Ytefkjdkalgemeaa
set_option linter.unusedVariables false
set_option linter.unusedSimpArgs false
open Go Go.VS Tab
set_option maxHeartbeats 8000000
set_option maxRecDepth 4000
theorem chunk_nought (n : Nat) : chunk 1 n (repZero [Value.int .i64 0] n) = (List.replicate n (0 : Int)).map intC := by
  have e : repZero [Value.int .i64 0] n = (List.replicate n (0 : Int)).map i64 := by
    apply List.ext_getElem
    · simp [repZero]
    · intro i h1 h2
      simp [repZero, Nat.mod_one, c_int]
  rw [e]
  clear e
  induction n with
  | zero => rfl
  | succ n ih =>
    rw [List.replicate_succ, List.map_cons, List.map_cons]
    show (i64 0 :: _).take 1 :: chunk 1 n ((i64 0 :: _).drop 1) = _
    rw [List.take_succ_cons, List.take_zero, List.drop_succ_cons, List.drop_zero, ih]
    rfl
theorem c_lawFlips (d : Dsk) (a b : Int) (x1 x2 : UInt8) (hd : DOk d) : ACall Try.prog 11 [dskA d, i64 a, i64 b, b8 x1, b8 x2] [] (bool true) [] := by
  have cg := c_great' d hd
  simp only [dskA, dskC] at cg
  by_cases g1 : great d = true
  · rw [g1] at cg
    refine acall_of 5 Try.func11 rfl fun n out _ _ => ?_
    simp only [Try.ntmps11, List.length_cons, List.length_nil, List.length_map, List.length_replicate, rep_map, Nat.reduceAdd, Nat.reduceSub, List.replicate, List.cons_append, List.nil_append]
    repeat' (first | (with_reducible first | refine awp_seq_k fun K hK => ?_ | refine awp_ev tab_ok [] ?_ | refine awp_block_s ?_ | refine awp_block_c ?_ | refine awp_block_r ?_ | refine awp_skip ?_ | apply And.intro | refine awp_ev_quiet tab_ok follows (by kernel_rfl) ?_) | ((with_reducible first | refine gE ?_ | refine gR ?_); simp (maxSteps := 4000000) only [su, evLit, hbT, tab, thenA, blockA, reduceCtorEq, reduceIte, Nat.reduceEqDiff, Nat.reduceBEq, Int.reduceLE, Int.reduceToNat, Nat.reduceAdd, Nat.reduceLT, Nat.reduceLeDiff, dskA, dskC]) | (show (_ : Nat) = (_ : Nat); rfl) | ((with_reducible refine awp_ret ?_); refine ret_tmp (.inr rfl) rfl rfl rfl (fun _ _ => rfl) ?_ <;> first | rfl | skip) | (refine call_pure (cg) ?_) | (refine call_pure (c_alive) ?_) | ((with_reducible refine gsel_case (fun hg => ?_) (fun hg => ?_)) <;> (try simp only [nb] at hg) <;> simp (maxSteps := 4000000) only [su, evLit, hbT, tab, thenA, blockA, reduceCtorEq, reduceIte, Nat.reduceEqDiff, Nat.reduceBEq, Int.reduceLE, Int.reduceToNat, Nat.reduceAdd, Nat.reduceLT, Nat.reduceLeDiff, hg, dskA, dskC]) | ((with_reducible refine awp_exit ?_); simp only [thenA, blockA, if_true, if_false, reduceIte, Nat.reduceEqDiff]) | (refine hK _ ?_; clear hK K) | refine awp_cond_t rfl ?_ | refine awp_cond_f rfl ?_ | refine awp_if rfl (fun hg => ?_) (fun hg => ?_) | clear hK K)
  · have g1 : great d = false := by simpa using g1
    rw [g1] at cg
    obtain ⟨hsm, hsw⟩ := small_of g1
    by_cases hE : spoilE d a b = 0
    · obtain ⟨hm, ⟨ha1, ha2⟩, hb1, hb2⟩ := spoilE_0.1 hE
      obtain ⟨z, rfl⟩ := Int.eq_ofNat_of_zero_le ha1
      obtain ⟨y, rfl⟩ := Int.eq_ofNat_of_zero_le hb1
      obtain ⟨h32, hw, hs, hww⟩ := (may_iff d).1 hm
      have hz : z < d.sectors.length := by omega
      have hl : (d.sectors[z]).length = 128 := hs _ (List.getElem_mem hz)
      have hg0 : d.sectors.getD z [] = d.sectors[z] := by simp [List.getD_eq_getElem?_getD, hz]
      obtain ⟨T, hT⟩ : ∃ T : Dsk, T = ⟨turnS d.sectors z y x1, d.waits⟩ := ⟨_, rfl⟩
      have hmT : may T = true := by rw [hT]; exact may_turn hm x1 (by omega)
      have e1 : ∀ x, spoilD d z y x = ⟨turnS d.sectors z y x, d.waits⟩ := fun x => by unfold spoilD; rw [if_pos hE]; rfl
      have sT : spoilE T z y = 0 := spoilE_0.2 ⟨hmT, ⟨ha1, ha2⟩, hb1, hb2⟩
      have smT : Small T := by have := spoilD_small (a := (z : Int)) (b := (y : Int)) (x := x1) hsm; rw [e1] at this; rw [hT]; exact this
      obtain ⟨Y, hY⟩ : ∃ Y : Dsk, Y = ⟨turnS d.sectors z y (x1 ^^^ x2), d.waits⟩ := ⟨_, rfl⟩
      have e2 : spoilD T z y x2 = Y := by
        unfold spoilD
        rw [if_pos sT, hY, hT]
        show (⟨turnS (turnS d.sectors z y x1) (z : Int).toNat (y : Int).toNat x2, d.waits⟩ : Dsk) = _
        rw [Int.toNat_natCast, Int.toNat_natCast, turnS_twice hz (by rw [hg0]; omega)]
      have s1 := c_spoil d hsm z y x1
      have s2 := c_spoil T smT z y x2
      have s3 := c_spoil d hsm z y (x1 ^^^ x2)
      rw [hE, e1, ← hT] at s1
      rw [sT, e2] at s2
      rw [hE, e1, ← hY] at s3
      have r1 := c_read d z hsm.s hsm.w
      have r2 := c_read T z smT.s smT.w
      have q1 : readE d z = 0 := readE_0.2 ⟨hm, ha1, ha2⟩
      have q2 : readE T z = 0 := readE_0.2 ⟨hmT, ha1, ha2⟩
      rw [q1] at r1
      rw [q2] at r2
      have eR : readB d z = (comesS kpAll d d.waits.length).getD z [] := by unfold readB; rw [if_pos q1, Int.toNat_natCast]
      have eW : T.waits = d.waits := by rw [hT]
      have eR' : readB T z = (comesS kpAll T d.waits.length).getD z [] := by unfold readB; rw [if_pos q2, Int.toNat_natCast, eW]
      have eS : T.sectors = turnS d.sectors z y x1 := by rw [hT]
      have cr := c_crash T (List.replicate d.waits.length 0) smT.s smT.w (by rw [List.length_replicate]; omega)
      have k0 : crashE T (List.replicate d.waits.length 0) = 0 := by
        unfold crashE
        rw [if_pos hmT, if_pos (by rw [List.length_replicate, eW]), if_pos (by rw [List.all_eq_true]; intro x hx; rw [List.eq_of_mem_replicate hx]; decide)]
      have k1 : crashD T (List.replicate d.waits.length 0) = ⟨T.sectors, []⟩ := by
        unfold crashD
        rw [if_pos k0]
        show (⟨comesS _ T _, []⟩ : Dsk) = _
        rw [comesS_none fun i => by
          by_cases h : i < d.waits.length
          · simp [List.getD_eq_getElem?_getD, h]
          · simp [List.getD_eq_getElem?_getD, h]]
      rw [k0, k1] at cr
      have cs := c_same Y Y (by rw [hY]; show d.waits.length ≤ _; omega) (by rw [hY]; show (turnS _ _ _ _).length ≤ _; unfold turnS; rw [List.length_set]; omega)
      rw [sameB_refl] at cs
      obtain ⟨S0, hS0⟩ : ∃ S0, S0 = d.sectors[z] := ⟨_, rfl⟩
      have hy : y < S0.length := by rw [hS0]; omega
      have hit : (∃ (j : Nat) (hj : j < d.waits.length), (d.waits[j].at' == (z : Int)) = true) → (readB d z == readB T z) = true := fun ⟨j, hj, hjz⟩ => by
        rw [eR, eR', beq_iff_eq]
        refine ((comesS_near hm hmT eW (fun q hq => by rw [eS]; exact getD_set_ne (Ne.symm hq) _ _) d.waits.length).2 ⟨j, hj, hj, ?_⟩).symm
        have := of_decide_eq_true (show decide (d.waits[j].at' = (z : Int)) = true by simpa using hjz)
        omega
      have far : (∀ (j : Nat) (hj : j < d.waits.length), (d.waits[j].at' == (z : Int)) = false) → (readB d z == readB T z) = (x1 == 0) := fun h => by
        have h' : ∀ j (hj : j < d.waits.length), d.waits[j].at'.toNat ≠ z := fun j hj e => by
          have h0 := (hww _ (List.getElem_mem hj)).1
          have := h j hj
          rw [beq_eq_false_iff_ne] at this
          exact this (by omega)
        rw [eR, eR', comesS_far _ (fun j hj _ => h' j hj), comesS_far (d := T) _ (fun j hj _ => by simp only [eW] at hj ⊢; exact h' j hj), eS]
        rw [show (turnS d.sectors z y x1).getD z [] = turnL (d.sectors.getD z []) y x1 from getD_set_eq hz _ _, hg0, ← hS0]
        exact turnL_same hy x1
      have gA : (T.sectors.map secC).getD z [] = secC (turnL S0 y x1) := by
        rw [eS]
        have hz' : z < (turnS d.sectors z y x1).length := by unfold turnS; rw [List.length_set]; exact hz
        rw [getD_map secC _ z [] hz']
        congr 1
        have : (turnS d.sectors z y x1).getD z [] = turnL (d.sectors.getD z []) y x1 := getD_set_eq hz _ _
        rw [← hg0] at hS0
        rw [hS0, ← this]
        simp [List.getD_eq_getElem?_getD, hz']
      have gDs := getD_map secC d.sectors z [] hz
      rw [← hS0] at gDs
      have hAl : T.sectors.length = 32 := ((may_iff T).1 hmT).1
      have gb1 := bytes_get (turnL S0 y x1) y (by rw [turnL_len]; exact hy)
      rw [turnL_at hy] at gb1
      have gb2 := bytes_get S0 y hy
      have hx0 : ((x1.toNat : Int) == 0) = (x1 == 0) := by
        rw [Bool.eq_iff_iff, beq_iff_eq, beq_iff_eq]
        constructor
        · intro h; exact UInt8.toNat_inj.1 (by simpa using h)
        · rintro rfl; rfl
      have l1 : z < 32 := by omega
      have l2 : (turnL S0 y x1).length = 128 := by rw [turnL_len, hS0]; exact hl
      have l3 : S0.length = 128 := by rw [hS0]; exact hl
      have l4 : y < 128 := by omega
      clear hT hY e1 e2 k0 k1 q1 q2 eR eR' eS eW hS0 hg0 hl hs
      generalize readB d z = R at *
      generalize readB T z = R' at *
      simp only [dskA, dskC, List.map_nil] at s1 s2 s3 r1 r2 cr cs
      refine acall_of 5 Try.func11 rfl fun n out _ _ => ?_
      simp only [Try.ntmps11, List.length_cons, List.length_nil, List.length_map, List.length_replicate, rep_map, Nat.reduceAdd, Nat.reduceSub, List.replicate, List.cons_append, List.nil_append]
      repeat' (first | (with_reducible first | refine awp_seq_k fun K hK => ?_ | refine awp_ev tab_ok [] ?_ | refine awp_block_s ?_ | refine awp_block_c ?_ | refine awp_block_r ?_ | refine awp_skip ?_ | apply And.intro | refine awp_ev_draw (id := 11) tab_ok [] [[1],[],[0],[],[],[],[],[],[],[4],[4],[]] [[],[],[],[],[],[],[],[],[],[4],[4],[]] follows (by kernel_rfl) (by decide) (by decide) (by kernel_rfl) ?_ | refine awp_ev_quiet tab_ok follows (by kernel_rfl) ?_) | ((with_reducible first | refine gE ?_ | refine gR ?_ | refine gD ?_ | refine gF ?_); simp (maxSteps := 4000000) only [su, evLit, hbT, tab, thenA, blockA, reduceCtorEq, reduceIte, Nat.reduceEqDiff, Nat.reduceBEq, Int.reduceLE, Int.reduceToNat, Nat.reduceAdd, Nat.reduceLT, Nat.reduceLeDiff, dskA, dskC, Int.reduceBNe, by_xor, List.length_map, h32, hAl, l1, gA, gDs, secC, bytes_length, l2, l3, l4, gb1, gb2, bne_self_eq_false, splice_all, chunk_nought, Int.toNat_natCast]) | (show (_ : Nat) = (_ : Nat); rfl) | ((with_reducible refine awp_ret ?_); refine ret_tmp (.inr rfl) rfl rfl rfl (fun _ _ => rfl) ?_ <;> first | rfl | skip) | (refine call_pure (cg) ?_) | (refine call_pure (c_alive) ?_) | (refine call_pure (s1) ?_) | (refine call_pure (s2) ?_) | (refine call_pure (s3) ?_) | (refine call_pure (r1) ?_) | (refine call_pure (r2) ?_) | (refine call_pure (acall_le cr ⟨.rfl _, .sh _ _ _, trivial⟩) ?_) | (refine call_pure (cs) ?_) | ((with_reducible refine gsel_case (fun hg => ?_) (fun hg => ?_)) <;> (try simp only [nb] at hg) <;> simp (maxSteps := 4000000) only [su, evLit, hbT, tab, thenA, blockA, reduceCtorEq, reduceIte, Nat.reduceEqDiff, Nat.reduceBEq, Int.reduceLE, Int.reduceToNat, Nat.reduceAdd, Nat.reduceLT, Nat.reduceLeDiff, hg, dskA, dskC, Int.reduceBNe, by_xor, List.length_map, h32, hAl, l1, gA, gDs, secC, bytes_length, l2, l3, l4, gb1, gb2, bne_self_eq_false, splice_all, chunk_nought, Int.toNat_natCast]) | ((with_reducible refine awp_exit ?_); simp only [thenA, blockA, if_true, if_false, reduceIte, Nat.reduceEqDiff]) | (refine hK _ ?_; clear hK K) | refine awp_cond_t rfl ?_ | refine awp_cond_f rfl ?_ | refine awp_if rfl (fun hg => ?_) (fun hg => ?_) | clear hK K)
      · exact Int.le_refl _
      · omega
      · omega
      refine awp_block ?_
      refine awp_for_mv (fun m (i : Nat) => [(24, i64 (i : Int)), (5, .ptr (m + 0) 0), (10, .top), (134, .top), (135, .top), (136, .top), (137, .top), (138, .top), (139, .top), (140, .top), (141, .top), (142, .top), (143, .top), (144, .top), (145, .top), (146, .top), (147, .top), (148, .top), (149, .top), (150, .top), (151, .top), (152, .top), (153, .top), (154, .top), (155, .top), (156, .top)]) (fun m i => [some (.box 25 [.sl 1 (d.sectors.map secC) .sh, .sl 2 (d.waits.map wrC) .sh]), some (.box 25 [.sl 1 (T.sectors.map secC) .sh, .sl 2 (T.waits.map wrC) .sh]), some (.box 25 [.sl 1 (Y.sectors.map secC) .sh, .sl 2 (Y.waits.map wrC) .sh]), some (.box 25 [.sl 1 (Y.sectors.map secC) .sh, .sl 2 (Y.waits.map wrC) .sh]), some (.box 25 [.sl 1 (T.sectors.map secC) .sh, .sl 2 [] .sh])]) (fun i => out) (fun i => i ≤ d.waits.length ∧ (∀ j (hj : j < d.waits.length), j < i → (d.waits[j].at' == (z : Int)) = false)) (fun i => d.waits.length - i) 0 ⟨Nat.zero_le _, by intros; omega⟩ ?_ fun m i hm hi => ?_
      · refine le_of_all ?_ ?_ rfl rfl rfl rfl <;> simp only [patch, sl]
      obtain ⟨hi, hq⟩ := hi
      simp only [patch, s_0, s_s]
      have hw2 := addw (n := i) 1 1 rfl (by omega)
      by_cases hlt : i < d.waits.length
      · have gi := getD_map wrC d.waits i [] hlt
        cases hb : (d.waits[i].at' == (z : Int)) with
        | true =>
          have hR := hit ⟨i, hlt, hb⟩
          repeat' (first | (with_reducible first | refine awp_seq_k fun K hK => ?_ | refine awp_ev tab_ok [] ?_ | refine awp_block_s ?_ | refine awp_block_c ?_ | refine awp_block_r ?_ | refine awp_skip ?_ | apply And.intro | refine awp_ev_quiet tab_ok follows (by kernel_rfl) ?_) | ((with_reducible first | refine gE ?_ | refine gR ?_); simp (maxSteps := 4000000) only [su, evLit, hbT, tab, thenA, blockA, reduceCtorEq, reduceIte, Nat.reduceEqDiff, Nat.reduceBEq, Int.reduceLE, Int.reduceToNat, Nat.reduceAdd, Nat.reduceLT, Nat.reduceLeDiff, locM hm, List.length_map, hlt, gi, wrC, hb, ex_bytes, str_eq, hR]) | (show (_ : Nat) = (_ : Nat); rfl) | ((with_reducible refine awp_ret ?_); refine ret_tmp (.inr rfl) rfl rfl rfl (fun _ _ => rfl) ?_ <;> first | rfl | skip) | ((with_reducible refine gsel_case (fun hg => ?_) (fun hg => ?_)) <;> (try simp only [nb] at hg) <;> simp (maxSteps := 4000000) only [su, evLit, hbT, tab, thenA, blockA, reduceCtorEq, reduceIte, Nat.reduceEqDiff, Nat.reduceBEq, Int.reduceLE, Int.reduceToNat, Nat.reduceAdd, Nat.reduceLT, Nat.reduceLeDiff, hg, locM hm, List.length_map, hlt, gi, wrC, hb, ex_bytes, str_eq, hR]) | ((with_reducible refine awp_exit ?_); simp only [thenA, blockA, if_true, if_false, reduceIte, Nat.reduceEqDiff]) | (refine hK _ ?_; clear hK K) | refine awp_cond_t rfl ?_ | refine awp_cond_f rfl ?_ | refine awp_if rfl (fun hg => ?_) (fun hg => ?_) | clear hK K)
        | false =>
          have nx : ∀ j (hj : j < d.waits.length), j < i + 1 → (d.waits[j].at' == (z : Int)) = false := fun j hj hji => by
            by_cases h : j = i
            · subst h; exact hb
            · exact hq j hj (by omega)
          repeat' (first | (with_reducible first | refine awp_seq_k fun K hK => ?_ | refine awp_ev tab_ok [] ?_ | refine awp_block_s ?_ | refine awp_block_c ?_ | refine awp_block_r ?_ | refine awp_skip ?_ | apply And.intro | refine awp_ev_quiet tab_ok follows (by kernel_rfl) ?_) | ((with_reducible first | refine gE ?_ | refine gR ?_); simp (maxSteps := 4000000) only [su, evLit, hbT, tab, thenA, blockA, reduceCtorEq, reduceIte, Nat.reduceEqDiff, Nat.reduceBEq, Int.reduceLE, Int.reduceToNat, Nat.reduceAdd, Nat.reduceLT, Nat.reduceLeDiff, locM hm, List.length_map, hlt, gi, wrC, hb, hw2]) | (show (_ : Nat) = (_ : Nat); rfl) | ((with_reducible refine awp_ret ?_); refine ret_tmp (.inr rfl) rfl rfl rfl (fun _ _ => rfl) ?_ <;> first | rfl | skip) | ((with_reducible refine gsel_case (fun hg => ?_) (fun hg => ?_)) <;> (try simp only [nb] at hg) <;> simp (maxSteps := 4000000) only [su, evLit, hbT, tab, thenA, blockA, reduceCtorEq, reduceIte, Nat.reduceEqDiff, Nat.reduceBEq, Int.reduceLE, Int.reduceToNat, Nat.reduceAdd, Nat.reduceLT, Nat.reduceLeDiff, hg, locM hm, List.length_map, hlt, gi, wrC, hb, hw2]) | ((with_reducible refine awp_exit ?_); simp only [thenA, blockA, if_true, if_false, reduceIte, Nat.reduceEqDiff]) | (refine hK _ ?_; clear hK K) | refine awp_cond_t rfl ?_ | refine awp_cond_f rfl ?_ | refine awp_if rfl (fun hg => ?_) (fun hg => ?_) | clear hK K)
          refine ⟨i + 1, ⟨by omega, nx⟩, by omega, ?_⟩
          refine le_move [true, true, true, true, true] (fun n_ => ?_) (fun n_ => ?_) <;> simp only [patch, sm, hlt, decide_true]
      · have hF := far fun j hj => hq j hj (by omega)
        repeat' (first | (with_reducible first | refine awp_seq_k fun K hK => ?_ | refine awp_ev tab_ok [] ?_ | refine awp_block_s ?_ | refine awp_block_c ?_ | refine awp_block_r ?_ | refine awp_skip ?_ | apply And.intro | refine awp_ev_quiet tab_ok follows (by kernel_rfl) ?_) | ((with_reducible first | refine gE ?_ | refine gR ?_); simp (maxSteps := 4000000) only [su, evLit, hbT, tab, thenA, blockA, reduceCtorEq, reduceIte, Nat.reduceEqDiff, Nat.reduceBEq, Int.reduceLE, Int.reduceToNat, Nat.reduceAdd, Nat.reduceLT, Nat.reduceLeDiff, locM hm, List.length_map, hlt, ex_bytes, str_eq, hF, hx0, beq_self_eq_true]) | (show (_ : Nat) = (_ : Nat); rfl) | ((with_reducible refine awp_ret ?_); refine ret_tmp (.inr rfl) rfl rfl rfl (fun _ _ => rfl) ?_ <;> first | rfl | skip) | ((with_reducible refine gsel_case (fun hg => ?_) (fun hg => ?_)) <;> (try simp only [nb] at hg) <;> simp (maxSteps := 4000000) only [su, evLit, hbT, tab, thenA, blockA, reduceCtorEq, reduceIte, Nat.reduceEqDiff, Nat.reduceBEq, Int.reduceLE, Int.reduceToNat, Nat.reduceAdd, Nat.reduceLT, Nat.reduceLeDiff, hg, locM hm, List.length_map, hlt, ex_bytes, str_eq, hF, hx0, beq_self_eq_true]) | ((with_reducible refine awp_exit ?_); simp only [thenA, blockA, if_true, if_false, reduceIte, Nat.reduceEqDiff]) | (refine hK _ ?_; clear hK K) | refine awp_cond_t rfl ?_ | refine awp_cond_f rfl ?_ | refine awp_if rfl (fun hg => ?_) (fun hg => ?_) | clear hK K)
    · have e1 : spoilD d a b x1 = noDsk := by unfold spoilD; rw [if_neg hE]
      have hE' : (spoilE d a b != 0) = true := by simpa using hE
      have s1 := c_spoil d hsm a b x1
      rw [e1] at s1
      generalize spoilE d a b = E at *
      simp only [dskA, dskC, noDsk, List.map_nil] at s1
      refine acall_of 5 Try.func11 rfl fun n out _ _ => ?_
      simp only [Try.ntmps11, List.length_cons, List.length_nil, List.length_map, List.length_replicate, rep_map, Nat.reduceAdd, Nat.reduceSub, List.replicate, List.cons_append, List.nil_append]
      repeat' (first | (with_reducible first | refine awp_seq_k fun K hK => ?_ | refine awp_ev tab_ok [] ?_ | refine awp_block_s ?_ | refine awp_block_c ?_ | refine awp_block_r ?_ | refine awp_skip ?_ | apply And.intro | refine awp_ev_quiet tab_ok follows (by kernel_rfl) ?_) | ((with_reducible first | refine gE ?_ | refine gR ?_); simp (maxSteps := 4000000) only [su, evLit, hbT, tab, thenA, blockA, reduceCtorEq, reduceIte, Nat.reduceEqDiff, Nat.reduceBEq, Int.reduceLE, Int.reduceToNat, Nat.reduceAdd, Nat.reduceLT, Nat.reduceLeDiff, dskA, dskC, hE', List.length_nil, List.map_nil]) | (show (_ : Nat) = (_ : Nat); rfl) | ((with_reducible refine awp_ret ?_); refine ret_tmp (.inr rfl) rfl rfl rfl (fun _ _ => rfl) ?_ <;> first | rfl | skip) | (refine call_pure (cg) ?_) | (refine call_pure (c_alive) ?_) | (refine call_pure (s1) ?_) | ((with_reducible refine gsel_case (fun hg => ?_) (fun hg => ?_)) <;> (try simp only [nb] at hg) <;> simp (maxSteps := 4000000) only [su, evLit, hbT, tab, thenA, blockA, reduceCtorEq, reduceIte, Nat.reduceEqDiff, Nat.reduceBEq, Int.reduceLE, Int.reduceToNat, Nat.reduceAdd, Nat.reduceLT, Nat.reduceLeDiff, hg, dskA, dskC, hE', List.length_nil, List.map_nil]) | ((with_reducible refine awp_exit ?_); simp only [thenA, blockA, if_true, if_false, reduceIte, Nat.reduceEqDiff]) | (refine hK _ ?_; clear hK K) | refine awp_cond_t rfl ?_ | refine awp_cond_f rfl ?_ | refine awp_if rfl (fun hg => ?_) (fun hg => ?_) | clear hK K)
end Go.Proofs.Ytefkjdkalgemeaa
