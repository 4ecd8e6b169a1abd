/-
  The law SlotOther.
-/
import Derived.Test.YtefkjdkalgemeaaZGA
import Derived.Test.YtefkjdkalgemeaaZE12
import Derived.Test.YtefkjdkalgemeaaZD29
namespace Go.Proofs.Ytefkjdkalgemeaa
set_option linter.unusedVariables false
set_option linter.unusedSimpArgs false
open Go Go.VS Tab
set_option maxHeartbeats 16000000
set_option maxRecDepth 8000
theorem turn_other {d : Dsk} (hd : may d = true) (h0 : d.waits = []) {z y : Nat} (x : UInt8) (hz : z < 32) (hT : may ⟨turnS d.sectors z y x, d.waits⟩ = true) {s : Nat} (hs : s = 0 ∨ s = 16) (hne : s ≠ z / 16 * 16) : wholeB ⟨turnS d.sectors z y x, d.waits⟩ s = wholeB d s := by
  refine whole_same fun i hi => ?_
  rw [read_at hT (by omega), read_at hd (by omega)]
  have e1 : ∀ S : List (List UInt8), comesS kpAll ⟨S, d.waits⟩ d.waits.length = S := fun S => by rw [h0]; rfl
  have e2 : comesS kpAll d d.waits.length = d.sectors := by rw [h0]; rfl
  show (comesS kpAll ⟨turnS d.sectors z y x, d.waits⟩ d.waits.length).getD (s + i) [] = _
  rw [e1, e2]
  unfold turnS
  exact getDs_ne (by omega) _ _
theorem turn_may {d : Dsk} (hm : may d = true) {z y : Nat} (x : UInt8) (hz : z < 32) : may ⟨turnS d.sectors z y x, d.waits⟩ = true := by
  obtain ⟨h1, h2, h3, h4⟩ := (may_iff d).1 hm
  refine (may_iff _).2 ⟨by show (turnS _ _ _ _).length = 32; unfold turnS; rw [List.length_set]; exact h1, h2, fun b hb => ?_, h4⟩
  have hb' : b ∈ turnS d.sectors z y x := hb
  unfold turnS at hb'
  rcases List.mem_or_eq_of_mem_set hb' with h | h
  · exact h3 b h
  · have hz' : z < d.sectors.length := by omega
    rw [h, turnL_len, show d.sectors.getD z [] = d.sectors[z] by simp [List.getD_eq_getElem?_getD, hz']]
    exact h3 _ (List.getElem_mem hz')
theorem c_lawOther (d : Dsk) (a b : Int) (x : UInt8) (hd : DOk d) : ACall Try.prog 13 [dskA d, i64 a, i64 b, b8 x] [] (bool true) [] := by
  have cg := c_great' d hd
  simp only [dskA, dskC] at cg
  by_cases g1 : great d = true
  · rw [g1] at cg
    refine acall_of 2 Try.func13 rfl fun n out _ _ => ?_
    simp only [Try.ntmps13, List.length_cons, List.length_nil, List.length_map, List.length_replicate, rep_map, Nat.reduceAdd, Nat.reduceSub, List.replicate, List.cons_append, List.nil_append]
    repeat' (first | (with_reducible first | refine awp_seq_k fun K hK => ?_ | refine awp_ev tab_ok [] ?_ | refine awp_block_s ?_ | refine awp_block_c ?_ | refine awp_block_r ?_ | refine awp_skip ?_ | apply And.intro) | ((with_reducible first | refine gE ?_ | refine gR ?_); simp (maxSteps := 4000000) only [su, evLit, hbT, tab, thenA, blockA, reduceCtorEq, reduceIte, Nat.reduceEqDiff, Nat.reduceBEq, Int.reduceLE, Int.reduceToNat, Nat.reduceAdd, Nat.reduceLT, Nat.reduceLeDiff, dskA, dskC]) | (show (_ : Nat) = (_ : Nat); rfl) | ((with_reducible refine awp_ret ?_); refine ret_tmp (.inr rfl) rfl rfl rfl (fun _ _ => rfl) ?_ <;> first | rfl | skip) | (refine call_pure (cg) ?_) | (refine call_pure (c_alive06) ?_) | ((with_reducible refine gsel_case (fun hg => ?_) (fun hg => ?_)) <;> (try simp only [nb] at hg) <;> simp (maxSteps := 4000000) only [su, evLit, hbT, tab, thenA, blockA, reduceCtorEq, reduceIte, Nat.reduceEqDiff, Nat.reduceBEq, Int.reduceLE, Int.reduceToNat, Nat.reduceAdd, Nat.reduceLT, Nat.reduceLeDiff, hg, dskA, dskC]) | ((with_reducible refine awp_exit ?_); simp only [thenA, blockA, if_true, if_false, reduceIte, Nat.reduceEqDiff]) | (refine hK _ ?_; clear hK K) | refine awp_cond_t rfl ?_ | refine awp_cond_f rfl ?_ | refine awp_if rfl (fun hg => ?_) (fun hg => ?_) | clear hK K)
  · have g1 : great d = false := by simpa using g1
    rw [g1] at cg
    obtain ⟨hsm, hsw⟩ := small_of g1
    by_cases hw0 : d.waits = []
    · have hwl : d.waits.length = 0 := by rw [hw0]; rfl
      have c1 := c_slotFind d hsm.s hsm.w
      have c2 := c_spoil d hsm a b x
      obtain ⟨L, hL⟩ : ∃ L, L = findL d := ⟨_, rfl⟩
      rw [← hL] at c1
      by_cases hE : spoilE d a b = 0
      · obtain ⟨hm, ⟨ha1, ha2⟩, hb1, hb2⟩ := spoilE_0.1 hE
        obtain ⟨z, rfl⟩ := Int.eq_ofNat_of_zero_le ha1
        obtain ⟨y, rfl⟩ := Int.eq_ofNat_of_zero_le hb1
        have hz : z < 32 := by omega
        obtain ⟨T, hT⟩ : ∃ T : Dsk, T = ⟨turnS d.sectors z y x, d.waits⟩ := ⟨_, rfl⟩
        have eD : spoilD d z y x = T := by unfold spoilD; rw [if_pos hE, hT]; rfl
        have hmT : may T = true := by rw [hT]; exact turn_may hm x hz
        have c3 := c_slotFind T (may_small hmT).s (may_small hmT).w
        obtain ⟨M, hM⟩ : ∃ M, M = findL T := ⟨_, rfl⟩
        have oth : ∀ r : Rc, slotN r.gen ≠ z / 16 * 16 → (r ∈ M ↔ r ∈ L) := fun r hr => by
          rw [hM, hL, mem_find hmT, mem_find hm, hT, turn_other hm hw0 x hz (hT ▸ hmT) (slot_two _) hr]
        have hLl : L.length ≤ 2 := by rw [hL]; exact find_len _
        have hMl : M.length ≤ 2 := by rw [hM]; exact find_len _
        rw [hE, eD] at c2
        rw [hm] at c1
        rw [hmT, ← hM] at c3
        simp only [dskA, dskC, if_true] at c1 c2 c3
        have q1 : evInt .quo .i64 (z : Int) 16 = some (.int .i64 ((z / 16 : Nat) : Int)) := by
          rw [i_quo _ _ (by decide), show (z : Int).tdiv 16 = ((z / 16 : Nat) : Int) from rfl, wrap_i64 (by omega) (by omega)]
        have q2 : IntKind.i64.wrap (((z / 16 : Nat) : Int) * 16) = ((z / 16 * 16 : Nat) : Int) := by rw [wrap_i64 (by omega) (by omega)]; rfl
        clear hL hM hT hE eD
        refine acall_of 2 Try.func13 rfl fun n out _ _ => ?_
        simp only [Try.ntmps13, List.length_cons, List.length_nil, List.length_map, List.length_replicate, rep_map, Nat.reduceAdd, Nat.reduceSub, List.replicate, List.cons_append, List.nil_append]
        repeat' (first | (with_reducible first | refine awp_seq_k fun K hK => ?_ | refine awp_ev tab_ok [] ?_ | refine awp_block_s ?_ | refine awp_block_c ?_ | refine awp_block_r ?_ | refine awp_skip ?_ | apply And.intro) | ((with_reducible first | refine gE ?_ | refine gR ?_); simp (maxSteps := 4000000) only [su, evLit, hbT, tab, thenA, blockA, reduceCtorEq, reduceIte, Nat.reduceEqDiff, Nat.reduceBEq, Int.reduceLE, Int.reduceToNat, Nat.reduceAdd, Nat.reduceLT, Nat.reduceLeDiff, dskA, dskC, List.length_map, hwl, Int.reduceBNe, gt_iff_lt, Int.lt_irrefl, Int.cast_ofNat_Int]) | (show (_ : Nat) = (_ : Nat); rfl) | ((with_reducible refine awp_ret ?_); refine ret_tmp (.inr rfl) rfl rfl rfl (fun _ _ => rfl) ?_ <;> first | rfl | skip) | (refine call_pure (cg) ?_) | (refine call_pure (c_alive06) ?_) | (refine call_pure (c1) ?_) | (refine call_pure (c2) ?_) | (refine call_pure (c3) ?_) | ((with_reducible refine gsel_case (fun hg => ?_) (fun hg => ?_)) <;> (try simp only [nb] at hg) <;> simp (maxSteps := 4000000) only [su, evLit, hbT, tab, thenA, blockA, reduceCtorEq, reduceIte, Nat.reduceEqDiff, Nat.reduceBEq, Int.reduceLE, Int.reduceToNat, Nat.reduceAdd, Nat.reduceLT, Nat.reduceLeDiff, hg, dskA, dskC, List.length_map, hwl, Int.reduceBNe, gt_iff_lt, Int.lt_irrefl, Int.cast_ofNat_Int]) | ((with_reducible refine awp_exit ?_); simp only [thenA, blockA, if_true, if_false, reduceIte, Nat.reduceEqDiff]) | (refine hK _ ?_; clear hK K) | refine awp_cond_t rfl ?_ | refine awp_cond_f rfl ?_ | refine awp_if rfl (fun hg => ?_) (fun hg => ?_) | clear hK K)
        refine awp_block ?_
        refine awp_for_g (fun i : Nat => [(16, i64 (i : Int)), (8, .top), (59, .top), (60, .top), (61, .top), (62, .top), (63, .top), (64, .top), (65, .top), (66, .top), (67, .top), (68, .top), (69, .top), (70, .top), (71, .top), (72, .top), (73, .top), (74, .top), (75, .top), (76, .top), (77, .top), (78, .top), (79, .top), (80, .top), (81, .top), (82, .top), (83, .top)]) (fun i => [some (.box 25 (dskC d)), some (.box 25 (dskC T))]) (fun i => out) (fun i => i ≤ L.length) (fun i => L.length - i) 0 (Nat.zero_le _) ?_ fun i hi => ?_
        · refine le_of_all ?_ ?_ (by first | rfl | (simp only [dskC]; rfl) | simp only [dskC]) rfl rfl rfl <;> simp only [patch, sl, dskC]
        simp only [patch, s_0, s_s]
        have hw := addw (n := i) 1 1 rfl (by omega)
        by_cases hlt : i < L.length
        · have gi := getD_map rcC L i [] hlt
          have cs := c_slot L[i].gen
          have ca := c_among M L[i] (by omega)
          simp only [rcA, rcC] at ca
          by_cases hne : slotN L[i].gen = z / 16 * 16
          · rw [hne] at cs
            repeat' (first | (with_reducible first | refine awp_seq_k fun K hK => ?_ | refine awp_ev tab_ok [] ?_ | refine awp_block_s ?_ | refine awp_block_c ?_ | refine awp_block_r ?_ | refine awp_skip ?_ | apply And.intro) | ((with_reducible first | refine gE ?_ | refine gR ?_); simp (maxSteps := 4000000) only [su, evLit, hbT, tab, thenA, blockA, reduceCtorEq, reduceIte, Nat.reduceEqDiff, Nat.reduceBEq, Int.reduceLE, Int.reduceToNat, Nat.reduceAdd, Nat.reduceLT, Nat.reduceLeDiff, dskC, List.length_map, hlt, gi, rcC, pick_cons, q1, q2, bne_self_eq_false, hw]) | (show (_ : Nat) = (_ : Nat); rfl) | ((with_reducible refine awp_ret ?_); refine ret_tmp (.inr rfl) rfl rfl rfl (fun _ _ => rfl) ?_ <;> first | rfl | skip) | (refine call_pure (cs) ?_) | ((with_reducible refine gsel_case (fun hg => ?_) (fun hg => ?_)) <;> (try simp only [nb] at hg) <;> simp (maxSteps := 4000000) only [su, evLit, hbT, tab, thenA, blockA, reduceCtorEq, reduceIte, Nat.reduceEqDiff, Nat.reduceBEq, Int.reduceLE, Int.reduceToNat, Nat.reduceAdd, Nat.reduceLT, Nat.reduceLeDiff, hg, dskC, List.length_map, hlt, gi, rcC, pick_cons, q1, q2, bne_self_eq_false, hw]) | ((with_reducible refine awp_exit ?_); simp only [thenA, blockA, if_true, if_false, reduceIte, Nat.reduceEqDiff]) | (refine hK _ ?_; clear hK K) | refine awp_cond_t rfl ?_ | refine awp_cond_f rfl ?_ | refine awp_if rfl (fun hg => ?_) (fun hg => ?_) | clear hK K)
            refine ⟨i + 1, by omega, by omega, ?_⟩
            refine le_of_all ?_ ?_ rfl rfl rfl rfl <;> simp only [patch, sl, dskC, List.length_map, hlt, decide_true]
          · have hb : ((slotN L[i].gen : Int) != ((z / 16 * 16 : Nat) : Int)) = true := by rw [bne_iff_ne]; omega
            rw [(among_iff M L[i]).2 ((oth _ hne).2 (List.getElem_mem hlt))] at ca
            repeat' (first | (with_reducible first | refine awp_seq_k fun K hK => ?_ | refine awp_ev tab_ok [] ?_ | refine awp_block_s ?_ | refine awp_block_c ?_ | refine awp_block_r ?_ | refine awp_skip ?_ | apply And.intro) | ((with_reducible first | refine gE ?_ | refine gR ?_); simp (maxSteps := 4000000) only [su, evLit, hbT, tab, thenA, blockA, reduceCtorEq, reduceIte, Nat.reduceEqDiff, Nat.reduceBEq, Int.reduceLE, Int.reduceToNat, Nat.reduceAdd, Nat.reduceLT, Nat.reduceLeDiff, dskC, List.length_map, hlt, gi, rcC, pick_cons, q1, q2, hb, hw, Bool.not_true]) | (show (_ : Nat) = (_ : Nat); rfl) | ((with_reducible refine awp_ret ?_); refine ret_tmp (.inr rfl) rfl rfl rfl (fun _ _ => rfl) ?_ <;> first | rfl | skip) | (refine call_pure (cs) ?_) | (refine call_pure (ca) ?_) | ((with_reducible refine gsel_case (fun hg => ?_) (fun hg => ?_)) <;> (try simp only [nb] at hg) <;> simp (maxSteps := 4000000) only [su, evLit, hbT, tab, thenA, blockA, reduceCtorEq, reduceIte, Nat.reduceEqDiff, Nat.reduceBEq, Int.reduceLE, Int.reduceToNat, Nat.reduceAdd, Nat.reduceLT, Nat.reduceLeDiff, hg, dskC, List.length_map, hlt, gi, rcC, pick_cons, q1, q2, hb, hw, Bool.not_true]) | ((with_reducible refine awp_exit ?_); simp only [thenA, blockA, if_true, if_false, reduceIte, Nat.reduceEqDiff]) | (refine hK _ ?_; clear hK K) | refine awp_cond_t rfl ?_ | refine awp_cond_f rfl ?_ | refine awp_if rfl (fun hg => ?_) (fun hg => ?_) | clear hK K)
            refine ⟨i + 1, by omega, by omega, ?_⟩
            refine le_of_all ?_ ?_ rfl rfl rfl rfl <;> simp only [patch, sl, dskC, List.length_map, hlt, decide_true]
        · obtain rfl : i = L.length := by omega
          repeat' (first | (with_reducible first | refine awp_seq_k fun K hK => ?_ | refine awp_ev tab_ok [] ?_ | refine awp_block_s ?_ | refine awp_block_c ?_ | refine awp_block_r ?_ | refine awp_skip ?_ | apply And.intro) | ((with_reducible first | refine gE ?_ | refine gR ?_); simp (maxSteps := 4000000) only [su, evLit, hbT, tab, thenA, blockA, reduceCtorEq, reduceIte, Nat.reduceEqDiff, Nat.reduceBEq, Int.reduceLE, Int.reduceToNat, Nat.reduceAdd, Nat.reduceLT, Nat.reduceLeDiff, dskC, List.length_map, hlt]) | (show (_ : Nat) = (_ : Nat); rfl) | ((with_reducible refine awp_ret ?_); refine ret_tmp (.inr rfl) rfl rfl rfl (fun _ _ => rfl) ?_ <;> first | rfl | skip) | ((with_reducible refine gsel_case (fun hg => ?_) (fun hg => ?_)) <;> (try simp only [nb] at hg) <;> simp (maxSteps := 4000000) only [su, evLit, hbT, tab, thenA, blockA, reduceCtorEq, reduceIte, Nat.reduceEqDiff, Nat.reduceBEq, Int.reduceLE, Int.reduceToNat, Nat.reduceAdd, Nat.reduceLT, Nat.reduceLeDiff, hg, dskC, List.length_map, hlt]) | ((with_reducible refine awp_exit ?_); simp only [thenA, blockA, if_true, if_false, reduceIte, Nat.reduceEqDiff]) | (refine hK _ ?_; clear hK K) | refine awp_cond_t rfl ?_ | refine awp_cond_f rfl ?_ | refine awp_if rfl (fun hg => ?_) (fun hg => ?_) | clear hK K)
          refine awp_block ?_
          refine awp_for_g (fun i : Nat => [(17, i64 (i : Int)), (8, .top), (84, .top), (85, .top), (86, .top), (87, .top), (88, .top), (89, .top), (90, .top), (91, .top), (92, .top), (93, .top), (94, .top), (95, .top), (96, .top), (97, .top), (98, .top), (99, .top), (100, .top), (101, .top), (102, .top), (103, .top), (104, .top), (105, .top), (106, .top), (107, .top), (108, .top)]) (fun i => [some (.box 25 (dskC d)), some (.box 25 (dskC T))]) (fun i => out) (fun i => i ≤ M.length) (fun i => M.length - i) 0 (Nat.zero_le _) ?_ fun i hi => ?_
          · refine le_of_all ?_ ?_ (by first | rfl | (simp only [dskC]; rfl) | simp only [dskC]) rfl rfl rfl <;> simp only [patch, sl, dskC]
          simp only [patch, s_0, s_s]
          have hw := addw (n := i) 1 1 rfl (by omega)
          by_cases hlt : i < M.length
          · have gi := getD_map rcC M i [] hlt
            have cs := c_slot M[i].gen
            have ca := c_among L M[i] (by omega)
            simp only [rcA, rcC] at ca
            by_cases hne : slotN M[i].gen = z / 16 * 16
            · rw [hne] at cs
              repeat' (first | (with_reducible first | refine awp_seq_k fun K hK => ?_ | refine awp_ev tab_ok [] ?_ | refine awp_block_s ?_ | refine awp_block_c ?_ | refine awp_block_r ?_ | refine awp_skip ?_ | apply And.intro) | ((with_reducible first | refine gE ?_ | refine gR ?_); simp (maxSteps := 4000000) only [su, evLit, hbT, tab, thenA, blockA, reduceCtorEq, reduceIte, Nat.reduceEqDiff, Nat.reduceBEq, Int.reduceLE, Int.reduceToNat, Nat.reduceAdd, Nat.reduceLT, Nat.reduceLeDiff, dskC, List.length_map, hlt, gi, rcC, pick_cons, q1, q2, bne_self_eq_false, hw]) | (show (_ : Nat) = (_ : Nat); rfl) | ((with_reducible refine awp_ret ?_); refine ret_tmp (.inr rfl) rfl rfl rfl (fun _ _ => rfl) ?_ <;> first | rfl | skip) | (refine call_pure (cs) ?_) | ((with_reducible refine gsel_case (fun hg => ?_) (fun hg => ?_)) <;> (try simp only [nb] at hg) <;> simp (maxSteps := 4000000) only [su, evLit, hbT, tab, thenA, blockA, reduceCtorEq, reduceIte, Nat.reduceEqDiff, Nat.reduceBEq, Int.reduceLE, Int.reduceToNat, Nat.reduceAdd, Nat.reduceLT, Nat.reduceLeDiff, hg, dskC, List.length_map, hlt, gi, rcC, pick_cons, q1, q2, bne_self_eq_false, hw]) | ((with_reducible refine awp_exit ?_); simp only [thenA, blockA, if_true, if_false, reduceIte, Nat.reduceEqDiff]) | (refine hK _ ?_; clear hK K) | refine awp_cond_t rfl ?_ | refine awp_cond_f rfl ?_ | refine awp_if rfl (fun hg => ?_) (fun hg => ?_) | clear hK K)
              refine ⟨i + 1, by omega, by omega, ?_⟩
              refine le_of_all ?_ ?_ rfl rfl rfl rfl <;> simp only [patch, sl, dskC, List.length_map, hlt, decide_true]
            · have hb : ((slotN M[i].gen : Int) != ((z / 16 * 16 : Nat) : Int)) = true := by rw [bne_iff_ne]; omega
              rw [(among_iff L M[i]).2 ((oth _ hne).1 (List.getElem_mem hlt))] at ca
              repeat' (first | (with_reducible first | refine awp_seq_k fun K hK => ?_ | refine awp_ev tab_ok [] ?_ | refine awp_block_s ?_ | refine awp_block_c ?_ | refine awp_block_r ?_ | refine awp_skip ?_ | apply And.intro) | ((with_reducible first | refine gE ?_ | refine gR ?_); simp (maxSteps := 4000000) only [su, evLit, hbT, tab, thenA, blockA, reduceCtorEq, reduceIte, Nat.reduceEqDiff, Nat.reduceBEq, Int.reduceLE, Int.reduceToNat, Nat.reduceAdd, Nat.reduceLT, Nat.reduceLeDiff, dskC, List.length_map, hlt, gi, rcC, pick_cons, q1, q2, hb, hw, Bool.not_true]) | (show (_ : Nat) = (_ : Nat); rfl) | ((with_reducible refine awp_ret ?_); refine ret_tmp (.inr rfl) rfl rfl rfl (fun _ _ => rfl) ?_ <;> first | rfl | skip) | (refine call_pure (cs) ?_) | (refine call_pure (ca) ?_) | ((with_reducible refine gsel_case (fun hg => ?_) (fun hg => ?_)) <;> (try simp only [nb] at hg) <;> simp (maxSteps := 4000000) only [su, evLit, hbT, tab, thenA, blockA, reduceCtorEq, reduceIte, Nat.reduceEqDiff, Nat.reduceBEq, Int.reduceLE, Int.reduceToNat, Nat.reduceAdd, Nat.reduceLT, Nat.reduceLeDiff, hg, dskC, List.length_map, hlt, gi, rcC, pick_cons, q1, q2, hb, hw, Bool.not_true]) | ((with_reducible refine awp_exit ?_); simp only [thenA, blockA, if_true, if_false, reduceIte, Nat.reduceEqDiff]) | (refine hK _ ?_; clear hK K) | refine awp_cond_t rfl ?_ | refine awp_cond_f rfl ?_ | refine awp_if rfl (fun hg => ?_) (fun hg => ?_) | clear hK K)
              refine ⟨i + 1, by omega, by omega, ?_⟩
              refine le_of_all ?_ ?_ rfl rfl rfl rfl <;> simp only [patch, sl, dskC, List.length_map, hlt, decide_true]
          · obtain rfl : i = M.length := by omega
            repeat' (first | (with_reducible first | refine awp_seq_k fun K hK => ?_ | refine awp_ev tab_ok [] ?_ | refine awp_block_s ?_ | refine awp_block_c ?_ | refine awp_block_r ?_ | refine awp_skip ?_ | apply And.intro) | ((with_reducible first | refine gE ?_ | refine gR ?_); simp (maxSteps := 4000000) only [su, evLit, hbT, tab, thenA, blockA, reduceCtorEq, reduceIte, Nat.reduceEqDiff, Nat.reduceBEq, Int.reduceLE, Int.reduceToNat, Nat.reduceAdd, Nat.reduceLT, Nat.reduceLeDiff, dskC, List.length_map, hlt]) | (show (_ : Nat) = (_ : Nat); rfl) | ((with_reducible refine awp_ret ?_); refine ret_tmp (.inr rfl) rfl rfl rfl (fun _ _ => rfl) ?_ <;> first | rfl | skip) | ((with_reducible refine gsel_case (fun hg => ?_) (fun hg => ?_)) <;> (try simp only [nb] at hg) <;> simp (maxSteps := 4000000) only [su, evLit, hbT, tab, thenA, blockA, reduceCtorEq, reduceIte, Nat.reduceEqDiff, Nat.reduceBEq, Int.reduceLE, Int.reduceToNat, Nat.reduceAdd, Nat.reduceLT, Nat.reduceLeDiff, hg, dskC, List.length_map, hlt]) | ((with_reducible refine awp_exit ?_); simp only [thenA, blockA, if_true, if_false, reduceIte, Nat.reduceEqDiff]) | (refine hK _ ?_; clear hK K) | refine awp_cond_t rfl ?_ | refine awp_cond_f rfl ?_ | refine awp_if rfl (fun hg => ?_) (fun hg => ?_) | clear hK K)
      · have hEb : (spoilE d a b != 0) = true := by simpa using hE
        cases hm : may d with
        | false =>
          rw [hm] at c1
          simp only [dskA, dskC, Bool.false_eq_true, if_false] at c1 c2
          refine acall_of 2 Try.func13 rfl fun n out _ _ => ?_
          simp only [Try.ntmps13, List.length_cons, List.length_nil, List.length_map, List.length_replicate, rep_map, Nat.reduceAdd, Nat.reduceSub, List.replicate, List.cons_append, List.nil_append]
          repeat' (first | (with_reducible first | refine awp_seq_k fun K hK => ?_ | refine awp_ev tab_ok [] ?_ | refine awp_block_s ?_ | refine awp_block_c ?_ | refine awp_block_r ?_ | refine awp_skip ?_ | apply And.intro) | ((with_reducible first | refine gE ?_ | refine gR ?_); simp (maxSteps := 4000000) only [su, evLit, hbT, tab, thenA, blockA, reduceCtorEq, reduceIte, Nat.reduceEqDiff, Nat.reduceBEq, Int.reduceLE, Int.reduceToNat, Nat.reduceAdd, Nat.reduceLT, Nat.reduceLeDiff, dskA, dskC, List.length_map, hwl, Int.reduceBNe, gt_iff_lt, Int.lt_irrefl, Int.cast_ofNat_Int]) | (show (_ : Nat) = (_ : Nat); rfl) | ((with_reducible refine awp_ret ?_); refine ret_tmp (.inr rfl) rfl rfl rfl (fun _ _ => rfl) ?_ <;> first | rfl | skip) | (refine call_pure (cg) ?_) | (refine call_pure (c_alive06) ?_) | (refine call_pure (c1) ?_) | (refine call_pure (c2) ?_) | ((with_reducible refine gsel_case (fun hg => ?_) (fun hg => ?_)) <;> (try simp only [nb] at hg) <;> simp (maxSteps := 4000000) only [su, evLit, hbT, tab, thenA, blockA, reduceCtorEq, reduceIte, Nat.reduceEqDiff, Nat.reduceBEq, Int.reduceLE, Int.reduceToNat, Nat.reduceAdd, Nat.reduceLT, Nat.reduceLeDiff, hg, dskA, dskC, List.length_map, hwl, Int.reduceBNe, gt_iff_lt, Int.lt_irrefl, Int.cast_ofNat_Int]) | ((with_reducible refine awp_exit ?_); simp only [thenA, blockA, if_true, if_false, reduceIte, Nat.reduceEqDiff]) | (refine hK _ ?_; clear hK K) | refine awp_cond_t rfl ?_ | refine awp_cond_f rfl ?_ | refine awp_if rfl (fun hg => ?_) (fun hg => ?_) | clear hK K)
        | true =>
          rw [hm] at c1
          simp only [dskA, dskC, if_true] at c1 c2
          refine acall_of 2 Try.func13 rfl fun n out _ _ => ?_
          simp only [Try.ntmps13, List.length_cons, List.length_nil, List.length_map, List.length_replicate, rep_map, Nat.reduceAdd, Nat.reduceSub, List.replicate, List.cons_append, List.nil_append]
          repeat' (first | (with_reducible first | refine awp_seq_k fun K hK => ?_ | refine awp_ev tab_ok [] ?_ | refine awp_block_s ?_ | refine awp_block_c ?_ | refine awp_block_r ?_ | refine awp_skip ?_ | apply And.intro) | ((with_reducible first | refine gE ?_ | refine gR ?_); simp (maxSteps := 4000000) only [su, evLit, hbT, tab, thenA, blockA, reduceCtorEq, reduceIte, Nat.reduceEqDiff, Nat.reduceBEq, Int.reduceLE, Int.reduceToNat, Nat.reduceAdd, Nat.reduceLT, Nat.reduceLeDiff, dskA, dskC, List.length_map, hwl, hEb, Int.reduceBNe, gt_iff_lt, Int.lt_irrefl, Int.cast_ofNat_Int]) | (show (_ : Nat) = (_ : Nat); rfl) | ((with_reducible refine awp_ret ?_); refine ret_tmp (.inr rfl) rfl rfl rfl (fun _ _ => rfl) ?_ <;> first | rfl | skip) | (refine call_pure (cg) ?_) | (refine call_pure (c_alive06) ?_) | (refine call_pure (c1) ?_) | (refine call_pure (c2) ?_) | ((with_reducible refine gsel_case (fun hg => ?_) (fun hg => ?_)) <;> (try simp only [nb] at hg) <;> simp (maxSteps := 4000000) only [su, evLit, hbT, tab, thenA, blockA, reduceCtorEq, reduceIte, Nat.reduceEqDiff, Nat.reduceBEq, Int.reduceLE, Int.reduceToNat, Nat.reduceAdd, Nat.reduceLT, Nat.reduceLeDiff, hg, dskA, dskC, List.length_map, hwl, hEb, Int.reduceBNe, gt_iff_lt, Int.lt_irrefl, Int.cast_ofNat_Int]) | ((with_reducible refine awp_exit ?_); simp only [thenA, blockA, if_true, if_false, reduceIte, Nat.reduceEqDiff]) | (refine hK _ ?_; clear hK K) | refine awp_cond_t rfl ?_ | refine awp_cond_f rfl ?_ | refine awp_if rfl (fun hg => ?_) (fun hg => ?_) | clear hK K)
    · have hwl : 0 < (d.waits.length : Int) := by have := List.length_pos_iff.2 hw0; omega
      refine acall_of 2 Try.func13 rfl fun n out _ _ => ?_
      simp only [Try.ntmps13, List.length_cons, List.length_nil, List.length_map, List.length_replicate, rep_map, Nat.reduceAdd, Nat.reduceSub, List.replicate, List.cons_append, List.nil_append]
      repeat' (first | (with_reducible first | refine awp_seq_k fun K hK => ?_ | refine awp_ev tab_ok [] ?_ | refine awp_block_s ?_ | refine awp_block_c ?_ | refine awp_block_r ?_ | refine awp_skip ?_ | apply And.intro) | ((with_reducible first | refine gE ?_ | refine gR ?_); simp (maxSteps := 4000000) only [su, evLit, hbT, tab, thenA, blockA, reduceCtorEq, reduceIte, Nat.reduceEqDiff, Nat.reduceBEq, Int.reduceLE, Int.reduceToNat, Nat.reduceAdd, Nat.reduceLT, Nat.reduceLeDiff, dskA, dskC, List.length_map, hwl, gt_iff_lt]) | (show (_ : Nat) = (_ : Nat); rfl) | ((with_reducible refine awp_ret ?_); refine ret_tmp (.inr rfl) rfl rfl rfl (fun _ _ => rfl) ?_ <;> first | rfl | skip) | (refine call_pure (cg) ?_) | (refine call_pure (c_alive06) ?_) | ((with_reducible refine gsel_case (fun hg => ?_) (fun hg => ?_)) <;> (try simp only [nb] at hg) <;> simp (maxSteps := 4000000) only [su, evLit, hbT, tab, thenA, blockA, reduceCtorEq, reduceIte, Nat.reduceEqDiff, Nat.reduceBEq, Int.reduceLE, Int.reduceToNat, Nat.reduceAdd, Nat.reduceLT, Nat.reduceLeDiff, hg, dskA, dskC, List.length_map, hwl, gt_iff_lt]) | ((with_reducible refine awp_exit ?_); simp only [thenA, blockA, if_true, if_false, reduceIte, Nat.reduceEqDiff]) | (refine hK _ ?_; clear hK K) | refine awp_cond_t rfl ?_ | refine awp_cond_f rfl ?_ | refine awp_if rfl (fun hg => ?_) (fun hg => ?_) | clear hK K)
end Go.Proofs.Ytefkjdkalgemeaa
