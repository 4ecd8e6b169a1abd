/-
  Records put to their slot.
-/
import Derived.Test.YtefkjdkalgemeaaZGA
import Derived.Test.YtefkjdkalgemeaaZE7
namespace Go.Proofs.Ytefkjdkalgemeaa
set_option linter.unusedVariables false
set_option linter.unusedSimpArgs false
open Go Go.VS Tab
set_option maxHeartbeats 8000000
set_option maxRecDepth 8000
def stP (d : Dsk) (r : Rc) (i : Nat) : Dsk := ⟨d.sectors, d.waits ++ (recW r).take i⟩
theorem recW_at (r : Rc) {i : Nat} (h : i < manyB r) : (recW r)[i]'(by rw [recW_len]; exact h) = ⟨((slotN r.gen + i : Nat) : Int), secB r i⟩ := by unfold recW; simp
theorem stP_succ (d : Dsk) (r : Rc) {i : Nat} (h : i < manyB r) : wrote (stP d r i) ((slotN r.gen + i : Nat) : Int) (secB r i) = stP d r (i + 1) := by
  unfold wrote stP
  rw [List.take_succ_eq_append_getElem (by rw [recW_len]; exact h), recW_at r h, List.append_assoc]
theorem stP_len (d : Dsk) (r : Rc) {i : Nat} (h : i ≤ manyB r) : (stP d r i).waits.length = d.waits.length + i := by
  unfold stP
  simp only [List.length_append, List.length_take, recW_len]; omega
theorem stP_may {d : Dsk} (hd : may d = true) {r : Rc} (hr : manyB r ≤ 16) {i : Nat} (h : i ≤ manyB r) (hw : d.waits.length + i ≤ 256) : may (stP d r i) = true := by
  obtain ⟨d1, d2, d3, d4⟩ := (may_iff d).1 hd
  refine (may_iff _).2 ⟨d1, by rw [stP_len d r h]; exact hw, d3, fun w hw => ?_⟩
  rcases List.mem_append.1 hw with h | h
  · exact d4 w h
  · exact recW_may hr w (List.mem_of_mem_take h)
theorem stP_writeE {d : Dsk} (hd : may d = true) {r : Rc} (hr : manyB r ≤ 16) {i : Nat} (h : i < manyB r) (hw : d.waits.length + i ≤ 256) :
    writeE (stP d r i) ((slotN r.gen + i : Nat) : Int) (secB r i) = if d.waits.length + i = 256 then 9 else 0 := by
  have hs := slot_le r.gen
  unfold writeE
  rw [stP_may hd hr (Nat.le_of_lt h) hw, if_pos rfl, if_pos (by simp; omega), if_pos (sec_len r h), stP_len d r (Nat.le_of_lt h)]
theorem stP_0 (d : Dsk) (r : Rc) : stP d r 0 = d := by unfold stP; simp
theorem may_small {d : Dsk} (hd : may d = true) : Small d := by
  obtain ⟨d1, d2, d3, d4⟩ := (may_iff d).1 hd
  exact ⟨by omega, by omega, fun b hb => by rw [d3 b hb]; decide, fun w hw => by rw [(d4 w hw).2.2]; decide⟩
theorem gen_zero (g : BitVec 32) : ((g.toNat : Int) == 0) = decide (g = 0) := by
  rw [Bool.eq_iff_iff, beq_iff_eq, decide_eq_true_eq]
  constructor
  · intro h
    exact BitVec.eq_of_toNat_eq (by have e : (0 : BitVec 32).toNat = 0 := rfl; omega)
  · intro h
    rw [h]; rfl
theorem c_slotPut' (d : Dsk) (r : Rc) (h1 : d.sectors.length ≤ 1000) (h2 : d.waits.length ≤ 1000) : ACall Try.prog 43 [dskA d, rcA r] [] (.tup [dskA (putD d r), i64 (putE d r)]) [] := by
  have cc := c_check d h1 h2
  have csl := c_slot r.gen
  have hg := gen_zero r.gen
  have bad : ∀ e, e ≠ 0 → putE d r = e → putD d r = noDsk := fun e he h => by unfold putD; rw [h, if_neg he]
  simp only [dskA, dskC] at cc
  cases hm : may d with
  | false =>
    have hE : putE d r = 8 := putE_may r hm
    rw [bad 8 (by decide) hE, hE]
    rw [hm] at cc
    simp only [Bool.false_eq_true, if_false] at cc
    refine acall_of 3 Try.func43 rfl fun n out _ _ => ?_
    simp only [Try.ntmps43, List.length_cons, List.length_nil, List.length_map, List.length_replicate, rep_map, Nat.reduceAdd, Nat.reduceSub, List.replicate, List.cons_append, List.nil_append]
    repeat' (first | (with_reducible first | refine awp_seq_k fun K hK => ?_ | refine awp_ev tab_ok [] ?_ | refine awp_block_s ?_ | refine awp_block_c ?_ | refine awp_block_r ?_ | refine awp_skip ?_ | apply And.intro | refine awp_ev_quiet tab_ok follows (by kernel_rfl) ?_) | ((with_reducible first | refine gE ?_ | refine gR ?_); simp (maxSteps := 4000000) only [su, evLit, hbT, tab, thenA, blockA, reduceCtorEq, reduceIte, Nat.reduceEqDiff, Nat.reduceBEq, Int.reduceLE, Int.reduceToNat, Nat.reduceAdd, Nat.reduceLT, Nat.reduceLeDiff, dskA, dskC, noDsk, rcA, rcC, Int.reduceBNe]) | (show (_ : Nat) = (_ : Nat); rfl) | ((with_reducible refine awp_ret ?_); (first | refine ret_ct (.inr rfl) rfl rfl rfl (fun _ _ => rfl) ok25 (k := n + 2) (off := 0) rfl (dom_loc _ (by simp)) (look_loc _ (Nat.le_refl _) 2) rfl rfl ?_ | refine ret_ct (.inr rfl) rfl rfl rfl (fun _ _ => rfl) ok25 (k := m + 2) (off := 0) rfl (dom_loc _ (by simp)) (look_loc _ hm 2) rfl rfl ?_) <;> first | rfl | exact AV.le.rfl _ | (simp only [patch, sl, ti25, List.map_nil, dskA, dskC, noDsk, rcA, rcC, Int.reduceBNe]; done) | rfl | skip) | (refine call_pure (cc) ?_) | ((with_reducible refine awp_exit ?_); simp only [thenA, blockA, if_true, if_false, reduceIte, Nat.reduceEqDiff]) | (refine hK _ ?_; clear hK K) | refine awp_cond_t rfl ?_ | refine awp_cond_f rfl ?_ | refine awp_if rfl (fun hg => ?_) (fun hg => ?_) | clear hK K)
  | true =>
    rw [hm] at cc
    simp only [if_true] at cc
    by_cases h0 : r.gen = 0
    · have hE : putE d r = 2 := by unfold putE; rw [hm, if_pos rfl, if_pos h0]
      rw [bad 2 (by decide) hE, hE]
      refine acall_of 3 Try.func43 rfl fun n out _ _ => ?_
      simp only [Try.ntmps43, List.length_cons, List.length_nil, List.length_map, List.length_replicate, rep_map, Nat.reduceAdd, Nat.reduceSub, List.replicate, List.cons_append, List.nil_append]
      repeat' (first | (with_reducible first | refine awp_seq_k fun K hK => ?_ | refine awp_ev tab_ok [] ?_ | refine awp_block_s ?_ | refine awp_block_c ?_ | refine awp_block_r ?_ | refine awp_skip ?_ | apply And.intro | refine awp_ev_quiet tab_ok follows (by kernel_rfl) ?_) | ((with_reducible first | refine gE ?_ | refine gR ?_); simp (maxSteps := 4000000) only [su, evLit, hbT, tab, thenA, blockA, reduceCtorEq, reduceIte, Nat.reduceEqDiff, Nat.reduceBEq, Int.reduceLE, Int.reduceToNat, Nat.reduceAdd, Nat.reduceLT, Nat.reduceLeDiff, dskA, dskC, noDsk, rcA, rcC, Int.reduceBNe, hg, h0]) | (show (_ : Nat) = (_ : Nat); rfl) | ((with_reducible refine awp_ret ?_); (first | refine ret_ct (.inr rfl) rfl rfl rfl (fun _ _ => rfl) ok25 (k := n + 2) (off := 0) rfl (dom_loc _ (by simp)) (look_loc _ (Nat.le_refl _) 2) rfl rfl ?_ | refine ret_ct (.inr rfl) rfl rfl rfl (fun _ _ => rfl) ok25 (k := m + 2) (off := 0) rfl (dom_loc _ (by simp)) (look_loc _ hm 2) rfl rfl ?_) <;> first | rfl | exact AV.le.rfl _ | (simp only [patch, sl, ti25, List.map_nil, dskA, dskC, noDsk, rcA, rcC, Int.reduceBNe, hg, h0]; done) | rfl | skip) | (refine call_pure (cc) ?_) | ((with_reducible refine awp_exit ?_); simp only [thenA, blockA, if_true, if_false, reduceIte, Nat.reduceEqDiff]) | (refine hK _ ?_; clear hK K) | refine awp_cond_t rfl ?_ | refine awp_cond_f rfl ?_ | refine awp_if rfl (fun hg => ?_) (fun hg => ?_) | clear hK K)
    · by_cases hlt0 : 1882 < r.text.length
      · have hE : putE d r = 3 := by unfold putE; rw [hm, if_pos rfl, if_neg h0, if_pos hlt0]
        have hgt : decide ((r.text.length : Int) > 1882) = true := decide_eq_true (by omega)
        rw [bad 3 (by decide) hE, hE]
        refine acall_of 3 Try.func43 rfl fun n out _ _ => ?_
        simp only [Try.ntmps43, List.length_cons, List.length_nil, List.length_map, List.length_replicate, rep_map, Nat.reduceAdd, Nat.reduceSub, List.replicate, List.cons_append, List.nil_append]
        repeat' (first | (with_reducible first | refine awp_seq_k fun K hK => ?_ | refine awp_ev tab_ok [] ?_ | refine awp_block_s ?_ | refine awp_block_c ?_ | refine awp_block_r ?_ | refine awp_skip ?_ | apply And.intro | refine awp_ev_quiet tab_ok follows (by kernel_rfl) ?_) | ((with_reducible first | refine gE ?_ | refine gR ?_); simp (maxSteps := 4000000) only [su, evLit, hbT, tab, thenA, blockA, reduceCtorEq, reduceIte, Nat.reduceEqDiff, Nat.reduceBEq, Int.reduceLE, Int.reduceToNat, Nat.reduceAdd, Nat.reduceLT, Nat.reduceLeDiff, dskA, dskC, noDsk, rcA, rcC, Int.reduceBNe, hg, h0, bytes_length, hgt]) | (show (_ : Nat) = (_ : Nat); rfl) | ((with_reducible refine awp_ret ?_); (first | refine ret_ct (.inr rfl) rfl rfl rfl (fun _ _ => rfl) ok25 (k := n + 2) (off := 0) rfl (dom_loc _ (by simp)) (look_loc _ (Nat.le_refl _) 2) rfl rfl ?_ | refine ret_ct (.inr rfl) rfl rfl rfl (fun _ _ => rfl) ok25 (k := m + 2) (off := 0) rfl (dom_loc _ (by simp)) (look_loc _ hm 2) rfl rfl ?_) <;> first | rfl | exact AV.le.rfl _ | (simp only [patch, sl, ti25, List.map_nil, dskA, dskC, noDsk, rcA, rcC, Int.reduceBNe, hg, h0, bytes_length, hgt]; done) | rfl | skip) | (refine call_pure (cc) ?_) | ((with_reducible refine awp_exit ?_); simp only [thenA, blockA, if_true, if_false, reduceIte, Nat.reduceEqDiff]) | (refine hK _ ?_; clear hK K) | refine awp_cond_t rfl ?_ | refine awp_cond_f rfl ?_ | refine awp_if rfl (fun hg => ?_) (fun hg => ?_) | clear hK K)
      · have hgt : decide ((r.text.length : Int) > 1882) = false := decide_eq_false (by omega)
        have cs := c_sectors r (by omega)
        simp only [rcA, rcC] at cs
        have hmy := many_le (r := r) (by omega)
        have hsl := slot_le r.gen
        have h256 := ((may_iff d).1 hm).2.1
        refine acall_of 3 Try.func43 rfl fun n out _ _ => ?_
        simp only [Try.ntmps43, List.length_cons, List.length_nil, List.length_map, List.length_replicate, rep_map, Nat.reduceAdd, Nat.reduceSub, List.replicate, List.cons_append, List.nil_append]
        repeat' (first | (with_reducible first | refine awp_seq_k fun K hK => ?_ | refine awp_ev tab_ok [] ?_ | refine awp_block_s ?_ | refine awp_block_c ?_ | refine awp_block_r ?_ | refine awp_skip ?_ | apply And.intro | refine awp_ev_quiet tab_ok follows (by kernel_rfl) ?_) | ((with_reducible first | refine gE ?_ | refine gR ?_); simp (maxSteps := 4000000) only [su, evLit, hbT, tab, thenA, blockA, reduceCtorEq, reduceIte, Nat.reduceEqDiff, Nat.reduceBEq, Int.reduceLE, Int.reduceToNat, Nat.reduceAdd, Nat.reduceLT, Nat.reduceLeDiff, dskA, dskC, rcA, rcC, Int.reduceBNe, hg, h0, bytes_length, hgt, List.length_map, sectors_len]) | (show (_ : Nat) = (_ : Nat); rfl) | ((with_reducible refine awp_ret ?_); (first | refine ret_ct (.inr rfl) rfl rfl rfl (fun _ _ => rfl) ok25 (k := n + 2) (off := 0) rfl (dom_loc _ (by simp)) (look_loc _ (Nat.le_refl _) 2) rfl rfl ?_ | refine ret_ct (.inr rfl) rfl rfl rfl (fun _ _ => rfl) ok25 (k := m + 2) (off := 0) rfl (dom_loc _ (by simp)) (look_loc _ hm 2) rfl rfl ?_) <;> first | rfl | exact AV.le.rfl _ | (simp only [patch, sl, ti25, List.map_nil, dskA, dskC, rcA, rcC, Int.reduceBNe, hg, h0, bytes_length, hgt, List.length_map, sectors_len]; done) | rfl | skip) | (refine call_pure (cc) ?_) | (refine call_pure (cs) ?_) | ((with_reducible refine awp_exit ?_); simp only [thenA, blockA, if_true, if_false, reduceIte, Nat.reduceEqDiff]) | (refine hK _ ?_; clear hK K) | refine awp_cond_t rfl ?_ | refine awp_cond_f rfl ?_ | refine awp_if rfl (fun hg => ?_) (fun hg => ?_) | clear hK K)
        refine awp_block ?_
        refine awp_for_g (fun i : Nat => [(30, i64 (i : Int)), (5, .top), (6, .top), (7, .top), (8, .top), (31, .top), (32, .top), (33, .top), (34, .top), (35, .top), (36, .top), (37, .top), (38, .top), (39, .top), (40, .top), (41, .top), (42, .top), (43, .top), (44, .top), (45, .top), (46, .top), (47, .top), (48, .top), (49, .top), (50, .top)]) (fun i => [some (.box 25 (dskC (stP d r i))), some (.box 65 [w32 r.gen, bs r.text]), some (.box 25 [.sl 0 [] .nil, .sl 0 [] .nil])]) (fun i => out) (fun i => i ≤ (manyB r) ∧ d.waits.length + i ≤ 256) (fun i => (manyB r) - i) 0 ⟨Nat.zero_le _, by intros; omega⟩ ?_ fun i hi => ?_
        · refine le_of_all ?_ ?_ (by first | rfl | (simp only [stP_0, dskC]; rfl) | simp only [stP_0, dskC]) rfl rfl rfl <;> simp only [patch, sl, stP_0, dskC]
        obtain ⟨hi, hq⟩ := hi
        simp only [patch, s_0, s_s]
        have hw := addw (n := i) 1 1 rfl (by omega)
        by_cases hlt : i < manyB r
        · have hlt' : (i : Int) < (manyB r : Int) := by omega
          have hE := stP_writeE hm hmy hlt hq
          have gi := getD_map secC (sectorsB r) i [] (by rw [sectors_len]; exact hlt)
          have gs : (sectorsB r)[i]'(by rw [sectors_len]; exact hlt) = secB r i := by
            rw [← sectors_at r hlt]; simp [List.getD_eq_getElem?_getD, sectors_len, hlt]
          rw [gs] at gi
          have hws := addw (n := slotN r.gen) (i : Int) i rfl (by omega)
          have cw := c_write (stP d r i) ((slotN r.gen + i : Nat) : Int) (secB r i) (may_small (stP_may hm hmy (Nat.le_of_lt hlt) hq)) (by rw [sec_len r hlt]; decide)
          by_cases hf : d.waits.length + i = 256
          · rw [if_pos hf] at hE
            have hD : writeD (stP d r i) ((slotN r.gen + i : Nat) : Int) (secB r i) = noDsk := by unfold writeD; rw [hE, if_neg (by decide)]
            rw [hE, hD] at cw
            have hP : putE d r = 9 := by unfold putE; rw [hm, if_pos rfl, if_neg h0, if_neg hlt0, if_pos (by omega)]
            rw [bad 9 (by decide) hP, hP]
            simp only [dskA] at cw
            repeat' (first | (with_reducible first | refine awp_seq_k fun K hK => ?_ | refine awp_ev tab_ok [] ?_ | refine awp_block_s ?_ | refine awp_block_c ?_ | refine awp_block_r ?_ | refine awp_skip ?_ | apply And.intro | refine awp_ev_draw (id := 12) tab_ok [] [[0],[],[1],[],[],[],[],[],[],[],[],[0],[]] [[],[],[],[],[],[],[],[],[],[],[],[0],[]] follows (by kernel_rfl) (by decide) (by decide) (by kernel_rfl) ?_ | refine awp_ev_quiet tab_ok follows (by kernel_rfl) ?_) | ((with_reducible first | refine gE ?_ | refine gR ?_ | refine gD ?_ | refine gF ?_); simp (maxSteps := 4000000) only [su, evLit, hbT, tab, thenA, blockA, reduceCtorEq, reduceIte, Nat.reduceEqDiff, Nat.reduceBEq, Int.reduceLE, Int.reduceToNat, Nat.reduceAdd, Nat.reduceLT, Nat.reduceLeDiff, dskA, dskC, noDsk, Int.reduceBNe, List.length_map, sectors_len, hlt', gi, secC, hws]) | (show (_ : Nat) = (_ : Nat); rfl) | ((with_reducible refine awp_ret ?_); (first | refine ret_ct (.inr rfl) rfl rfl rfl (fun _ _ => rfl) ok25 (k := n + 2) (off := 0) rfl (dom_loc _ (by simp)) (look_loc _ (Nat.le_refl _) 2) rfl rfl ?_ | refine ret_ct (.inr rfl) rfl rfl rfl (fun _ _ => rfl) ok25 (k := m + 2) (off := 0) rfl (dom_loc _ (by simp)) (look_loc _ hm 2) rfl rfl ?_) <;> first | rfl | exact AV.le.rfl _ | (simp only [patch, sl, ti25, List.map_nil, dskA, dskC, noDsk, Int.reduceBNe, List.length_map, sectors_len, hlt', gi, secC, hws]; done) | rfl | skip) | (refine call_pure (csl) ?_) | (refine call_pure (cw) ?_) | ((with_reducible refine awp_exit ?_); simp only [thenA, blockA, if_true, if_false, reduceIte, Nat.reduceEqDiff]) | (refine hK _ ?_; clear hK K) | refine awp_cond_t rfl ?_ | refine awp_cond_f rfl ?_ | refine awp_if rfl (fun hg => ?_) (fun hg => ?_) | clear hK K)
            · omega
          · rw [if_neg hf] at hE
            have hD : writeD (stP d r i) ((slotN r.gen + i : Nat) : Int) (secB r i) = stP d r (i + 1) := by unfold writeD; rw [hE, if_pos rfl, stP_succ d r hlt]
            rw [hE, hD] at cw
            simp only [dskA] at cw
            repeat' (first | (with_reducible first | refine awp_seq_k fun K hK => ?_ | refine awp_ev tab_ok [] ?_ | refine awp_block_s ?_ | refine awp_block_c ?_ | refine awp_block_r ?_ | refine awp_skip ?_ | apply And.intro | refine awp_ev_draw (id := 12) tab_ok [] [[0],[],[1],[],[],[],[],[],[],[],[],[0],[]] [[],[],[],[],[],[],[],[],[],[],[],[0],[]] follows (by kernel_rfl) (by decide) (by decide) (by kernel_rfl) ?_ | refine awp_ev_quiet tab_ok follows (by kernel_rfl) ?_) | ((with_reducible first | refine gE ?_ | refine gR ?_ | refine gD ?_ | refine gF ?_); simp (maxSteps := 4000000) only [su, evLit, hbT, tab, thenA, blockA, reduceCtorEq, reduceIte, Nat.reduceEqDiff, Nat.reduceBEq, Int.reduceLE, Int.reduceToNat, Nat.reduceAdd, Nat.reduceLT, Nat.reduceLeDiff, dskA, dskC, Int.reduceBNe, List.length_map, sectors_len, hlt', gi, secC, hws, hw]) | (show (_ : Nat) = (_ : Nat); rfl) | ((with_reducible refine awp_ret ?_); (first | refine ret_ct (.inr rfl) rfl rfl rfl (fun _ _ => rfl) ok25 (k := n + 2) (off := 0) rfl (dom_loc _ (by simp)) (look_loc _ (Nat.le_refl _) 2) rfl rfl ?_ | refine ret_ct (.inr rfl) rfl rfl rfl (fun _ _ => rfl) ok25 (k := m + 2) (off := 0) rfl (dom_loc _ (by simp)) (look_loc _ hm 2) rfl rfl ?_) <;> first | rfl | exact AV.le.rfl _ | (simp only [patch, sl, ti25, List.map_nil, dskA, dskC, Int.reduceBNe, List.length_map, sectors_len, hlt', gi, secC, hws, hw]; done) | rfl | skip) | (refine call_pure (csl) ?_) | (refine call_pure (cw) ?_) | ((with_reducible refine awp_exit ?_); simp only [thenA, blockA, if_true, if_false, reduceIte, Nat.reduceEqDiff]) | (refine hK _ ?_; clear hK K) | refine awp_cond_t rfl ?_ | refine awp_cond_f rfl ?_ | refine awp_if rfl (fun hg => ?_) (fun hg => ?_) | clear hK K)
            · omega
            refine ⟨i + 1, ⟨by omega, by omega⟩, by omega, ?_⟩
            refine le_of_all ?_ ?_ rfl rfl rfl rfl <;> simp only [patch, sl, dskC, hlt', decide_true]
        · obtain rfl : i = manyB r := by omega
          have hP : putE d r = 0 := by unfold putE; rw [hm, if_pos rfl, if_neg h0, if_neg hlt0, if_neg (by omega)]
          have hD : putD d r = stP d r (manyB r) := by
            unfold putD stP
            rw [if_pos hP, List.take_of_length_le (by rw [recW_len]; exact Nat.le_refl _)]
          rw [hP, hD]
          repeat' (first | (with_reducible first | refine awp_seq_k fun K hK => ?_ | refine awp_ev tab_ok [] ?_ | refine awp_block_s ?_ | refine awp_block_c ?_ | refine awp_block_r ?_ | refine awp_skip ?_ | apply And.intro | refine awp_ev_quiet tab_ok follows (by kernel_rfl) ?_) | ((with_reducible first | refine gE ?_ | refine gR ?_); simp (maxSteps := 4000000) only [su, evLit, hbT, tab, thenA, blockA, reduceCtorEq, reduceIte, Nat.reduceEqDiff, Nat.reduceBEq, Int.reduceLE, Int.reduceToNat, Nat.reduceAdd, Nat.reduceLT, Nat.reduceLeDiff, dskA, dskC, List.length_map, sectors_len, hlt]) | (show (_ : Nat) = (_ : Nat); rfl) | ((with_reducible refine awp_ret ?_); (first | refine ret_ct (.inr rfl) rfl rfl rfl (fun _ _ => rfl) ok25 (k := n + 2) (off := 0) rfl (dom_loc _ (by simp)) (look_loc _ (Nat.le_refl _) 2) rfl rfl ?_ | refine ret_ct (.inr rfl) rfl rfl rfl (fun _ _ => rfl) ok25 (k := m + 2) (off := 0) rfl (dom_loc _ (by simp)) (look_loc _ hm 2) rfl rfl ?_) <;> first | rfl | exact AV.le.rfl _ | (simp only [patch, sl, ti25, List.map_nil, dskA, dskC, List.length_map, sectors_len, hlt]; done) | rfl | skip) | ((with_reducible refine awp_exit ?_); simp only [thenA, blockA, if_true, if_false, reduceIte, Nat.reduceEqDiff]) | (refine hK _ ?_; clear hK K) | refine awp_cond_t rfl ?_ | refine awp_cond_f rfl ?_ | refine awp_if rfl (fun hg => ?_) (fun hg => ?_) | clear hK K)
          rw [hP, hD]
          exact AV.le.rfl _
theorem c_slotPut (d : Dsk) (r : Rc) (h1 : d.sectors.length ≤ 1000) (h2 : d.waits.length ≤ 1000) (hl : r.text.length ≤ 10000) : ACall Try.prog 43 [dskA d, rcA r] [] (.tup [dskA (putD d r), i64 (putE d r)]) [] := c_slotPut' d r h1 h2
end Go.Proofs.Ytefkjdkalgemeaa
