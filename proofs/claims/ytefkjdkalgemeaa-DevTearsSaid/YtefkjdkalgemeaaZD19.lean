/-
  The document's answer: what comes of a disk, byte by byte.
-/
import Derived.Test.YtefkjdkalgemeaaZGA
import Derived.Test.YtefkjdkalgemeaaZD18
namespace Go.Proofs.Ytefkjdkalgemeaa
set_option linter.unusedVariables false
set_option linter.unusedSimpArgs false
open Go Go.VS Tab
set_option maxHeartbeats 2000000
set_option maxRecDepth 4000
def kq (kp : List Int) (i : Nat) : Nat := if kp = [] then 128 else (kp.getD i 0).toNat
def byS (kp : List Int) (d : Dsk) (z y : Nat) (i : Nat) : UInt8 := ((comesS (kq kp) d i).getD z []).getD y 0
theorem laid_get (b q : List UInt8) (y : Nat) (hq : q.length ≤ b.length) (hy : y < b.length) : (laid b q).getD y 0 = if y < q.length then q.getD y 0 else b.getD y 0 := by
  rw [laid, List.getD_eq_getElem?_getD, List.getD_eq_getElem?_getD, List.getD_eq_getElem?_getD]
  by_cases h : y < q.length
  · rw [if_pos h, List.getElem?_append_left h]
  · rw [if_neg h, List.getElem?_append_right (by omega), List.getElem?_drop]
    congr 2; omega
theorem byS_succ {kp : List Int} {d : Dsk} (hm : may d = true) (hk : ∀ i, i < d.waits.length → kq kp i ≤ 128) {z y i : Nat} (hz : z < 32) (hy : y < 128) (hi : i < d.waits.length) :
    byS kp d z y (i + 1) = if (d.waits[i]).at' = (z : Int) ∧ y < kq kp i then (d.waits[i]).data.getD y 0 else byS kp d z y i := by
  obtain ⟨d1, d2, d3, d4⟩ := (may_iff d).1 hm
  obtain ⟨w1, w2, w3⟩ := d4 _ (List.getElem_mem hi)
  have hl := comesS_len (kq kp) d i
  have hrow := comesS_rows hm hk i
  rw [byS, comesS_succ hi, lay]
  by_cases hz2 : (d.waits[i]).at' = (z : Int)
  · have hzl : z < (comesS (kq kp) d i).length := by omega
    have hg : (comesS (kq kp) d i).getD z [] = (comesS (kq kp) d i)[z] := by simp [List.getD_eq_getElem?_getD, hzl]
    have hb : ((comesS (kq kp) d i)[z]).length = 128 := hrow _ (List.getElem_mem hzl)
    rw [hz2, Int.toNat_natCast]
    have e1 : ((comesS (kq kp) d i).set z (laid ((comesS (kq kp) d i).getD z []) ((d.waits[i]).data.take (kq kp i)))).getD z [] = laid ((comesS (kq kp) d i).getD z []) ((d.waits[i]).data.take (kq kp i)) := by
      simp [List.getD_eq_getElem?_getD, hzl]
    have hki := hk i hi
    rw [e1, laid_get _ _ _ (by rw [hg, hb, List.length_take]; omega) (by rw [hg, hb]; exact hy), List.length_take, w3, Nat.min_eq_left hki]
    by_cases hyk : y < kq kp i
    · rw [if_pos hyk, if_pos ⟨rfl, hyk⟩]
      simp [List.getD_eq_getElem?_getD, List.getElem?_take, hyk]
    · rw [if_neg hyk, if_neg (by omega)]; rfl
  · rw [if_neg (by omega), byS]
    congr 1
    have : (d.waits[i]).at'.toNat ≠ z := by omega
    simp only [List.getD_eq_getElem?_getD]
    rw [List.getElem?_set_ne this]
theorem c_byteOf (d : Dsk) (kp : List Int) (z y : Nat) (hm : may d = true) (hkp : kp = [] ∨ kp.length = d.waits.length) (hk : ∀ x, x ∈ kp → 0 ≤ x ∧ x < 129) (hz : z < 32) (hy : y < 128) :
    ACall Try.prog 107 [dskA d, .sl 1 (kp.map intC) .sh, i64 (z : Int), i64 (y : Int)] [] (b8 (byS kp d z y d.waits.length)) [] := by
  obtain ⟨d1, d2, d3, d4⟩ := (may_iff d).1 hm
  have hkq : ∀ i, i < d.waits.length → kq kp i ≤ 128 := fun i _ => by
    unfold kq
    split
    · exact Nat.le_refl _
    · exact kf_le hk i
  have hzl : z < d.sectors.length := by omega
  have hyl : y < (d.sectors[z]).length := by have := d3 _ (List.getElem_mem hzl); omega
  refine acall_of 1 Try.func107 rfl fun n out _ _ => ?_
  simp only [Try.ntmps107, List.length_cons, List.length_nil, List.length_map, List.length_replicate, rep_map, Nat.reduceAdd, Nat.reduceSub, List.replicate, List.cons_append, List.nil_append]
  have hgs := getD_map secC d.sectors z [] hzl
  have e0 : (bytesAV d.sectors[z]).getD y [] = [b8 (byS kp d z y 0)] := by
    rw [bytes_get _ _ hyl]
    simp [byS, comesS, List.getD_eq_getElem?_getD, hzl]
  refine awp_seq_k fun K hK => awp_ev tab_ok [] ?_
  simp (maxSteps := 4000000) only [su, evLit, hbT, tab, thenA, blockA, reduceCtorEq, reduceIte, Nat.reduceEqDiff, Nat.reduceBEq, Int.reduceLE, Int.reduceToNat, Nat.reduceAdd, Nat.reduceLT, Nat.reduceLeDiff, dskA, dskC]
  repeat' (first | (with_reducible refine hK _ ?_; clear hK K) | with_reducible apply And.intro)
  refine awp_seq_k fun K hK => awp_ev tab_ok [] ?_
  simp (maxSteps := 4000000) only [su, evLit, hbT, tab, thenA, blockA, reduceCtorEq, reduceIte, Nat.reduceEqDiff, Nat.reduceBEq, Int.reduceLE, Int.reduceToNat, Nat.reduceAdd, Nat.reduceLT, Nat.reduceLeDiff, hzl, List.length_map, hgs, secC, bytes_length, hyl, e0]
  repeat' (first | (with_reducible refine hK _ ?_; clear hK K) | with_reducible apply And.intro)
  refine awp_seq_k fun KB hKB => ?_
  refine awp_seq_k fun K hK => awp_ev tab_ok [] ?_
  simp (maxSteps := 4000000) only [su, evLit, hbT, tab, thenA, blockA, reduceCtorEq, reduceIte, Nat.reduceEqDiff, Nat.reduceBEq, Int.reduceLE, Int.reduceToNat, Nat.reduceAdd, Nat.reduceLT, Nat.reduceLeDiff]
  repeat' (first | (with_reducible refine hK _ ?_; clear hK K) | with_reducible apply And.intro)
  refine awp_block ?_
  refine awp_for_g (fun i : Nat => [(9, b8 (byS kp d z y i)), (10, i64 (i : Int)), (19, .top), (20, .top), (21, .top), (22, .top), (23, .top), (24, .top), (25, .top), (26, .top), (27, .top), (28, .top), (29, .top), (30, .top), (31, .top), (32, .top), (33, .top), (34, .top), (35, .top), (36, .top), (37, .top), (38, .top), (39, .top), (40, .top), (41, .top), (42, .top), (43, .top), (44, .top), (45, .top), (46, .top), (47, .top), (48, .top), (49, .top), (50, .top), (51, .top), (52, .top), (53, .top), (54, .top), (55, .top)]) (fun i => [some (.box 25 [.sl 1 (d.sectors.map secC) .sh, .sl 2 (d.waits.map wrC) .sh])]) (fun i => out) (fun i => i ≤ d.waits.length) (fun i => d.waits.length - i) 0 (Nat.zero_le _) ?_ fun i hi => ?_
  · refine le_of_all ?_ ?_ (by first | rfl | (simp only [List.length_map]; rfl) | simp only [List.length_map]) rfl rfl rfl <;> simp only [patch, sl, List.length_map]
  simp only [patch, s_0, s_s]
  refine awp_seq_k fun KC hKC => ?_
  refine awp_seq_k fun K hK => awp_ev tab_ok [] ?_
  simp (maxSteps := 4000000) only [su, evLit, hbT, tab, thenA, blockA, reduceCtorEq, reduceIte, Nat.reduceEqDiff, Nat.reduceBEq, Int.reduceLE, Int.reduceToNat, Nat.reduceAdd, Nat.reduceLT, Nat.reduceLeDiff, List.length_map]
  repeat' (first | (with_reducible refine hK _ ?_; clear hK K) | with_reducible apply And.intro)
  refine awp_if rfl (fun ht => awp_skip (hKC _ ?_)) (fun hf => awp_exit (id ?_))
  rotate_left
  · simp only [thenA, blockA, if_true]
    refine hKB _ ?_
    clear hKB KB hKC KC
    have h_ib : i = d.waits.length := by have := of_decide_eq_false hf; omega
    subst h_ib
    refine awp_seq_k fun K hK => awp_ev tab_ok [] ?_
    simp (maxSteps := 4000000) only [su, evLit, hbT, tab, thenA, blockA, reduceCtorEq, reduceIte, Nat.reduceEqDiff, Nat.reduceBEq, Int.reduceLE, Int.reduceToNat, Nat.reduceAdd, Nat.reduceLT, Nat.reduceLeDiff]
    repeat' (first | (with_reducible refine hK _ ?_; clear hK K) | with_reducible apply And.intro)
    refine awp_ret ?_
    exact ret_tmp (.inr rfl) rfl rfl rfl (fun _ _ => rfl) rfl
  clear hKC KC
  have hlt : i < d.waits.length := by have := of_decide_eq_true ht; omega
  refine awp_seq_k fun KC hKC => awp_block ?_
  have hgw := getD_map wrC d.waits i [] hlt
  have hst := byS_succ hm hkq (z := z) (y := y) hz hy hlt
  obtain ⟨w1, w2, w3⟩ := d4 _ (List.getElem_mem hlt)
  have hyw : y < (d.waits[i]).data.length := by omega
  have ebw : (bytesAV (d.waits[i]).data).getD y [] = [b8 ((d.waits[i]).data.getD y 0)] := bytes_get _ _ hyw
  have tail : ∀ c : Bool, (c = true ↔ (d.waits[i]).at' = (z : Int) ∧ y < kq kp i) → byS kp d z y (i + 1) = if c then (d.waits[i]).data.getD y 0 else byS kp d z y i := fun c hc => by
    rw [hst]
    cases c with
    | true => rw [if_pos (hc.1 rfl)]; rfl
    | false => rw [if_neg (fun h => by have := hc.2 h; cases this)]; rfl
  by_cases g1 : (d.waits[i]).at' = (z : Int)
  · have e1 : ((d.waits[i]).at' == (z : Int)) = true := by simp [g1]
    rcases hkp with hkp | hkp
    · subst hkp
      have e9 := tail true ⟨fun _ => ⟨g1, by simp [kq]; exact hy⟩, fun _ => rfl⟩
      rw [if_pos rfl] at e9
      refine awp_seq_k fun K hK => awp_ev tab_ok [] ?_
      simp (maxSteps := 4000000) only [su, evLit, hbT, tab, thenA, blockA, reduceCtorEq, reduceIte, Nat.reduceEqDiff, Nat.reduceBEq, Int.reduceLE, Int.reduceToNat, Nat.reduceAdd, Nat.reduceLT, Nat.reduceLeDiff, hlt, List.length_map, hgw, wrC, e1, List.map_nil, List.length_nil, Int.cast_ofNat_Int, Int.reduceBEq]
      repeat' (first | (with_reducible refine hK _ ?_; clear hK K) | with_reducible apply And.intro)
      refine awp_cond_t rfl ?_
      refine awp_ev tab_ok [] ?_
      simp (maxSteps := 4000000) only [su, evLit, hbT, tab, thenA, blockA, reduceCtorEq, reduceIte, Nat.reduceEqDiff, Nat.reduceBEq, Int.reduceLE, Int.reduceToNat, Nat.reduceAdd, Nat.reduceLT, Nat.reduceLeDiff, hlt, List.length_map, hgw, wrC, bytes_length, hyw, ebw]
      refine hKC _ ?_
      clear hKC KC
      rw [← e9]
      refine awp_ev tab_ok [] ?_
      simp (maxSteps := 4000000) only [su, evLit, hbT, tab, thenA, blockA, reduceCtorEq, reduceIte, Nat.reduceEqDiff, Nat.reduceBEq, Int.reduceLE, Int.reduceToNat, Nat.reduceAdd, Nat.reduceLT, Nat.reduceLeDiff, addw (n := i) 1 1 rfl (by omega)]
      refine ⟨i + 1, by omega, by omega, ?_⟩
      refine le_of_all ?_ ?_ rfl rfl rfl rfl <;> simp only [patch, sl]
    · have hik : i < kp.length := by omega
      have hne : kp ≠ [] := by intro h; rw [h] at hik; simp at hik
      have e2 : ((kp.length : Int) == 0) = false := by simp [hne]
      have hgk := getD_map intC kp i [] hik
      have hki := hk _ (List.getElem_mem hik)
      have hkv : kq kp i = (kp[i]).toNat := by unfold kq; rw [if_neg hne]; simp [List.getD_eq_getElem?_getD, hik]
      by_cases g2 : (y : Int) < kp[i]
      · have e3 : decide ((y : Int) < kp[i]) = true := decide_eq_true g2
        have e9 := tail true ⟨fun _ => ⟨g1, by omega⟩, fun _ => rfl⟩
        rw [if_pos rfl] at e9
        refine awp_seq_k fun K hK => awp_ev tab_ok [] ?_
        simp (maxSteps := 4000000) only [su, evLit, hbT, tab, thenA, blockA, reduceCtorEq, reduceIte, Nat.reduceEqDiff, Nat.reduceBEq, Int.reduceLE, Int.reduceToNat, Nat.reduceAdd, Nat.reduceLT, Nat.reduceLeDiff, hlt, List.length_map, hgw, wrC, e1, e2, hik, hgk, intC, e3]
        repeat' (first | (with_reducible refine hK _ ?_; clear hK K) | with_reducible apply And.intro)
        refine awp_cond_t rfl ?_
        refine awp_ev tab_ok [] ?_
        simp (maxSteps := 4000000) only [su, evLit, hbT, tab, thenA, blockA, reduceCtorEq, reduceIte, Nat.reduceEqDiff, Nat.reduceBEq, Int.reduceLE, Int.reduceToNat, Nat.reduceAdd, Nat.reduceLT, Nat.reduceLeDiff, hlt, List.length_map, hgw, wrC, bytes_length, hyw, ebw]
        refine hKC _ ?_
        clear hKC KC
        rw [← e9]
        refine awp_ev tab_ok [] ?_
        simp (maxSteps := 4000000) only [su, evLit, hbT, tab, thenA, blockA, reduceCtorEq, reduceIte, Nat.reduceEqDiff, Nat.reduceBEq, Int.reduceLE, Int.reduceToNat, Nat.reduceAdd, Nat.reduceLT, Nat.reduceLeDiff, addw (n := i) 1 1 rfl (by omega)]
        refine ⟨i + 1, by omega, by omega, ?_⟩
        refine le_of_all ?_ ?_ rfl rfl rfl rfl <;> simp only [patch, sl]
      · have e3 : decide ((y : Int) < kp[i]) = false := decide_eq_false g2
        have e9 := tail false ⟨fun h => (by cases h), fun h => by omega⟩
        rw [if_neg (by decide)] at e9
        refine awp_seq_k fun K hK => awp_ev tab_ok [] ?_
        simp (maxSteps := 4000000) only [su, evLit, hbT, tab, thenA, blockA, reduceCtorEq, reduceIte, Nat.reduceEqDiff, Nat.reduceBEq, Int.reduceLE, Int.reduceToNat, Nat.reduceAdd, Nat.reduceLT, Nat.reduceLeDiff, hlt, List.length_map, hgw, wrC, e1, e2, hik, hgk, intC, e3]
        repeat' (first | (with_reducible refine hK _ ?_; clear hK K) | with_reducible apply And.intro)
        refine awp_cond_f rfl (awp_skip ?_)
        simp only [thenA, blockA]
        refine hKC _ ?_
        clear hKC KC
        rw [← e9]
        refine awp_ev tab_ok [] ?_
        simp (maxSteps := 4000000) only [su, evLit, hbT, tab, thenA, blockA, reduceCtorEq, reduceIte, Nat.reduceEqDiff, Nat.reduceBEq, Int.reduceLE, Int.reduceToNat, Nat.reduceAdd, Nat.reduceLT, Nat.reduceLeDiff, addw (n := i) 1 1 rfl (by omega)]
        refine ⟨i + 1, by omega, by omega, ?_⟩
        refine le_of_all ?_ ?_ rfl rfl rfl rfl <;> simp only [patch, sl]
  · have e1 : ((d.waits[i]).at' == (z : Int)) = false := by simp [g1]
    have e9 := tail false ⟨fun h => (by cases h), fun h => (g1 h.1).elim⟩
    rw [if_neg (by decide)] at e9
    refine awp_seq_k fun K hK => awp_ev tab_ok [] ?_
    simp (maxSteps := 4000000) only [su, evLit, hbT, tab, thenA, blockA, reduceCtorEq, reduceIte, Nat.reduceEqDiff, Nat.reduceBEq, Int.reduceLE, Int.reduceToNat, Nat.reduceAdd, Nat.reduceLT, Nat.reduceLeDiff, hlt, List.length_map, hgw, wrC, e1]
    repeat' (first | (with_reducible refine hK _ ?_; clear hK K) | with_reducible apply And.intro)
    refine awp_cond_f rfl (awp_skip ?_)
    simp only [thenA, blockA]
    refine hKC _ ?_
    clear hKC KC
    rw [← e9]
    refine awp_ev tab_ok [] ?_
    simp (maxSteps := 4000000) only [su, evLit, hbT, tab, thenA, blockA, reduceCtorEq, reduceIte, Nat.reduceEqDiff, Nat.reduceBEq, Int.reduceLE, Int.reduceToNat, Nat.reduceAdd, Nat.reduceLT, Nat.reduceLeDiff, addw (n := i) 1 1 rfl (by omega)]
    refine ⟨i + 1, by omega, by omega, ?_⟩
    refine le_of_all ?_ ?_ rfl rfl rfl rfl <;> simp only [patch, sl]
theorem row_bytes {kp : List Int} {d : Dsk} (hm : may d = true) (hk : ∀ i, i < d.waits.length → kq kp i ≤ 128) {z : Nat} (hz : z < 32) :
    (List.range 128).map (fun y => byS kp d z y d.waits.length) = (comesS (kq kp) d d.waits.length).getD z [] := by
  have hl := comesS_len (kq kp) d d.waits.length
  have d1 := ((may_iff d).1 hm).1
  have hzl : z < (comesS (kq kp) d d.waits.length).length := by omega
  have hg : (comesS (kq kp) d d.waits.length).getD z [] = (comesS (kq kp) d d.waits.length)[z] := by simp [List.getD_eq_getElem?_getD, hzl]
  have hb := comesS_rows hm hk d.waits.length _ (List.getElem_mem hzl)
  apply List.ext_getElem
  · rw [hg]; simp [hb]
  · intro i h1 h2
    simp only [List.getElem_map, List.getElem_range, byS]
    rw [List.getD_eq_getElem?_getD, List.getElem?_eq_getElem h2]; rfl
theorem c_row (d : Dsk) (kp : List Int) (z : Nat) (hm : may d = true) (hkp : kp = [] ∨ kp.length = d.waits.length) (hk : ∀ x, x ∈ kp → 0 ≤ x ∧ x < 129) (hz : z < 32) :
    ACall Try.prog 94 [dskA d, .sl 1 (kp.map intC) .sh, i64 (z : Int)] [] (bs ((comesS (kq kp) d d.waits.length).getD z [])) [] := by
  have hkq : ∀ i, i < d.waits.length → kq kp i ≤ 128 := fun i _ => by
    unfold kq
    split
    · exact Nat.le_refl _
    · exact kf_le hk i
  rw [← row_bytes hm hkq hz]
  refine acall_of 2 Try.func94 rfl fun n out _ _ => ?_
  simp only [Try.ntmps94, List.length_cons, List.length_nil, List.length_map, List.length_replicate, rep_map, Nat.reduceAdd, Nat.reduceSub, List.replicate, List.cons_append, List.nil_append]
  refine awp_seq_k fun K hK => awp_ev tab_ok [] ?_
  simp (maxSteps := 4000000) only [su, evLit, hbT, tab, thenA, blockA, reduceCtorEq, reduceIte, Nat.reduceEqDiff, Nat.reduceBEq, Int.reduceLE, Int.reduceToNat, Nat.reduceAdd, Nat.reduceLT, Nat.reduceLeDiff, dskA, dskC]
  repeat' (first | (with_reducible refine hK _ ?_; clear hK K) | with_reducible apply And.intro)
  refine awp_seq_k fun K hK => awp_ev tab_ok [] ?_
  simp (maxSteps := 4000000) only [su, evLit, hbT, tab, thenA, blockA, reduceCtorEq, reduceIte, Nat.reduceEqDiff, Nat.reduceBEq, Int.reduceLE, Int.reduceToNat, Nat.reduceAdd, Nat.reduceLT, Nat.reduceLeDiff]
  repeat' (first | (with_reducible refine hK _ ?_; clear hK K) | with_reducible apply And.intro)
  refine awp_le (le_row (i := 1) 5 1 rfl) ?_
  simp only [s_0, s_s]
  refine awp_seq_k fun KB hKB => ?_
  refine awp_seq_k fun K hK => awp_ev tab_ok [] ?_
  simp (maxSteps := 4000000) only [su, evLit, hbT, tab, thenA, blockA, reduceCtorEq, reduceIte, Nat.reduceEqDiff, Nat.reduceBEq, Int.reduceLE, Int.reduceToNat, Nat.reduceAdd, Nat.reduceLT, Nat.reduceLeDiff]
  repeat' (first | (with_reducible refine hK _ ?_; clear hK K) | with_reducible apply And.intro)
  refine awp_block ?_
  refine awp_for_g (fun i : Nat => [(8, i64 (i : Int)), (7, .sl 1 (bytesAV ((List.range i).map fun y => byS kp d z y d.waits.length)) (.own (n + 1))), (9, .top), (10, .top), (11, .top), (12, .top), (13, .top), (14, .top), (15, .top), (16, .top), (17, .top), (18, .top), (19, .top), (20, .top)]) (fun i => [some (.box 25 [.sl 1 (d.sectors.map secC) .sh, .sl 2 (d.waits.map wrC) .sh]), some (.row 5 1 i)]) (fun i => out) (fun i => i ≤ 128) (fun i => 128 - i) 0 (Nat.zero_le _) ?_ fun i hi => ?_
  · refine le_of_all ?_ ?_ (by first | rfl | (simp only [List.range_zero, List.map_nil, bytes_nil]; rfl) | simp only [List.range_zero, List.map_nil, bytes_nil]) rfl rfl rfl <;> simp only [patch, sl, List.range_zero, List.map_nil, bytes_nil]
  simp only [patch, s_0, s_s]
  refine awp_seq_k fun KC hKC => ?_
  refine awp_seq_k fun K hK => awp_ev tab_ok [] ?_
  simp (maxSteps := 4000000) only [su, evLit, hbT, tab, thenA, blockA, reduceCtorEq, reduceIte, Nat.reduceEqDiff, Nat.reduceBEq, Int.reduceLE, Int.reduceToNat, Nat.reduceAdd, Nat.reduceLT, Nat.reduceLeDiff, List.range_zero, List.map_nil, bytes_nil]
  repeat' (first | (with_reducible refine hK _ ?_; clear hK K) | with_reducible apply And.intro)
  refine awp_if rfl (fun ht => awp_skip (hKC _ ?_)) (fun hf => awp_exit (id ?_))
  rotate_left
  · simp only [thenA, blockA, if_true]
    refine hKB _ ?_
    clear hKB KB hKC KC
    have hi32 : i = 128 := by have := of_decide_eq_false hf; omega
    subst hi32
    refine awp_seq_k fun K hK => awp_ev tab_ok [] ?_
    simp (maxSteps := 4000000) only [su, evLit, hbT, tab, thenA, blockA, reduceCtorEq, reduceIte, Nat.reduceEqDiff, Nat.reduceBEq, Int.reduceLE, Int.reduceToNat, Nat.reduceAdd, Nat.reduceLT, Nat.reduceLeDiff]
    repeat' (first | (with_reducible refine hK _ ?_; clear hK K) | with_reducible apply And.intro)
    refine awp_ret ?_
    exact ret_tmp_le (.inr rfl) rfl rfl rfl (fun _ _ => rfl) (.sh _ _ _) rfl
  clear hKC KC
  have hlt : i < 128 := by have := of_decide_eq_true ht; omega
  refine awp_seq_k fun KC hKC => awp_block ?_
  refine awp_ev tab_ok [] ?_
  simp (maxSteps := 4000000) only [su, evLit, hbT, tab, thenA, blockA, reduceCtorEq, reduceIte, Nat.reduceEqDiff, Nat.reduceBEq, Int.reduceLE, Int.reduceToNat, Nat.reduceAdd, Nat.reduceLT, Nat.reduceLeDiff]
  refine call_pure (c_byteOf d kp z i hm hkp hk hz hlt) ?_
  have e1 : bytesAV ((List.range i).map fun y => byS kp d z y d.waits.length) ++ [[b8 (byS kp d z i d.waits.length)]] = bytesAV ((List.range (i + 1)).map fun y => byS kp d z y d.waits.length) := by
    rw [List.range_succ, List.map_append]; exact bytes_snoc _ _
  simp (maxSteps := 4000000) only [su, evLit, hbT, tab, thenA, blockA, reduceCtorEq, reduceIte, Nat.reduceEqDiff, Nat.reduceBEq, Int.reduceLE, Int.reduceToNat, Nat.reduceAdd, Nat.reduceLT, Nat.reduceLeDiff, bytes_length, List.length_map, List.length_range, show i + 1 ≤ 140737488355328 by omega, show i + 1 ≤ 9223372036854775807 by omega, e1]
  refine hKC _ ?_
  clear hKC KC
  refine awp_ev tab_ok [] ?_
  simp (maxSteps := 4000000) only [su, evLit, hbT, tab, thenA, blockA, reduceCtorEq, reduceIte, Nat.reduceEqDiff, Nat.reduceBEq, Int.reduceLE, Int.reduceToNat, Nat.reduceAdd, Nat.reduceLT, Nat.reduceLeDiff, addw (n := i) 1 1 rfl (by omega)]
  refine ⟨i + 1, by omega, by omega, ?_⟩
  refine le_of_all ?_ ?_ rfl rfl rfl rfl <;> simp only [patch, sl]
end Go.Proofs.Ytefkjdkalgemeaa
