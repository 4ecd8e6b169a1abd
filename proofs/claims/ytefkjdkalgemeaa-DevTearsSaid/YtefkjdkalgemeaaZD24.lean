/-
  The document's answer: disks told as texts, and compared.
-/
import Derived.Test.YtefkjdkalgemeaaZGA
import Derived.Test.YtefkjdkalgemeaaZD20
namespace Go.Proofs.Ytefkjdkalgemeaa
set_option linter.unusedVariables false
set_option linter.unusedSimpArgs false
open Go Go.VS Tab
set_option maxHeartbeats 2000000
set_option maxRecDepth 4000
theorem str_app (l m : List UInt8) : (⟨l.toArray⟩ : ByteArray) ++ (⟨m.toArray⟩ : ByteArray) = ⟨(l ++ m).toArray⟩ := by
  apply ByteArray.ext
  rw [ByteArray.data_append]
  simp
theorem str_size (l : List UInt8) : (⟨l.toArray⟩ : ByteArray).size = l.length := by
  show l.toArray.size = _
  simp
theorem conv_u64 (a : Int) : IntKind.u64.wrap a = ((BitVec.ofInt 64 a).toNat : Int) := by
  rw [wrap_u64', BitVec.toNat_ofInt]; omega
def lb (x : Int) (i : Nat) : UInt8 := UInt8.ofNat ((BitVec.ofInt 64 x) >>> (8 * i)).toNat
def longB (x : Int) : List UInt8 := 46 :: (List.range 8).map (lb x)
theorem longB_len (x : Int) : (longB x).length = 9 := by simp [longB]
theorem c_long (x : Int) : ACall Try.prog 95 [i64 x] [] (.val (.string ⟨(longB x).toArray⟩)) [] := by
  refine acall_of 0 Try.func95 rfl fun n out _ _ => ?_
  simp only [Try.ntmps95, List.length_cons, List.length_nil, List.length_map, List.length_replicate, rep_map, Nat.reduceAdd, Nat.reduceSub, List.replicate, List.cons_append, List.nil_append]
  refine awp_seq_k fun K hK => awp_ev tab_ok [] ?_
  simp (maxSteps := 4000000) only [su, evLit, hbT, tab, thenA, blockA, reduceCtorEq, reduceIte, Nat.reduceEqDiff, Nat.reduceBEq, Int.reduceLE, Int.reduceToNat, Nat.reduceAdd, Nat.reduceLT, Nat.reduceLeDiff]
  repeat' (first | (with_reducible refine hK _ ?_; clear hK K) | with_reducible apply And.intro)
  refine awp_seq_k fun K hK => awp_ev tab_ok [] ?_
  simp (maxSteps := 4000000) only [su, evLit, hbT, tab, thenA, blockA, reduceCtorEq, reduceIte, Nat.reduceEqDiff, Nat.reduceBEq, Int.reduceLE, Int.reduceToNat, Nat.reduceAdd, Nat.reduceLT, Nat.reduceLeDiff]
  repeat' (first | (with_reducible refine hK _ ?_; clear hK K) | with_reducible apply And.intro)
  refine awp_seq_k fun K hK => awp_ev tab_ok [] ?_
  simp (maxSteps := 4000000) only [su, evLit, hbT, tab, thenA, blockA, reduceCtorEq, reduceIte, Nat.reduceEqDiff, Nat.reduceBEq, Int.reduceLE, Int.reduceToNat, Nat.reduceAdd, Nat.reduceLT, Nat.reduceLeDiff, conv_u64]
  repeat' (first | (with_reducible refine hK _ ?_; clear hK K) | with_reducible apply And.intro)
  refine awp_seq_k fun KB hKB => ?_
  refine awp_seq_k fun K hK => awp_ev tab_ok [] ?_
  simp (maxSteps := 4000000) only [su, evLit, hbT, tab, thenA, blockA, reduceCtorEq, reduceIte, Nat.reduceEqDiff, Nat.reduceBEq, Int.reduceLE, Int.reduceToNat, Nat.reduceAdd, Nat.reduceLT, Nat.reduceLeDiff]
  repeat' (first | (with_reducible refine hK _ ?_; clear hK K) | with_reducible apply And.intro)
  refine awp_block ?_
  refine awp_for_g (fun i : Nat => [(3, .val (.string ⟨(46 :: (List.range i).map (lb x)).toArray⟩)), (4, w64 ((BitVec.ofInt 64 x) >>> (8 * i))), (5, i64 (i : Int)), (8, .top), (9, .top), (10, .top), (11, .top), (12, .top), (13, .top), (14, .top), (15, .top), (16, .top), (17, .top), (18, .top), (19, .top)]) (fun i => []) (fun i => out) (fun i => i ≤ 8) (fun i => 8 - i) 0 (Nat.zero_le _) ?_ fun i hi => ?_
  · refine le_of_all ?_ ?_ (by first | rfl | (simp only [List.range_zero, List.map_nil, Nat.mul_zero, BitVec.ushiftRight_zero]; rfl) | simp only [List.range_zero, List.map_nil, Nat.mul_zero, BitVec.ushiftRight_zero]) rfl rfl rfl <;> simp only [patch, sl, List.range_zero, List.map_nil, Nat.mul_zero, BitVec.ushiftRight_zero]
  simp only [patch, s_0, s_s]
  refine awp_seq_k fun KC hKC => ?_
  refine awp_seq_k fun K hK => awp_ev tab_ok [] ?_
  simp (maxSteps := 4000000) only [su, evLit, hbT, tab, thenA, blockA, reduceCtorEq, reduceIte, Nat.reduceEqDiff, Nat.reduceBEq, Int.reduceLE, Int.reduceToNat, Nat.reduceAdd, Nat.reduceLT, Nat.reduceLeDiff, List.range_zero, List.map_nil, Nat.mul_zero, BitVec.ushiftRight_zero]
  repeat' (first | (with_reducible refine hK _ ?_; clear hK K) | with_reducible apply And.intro)
  refine awp_if rfl (fun ht => awp_skip (hKC _ ?_)) (fun hf => awp_exit (id ?_))
  rotate_left
  · simp only [thenA, blockA, if_true]
    refine hKB _ ?_
    clear hKB KB hKC KC
    have hi32 : i = 8 := by have := of_decide_eq_false hf; omega
    subst hi32
    refine awp_seq_k fun K hK => awp_ev tab_ok [] ?_
    simp (maxSteps := 4000000) only [su, evLit, hbT, tab, thenA, blockA, reduceCtorEq, reduceIte, Nat.reduceEqDiff, Nat.reduceBEq, Int.reduceLE, Int.reduceToNat, Nat.reduceAdd, Nat.reduceLT, Nat.reduceLeDiff]
    repeat' (first | (with_reducible refine hK _ ?_; clear hK K) | with_reducible apply And.intro)
    refine awp_ret ?_
    exact ret_tmp (.inr rfl) rfl rfl rfl (fun _ _ => rfl) rfl
  clear hKC KC
  have hlt : i < 8 := by have := of_decide_eq_true ht; omega
  refine awp_seq_k fun KC hKC => awp_block ?_
  have e1 : (46 :: (List.range i).map (lb x)) ++ [UInt8.ofNat ((BitVec.ofInt 64 x) >>> (8 * i)).toNat] = 46 :: (List.range (i + 1)).map (lb x) := by
    rw [List.range_succ, List.map_append]; rfl
  have e2 : ((BitVec.ofInt 64 x) >>> (8 * i)) >>> 8 = (BitVec.ofInt 64 x) >>> (8 * (i + 1)) := by
    rw [← BitVec.shiftRight_add]; rfl
  have hb : ∀ b : UInt8, ([[b8 b]] : List (List AV)) = bytesAV [b] := fun b => rfl
  refine awp_seq_k fun K hK => awp_ev tab_ok [] ?_
  simp (maxSteps := 4000000) only [su, evLit, hbT, tab, thenA, blockA, reduceCtorEq, reduceIte, Nat.reduceEqDiff, Nat.reduceBEq, Int.reduceLE, Int.reduceToNat, Nat.reduceAdd, Nat.reduceLT, Nat.reduceLeDiff, conv64_8, hb, ex_bytes, str_size, List.length_cons, List.length_map, List.length_range, str_app]
  repeat' (first | (with_reducible refine hK _ ?_; clear hK K) | with_reducible apply And.intro)
  · omega
  rw [e1]
  refine awp_ev tab_ok [] ?_
  simp (maxSteps := 4000000) only [su, evLit, hbT, tab, thenA, blockA, reduceCtorEq, reduceIte, Nat.reduceEqDiff, Nat.reduceBEq, Int.reduceLE, Int.reduceToNat, Nat.reduceAdd, Nat.reduceLT, Nat.reduceLeDiff, w64_shr _ (b := 8) (by decide), Int.reduceToNat, e2]
  refine hKC _ ?_
  clear hKC KC
  refine awp_ev tab_ok [] ?_
  simp (maxSteps := 4000000) only [su, evLit, hbT, tab, thenA, blockA, reduceCtorEq, reduceIte, Nat.reduceEqDiff, Nat.reduceBEq, Int.reduceLE, Int.reduceToNat, Nat.reduceAdd, Nat.reduceLT, Nat.reduceLeDiff, addw (n := i) 1 1 rfl (by omega)]
  refine ⟨i + 1, by omega, by omega, ?_⟩
  refine le_of_all ?_ ?_ rfl rfl rfl rfl <;> simp only [patch, sl]
def toldS (l : List (List UInt8)) : List UInt8 := l.flatMap fun b => longB b.length ++ b
def toldW (l : List Wr) : List UInt8 := l.flatMap fun w => longB w.at' ++ longB w.data.length ++ w.data
def told (d : Dsk) : List UInt8 := toldS d.sectors ++ [124] ++ toldW d.waits
theorem toldS_nil : toldS [] = [] := rfl
theorem toldW_nil : toldW [] = [] := rfl
theorem toldS_len (l : List (List UInt8)) (h : ∀ b, b ∈ l → b.length ≤ 1000000) : (toldS l).length ≤ l.length * 1000009 := by
  induction l with
  | nil => simp [toldS]
  | cons b l ih =>
    have h1 := ih fun b hb => h b (by simp [hb])
    have h2 := h b (by simp)
    simp only [toldS, List.flatMap_cons, List.length_append, longB_len, List.length_cons] at h1 ⊢
    omega
theorem toldW_len (l : List Wr) (h : ∀ w, w ∈ l → w.data.length ≤ 1000000) : (toldW l).length ≤ l.length * 1000018 := by
  induction l with
  | nil => simp [toldW]
  | cons b l ih =>
    have h1 := ih fun b hb => h b (by simp [hb])
    have h2 := h b (by simp)
    simp only [toldW, List.flatMap_cons, List.length_append, longB_len, List.length_cons] at h1 ⊢
    omega
theorem toldS_snoc (l : List (List UInt8)) (i : Nat) (h : i < l.length) : toldS (l.take i) ++ longB (l[i]).length ++ l[i] = toldS (l.take (i + 1)) := by
  rw [List.take_succ_eq_append_getElem h, toldS, toldS, List.flatMap_append]; simp
theorem toldW_snoc (l : List Wr) (i : Nat) (h : i < l.length) : toldW (l.take i) ++ longB (l[i]).at' ++ longB (l[i]).data.length ++ (l[i]).data = toldW (l.take (i + 1)) := by
  rw [List.take_succ_eq_append_getElem h, toldW, toldW, List.flatMap_append]; simp
theorem c_told (d : Dsk) (hd : Small d) : ACall Try.prog 62 [dskA d] [] (.val (.string ⟨(told d).toArray⟩)) [] := by
  have h1 := hd.s
  have h2 := hd.w
  have hS := toldS_len d.sectors hd.sb
  have hSb : ∀ i, (toldS (d.sectors.take i)).length ≤ 1000009000 := fun i => by
    have := toldS_len (d.sectors.take i) fun b hb => hd.sb b (List.mem_of_mem_take hb)
    have h3 : (d.sectors.take i).length ≤ 1000 := by rw [List.length_take]; omega
    omega
  have hWb : ∀ i, (toldW (d.waits.take i)).length ≤ 1000018000 := fun i => by
    have := toldW_len (d.waits.take i) fun b hb => hd.wb b (List.mem_of_mem_take hb)
    have h3 : (d.waits.take i).length ≤ 1000 := by rw [List.length_take]; omega
    omega
  refine acall_of 1 Try.func62 rfl fun n out _ _ => ?_
  simp only [Try.ntmps62, List.length_cons, List.length_nil, List.length_map, List.length_replicate, rep_map, Nat.reduceAdd, Nat.reduceSub, List.replicate, List.cons_append, List.nil_append]
  refine awp_seq_k fun K hK => awp_ev tab_ok [] ?_
  simp (maxSteps := 4000000) only [su, evLit, hbT, tab, thenA, blockA, reduceCtorEq, reduceIte, Nat.reduceEqDiff, Nat.reduceBEq, Int.reduceLE, Int.reduceToNat, Nat.reduceAdd, Nat.reduceLT, Nat.reduceLeDiff, dskA, dskC]
  repeat' (first | (with_reducible refine hK _ ?_; clear hK K) | with_reducible apply And.intro)
  refine awp_seq_k fun K hK => awp_ev tab_ok [] ?_
  simp (maxSteps := 4000000) only [su, evLit, hbT, tab, thenA, blockA, reduceCtorEq, reduceIte, Nat.reduceEqDiff, Nat.reduceBEq, Int.reduceLE, Int.reduceToNat, Nat.reduceAdd, Nat.reduceLT, Nat.reduceLeDiff]
  repeat' (first | (with_reducible refine hK _ ?_; clear hK K) | with_reducible apply And.intro)
  refine awp_seq_k fun KB hKB => ?_
  refine awp_seq_k fun K hK => awp_ev tab_ok [] ?_
  simp (maxSteps := 4000000) only [su, evLit, hbT, tab, thenA, blockA, reduceCtorEq, reduceIte, Nat.reduceEqDiff, Nat.reduceBEq, Int.reduceLE, Int.reduceToNat, Nat.reduceAdd, Nat.reduceLT, Nat.reduceLeDiff]
  repeat' (first | (with_reducible refine hK _ ?_; clear hK K) | with_reducible apply And.intro)
  refine awp_block ?_
  refine awp_for_g (fun i : Nat => [(3, .val (.string ⟨(toldS (d.sectors.take i)).toArray⟩)), (4, i64 (i : Int)), (6, .top), (7, .top), (8, .top), (9, .top), (10, .top), (11, .top), (12, .top), (13, .top), (14, .top), (15, .top), (16, .top), (17, .top), (18, .top), (19, .top), (20, .top), (21, .top), (22, .top), (23, .top), (24, .top), (25, .top), (26, .top), (27, .top), (28, .top)]) (fun i => [some (.box 25 [.sl 1 (d.sectors.map secC) .sh, .sl 2 (d.waits.map wrC) .sh])]) (fun i => out) (fun i => i ≤ d.sectors.length) (fun i => d.sectors.length - i) 0 (Nat.zero_le _) ?_ fun i hi => ?_
  · refine le_of_all ?_ ?_ (by first | rfl | (simp only [List.take_zero, toldS_nil, List.length_map]; rfl) | simp only [List.take_zero, toldS_nil, List.length_map]) rfl rfl rfl <;> simp only [patch, sl, List.take_zero, toldS_nil, List.length_map]
  simp only [patch, s_0, s_s]
  refine awp_seq_k fun KC hKC => ?_
  refine awp_seq_k fun K hK => awp_ev tab_ok [] ?_
  simp (maxSteps := 4000000) only [su, evLit, hbT, tab, thenA, blockA, reduceCtorEq, reduceIte, Nat.reduceEqDiff, Nat.reduceBEq, Int.reduceLE, Int.reduceToNat, Nat.reduceAdd, Nat.reduceLT, Nat.reduceLeDiff, List.take_zero, toldS_nil, List.length_map]
  repeat' (first | (with_reducible refine hK _ ?_; clear hK K) | with_reducible apply And.intro)
  refine awp_if rfl (fun ht => awp_skip (hKC _ ?_)) (fun hf => awp_exit (id ?_))
  rotate_left
  · simp only [thenA, blockA, if_true]
    refine hKB _ ?_
    clear hKB KB hKC KC
    have h_ib : i = d.sectors.length := by have := of_decide_eq_false hf; omega
    subst h_ib
    rw [List.take_length]
    have hSb0 := hSb d.sectors.length
    rw [List.take_length] at hSb0
    have hc : ({ data := #[124] } : ByteArray) = ⟨([124] : List UInt8).toArray⟩ := rfl
    refine awp_seq_k fun K hK => awp_ev tab_ok [] ?_
    simp (maxSteps := 4000000) only [su, evLit, hbT, tab, thenA, blockA, reduceCtorEq, reduceIte, Nat.reduceEqDiff, Nat.reduceBEq, Int.reduceLE, Int.reduceToNat, Nat.reduceAdd, Nat.reduceLT, Nat.reduceLeDiff, hc, str_size, str_app]
    repeat' (first | (with_reducible refine hK _ ?_; clear hK K) | with_reducible apply And.intro)
    · omega
    refine awp_seq_k fun KB hKB => ?_
    refine awp_seq_k fun K hK => awp_ev tab_ok [] ?_
    simp (maxSteps := 4000000) only [su, evLit, hbT, tab, thenA, blockA, reduceCtorEq, reduceIte, Nat.reduceEqDiff, Nat.reduceBEq, Int.reduceLE, Int.reduceToNat, Nat.reduceAdd, Nat.reduceLT, Nat.reduceLeDiff]
    repeat' (first | (with_reducible refine hK _ ?_; clear hK K) | with_reducible apply And.intro)
    refine awp_block ?_
    refine awp_for_g (fun i : Nat => [(3, .val (.string ⟨(toldS d.sectors ++ [124] ++ toldW (d.waits.take i)).toArray⟩)), (5, i64 (i : Int)), (31, .top), (32, .top), (33, .top), (34, .top), (35, .top), (36, .top), (37, .top), (38, .top), (39, .top), (40, .top), (41, .top), (42, .top), (43, .top), (44, .top), (45, .top), (46, .top), (47, .top), (48, .top), (49, .top), (50, .top), (51, .top), (52, .top), (53, .top), (54, .top), (55, .top), (56, .top), (57, .top), (58, .top), (59, .top), (60, .top), (61, .top), (62, .top), (63, .top)]) (fun i => [some (.box 25 [.sl 1 (d.sectors.map secC) .sh, .sl 2 (d.waits.map wrC) .sh])]) (fun i => out) (fun i => i ≤ d.waits.length) (fun i => d.waits.length - i) 0 (Nat.zero_le _) ?_ fun i hi => ?_
    · refine le_of_all ?_ ?_ (by first | rfl | (simp only [List.take_zero, toldW_nil, List.length_map, List.append_nil]; rfl) | simp only [List.take_zero, toldW_nil, List.length_map, List.append_nil]) rfl rfl rfl <;> simp only [patch, sl, List.take_zero, toldW_nil, List.length_map, List.append_nil]
    simp only [patch, s_0, s_s]
    refine awp_seq_k fun KC hKC => ?_
    refine awp_seq_k fun K hK => awp_ev tab_ok [] ?_
    simp (maxSteps := 4000000) only [su, evLit, hbT, tab, thenA, blockA, reduceCtorEq, reduceIte, Nat.reduceEqDiff, Nat.reduceBEq, Int.reduceLE, Int.reduceToNat, Nat.reduceAdd, Nat.reduceLT, Nat.reduceLeDiff, List.take_zero, toldW_nil, List.length_map, List.append_nil]
    repeat' (first | (with_reducible refine hK _ ?_; clear hK K) | with_reducible apply And.intro)
    refine awp_if rfl (fun ht => awp_skip (hKC _ ?_)) (fun hf => awp_exit (id ?_))
    rotate_left
    · simp only [thenA, blockA, if_true]
      refine hKB _ ?_
      clear hKB KB hKC KC
      have h_ib : i = d.waits.length := by have := of_decide_eq_false hf; omega
      subst h_ib
      rw [List.take_length]
      refine awp_seq_k fun K hK => awp_ev tab_ok [] ?_
      simp (maxSteps := 4000000) only [su, evLit, hbT, tab, thenA, blockA, reduceCtorEq, reduceIte, Nat.reduceEqDiff, Nat.reduceBEq, Int.reduceLE, Int.reduceToNat, Nat.reduceAdd, Nat.reduceLT, Nat.reduceLeDiff]
      repeat' (first | (with_reducible refine hK _ ?_; clear hK K) | with_reducible apply And.intro)
      refine awp_ret ?_
      exact ret_tmp (.inr rfl) rfl rfl rfl (fun _ _ => rfl) rfl
    clear hKC KC
    have hlt : i < d.waits.length := by have := of_decide_eq_true ht; omega
    refine awp_seq_k fun KC hKC => awp_block ?_
    have hgw := getD_map wrC d.waits i [] hlt
    have hwb := hd.wb _ (List.getElem_mem hlt)
    have hW2 := hWb i
    have hsn := toldW_snoc d.waits i hlt
    refine awp_ev_quiet tab_ok follows (by kernel_rfl) ?_
    simp (maxSteps := 4000000) only [su, evLit, hbT, tab, thenA, blockA, reduceCtorEq, reduceIte, Nat.reduceEqDiff, Nat.reduceBEq, Int.reduceLE, Int.reduceToNat, Nat.reduceAdd, Nat.reduceLT, Nat.reduceLeDiff, List.length_map, hlt, hgw, wrC]
    refine call_pure (c_long _) ?_
    simp (maxSteps := 4000000) only [su, evLit, hbT, tab, thenA, blockA, reduceCtorEq, reduceIte, Nat.reduceEqDiff, Nat.reduceBEq, Int.reduceLE, Int.reduceToNat, Nat.reduceAdd, Nat.reduceLT, Nat.reduceLeDiff, str_size, str_app, List.length_append, longB_len, List.length_map, hlt, hgw, wrC, bytes_length]
    refine ⟨by omega, ?_⟩
    refine call_pure (c_long _) ?_
    have e : toldS d.sectors ++ [124] ++ toldW (d.waits.take i) ++ longB (d.waits[i]).at' ++ longB (((d.waits[i]).data.length : Nat) : Int) ++ (d.waits[i]).data = toldS d.sectors ++ [124] ++ toldW (d.waits.take (i + 1)) := by
      rw [← hsn]; simp [List.append_assoc]
    simp (maxSteps := 4000000) only [su, evLit, hbT, tab, thenA, blockA, reduceCtorEq, reduceIte, Nat.reduceEqDiff, Nat.reduceBEq, Int.reduceLE, Int.reduceToNat, Nat.reduceAdd, Nat.reduceLT, Nat.reduceLeDiff, str_size, str_app, List.length_append, longB_len, List.length_map, hlt, hgw, wrC, bytes_length, ex_bytes, e]
    repeat refine And.intro (by omega) ?_
    refine hKC _ ?_
    clear hKC KC
    refine awp_ev tab_ok [] ?_
    simp (maxSteps := 4000000) only [su, evLit, hbT, tab, thenA, blockA, reduceCtorEq, reduceIte, Nat.reduceEqDiff, Nat.reduceBEq, Int.reduceLE, Int.reduceToNat, Nat.reduceAdd, Nat.reduceLT, Nat.reduceLeDiff, addw (n := i) 1 1 rfl (by omega)]
    refine ⟨i + 1, by omega, by omega, ?_⟩
    refine le_of_all ?_ ?_ rfl rfl rfl rfl <;> simp only [patch, sl]
  clear hKC KC
  have hlt : i < d.sectors.length := by have := of_decide_eq_true ht; omega
  refine awp_seq_k fun KC hKC => awp_block ?_
  have hgs := getD_map secC d.sectors i [] hlt
  have hsb := hd.sb _ (List.getElem_mem hlt)
  have hS2 := hSb i
  have hsn := toldS_snoc d.sectors i hlt
  refine awp_ev_quiet tab_ok follows (by kernel_rfl) ?_
  simp (maxSteps := 4000000) only [su, evLit, hbT, tab, thenA, blockA, reduceCtorEq, reduceIte, Nat.reduceEqDiff, Nat.reduceBEq, Int.reduceLE, Int.reduceToNat, Nat.reduceAdd, Nat.reduceLT, Nat.reduceLeDiff, List.length_map, hlt, hgs, secC, bytes_length]
  refine call_pure (c_long _) ?_
  simp (maxSteps := 4000000) only [su, evLit, hbT, tab, thenA, blockA, reduceCtorEq, reduceIte, Nat.reduceEqDiff, Nat.reduceBEq, Int.reduceLE, Int.reduceToNat, Nat.reduceAdd, Nat.reduceLT, Nat.reduceLeDiff, str_size, str_app, List.length_append, longB_len, List.length_map, hlt, hgs, secC, bytes_length, ex_bytes, hsn]
  repeat refine And.intro (by omega) ?_
  refine hKC _ ?_
  clear hKC KC
  refine awp_ev tab_ok [] ?_
  simp (maxSteps := 4000000) only [su, evLit, hbT, tab, thenA, blockA, reduceCtorEq, reduceIte, Nat.reduceEqDiff, Nat.reduceBEq, Int.reduceLE, Int.reduceToNat, Nat.reduceAdd, Nat.reduceLT, Nat.reduceLeDiff, addw (n := i) 1 1 rfl (by omega)]
  refine ⟨i + 1, by omega, by omega, ?_⟩
  refine le_of_all ?_ ?_ rfl rfl rfl rfl <;> simp only [patch, sl]
def rsame (a b : Dsk) : Bool := decide (a.sectors.length = b.sectors.length) && decide (a.waits.length = b.waits.length) && (told a == told b)
theorem rsame_refl (a : Dsk) : rsame a a = true := by simp [rsame]
theorem c_rsame (a b : Dsk) (ha : Small a) (hb : Small b) : ACall Try.prog 23 [dskA a, dskA b] [] (bool (rsame a b)) [] := by
  refine acall_of 2 Try.func23 rfl fun n out _ _ => ?_
  simp only [Try.ntmps23, List.length_cons, List.length_nil, List.length_map, List.length_replicate, rep_map, Nat.reduceAdd, Nat.reduceSub, List.replicate, List.cons_append, List.nil_append]
  refine awp_seq_k fun K hK => awp_ev tab_ok [] ?_
  simp (maxSteps := 4000000) only [su, evLit, hbT, tab, thenA, blockA, reduceCtorEq, reduceIte, Nat.reduceEqDiff, Nat.reduceBEq, Int.reduceLE, Int.reduceToNat, Nat.reduceAdd, Nat.reduceLT, Nat.reduceLeDiff, dskA, dskC]
  repeat' (first | (with_reducible refine hK _ ?_; clear hK K) | with_reducible apply And.intro)
  have g1 : ((a.sectors.length : Int) == (b.sectors.length : Int)) = decide (a.sectors.length = b.sectors.length) := by rw [Bool.eq_iff_iff]; simp; constructor <;> intro h <;> omega
  have g2 : ((a.waits.length : Int) == (b.waits.length : Int)) = decide (a.waits.length = b.waits.length) := by rw [Bool.eq_iff_iff]; simp; constructor <;> intro h <;> omega
  unfold rsame
  by_cases h1 : a.sectors.length = b.sectors.length
  · have e1 : decide (a.sectors.length = b.sectors.length) = true := decide_eq_true h1
    rw [e1] at g1
    rw [e1, Bool.true_and]
    by_cases h2 : a.waits.length = b.waits.length
    · have e2 : decide (a.waits.length = b.waits.length) = true := decide_eq_true h2
      rw [e2] at g2
      rw [e2, Bool.true_and]
      refine awp_seq_k fun K hK => awp_ev_quiet tab_ok follows (by kernel_rfl) ?_
      simp (maxSteps := 4000000) only [su, evLit, hbT, tab, thenA, blockA, reduceCtorEq, reduceIte, Nat.reduceEqDiff, Nat.reduceBEq, Int.reduceLE, Int.reduceToNat, Nat.reduceAdd, Nat.reduceLT, Nat.reduceLeDiff, List.length_map, g1, g2]
      repeat' (first | (with_reducible refine hK _ ?_; clear hK K) | with_reducible apply And.intro)
      refine call_pure (c_told a ha) ?_
      simp (maxSteps := 4000000) only [su, evLit, hbT, tab, thenA, blockA, reduceCtorEq, reduceIte, Nat.reduceEqDiff, Nat.reduceBEq, Int.reduceLE, Int.reduceToNat, Nat.reduceAdd, Nat.reduceLT, Nat.reduceLeDiff]
      refine call_pure (c_told b hb) ?_
      simp (maxSteps := 4000000) only [su, evLit, hbT, tab, thenA, blockA, reduceCtorEq, reduceIte, Nat.reduceEqDiff, Nat.reduceBEq, Int.reduceLE, Int.reduceToNat, Nat.reduceAdd, Nat.reduceLT, Nat.reduceLeDiff, str_eq]
      repeat' (first | (with_reducible refine hK _ ?_; clear hK K) | with_reducible apply And.intro)
      refine awp_ret ?_
      exact ret_tmp (.inr rfl) rfl rfl rfl (fun _ _ => rfl) rfl
    · have e2 : decide (a.waits.length = b.waits.length) = false := decide_eq_false h2
      rw [e2] at g2
      rw [e2, Bool.false_and]
      refine awp_seq_k fun K hK => awp_ev_quiet tab_ok follows (by kernel_rfl) ?_
      simp (maxSteps := 4000000) only [su, evLit, hbT, tab, thenA, blockA, reduceCtorEq, reduceIte, Nat.reduceEqDiff, Nat.reduceBEq, Int.reduceLE, Int.reduceToNat, Nat.reduceAdd, Nat.reduceLT, Nat.reduceLeDiff, List.length_map, g1, g2]
      repeat' (first | (with_reducible refine hK _ ?_; clear hK K) | with_reducible apply And.intro)
      refine awp_ret ?_
      exact ret_tmp (.inr rfl) rfl rfl rfl (fun _ _ => rfl) rfl
  · have e1 : decide (a.sectors.length = b.sectors.length) = false := decide_eq_false h1
    rw [e1] at g1
    rw [e1, Bool.false_and, Bool.false_and]
    refine awp_seq_k fun K hK => awp_ev_quiet tab_ok follows (by kernel_rfl) ?_
    simp (maxSteps := 4000000) only [su, evLit, hbT, tab, thenA, blockA, reduceCtorEq, reduceIte, Nat.reduceEqDiff, Nat.reduceBEq, Int.reduceLE, Int.reduceToNat, Nat.reduceAdd, Nat.reduceLT, Nat.reduceLeDiff, List.length_map, g1]
    repeat' (first | (with_reducible refine hK _ ?_; clear hK K) | with_reducible apply And.intro)
    refine awp_ret ?_
    exact ret_tmp (.inr rfl) rfl rfl rfl (fun _ _ => rfl) rfl
end Go.Proofs.Ytefkjdkalgemeaa
