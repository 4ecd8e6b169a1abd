/-
  A loss of power, told by numbers in a box.
-/
import Derived.Test.YtefkjdkalgemeaaZD10
import Derived.Test.YtefkjdkalgemeaaZGA
namespace Go.Proofs.Ytefkjdkalgemeaa
set_option linter.unusedVariables false
set_option linter.unusedSimpArgs false
open Go Go.VS Tab
set_option maxHeartbeats 4000000
set_option maxRecDepth 4000
theorem call_read {P : Program} {σ : AState} {K : AV → List (Nat × Res) → Prop} {f : FuncId} {args : List AV} {k : Nat} {q : Option Res} {r : AV} (h : ACall P f args [(k, q)] r []) (h1 : σ.look k = q) (h2 : σ.dom k)
    (h3 : q ≠ some .dead) (hK : K r []) : evCall P σ K f args := ⟨_, r, _, h, ⟨h1, trivial⟩, trivial, (fun x hx => by simp at hx; subst hx; exact ⟨h2, h3⟩), hK⟩
theorem below_of {n k : Nat} {out : Nat → Option Res} {r : Res} (hz : ∀ k, n ≤ k → out k = none) (h : out k = some r) : k < n := by
  rcases Nat.lt_or_ge k n with h1 | h1
  · exact h1
  · rw [hz k h1] at h; cases h
abbrev intBox (l : List Int) : Res := .box 3 (l.map i64)
theorem c_indexFuncK (k : Nat) (fl : Bool) (l : List Int) (fid : FuncId) (caps : List AV) (p : Int → Bool) (hb : hasBody Try.prog fid = True) (hl : l.length ≤ 1000000000)
    (hp : ∀ x, x ∈ l → ACall Try.prog fid (i64 x :: caps) [] (bool (p x)) []) :
    ACall Try.prog 91 [.bsl k 0 l.length fl, .fn (.func fid) caps] [(k, some (intBox l))] (i64 (idx p l)) [] := by
  refine acall_of' 0 Try.func91 rfl fun n out _ _ _ => ?_
  simp only [Try.ntmps91, List.length_cons, List.length_nil, List.length_map, List.length_replicate, rep_map, Nat.reduceAdd, Nat.reduceSub, List.replicate, List.cons_append, List.nil_append]
  rename_i hneeds _ hz
  obtain ⟨hk, _⟩ := hneeds
  have hkn := below_of hz hk
  refine awp_seq_k fun K hK => awp_ev tab_ok [] ?_
  simp (maxSteps := 4000000) only [su, evLit, hbT, tab, thenA, blockA, reduceCtorEq, reduceIte, Nat.reduceEqDiff, Nat.reduceBEq, Int.reduceLE, Int.reduceToNat, Nat.reduceAdd, Nat.reduceLT, Nat.reduceLeDiff]
  repeat' (first | (with_reducible refine hK _ ?_; clear hK K) | with_reducible apply And.intro)
  refine awp_seq_k fun KB hKB => ?_
  refine awp_seq_k fun K hK => awp_ev tab_ok [] ?_
  simp (maxSteps := 4000000) only [su, evLit, hbT, tab, thenA, blockA, reduceCtorEq, reduceIte, Nat.reduceEqDiff, Nat.reduceBEq, Int.reduceLE, Int.reduceToNat, Nat.reduceAdd, Nat.reduceLT, Nat.reduceLeDiff]
  repeat' (first | (with_reducible refine hK _ ?_; clear hK K) | with_reducible apply And.intro)
  refine awp_block ?_
  refine awp_for_g (fun i : Nat => [(8, i64 (i : Int)), (4, .top), (5, .top), (9, .top), (10, .top), (11, .top), (12, .top), (13, .top), (14, .top), (15, .top), (16, .top), (17, .top), (18, .top)]) (fun i => []) (fun i => out) (fun i => i ≤ l.length ∧ (∀ j (hj : j < l.length), j < i → p l[j] = false)) (fun i => l.length - i) 0 ⟨Nat.zero_le _, by intros; omega⟩ ?_ fun i hi => ?_
  · refine le_of_all ?_ ?_ rfl rfl rfl rfl <;> simp only [patch, sl]
  obtain ⟨hi, hq⟩ := hi
  simp only [patch, s_0, s_s]
  refine awp_seq_k fun K hK => awp_ev tab_ok [] ?_
  simp (maxSteps := 4000000) only [su, evLit, hbT, tab, thenA, blockA, reduceCtorEq, reduceIte, Nat.reduceEqDiff, Nat.reduceBEq, Int.reduceLE, Int.reduceToNat, Nat.reduceAdd, Nat.reduceLT, Nat.reduceLeDiff]
  repeat' (first | (with_reducible refine hK _ ?_; clear hK K) | with_reducible apply And.intro)
  refine awp_seq_k fun KC hKC => ?_
  refine awp_if rfl (fun ht => awp_skip (hKC _ ?_)) (fun hf => awp_exit (id ?_))
  rotate_left
  · simp only [thenA, blockA, if_true]
    refine hKB _ ?_
    clear hKB KB hKC KC
    have h_ib : i = l.length := by have := of_decide_eq_false hf; omega
    subst h_ib
    have e := idx_none (p := p) (l := l) fun i hi => hq i hi hi
    rw [e]
    refine awp_seq_k fun K hK => awp_ev tab_ok [] ?_
    simp (maxSteps := 4000000) only [su, evLit, hbT, tab, thenA, blockA, reduceCtorEq, reduceIte, Nat.reduceEqDiff, Nat.reduceBEq, Int.reduceLE, Int.reduceToNat, Nat.reduceAdd, Nat.reduceLT, Nat.reduceLeDiff]
    repeat' (first | (with_reducible refine hK _ ?_; clear hK K) | with_reducible apply And.intro)
    refine awp_ret ?_
    exact ret_tmp (.inr rfl) rfl rfl rfl (fun _ _ => rfl) rfl
  clear hKC KC
  have hlt : i < l.length := by have := of_decide_eq_true ht; omega
  refine awp_seq_k fun KC hKC => awp_block ?_
  refine awp_seq_k fun K hK => awp_ev tab_ok [] ?_
  simp (maxSteps := 4000000) only [su, evLit, hbT, tab, thenA, blockA, reduceCtorEq, reduceIte, Nat.reduceEqDiff, Nat.reduceBEq, Int.reduceLE, Int.reduceToNat, Nat.reduceAdd, Nat.reduceLT, Nat.reduceLeDiff]
  repeat' (first | (with_reducible refine hK _ ?_; clear hK K) | with_reducible apply And.intro)
  have gp := pick_map 1 i64 l i 0 hlt
  have ge : l.getD i 0 = l[i] := by simp [List.getD_eq_getElem?_getD, hlt]
  rw [ge] at gp
  refine awp_seq_k fun K hK => awp_ev tab_ok [] ?_
  simp (maxSteps := 4000000) only [su, evLit, hbT, tab, thenA, blockA, reduceCtorEq, reduceIte, Nat.reduceEqDiff, Nat.reduceBEq, Int.reduceLE, Int.reduceToNat, Nat.reduceAdd, Nat.reduceLT, Nat.reduceLeDiff, hlt, List.length_map, hk, lk_out hkn, dm_out hkn, gp, hb]
  repeat' (first | (with_reducible refine hK _ ?_; clear hK K) | with_reducible apply And.intro)
  refine call_pure (hp _ (List.getElem_mem hlt)) ?_
  simp (maxSteps := 4000000) only [su, evLit, hbT, tab, thenA, blockA, reduceCtorEq, reduceIte, Nat.reduceEqDiff, Nat.reduceBEq, Int.reduceLE, Int.reduceToNat, Nat.reduceAdd, Nat.reduceLT, Nat.reduceLeDiff]
  repeat' (first | (with_reducible refine hK _ ?_; clear hK K) | with_reducible apply And.intro)
  refine awp_if rfl (fun ht => ?_) (fun hf => awp_skip ?_)
  · have e := idx_some hlt ht fun j hj => hq j (by omega) hj
    refine awp_seq_k fun K hK => awp_ev tab_ok [] ?_
    simp (maxSteps := 4000000) only [su, evLit, hbT, tab, thenA, blockA, reduceCtorEq, reduceIte, Nat.reduceEqDiff, Nat.reduceBEq, Int.reduceLE, Int.reduceToNat, Nat.reduceAdd, Nat.reduceLT, Nat.reduceLeDiff]
    repeat' (first | (with_reducible refine hK _ ?_; clear hK K) | with_reducible apply And.intro)
    rw [← e]
    refine awp_ret ?_
    exact ret_tmp (.inr rfl) rfl rfl rfl (fun _ _ => rfl) rfl
  repeat refine And.intro (by omega) ?_
  refine hKC _ ?_
  clear hKC KC
  refine awp_ev tab_ok [] ?_
  simp (maxSteps := 4000000) only [su, evLit, hbT, tab, thenA, blockA, reduceCtorEq, reduceIte, Nat.reduceEqDiff, Nat.reduceBEq, Int.reduceLE, Int.reduceToNat, Nat.reduceAdd, Nat.reduceLT, Nat.reduceLeDiff, addw (n := i) 1 1 rfl (by omega)]
  refine ⟨i + 1, ⟨by omega, ?_⟩, by omega, ?_⟩
  · intro j hj hji
    by_cases h : j = i
    · subst h; exact hf
    · exact hq j hj (by omega)
  refine le_of_all ?_ ?_ rfl rfl rfl rfl <;> simp only [patch, sl]
theorem c_containsFuncK (k : Nat) (fl : Bool) (l : List Int) (fid : FuncId) (caps : List AV) (p : Int → Bool) (hb : hasBody Try.prog fid = True) (hl : l.length ≤ 1000000000)
    (hp : ∀ x, x ∈ l → ACall Try.prog fid (i64 x :: caps) [] (bool (p x)) []) :
    ACall Try.prog 54 [.bsl k 0 l.length fl, .fn (.func fid) caps] [(k, some (intBox l))] (bool (l.any p)) [] := by
  refine acall_of' 0 Try.func54 rfl fun n out _ _ _ => ?_
  simp only [Try.ntmps54, List.length_cons, List.length_nil, List.length_map, List.length_replicate, rep_map, Nat.reduceAdd, Nat.reduceSub, List.replicate, List.cons_append, List.nil_append]
  rename_i hneeds _ hz
  obtain ⟨hk, _⟩ := hneeds
  have hkn := below_of hz hk
  refine awp_seq_k fun K hK => awp_ev tab_ok [] ?_
  simp (maxSteps := 4000000) only [su, evLit, hbT, tab, thenA, blockA, reduceCtorEq, reduceIte, Nat.reduceEqDiff, Nat.reduceBEq, Int.reduceLE, Int.reduceToNat, Nat.reduceAdd, Nat.reduceLT, Nat.reduceLeDiff]
  repeat' (first | (with_reducible refine hK _ ?_; clear hK K) | with_reducible apply And.intro)
  refine awp_seq_k fun K hK => awp_ev tab_ok [] ?_
  simp (maxSteps := 4000000) only [su, evLit, hbT, tab, thenA, blockA, reduceCtorEq, reduceIte, Nat.reduceEqDiff, Nat.reduceBEq, Int.reduceLE, Int.reduceToNat, Nat.reduceAdd, Nat.reduceLT, Nat.reduceLeDiff]
  repeat' (first | (with_reducible refine hK _ ?_; clear hK K) | with_reducible apply And.intro)
  refine call_read (c_indexFuncK k fl l fid caps p hb hl hp) (by rw [lk_out hkn]; exact hk) (by rw [dm_out hkn]; trivial) (by simp) ?_
  simp (maxSteps := 4000000) only [su, evLit, hbT, tab, thenA, blockA, reduceCtorEq, reduceIte, Nat.reduceEqDiff, Nat.reduceBEq, Int.reduceLE, Int.reduceToNat, Nat.reduceAdd, Nat.reduceLT, Nat.reduceLeDiff]
  repeat' (first | (with_reducible refine hK _ ?_; clear hK K) | with_reducible apply And.intro)
  rw [idx_any]
  refine awp_ret ?_
  exact ret_tmp (.inr rfl) rfl rfl rfl (fun _ _ => rfl) rfl
theorem c_crash2K (k : Nat) (fl : Bool) (kp : List Int) (i : Nat) (h : i < kp.length) : ACall Try.prog 58 [i64 (i : Int), .ref [.bsl k 0 kp.length fl]] [(k, some (intBox kp))] (i64 kp[i]) [] := by
  have gp := pick_map 1 i64 kp i 0 h
  have ge : kp.getD i 0 = kp[i] := by simp [List.getD_eq_getElem?_getD, h]
  rw [ge] at gp
  refine acall_of' 0 Try.func58 rfl fun n out _ _ _ => ?_
  simp only [Try.ntmps58, List.length_cons, List.length_nil, List.length_map, List.length_replicate, rep_map, Nat.reduceAdd, Nat.reduceSub, List.replicate, List.cons_append, List.nil_append]
  rename_i hneeds _ hz
  obtain ⟨hk, _⟩ := hneeds
  have hkn := below_of hz hk
  refine awp_seq_k fun K hK => awp_ev tab_ok [] ?_
  simp (maxSteps := 4000000) only [su, evLit, hbT, tab, thenA, blockA, reduceCtorEq, reduceIte, Nat.reduceEqDiff, Nat.reduceBEq, Int.reduceLE, Int.reduceToNat, Nat.reduceAdd, Nat.reduceLT, Nat.reduceLeDiff]
  repeat' (first | (with_reducible refine hK _ ?_; clear hK K) | with_reducible apply And.intro)
  refine awp_seq_k fun K hK => awp_ev tab_ok [] ?_
  simp (maxSteps := 4000000) only [su, evLit, hbT, tab, thenA, blockA, reduceCtorEq, reduceIte, Nat.reduceEqDiff, Nat.reduceBEq, Int.reduceLE, Int.reduceToNat, Nat.reduceAdd, Nat.reduceLT, Nat.reduceLeDiff, h, List.length_map, hk, lk_out hkn, dm_out hkn, gp]
  repeat' (first | (with_reducible refine hK _ ?_; clear hK K) | with_reducible apply And.intro)
  refine awp_ret ?_
  exact ret_tmp (.inr rfl) rfl rfl rfl (fun _ _ => rfl) rfl
theorem c_pieces1K (l kl kh kc : Nat) (hne : kl ≠ kh) (hnc : kc ≠ kh) (P0 : Res) (hP : P0 ≠ .dead) (B : Nat → Res) (hB : ∀ i, B i ≠ .dead) (Bc : Res) (hBc : Bc ≠ .dead) (d : Dsk) (hw : d.waits.length ≤ 1000) (fid : FuncId) (caps : List AV) (kp : Nat → Nat) (hb : hasBody Try.prog fid = True)
    (hk : ∀ i (hi : i < d.waits.length), kp i ≤ (d.waits[i]).data.length ∧ ACall Try.prog fid (i64 (i : Int) :: caps) [(kc, some Bc)] (i64 ((kp i : Nat) : Int)) [])
    (hy : ∀ i (hi : i < d.waits.length), AYld Try.prog l [i64 (d.waits[i]).at', bs ((d.waits[i]).data.take (kp i))] [(kl, some P0), (kh, some (B i))] (.val (.bool true)) [(kh, B (i + 1))]) :
    ACall Try.prog 106 [.fn (.yield l) [], .ref (dskC d), .ref [.fn (.func fid) caps]] [(kl, some P0), (kh, some (B 0)), (kc, some Bc)] (.tup []) [(kh, B d.waits.length)] := by
  refine acall_of' 1 Try.func106 rfl fun n out _ _ _ => ?_
  simp only [Try.ntmps106, List.length_cons, List.length_nil, List.length_map, List.length_replicate, rep_map, Nat.reduceAdd, Nat.reduceSub, List.replicate, List.cons_append, List.nil_append]
  rename_i hneeds hg hz
  obtain ⟨hkl, hkh, hkc, _⟩ := hneeds
  obtain ⟨hkn, _⟩ := hg
  have hkln := below_of hz hkl
  have hkcn := below_of hz hkc
  refine awp_seq_k fun K hK => awp_ev tab_ok [] ?_
  simp (maxSteps := 4000000) only [su, evLit, hbT, tab, thenA, blockA, reduceCtorEq, reduceIte, Nat.reduceEqDiff, Nat.reduceBEq, Int.reduceLE, Int.reduceToNat, Nat.reduceAdd, Nat.reduceLT, Nat.reduceLeDiff, dskC, List.length_map]
  repeat' (first | (with_reducible refine hK _ ?_; clear hK K) | with_reducible apply And.intro)
  refine awp_block ?_
  refine awp_for_mv (fun m (i : Nat) => [(9, i64 (i : Int)), (4, .top), (5, .top), (10, .top), (11, .top), (12, .top), (13, .top), (14, .top), (15, .top), (16, .top), (17, .top), (18, .top), (19, .top), (20, .top), (21, .top), (22, .top), (23, .top), (24, .top), (25, .top)]) (fun m i => [none]) (fun i => upd1 out kh (B i)) (fun i => i ≤ d.waits.length) (fun i => d.waits.length - i) 0 (Nat.zero_le _) ?_ fun m i hm hi => ?_
  · refine le_of_all ?_ ?_ (by first | rfl | (simp only [upd1_self hkh]; rfl) | simp only [upd1_self hkh]) rfl rfl rfl <;> simp only [patch, sl, upd1_self hkh]
  simp only [patch, s_0, s_s]
  refine awp_seq_k fun K hK => awp_ev tab_ok [] ?_
  simp (maxSteps := 4000000) only [su, evLit, hbT, tab, thenA, blockA, reduceCtorEq, reduceIte, Nat.reduceEqDiff, Nat.reduceBEq, Int.reduceLE, Int.reduceToNat, Nat.reduceAdd, Nat.reduceLT, Nat.reduceLeDiff, upd1_self hkh]
  repeat' (first | (with_reducible refine hK _ ?_; clear hK K) | with_reducible apply And.intro)
  refine awp_seq_k fun KC hKC => ?_
  refine awp_if rfl (fun ht => awp_skip (hKC _ ?_)) (fun hf => awp_exit (id ?_))
  rotate_left
  · simp only [thenA, blockA, if_true]
    have h_ib : i = d.waits.length := by have := of_decide_eq_false hf; omega
    subst h_ib
    exact ret_unit (.inl rfl) rfl rfl rfl (fun _ _ => rfl)
  clear hKC KC
  have hlt : i < d.waits.length := by have := of_decide_eq_true ht; omega
  refine awp_seq_k fun KC hKC => awp_block ?_
  refine awp_seq_k fun K hK => awp_ev tab_ok [] ?_
  simp (maxSteps := 4000000) only [su, evLit, hbT, tab, thenA, blockA, reduceCtorEq, reduceIte, Nat.reduceEqDiff, Nat.reduceBEq, Int.reduceLE, Int.reduceToNat, Nat.reduceAdd, Nat.reduceLT, Nat.reduceLeDiff, locM hm, hlt, List.length_map, getD_map wrC d.waits i [] hlt, wrC]
  repeat' (first | (with_reducible refine hK _ ?_; clear hK K) | with_reducible apply And.intro)
  obtain ⟨hk1, hk2⟩ := hk i hlt
  refine awp_seq_k fun K hK => awp_ev_tail tab_ok [] 9 [2, 4, 5, 7] follows (by kernel_rfl) (by kernel_rfl) ?_
  simp (maxSteps := 4000000) only [su, evLit, hbT, tab, thenA, blockA, reduceCtorEq, reduceIte, Nat.reduceEqDiff, Nat.reduceBEq, Int.reduceLE, Int.reduceToNat, Nat.reduceAdd, Nat.reduceLT, Nat.reduceLeDiff, locM hm, hb, bytes_length]
  refine call_read hk2 (by rw [lk_out hkcn, upd1_ne _ _ hnc]; exact hkc) (by rw [dm_out hkcn]; trivial) (by simpa using hBc) ?_
  simp (maxSteps := 4000000) only [su, evLit, hbT, tab, thenA, blockA, reduceCtorEq, reduceIte, Nat.reduceEqDiff, Nat.reduceBEq, Int.reduceLE, Int.reduceToNat, Nat.reduceAdd, Nat.reduceLT, Nat.reduceLeDiff, locM hm, loOf, hiOf, bytes_length, Nat.zero_le, hk1, bytes_take, Nat.sub_zero, Int.toNat_natCast, Int.natCast_nonneg, Nat.beq_refl, contT_t]
  refine yld_of (hy i hlt) ⟨?_, ?_, trivial⟩ ⟨?_, trivial⟩ ?_ ?_
  · rw [lk_out hkln, upd1_ne _ _ hne]; exact hkl
  · rw [lk_out hkn]; exact upd1_same _ _ _
  · rw [dm_out hkn]; trivial
  · intro x hx
    simp only [List.mem_cons, List.not_mem_nil, or_false] at hx
    rcases hx with rfl | rfl
    · exact ⟨by rw [dm_out hkln]; trivial, by simpa using hP⟩
    · exact ⟨by rw [dm_out hkn]; trivial, by simpa using hB i⟩
  simp (maxSteps := 4000000) only [su, evLit, hbT, tab, thenA, blockA, reduceCtorEq, reduceIte, Nat.reduceEqDiff, Nat.reduceBEq, Int.reduceLE, Int.reduceToNat, Nat.reduceAdd, Nat.reduceLT, Nat.reduceLeDiff, locM hm, nx_out0 hkn, upd1_upd1, Bool.not_true]
  repeat' (first | (with_reducible refine hK _ ?_; clear hK K) | with_reducible apply And.intro)
  refine awp_cond_f rfl (awp_skip ?_)
  simp only [thenA, blockA]
  repeat refine And.intro (by omega) ?_
  refine hKC _ ?_
  clear hKC KC
  refine awp_ev tab_ok [] ?_
  simp (maxSteps := 4000000) only [su, evLit, hbT, tab, thenA, blockA, reduceCtorEq, reduceIte, Nat.reduceEqDiff, Nat.reduceBEq, Int.reduceLE, Int.reduceToNat, Nat.reduceAdd, Nat.reduceLT, Nat.reduceLeDiff, locM hm, addw (n := i) 1 1 rfl (by omega)]
  refine ⟨i + 1, by omega, by omega, ?_⟩
  refine le_move [false] (fun n_ => ?_) (fun n_ => ?_) <;> simp only [patch, sm]
theorem c_comesK (kc : Nat) (Bc : Res) (hBc : Bc ≠ .dead) (d : Dsk) (fid : FuncId) (caps : List AV) (kp : Nat → Nat) (hd : may d = true) (hb : hasBody Try.prog fid = True)
    (hk : ∀ i, i < d.waits.length → kp i ≤ 128 ∧ ACall Try.prog fid (i64 (i : Int) :: caps) [(kc, some Bc)] (i64 ((kp i : Nat) : Int)) []) :
    ACall Try.prog 57 [dskA d, .fn (.func fid) caps] [(kc, some Bc)] (dskA (comes kp d)) [(kc, Bc)] := by
  obtain ⟨hd1, hd2, hd3, hd4⟩ := (may_iff d).1 hd
  refine acall_of_range 7 Try.func57 rfl fun n out _ _ => ?_
  simp only [Try.ntmps57, List.length_cons, List.length_nil, List.length_map, List.length_replicate, rep_map, Nat.reduceAdd, Nat.reduceSub, List.replicate, List.cons_append, List.nil_append]
  rename_i hneeds hgv
  obtain ⟨hkc, _⟩ := hneeds
  obtain ⟨hkcn, _⟩ := hgv
  refine awp0_seq_k fun K hK => AWp.zero (awp_ev tab_ok [] ?_)
  simp (maxSteps := 4000000) only [su, evLit, hbT, tab, thenA, blockA, reduceCtorEq, reduceIte, Nat.reduceEqDiff, Nat.reduceBEq, Int.reduceLE, Int.reduceToNat, Nat.reduceAdd, Nat.reduceLT, Nat.reduceLeDiff, dskA, dskC]
  repeat' (first | (with_reducible refine hK _ ?_; clear hK K) | with_reducible apply And.intro)
  refine awp0_seq_k fun K hK => AWp.zero (awp_ev tab_ok [] ?_)
  simp (maxSteps := 4000000) only [su, evLit, hbT, tab, thenA, blockA, reduceCtorEq, reduceIte, Nat.reduceEqDiff, Nat.reduceBEq, Int.reduceLE, Int.reduceToNat, Nat.reduceAdd, Nat.reduceLT, Nat.reduceLeDiff]
  repeat' (first | (with_reducible refine hK _ ?_; clear hK K) | with_reducible apply And.intro)
  refine call_one (c_eachB_b (n + 2) d.sectors _ [] bs secC (hb0 _ (by decide) (by decide)) (by omega) (by omega) (fun _ => rfl) (fun _ => rfl) fun l hl => c_clone l (by have := hd3 l hl; omega)) (look_loc _ (Nat.le_refl _) 2) (dom_loc _ (by simp)) (by simp) ?_
  simp (maxSteps := 4000000) only [su, evLit, hbT, tab, thenA, blockA, reduceCtorEq, reduceIte, Nat.reduceEqDiff, Nat.reduceBEq, Int.reduceLE, Int.reduceToNat, Nat.reduceAdd, Nat.reduceLT, Nat.reduceLeDiff]
  repeat' (first | (with_reducible refine hK _ ?_; clear hK K) | with_reducible apply And.intro)
  refine awp0_le (le_freezeAt (i := 3) (t := 5) (e := 22) (cs := [.bsl (n + 2) 0 d.sectors.length false]) 1 (.ref [.bsl (n + 2) 0 d.sectors.length false]) rfl rfl (Fz.ptr 0)) ?_
  simp only [s_0, s_s]
  refine awp0_seq_k fun KB hKB => ?_
  refine awp0_seq_k fun K hK => AWp.zero (awp_ev tab_ok [] ?_)
  simp (maxSteps := 4000000) only [su, evLit, hbT, tab, thenA, blockA, reduceCtorEq, reduceIte, Nat.reduceEqDiff, Nat.reduceBEq, Int.reduceLE, Int.reduceToNat, Nat.reduceAdd, Nat.reduceLT, Nat.reduceLeDiff]
  repeat' (first | (with_reducible refine hK _ ?_; clear hK K) | with_reducible apply And.intro)
  refine call_pure (c_pieces d fid caps) ?_
  simp (maxSteps := 4000000) only [su, evLit, hbT, tab, thenA, blockA, reduceCtorEq, reduceIte, Nat.reduceEqDiff, Nat.reduceBEq, Int.reduceLE, Int.reduceToNat, Nat.reduceAdd, Nat.reduceLT, Nat.reduceLeDiff]
  repeat' (first | (with_reducible refine hK _ ?_; clear hK K) | with_reducible apply And.intro)
  rw [flat_sec]
  refine awp0_block (awp0_range (r := .tup []) (gf := 106) (caps := [.ref (dskC d), .ref [.fn (.func fid) caps]]) 4 5 Try.func106 (by kernel_rfl) (by kernel_rfl) rfl (by decide) rfl rfl ?_)
  intro D lp rec F hF h1 h2 h3 h4 h5
  refine ⟨_, _, c_pieces1K lp (n + 5) (n + 2) kc (by omega) (by omega) (.pin lp (.loop rec) F) (by simp) (fun i => .box 37 ((comesS kp d i).map bs)) (by simp) Bc hBc d (by omega) fid caps kp hb (fun i hi => ?_) (fun i hi => ayld_of_body (fr := F) (fr1 := (((F.set 14 (i64 (d.waits[i]).at')).set 15 (bs ((d.waits[i]).data.take (kp i)))).set 6 (i64 (d.waits[i]).at')).set 7 (bs ((d.waits[i]).data.take (kp i)))) (ps := [14, 15]) 0 h1 h2 h3 h4 h5 rfl (by simp) (by simp) ?_ ?_), ?_, ?_, ?_, ?_, ?_⟩
  · have hw := hd4 _ (List.getElem_mem hi)
    exact ⟨by have := (hk i hi).1; omega, (hk i hi).2⟩
  · intro n' out'
    subst hF
    simp only [List.zip_cons_cons, List.zip_nil_left, List.zip_nil_right, setAll, s_0, s_s]
    refine awp_seq_k fun K hK => awp_ev tab_ok [] ?_
    simp (maxSteps := 4000000) only [su, evLit, hbT, tab, thenA, blockA, reduceCtorEq, reduceIte, Nat.reduceEqDiff, Nat.reduceBEq, Int.reduceLE, Int.reduceToNat, Nat.reduceAdd, Nat.reduceLT, Nat.reduceLeDiff]
    repeat' (first | (with_reducible refine hK _ ?_; clear hK K) | with_reducible apply And.intro)
    refine awp_ev tab_ok [] ?_
    simp (maxSteps := 4000000) only [su, evLit, hbT, tab, thenA, blockA, reduceCtorEq, reduceIte, Nat.reduceEqDiff, Nat.reduceBEq, Int.reduceLE, Int.reduceToNat, Nat.reduceAdd, Nat.reduceLT, Nat.reduceLeDiff]
  · intro n' out' hh hg
    obtain ⟨hkk, _⟩ := hh
    obtain ⟨hkn, _⟩ := hg
    obtain ⟨w1, w2, w3⟩ := hd4 _ (List.getElem_mem hi)
    have hsl := comesS_len kp d i
    have hrow := comesS_rows hd (fun i hi => (hk i hi).1) i
    obtain ⟨z, hz⟩ : ∃ z : Nat, (d.waits[i]).at' = (z : Int) := ⟨(d.waits[i]).at'.toNat, by omega⟩
    have hz32 : z < 32 := by omega
    have hz3 : (z : Int) < (d.sectors.length : Int) := by omega
    have hzl : z < (comesS kp d i).length := by omega
    have hg1 : (comesS kp d i).getD z [] = (comesS kp d i)[z] := by simp [List.getD_eq_getElem?_getD, hzl]
    have hrl : ((comesS kp d i).getD z []).length = 128 := by rw [hg1]; exact hrow _ (List.getElem_mem hzl)
    have hkp := (hk i hi).1
    refine awp_block ?_
    subst hF
    simp only [List.replicate, s_0, s_s]
    refine awp_ev_tail tab_ok [] 9 [0, 2, 5] follows (by kernel_rfl) (by kernel_rfl) ?_
    simp (maxSteps := 4000000) only [su, evLit, hbT, tab, thenA, blockA, reduceCtorEq, reduceIte, Nat.reduceEqDiff, Nat.reduceBEq, Int.reduceLE, Int.reduceToNat, Nat.reduceAdd, Nat.reduceLT, Nat.reduceLeDiff, lk_out hkn, dm_out hkn, hkk, hz, hz3, pick_map 1 bs (comesS kp d i) z [] hzl]
    refine call_pure (c_laid _ _ .sh (by rw [hrl, List.length_take]; omega) (by omega)) ?_
    have hst : splice ((comesS kp d i).map bs) z [bs (laid ((comesS kp d i).getD z []) ((d.waits[i]).data.take (kp i)))] = (comesS kp d (i + 1)).map bs := by
      rw [splice_map bs _ _ _ hzl, comesS, dif_pos hi, lay, hz]; rfl
    have hml : ((comesS kp d i).map bs).length = (comesS kp d i).length := by simp
    simp (maxSteps := 4000000) only [su, evLit, hbT, tab, thenA, blockA, reduceCtorEq, reduceIte, Nat.reduceEqDiff, Nat.reduceBEq, Int.reduceLE, Int.reduceToNat, Nat.reduceAdd, Nat.reduceLT, Nat.reduceLeDiff, lk_out hkn, dm_out hkn, nx_out1 hkn, hkk, hz3, List.length_map, show z + 1 ≤ (comesS kp d i).length by omega, hst]
    exact fun _ _ => rfl
  · subst hF
    simp only [holds, s_0, s_s, lk_loc, lk_out hkcn, hkc, List.getElem?_cons_zero, List.getElem?_cons_succ, Option.join_some, and_true, true_and]
    rfl
  · exact ⟨dom_loc _ (by simp), trivial⟩
  · intro x hx
    simp only [List.mem_cons, List.not_mem_nil, or_false] at hx
    rcases hx with rfl | rfl | rfl
    · exact dom_loc _ (by simp)
    · exact dom_loc _ (by simp)
    · rw [dm_out hkcn]; trivial
  · intro x hx
    simp only [List.mem_cons, List.not_mem_nil, or_false] at hx
    subst hx
    show n + 2 ≠ n + 5
    omega
  simp only [thenA, blockA, s_0, s_s, gv_loc]
  refine hKB _ ?_
  clear hKB KB
  refine AWp.zero ?_
  have hcl : ((comesS kp d d.waits.length).map bs).length = d.sectors.length := by rw [List.length_map, comesS_len]
  refine awp_le (le_freezeAt (i := 2) (t := 5) (e := 37) (cs := (comesS kp d d.waits.length).map bs) 1 (.ref [.sl 1 ((comesS kp d d.waits.length).map secC) .sh]) rfl rfl (Fz.ref _ _ rfl fun i c c' hc hc' => ?_)) ?_
  · match i with
    | 0 =>
      simp only [List.getElem?_cons_zero, Option.some.injEq] at hc hc'
      subst hc; subst hc'
      have := Fz.bsl (k := n + 2) (sz := 1) (cs := (comesS kp d d.waits.length).map bs) 0 d.sectors.length false ⟨by omega, by omega⟩
      rw [List.drop_zero, ← comesS_len kp d d.waits.length, chunk_sec] at this
      rw [← comesS_len kp d d.waits.length]; exact this
    | i + 1 => simp at hc
  simp only [s_0, s_s]
  refine awp_seq_k fun K hK => awp_ev tab_ok [] ?_
  simp (maxSteps := 4000000) only [su, evLit, hbT, tab, thenA, blockA, reduceCtorEq, reduceIte, Nat.reduceEqDiff, Nat.reduceBEq, Int.reduceLE, Int.reduceToNat, Nat.reduceAdd, Nat.reduceLT, Nat.reduceLeDiff]
  repeat' (first | (with_reducible refine hK _ ?_; clear hK K) | with_reducible apply And.intro)
  refine call_one (c_each_b (n + 6) (comesS kp d d.waits.length) _ [] bs secC (hb0 _ (by decide) (by decide)) (by rw [comesS_len]; omega) (fun _ => rfl) (fun _ => rfl) fun l hl => c_clone l (by rw [comesS_rows hd (fun i hi => (hk i hi).1) _ l hl]; omega)) (look_loc _ (Nat.le_refl _) 6) (dom_loc _ (by simp)) (by simp) ?_
  simp (maxSteps := 4000000) only [su, evLit, hbT, tab, thenA, blockA, reduceCtorEq, reduceIte, Nat.reduceEqDiff, Nat.reduceBEq, Int.reduceLE, Int.reduceToNat, Nat.reduceAdd, Nat.reduceLT, Nat.reduceLeDiff]
  repeat' (first | (with_reducible refine hK _ ?_; clear hK K) | with_reducible apply And.intro)
  refine awp_ret ?_
  exact ⟨4, D, rfl, rfl, ret_cell_le (.inr rfl) rfl rfl rfl (fun _ _ => by rw [upd_cons, upd1_self hkc, upd_nil]) ok25 (k := n + 1) (off := 0) rfl (dom_loc _ (by simp)) (look_loc _ (Nat.le_refl _) 1) rfl (by simp only [dskA, dskC, comes, List.map_nil, patch, sl])⟩
theorem c_crashK (k : Nat) (fl : Bool) (d : Dsk) (kp : List Int) (h1 : d.sectors.length ≤ 1000) (h2 : d.waits.length ≤ 1000) (h3 : kp.length ≤ 1000000) :
    ACall Try.prog 19 [dskA d, .bsl k 0 kp.length fl] [(k, some (intBox kp))] (.tup [dskA (crashD d kp), i64 (crashE d kp)]) [(k, intBox kp)] := by
  refine acall_of 3 Try.func19 rfl fun n out _ _ => ?_
  simp only [Try.ntmps19, List.length_cons, List.length_nil, List.length_map, List.length_replicate, rep_map, Nat.reduceAdd, Nat.reduceSub, List.replicate, List.cons_append, List.nil_append]
  rename_i hneeds hgv
  obtain ⟨hk, _⟩ := hneeds
  obtain ⟨hkn, _⟩ := hgv
  have hou : ∀ j, j < n → out j = upd out [(k, intBox kp)] j := fun j _ => by rw [upd_cons, upd1_self hk, upd_nil]
  refine awp_seq_k fun K hK => awp_ev tab_ok [] ?_
  simp (maxSteps := 4000000) only [su, evLit, hbT, tab, thenA, blockA, reduceCtorEq, reduceIte, Nat.reduceEqDiff, Nat.reduceBEq, Int.reduceLE, Int.reduceToNat, Nat.reduceAdd, Nat.reduceLT, Nat.reduceLeDiff, dskA, dskC]
  repeat' (first | (with_reducible refine hK _ ?_; clear hK K) | with_reducible apply And.intro)
  have bad : ∀ e : Int, e ≠ 0 → crashE d kp = e → AV.le (.tup [.agg [.sl 0 [] .nil, .sl 0 [] .nil], i64 e]) (.tup [dskA (crashD d kp), i64 (crashE d kp)]) := fun e h h' => by
    have h2 : crashD d kp = noDsk := by unfold crashD; rw [h', if_neg h]
    rw [h2, h']
    simp only [dskA, dskC, noDsk, List.map_nil, patch, sl]
  refine awp_seq_k fun KB hKB => ?_
  refine awp_seq_k fun K hK => awp_ev tab_ok [] ?_
  simp (maxSteps := 4000000) only [su, evLit, hbT, tab, thenA, blockA, reduceCtorEq, reduceIte, Nat.reduceEqDiff, Nat.reduceBEq, Int.reduceLE, Int.reduceToNat, Nat.reduceAdd, Nat.reduceLT, Nat.reduceLeDiff]
  repeat' (first | (with_reducible refine hK _ ?_; clear hK K) | with_reducible apply And.intro)
  refine call_pure (c_check d h1 h2) ?_
  simp (maxSteps := 4000000) only [su, evLit, hbT, tab, thenA, blockA, reduceCtorEq, reduceIte, Nat.reduceEqDiff, Nat.reduceBEq, Int.reduceLE, Int.reduceToNat, Nat.reduceAdd, Nat.reduceLT, Nat.reduceLeDiff]
  repeat' (first | (with_reducible refine hK _ ?_; clear hK K) | with_reducible apply And.intro)
  by_cases hm : ¬ may d = true
  · refine awp_seq_k fun K hK => awp_ev tab_ok [] ?_
    simp (maxSteps := 4000000) only [su, evLit, hbT, tab, thenA, blockA, reduceCtorEq, reduceIte, Nat.reduceEqDiff, Nat.reduceBEq, Int.reduceLE, Int.reduceToNat, Nat.reduceAdd, Nat.reduceLT, Nat.reduceLeDiff, Bool.false_eq_true, Int.reduceBNe, hm]
    repeat' (first | (with_reducible refine hK _ ?_; clear hK K) | with_reducible apply And.intro)
    refine awp_cond_t rfl (awp_ret ?_)
    refine ret_ct (.inr rfl) rfl rfl rfl hou ok25 (k := n + 2) (off := 0) rfl (dom_loc _ (by simp)) (look_loc _ (Nat.le_refl _) 2) rfl rfl (bad 8 (by decide) (by simp [crashE, hm]))
  have hm : may d = true := by simpa using hm
  refine awp_seq_k fun K hK => awp_ev tab_ok [] ?_
  simp (maxSteps := 4000000) only [su, evLit, hbT, tab, thenA, blockA, reduceCtorEq, reduceIte, Nat.reduceEqDiff, Nat.reduceBEq, Int.reduceLE, Int.reduceToNat, Nat.reduceAdd, Nat.reduceLT, Nat.reduceLeDiff, hm]
  repeat' (first | (with_reducible refine hK _ ?_; clear hK K) | with_reducible apply And.intro)
  refine awp_cond_f rfl (awp_skip (hKB _ ?_))
  clear hKB KB
  by_cases hl : kp.length ≠ d.waits.length
  · have g : ((kp.length : Int) != (d.waits.length : Int)) = true := by simp; omega
    refine awp_seq_k fun KB hKB => ?_
    refine awp_seq_k fun K hK => awp_ev tab_ok [] ?_
    simp (maxSteps := 4000000) only [su, evLit, hbT, tab, thenA, blockA, reduceCtorEq, reduceIte, Nat.reduceEqDiff, Nat.reduceBEq, Int.reduceLE, Int.reduceToNat, Nat.reduceAdd, Nat.reduceLT, Nat.reduceLeDiff, List.length_map, g]
    repeat' (first | (with_reducible refine hK _ ?_; clear hK K) | with_reducible apply And.intro)
    refine awp_cond_t rfl ?_
    refine awp_seq_k fun K hK => awp_ev tab_ok [] ?_
    simp (maxSteps := 4000000) only [su, evLit, hbT, tab, thenA, blockA, reduceCtorEq, reduceIte, Nat.reduceEqDiff, Nat.reduceBEq, Int.reduceLE, Int.reduceToNat, Nat.reduceAdd, Nat.reduceLT, Nat.reduceLeDiff]
    repeat' (first | (with_reducible refine hK _ ?_; clear hK K) | with_reducible apply And.intro)
    refine awp_ret ?_
    refine ret_ct (.inr rfl) rfl rfl rfl hou ok25 (k := n + 2) (off := 0) rfl (dom_loc _ (by simp)) (look_loc _ (Nat.le_refl _) 2) rfl rfl (bad 4 (by decide) (by simp [crashE, hm, hl]))
  have hl : kp.length = d.waits.length := by omega
  have g : ((kp.length : Int) != (d.waits.length : Int)) = false := by simp; omega
  refine awp_seq_k fun KB hKB => ?_
  refine awp_seq_k fun K hK => awp_ev tab_ok [] ?_
  simp (maxSteps := 4000000) only [su, evLit, hbT, tab, thenA, blockA, reduceCtorEq, reduceIte, Nat.reduceEqDiff, Nat.reduceBEq, Int.reduceLE, Int.reduceToNat, Nat.reduceAdd, Nat.reduceLT, Nat.reduceLeDiff, List.length_map, g]
  repeat' (first | (with_reducible refine hK _ ?_; clear hK K) | with_reducible apply And.intro)
  refine awp_cond_f rfl (awp_skip (hKB _ ?_))
  clear hKB KB
  refine awp_seq_k fun KB hKB => ?_
  refine awp_seq_k fun K hK => awp_ev tab_ok [] ?_
  simp (maxSteps := 4000000) only [su, evLit, hbT, tab, thenA, blockA, reduceCtorEq, reduceIte, Nat.reduceEqDiff, Nat.reduceBEq, Int.reduceLE, Int.reduceToNat, Nat.reduceAdd, Nat.reduceLT, Nat.reduceLeDiff]
  repeat' (first | (with_reducible refine hK _ ?_; clear hK K) | with_reducible apply And.intro)
  refine call_read (c_containsFuncK k fl kp _ [] (fun x => !(decide (0 ≤ x) && decide (x < 129))) (hb0 _ (by decide) (by decide)) (by omega) fun x _ => c_crash1 x) (by rw [lk_out hkn]; exact hk) (by rw [dm_out hkn]; trivial) (by simp) ?_
  have key : (kp.any fun x => !(decide (0 ≤ x) && decide (x < 129))) = !(kp.all fun x => decide (0 ≤ x) && decide (x < 129)) := by simp [List.any_eq_not_all_not]
  rw [key]
  simp (maxSteps := 4000000) only [su, evLit, hbT, tab, thenA, blockA, reduceCtorEq, reduceIte, Nat.reduceEqDiff, Nat.reduceBEq, Int.reduceLE, Int.reduceToNat, Nat.reduceAdd, Nat.reduceLT, Nat.reduceLeDiff]
  repeat' (first | (with_reducible refine hK _ ?_; clear hK K) | with_reducible apply And.intro)
  by_cases ha : (kp.all fun x => decide (0 ≤ x) && decide (x < 129)) = false
  · rw [ha]
    refine awp_cond_t rfl ?_
    refine awp_seq_k fun K hK => awp_ev tab_ok [] ?_
    simp (maxSteps := 4000000) only [su, evLit, hbT, tab, thenA, blockA, reduceCtorEq, reduceIte, Nat.reduceEqDiff, Nat.reduceBEq, Int.reduceLE, Int.reduceToNat, Nat.reduceAdd, Nat.reduceLT, Nat.reduceLeDiff]
    repeat' (first | (with_reducible refine hK _ ?_; clear hK K) | with_reducible apply And.intro)
    refine awp_ret ?_
    refine ret_ct (.inr rfl) rfl rfl rfl hou ok25 (k := n + 2) (off := 0) rfl (dom_loc _ (by simp)) (look_loc _ (Nat.le_refl _) 2) rfl rfl (bad 2 (by decide) (by simp only [crashE, hm, hl, ha, if_true, if_false, Bool.false_eq_true]))
  have ha : (kp.all fun x => decide (0 ≤ x) && decide (x < 129)) = true := by simpa using ha
  rw [ha]
  refine awp_cond_f rfl (awp_skip (hKB _ ?_))
  clear hKB KB
  have e : crashE d kp = 0 := by simp only [crashE, hm, hl, ha, if_true]
  have e' : crashD d kp = comes (fun i => (kp.getD i 0).toNat) d := by unfold crashD; rw [if_pos e]
  refine awp_le (le_freezeAt (i := 1) (t := 3) (e := 26) (cs := [.bsl k 0 kp.length fl]) 1 (.ref [.bsl k 0 kp.length fl]) rfl rfl (Fz.ptr 0)) ?_
  simp only [s_0, s_s]
  refine awp_seq_k fun K hK => awp_ev tab_ok [] ?_
  simp (maxSteps := 4000000) only [su, evLit, hbT, tab, thenA, blockA, reduceCtorEq, reduceIte, Nat.reduceEqDiff, Nat.reduceBEq, Int.reduceLE, Int.reduceToNat, Nat.reduceAdd, Nat.reduceLT, Nat.reduceLeDiff]
  repeat' (first | (with_reducible refine hK _ ?_; clear hK K) | with_reducible apply And.intro)
  refine call_one (c_comesK k (intBox kp) (by simp) d _ [.ref [.bsl k 0 kp.length fl]] (fun i => (kp.getD i 0).toNat) hm (hb0 _ (by decide) (by decide)) fun i hi => ?_) (by rw [lk_out hkn]; exact hk) (by rw [dm_out hkn]; trivial) (by simp) ?_
  · have hi' : i < kp.length := by omega
    have hg : kp.getD i 0 = kp[i] := by simp [List.getD_eq_getElem?_getD, hi']
    have h5 := List.all_eq_true.1 ha _ (List.getElem_mem hi')
    simp only [Bool.and_eq_true, decide_eq_true_eq] at h5
    simp only [hg]
    refine ⟨by omega, ?_⟩
    have h6 := c_crash2K k fl kp i hi'
    rw [show ((kp[i].toNat : Nat) : Int) = kp[i] by omega]
    exact h6
  simp (maxSteps := 4000000) only [su, evLit, hbT, tab, thenA, blockA, reduceCtorEq, reduceIte, Nat.reduceEqDiff, Nat.reduceBEq, Int.reduceLE, Int.reduceToNat, Nat.reduceAdd, Nat.reduceLT, Nat.reduceLeDiff, dskA, dskC, nx_outs hkn, upd1_self hk]
  repeat' (first | (with_reducible refine hK _ ?_; clear hK K) | with_reducible apply And.intro)
  refine awp_ret ?_
  refine ret_ct (.inr rfl) rfl rfl rfl hou ok25 (k := n + 2) (off := 0) rfl (dom_loc _ (by simp)) (look_loc _ (Nat.le_refl _) 2) rfl rfl ?_
  rw [e, e']
  simp only [dskA, dskC, patch, sl]
end Go.Proofs.Ytefkjdkalgemeaa
