/-
  Disks copied; writes put behind.
-/
import Derived.Test.YtefkjdkalgemeaaZGA
import Derived.Test.YtefkjdkalgemeaaZD7
namespace Go.Proofs.Ytefkjdkalgemeaa
set_option linter.unusedVariables false
set_option linter.unusedSimpArgs false
open Go Go.VS Tab
set_option maxHeartbeats 1000000
set_option maxRecDepth 4000
structure Small (d : Dsk) : Prop where
  s : d.sectors.length ≤ 1000
  w : d.waits.length ≤ 1000
  sb : ∀ b, b ∈ d.sectors → b.length ≤ 1000000
  wb : ∀ w, w ∈ d.waits → w.data.length ≤ 1000000
theorem c_twin (k : Nat) (d : Dsk) (hd : Small d) : ACall Try.prog 40 [dskA d] [(k, none)] (.agg [.sl 1 (d.sectors.map secC) .sh, .sl 2 (d.waits.map wrC) (.own k)]) [(k, .row 52 2 d.waits.length)] := by
  refine acall_of 4 Try.func40 rfl fun n out _ _ => ?_
  simp only [Try.ntmps40, List.length_cons, List.length_nil, List.length_map, List.length_replicate, rep_map, Nat.reduceAdd, Nat.reduceSub, List.replicate, List.cons_append, List.nil_append]
  rename_i hneeds hgv
  obtain ⟨hk, _⟩ := hneeds
  obtain ⟨hkn, _⟩ := hgv
  refine awp_seq_k fun K hK => awp_ev tab_ok [] ?_
  simp (maxSteps := 4000000) only [su, evLit, hbT, tab, thenA, blockA, reduceCtorEq, reduceIte, Nat.reduceEqDiff, Nat.reduceBEq, Int.reduceLE, Int.reduceToNat, Nat.reduceAdd, Nat.reduceLT, Nat.reduceLeDiff, dskA, dskC]
  repeat' (first | (with_reducible refine hK _ ?_; clear hK K) | with_reducible apply And.intro)
  refine awp_seq_k fun K hK => awp_ev_draw tab_ok [] [[], [0], [2], [], [0], [3], [], [1]] [[], [], [2], [], [], [3], [], [1]] follows (by kernel_rfl) (by decide) (by decide) (by kernel_rfl) ?_
  simp (maxSteps := 4000000) only [su, evLit, hbT, tab, thenA, blockA, reduceCtorEq, reduceIte, Nat.reduceEqDiff, Nat.reduceBEq, Int.reduceLE, Int.reduceToNat, Nat.reduceAdd, Nat.reduceLT, Nat.reduceLeDiff]
  repeat' (first | (with_reducible refine hK _ ?_; clear hK K) | with_reducible apply And.intro)
  refine call_one (c_each_b (n + 2) d.sectors _ [] bs secC (hb0 _ (by decide) (by decide)) (by have := hd.s; omega) (fun _ => rfl) (fun _ => rfl) fun l hl => c_clone l (by have := hd.sb l hl; omega)) (look_loc _ (Nat.le_refl _) 2) (dom_loc _ (by simp)) (by simp) ?_
  simp (maxSteps := 4000000) only [su, evLit, hbT, tab, thenA, blockA, reduceCtorEq, reduceIte, Nat.reduceEqDiff, Nat.reduceBEq, Int.reduceLE, Int.reduceToNat, Nat.reduceAdd, Nat.reduceLT, Nat.reduceLeDiff]
  refine call_one (c_each_ww (n + 3) d.waits _ [] wrA wrC (hb0 _ (by decide) (by decide)) (by have := hd.w; omega) (fun _ => rfl) (fun _ => rfl) fun w hw => c_twinW w (by have := hd.wb w hw; omega)) (look_loc _ (Nat.le_refl _) 3) (dom_loc _ (by simp)) (by simp) ?_
  simp (maxSteps := 4000000) only [su, evLit, hbT, tab, thenA, blockA, reduceCtorEq, reduceIte, Nat.reduceEqDiff, Nat.reduceBEq, Int.reduceLE, Int.reduceToNat, Nat.reduceAdd, Nat.reduceLT, Nat.reduceLeDiff]
  repeat' (first | (with_reducible refine hK _ ?_; clear hK K) | with_reducible apply And.intro)
  refine awp_le (le_toOut1 (i := 3) (k := k) rfl (by exact hkn) (by exact hk)) ?_
  simp only [List.map_cons, List.map_nil, Option.map_some, Option.map_none, Res.ren1, AV.ren1, Nat.add_left_cancel_iff, Nat.reduceEqDiff, Nat.one_ne_zero, reduceIte, zombie, s_0, s_s]
  refine awp_ret ?_
  exact ret_cell_le (.inr rfl) rfl rfl rfl (fun _ _ => rfl) ok25 (k := n + 1) (off := 0) rfl (dom_loc _ (by simp)) (look_loc _ (Nat.le_refl _) 1) rfl (by simp only [patch, sl])
def noDsk : Dsk := ⟨[], []⟩
def wrote (d : Dsk) (at' : Int) (b : List UInt8) : Dsk := ⟨d.sectors, d.waits ++ [⟨at', b⟩]⟩
def writeE (d : Dsk) (at' : Int) (b : List UInt8) : Int := if may d then (if decide (0 ≤ at') && decide (at' < 32) then (if b.length = 128 then (if d.waits.length = 256 then 9 else 0) else 3) else 2) else 8
def writeD (d : Dsk) (at' : Int) (b : List UInt8) : Dsk := if writeE d at' b = 0 then wrote d at' b else noDsk
theorem c_write (d : Dsk) (at' : Int) (b : List UInt8) (hd : Small d) (hb : b.length ≤ 1000000) : ACall Try.prog 26 [dskA d, i64 at', bs b] [] (.tup [dskA (writeD d at' b), i64 (writeE d at' b)]) [] := by
  refine acall_of 3 Try.func26 rfl fun n out _ _ => ?_
  simp only [Try.ntmps26, List.length_cons, List.length_nil, List.length_map, List.length_replicate, rep_map, Nat.reduceAdd, Nat.reduceSub, List.replicate, List.cons_append, List.nil_append]
  refine awp_seq_k fun K hK => awp_ev tab_ok [] ?_
  simp (maxSteps := 4000000) only [su, evLit, hbT, tab, thenA, blockA, reduceCtorEq, reduceIte, Nat.reduceEqDiff, Nat.reduceBEq, Int.reduceLE, Int.reduceToNat, Nat.reduceAdd, Nat.reduceLT, Nat.reduceLeDiff, dskA, dskC]
  repeat' (first | (with_reducible refine hK _ ?_; clear hK K) | with_reducible apply And.intro)
  obtain ⟨a, ha⟩ : ∃ a, a = (if may d then (if decide (0 ≤ at') && decide (at' < 32) then (0 : Int) else 2) else 8) := ⟨_, rfl⟩
  refine awp_seq_k fun KB hKB => ?_
  refine awp_seq_k fun K hK => awp_ev_draw tab_ok [] [[0], [], [], [], []] [[], [], [], [], []] follows (by kernel_rfl) (by decide) (by decide) (by kernel_rfl) ?_
  simp (maxSteps := 4000000) only [su, evLit, hbT, tab, thenA, blockA, reduceCtorEq, reduceIte, Nat.reduceEqDiff, Nat.reduceBEq, Int.reduceLE, Int.reduceToNat, Nat.reduceAdd, Nat.reduceLT, Nat.reduceLeDiff]
  repeat' (first | (with_reducible refine hK _ ?_; clear hK K) | with_reducible apply And.intro)
  refine call_pure (c_below at' 32) ?_
  simp (maxSteps := 4000000) only [su, evLit, hbT, tab, thenA, blockA, reduceCtorEq, reduceIte, Nat.reduceEqDiff, Nat.reduceBEq, Int.reduceLE, Int.reduceToNat, Nat.reduceAdd, Nat.reduceLT, Nat.reduceLeDiff]
  refine call_pure (c_asked d _ hd.s hd.w) ?_
  simp (maxSteps := 4000000) only [su, evLit, hbT, tab, thenA, blockA, reduceCtorEq, reduceIte, Nat.reduceEqDiff, Nat.reduceBEq, Int.reduceLE, Int.reduceToNat, Nat.reduceAdd, Nat.reduceLT, Nat.reduceLeDiff]
  repeat' (first | (with_reducible refine hK _ ?_; clear hK K) | with_reducible apply And.intro)
  rw [← ha]
  have full : ∀ e : Int, e ≠ 0 → writeE d at' b = e → AV.le (.tup [.agg [.sl 0 [] .nil, .sl 0 [] .nil], i64 e]) (.tup [dskA (writeD d at' b), i64 (writeE d at' b)]) := fun e h h' => by
    have h2 : writeD d at' b = noDsk := by unfold writeD; rw [h', if_neg h]
    rw [h2, h']
    simp only [dskA, dskC, noDsk, List.map_nil, patch, sl]
  by_cases h0 : a ≠ 0
  · have e0 : (a != 0) = true := by simpa using h0
    have e1 : writeE d at' b = a := by
      rw [ha] at h0 ⊢
      unfold writeE
      cases hm : may d <;> cases hat : (decide (0 ≤ at') && decide (at' < 32)) <;> rw [hm, hat] at h0 <;> simp at h0 ⊢
    refine awp_seq_k fun K hK => awp_ev tab_ok [] ?_
    simp (maxSteps := 4000000) only [su, evLit, hbT, tab, thenA, blockA, reduceCtorEq, reduceIte, Nat.reduceEqDiff, Nat.reduceBEq, Int.reduceLE, Int.reduceToNat, Nat.reduceAdd, Nat.reduceLT, Nat.reduceLeDiff, e0]
    repeat' (first | (with_reducible refine hK _ ?_; clear hK K) | with_reducible apply And.intro)
    refine awp_cond_t rfl (awp_ret ?_)
    refine ret_ct (.inr rfl) rfl rfl rfl (fun _ _ => rfl) ok25 (k := n + 1) (off := 0) rfl (dom_loc _ (by simp)) (look_loc _ (Nat.le_refl _) 1) rfl rfl (full a h0 e1)
  have h0' : a = 0 := by omega
  have hm : may d = true := by
    cases hm : may d with
    | true => rfl
    | false => rw [hm] at ha; simp at ha; omega
  have hat : (decide (0 ≤ at') && decide (at' < 32)) = true := by
    cases hat : (decide (0 ≤ at') && decide (at' < 32)) with
    | true => rfl
    | false => rw [hm, hat] at ha; simp at ha; omega
  subst h0'
  refine awp_seq_k fun K hK => awp_ev tab_ok [] ?_
  simp (maxSteps := 4000000) only [su, evLit, hbT, tab, thenA, blockA, reduceCtorEq, reduceIte, Nat.reduceEqDiff, Nat.reduceBEq, Int.reduceLE, Int.reduceToNat, Nat.reduceAdd, Nat.reduceLT, Nat.reduceLeDiff]
  repeat' (first | (with_reducible refine hK _ ?_; clear hK K) | with_reducible apply And.intro)
  refine awp_cond_f rfl (awp_skip (hKB _ ?_))
  clear hKB KB
  by_cases hb : b.length ≠ 128
  · have g : ((b.length : Int) != 128) = true := by simp; omega
    refine awp_seq_k fun KB hKB => ?_
    refine awp_seq_k fun K hK => awp_ev tab_ok [] ?_
    simp (maxSteps := 4000000) only [su, evLit, hbT, tab, thenA, blockA, reduceCtorEq, reduceIte, Nat.reduceEqDiff, Nat.reduceBEq, Int.reduceLE, Int.reduceToNat, Nat.reduceAdd, Nat.reduceLT, Nat.reduceLeDiff, bytes_length, g]
    repeat' (first | (with_reducible refine hK _ ?_; clear hK K) | with_reducible apply And.intro)
    refine awp_cond_t rfl ?_
    refine awp_seq_k fun K hK => awp_ev tab_ok [] ?_
    simp (maxSteps := 4000000) only [su, evLit, hbT, tab, thenA, blockA, reduceCtorEq, reduceIte, Nat.reduceEqDiff, Nat.reduceBEq, Int.reduceLE, Int.reduceToNat, Nat.reduceAdd, Nat.reduceLT, Nat.reduceLeDiff]
    repeat' (first | (with_reducible refine hK _ ?_; clear hK K) | with_reducible apply And.intro)
    refine awp_ret ?_
    refine ret_ct (.inr rfl) rfl rfl rfl (fun _ _ => rfl) ok25 (k := n + 1) (off := 0) rfl (dom_loc _ (by simp)) (look_loc _ (Nat.le_refl _) 1) rfl rfl (full 3 (by decide) (by simp only [writeE, hm, hat, if_true, hb, if_false]))
  have hb' : b.length = 128 := by omega
  have g : ((b.length : Int) != 128) = false := by simp; omega
  refine awp_seq_k fun KB hKB => ?_
  refine awp_seq_k fun K hK => awp_ev tab_ok [] ?_
  simp (maxSteps := 4000000) only [su, evLit, hbT, tab, thenA, blockA, reduceCtorEq, reduceIte, Nat.reduceEqDiff, Nat.reduceBEq, Int.reduceLE, Int.reduceToNat, Nat.reduceAdd, Nat.reduceLT, Nat.reduceLeDiff, bytes_length, g]
  repeat' (first | (with_reducible refine hK _ ?_; clear hK K) | with_reducible apply And.intro)
  refine awp_cond_f rfl (awp_skip (hKB _ ?_))
  clear hKB KB
  by_cases hw : d.waits.length = 256
  · have g : ((d.waits.length : Int) == 256) = true := by simp; omega
    refine awp_seq_k fun KB hKB => ?_
    refine awp_seq_k fun K hK => awp_ev tab_ok [] ?_
    simp (maxSteps := 4000000) only [su, evLit, hbT, tab, thenA, blockA, reduceCtorEq, reduceIte, Nat.reduceEqDiff, Nat.reduceBEq, Int.reduceLE, Int.reduceToNat, Nat.reduceAdd, Nat.reduceLT, Nat.reduceLeDiff, List.length_map, g]
    repeat' (first | (with_reducible refine hK _ ?_; clear hK K) | with_reducible apply And.intro)
    refine awp_cond_t rfl ?_
    refine awp_seq_k fun K hK => awp_ev tab_ok [] ?_
    simp (maxSteps := 4000000) only [su, evLit, hbT, tab, thenA, blockA, reduceCtorEq, reduceIte, Nat.reduceEqDiff, Nat.reduceBEq, Int.reduceLE, Int.reduceToNat, Nat.reduceAdd, Nat.reduceLT, Nat.reduceLeDiff]
    repeat' (first | (with_reducible refine hK _ ?_; clear hK K) | with_reducible apply And.intro)
    refine awp_ret ?_
    refine ret_ct (.inr rfl) rfl rfl rfl (fun _ _ => rfl) ok25 (k := n + 1) (off := 0) rfl (dom_loc _ (by simp)) (look_loc _ (Nat.le_refl _) 1) rfl rfl (full 9 (by decide) (by simp only [writeE, hm, hat, if_true, hb', hw]))
  have g : ((d.waits.length : Int) == 256) = false := by simp; omega
  refine awp_seq_k fun KB hKB => ?_
  refine awp_seq_k fun K hK => awp_ev tab_ok [] ?_
  simp (maxSteps := 4000000) only [su, evLit, hbT, tab, thenA, blockA, reduceCtorEq, reduceIte, Nat.reduceEqDiff, Nat.reduceBEq, Int.reduceLE, Int.reduceToNat, Nat.reduceAdd, Nat.reduceLT, Nat.reduceLeDiff, List.length_map, g]
  repeat' (first | (with_reducible refine hK _ ?_; clear hK K) | with_reducible apply And.intro)
  refine awp_cond_f rfl (awp_skip (hKB _ ?_))
  clear hKB KB
  have e0 : writeE d at' b = 0 := by simp only [writeE, hm, hat, if_true, hb', hw, if_false]
  have e1 : writeD d at' b = wrote d at' b := by unfold writeD; rw [e0, if_pos rfl]
  rw [e0, e1]
  refine awp_seq_k fun K hK => awp_ev tab_ok [] ?_
  simp (maxSteps := 4000000) only [su, evLit, hbT, tab, thenA, blockA, reduceCtorEq, reduceIte, Nat.reduceEqDiff, Nat.reduceBEq, Int.reduceLE, Int.reduceToNat, Nat.reduceAdd, Nat.reduceLT, Nat.reduceLeDiff]
  repeat' (first | (with_reducible refine hK _ ?_; clear hK K) | with_reducible apply And.intro)
  refine call_one (c_twin (n + 2) d hd) (look_loc _ (Nat.le_refl _) 2) (dom_loc _ (by simp)) (by simp) ?_
  simp (maxSteps := 4000000) only [su, evLit, hbT, tab, thenA, blockA, reduceCtorEq, reduceIte, Nat.reduceEqDiff, Nat.reduceBEq, Int.reduceLE, Int.reduceToNat, Nat.reduceAdd, Nat.reduceLT, Nat.reduceLeDiff]
  repeat' (first | (with_reducible refine hK _ ?_; clear hK K) | with_reducible apply And.intro)
  have lit : ∀ (σ : AState) (K : AV → List (Nat × Res) → Prop), evLit tab σ K none 23 1 [(0, wrA ⟨at', b⟩)] = K (.sl 2 [wrC ⟨at', b⟩] .full) [] := fun σ K => evLit_one (T := tab) (ti := ti23) (te := ti52) rfl rfl rfl (by decide) (by decide) rfl rfl
  refine awp_seq_k fun K hK => awp_ev_draw tab_ok [] [[], [1], [], [], [], [], [], [2], [], [1]] [[], [], [], [], [], [], [], [2], [], [1]] follows (by kernel_rfl) (by decide) (by decide) (by kernel_rfl) ?_
  simp (maxSteps := 4000000) only [su, hbT, tab, thenA, blockA, reduceCtorEq, reduceIte, Nat.reduceEqDiff, Nat.reduceBEq, Int.reduceLE, Int.reduceToNat, Nat.reduceAdd, Nat.reduceLT, Nat.reduceLeDiff]
  repeat' (first | (with_reducible refine hK _ ?_; clear hK K) | with_reducible apply And.intro)
  refine call_pure (c_twinW ⟨at', b⟩ (by show b.length ≤ _; omega)) ?_
  simp (maxSteps := 4000000) only [su, hbT, tab, thenA, blockA, reduceCtorEq, reduceIte, Nat.reduceEqDiff, Nat.reduceBEq, Int.reduceLE, Int.reduceToNat, Nat.reduceAdd, Nat.reduceLT, Nat.reduceLeDiff, lit, List.length_map, show d.waits.length + 1 ≤ 140737488355328 by have := hd.w; omega, show d.waits.length + 1 ≤ 9223372036854775807 by have := hd.w; omega]
  refine ⟨by have := hd.w; omega, ?_⟩
  repeat' (first | (with_reducible refine hK _ ?_; clear hK K) | with_reducible apply And.intro)
  refine awp_ret ?_
  refine ret_ct (.inr rfl) rfl rfl rfl (fun _ _ => rfl) ok25 (k := n + 1) (off := 0) rfl (dom_loc _ (by simp)) (look_loc _ (Nat.le_refl _) 1) rfl rfl ?_
  simp only [dskA, dskC, wrote, List.map_append, List.map_cons, List.map_nil, patch, sl]
end Go.Proofs.Ytefkjdkalgemeaa
