/-
  A byte of a disk that is turned, told by the program.
-/
import Derived.Test.YtefkjdkalgemeaaZD28
import Derived.Test.YtefkjdkalgemeaaZGA
namespace Go.Proofs.Ytefkjdkalgemeaa
set_option linter.unusedVariables false
set_option linter.unusedSimpArgs false
open Go Go.VS Tab
set_option maxHeartbeats 4000000
set_option maxRecDepth 4000
def spoilE (d : Dsk) (a b : Int) : Int := if may d then (if (decide (0 ≤ a) && decide (a < 32)) && (decide (0 ≤ b) && decide (b < 128)) then 0 else 2) else 8
def turnL (l : List UInt8) (y : Nat) (x : UInt8) : List UInt8 := l.set y (l.getD y 0 ^^^ x)
def turnS (s : List (List UInt8)) (z y : Nat) (x : UInt8) : List (List UInt8) := s.set z (turnL (s.getD z []) y x)
def spoilD (d : Dsk) (a b : Int) (x : UInt8) : Dsk := if spoilE d a b = 0 then ⟨turnS d.sectors a.toNat b.toNat x, d.waits⟩ else noDsk
theorem spoilE_0 {d : Dsk} {a b : Int} : spoilE d a b = 0 ↔ may d = true ∧ (0 ≤ a ∧ a < 32) ∧ 0 ≤ b ∧ b < 128 := by
  unfold spoilE
  cases may d <;> simp [and_assoc]
theorem turnL_len (l : List UInt8) (y : Nat) (x : UInt8) : (turnL l y x).length = l.length := by unfold turnL; simp
theorem c_spoil (d : Dsk) (hd : Small d) (a b : Int) (x : UInt8) : ACall Try.prog 21 [dskA d, i64 a, i64 b, b8 x] [] (.tup [dskA (spoilD d a b x), i64 (spoilE d a b)]) [] := by
  have hds := hd.s
  have hdw := hd.w
  have ca := fun q => c_asked d q (by omega) (by omega)
  have cb1 := c_below a 32
  have cb2 := c_below b 128
  by_cases hE : spoilE d a b = 0
  · obtain ⟨hm, ⟨ha1, ha2⟩, hb1, hb2⟩ := spoilE_0.1 hE
    obtain ⟨z, rfl⟩ := Int.eq_ofNat_of_zero_le ha1
    obtain ⟨y, rfl⟩ := Int.eq_ofNat_of_zero_le hb1
    obtain ⟨h32, hw, hs, _⟩ := (may_iff d).1 hm
    have hz : z < d.sectors.length := by omega
    have hl : (d.sectors[z]).length = 128 := hs _ (List.getElem_mem hz)
    have hy : y < (d.sectors[z]).length := by omega
    have eD : spoilD d z y x = ⟨d.sectors.set z (turnL d.sectors[z] y x), d.waits⟩ := by
      unfold spoilD turnS
      rw [if_pos hE]
      simp [List.getD_eq_getElem?_getD, hz]
    rw [hE, eD]
    have q1 : (decide (0 ≤ (z : Int)) && decide ((z : Int) < 32)) = true := by simp; omega
    have q2 : (decide (0 ≤ (y : Int)) && decide ((y : Int) < 128)) = true := by simp; omega
    rw [q1] at cb1
    rw [q2] at cb2
    have ca1 := ca true
    rw [hm] at ca1
    simp only [if_true] at ca1
    have ct := fun k => c_twinZ 0 k d hd z hz (by omega)
    obtain ⟨S, hS⟩ : ∃ S : Nat → List (List AV), S = fun k => (d.sectors.map secC).set z [.bsl k 0 (d.sectors[z]).length false] := ⟨_, rfl⟩
    have hS' : ∀ k, (d.sectors.map secC).set z [.bsl k 0 (d.sectors[z]).length false] = S k := fun k => by rw [hS]
    have gz : ∀ k, (S k).getD z [] = [.bsl k 0 (d.sectors[z]).length false] := fun k => by rw [hS]; simp [List.getD_eq_getElem?_getD, hz]
    have gl : ∀ k, (S k).length = d.sectors.length := fun k => by rw [hS]; simp
    have gp := pick_map 1 b8 d.sectors[z] y 0 hy
    have gy : (d.sectors[z]).getD y 0 = (d.sectors[z])[y] := by simp [List.getD_eq_getElem?_getD, hy]
    have gs := splice_map b8 d.sectors[z] y ((d.sectors[z]).getD y 0 ^^^ x) hy
    have gt : (d.sectors[z]).set y ((d.sectors[z]).getD y 0 ^^^ x) = turnL d.sectors[z] y x := rfl
    rw [gt] at gs
    simp only [dskA, dskC] at ct ca1
    simp only [hS'] at ct
    refine acall_of 3 Try.func21 rfl fun n out _ _ => ?_
    simp only [Try.ntmps21, List.length_cons, List.length_nil, List.length_map, List.length_replicate, rep_map, Nat.reduceAdd, Nat.reduceSub, List.replicate, List.cons_append, List.nil_append]
    repeat' (first | (with_reducible first | refine awp_seq_k fun K hK => ?_ | refine awp_ev tab_ok [] ?_ | refine awp_skip ?_ | apply And.intro | refine awp_ev_quiet tab_ok follows (by kernel_rfl) ?_) | ((with_reducible first | refine gE ?_ | refine gR ?_); simp (maxSteps := 4000000) only [su, evLit, hbT, tab, thenA, blockA, reduceCtorEq, reduceIte, Nat.reduceEqDiff, Nat.reduceBEq, Int.reduceLE, Int.reduceToNat, Nat.reduceAdd, Nat.reduceLT, Nat.reduceLeDiff, dskA, dskC, Int.reduceBEq]) | (show (_ : Nat) = (_ : Nat); rfl) | ((with_reducible refine awp_ret ?_); (first | refine ret_ct (.inr rfl) rfl rfl rfl (fun _ _ => rfl) ok25 (k := n + 1) (off := 0) rfl (dom_loc _ (by simp)) (look_loc _ (Nat.le_refl _) 1) rfl rfl ?_ | refine ret_ct (.inr rfl) rfl rfl rfl (fun _ _ => rfl) ok25 (k := m + 1) (off := 0) rfl (dom_loc _ (by simp)) (look_loc _ hm 1) rfl rfl ?_) <;> first | rfl | exact AV.le.rfl _ | (simp only [patch, sl, ti25, List.map_nil, dskA, dskC, Int.reduceBEq]; done) | rfl | skip) | (refine call_pure (cb1) ?_) | (refine call_pure (cb2) ?_) | (refine call_pure (ca1) ?_) | (refine call_one (ct (n + 2)) (look_loc _ (Nat.le_refl _) 2) (dom_loc _ (by simp)) (by simp) ?_) | ((with_reducible refine gsel_case (fun hg => ?_) (fun hg => ?_)) <;> (try simp only [nb] at hg) <;> simp (maxSteps := 4000000) only [su, evLit, hbT, tab, thenA, blockA, reduceCtorEq, reduceIte, Nat.reduceEqDiff, Nat.reduceBEq, Int.reduceLE, Int.reduceToNat, Nat.reduceAdd, Nat.reduceLT, Nat.reduceLeDiff, hg, dskA, dskC, Int.reduceBEq]) | (refine hK _ ?_; clear hK K) | refine awp_cond_t rfl ?_ | refine awp_cond_f rfl ?_ | refine awp_if rfl (fun hg => ?_) (fun hg => ?_) | clear hK K)
    · rw [gl]; exact hz
    simp (maxSteps := 4000000) only [su, evLit, hbT, tab, thenA, blockA, reduceCtorEq, reduceIte, Nat.reduceEqDiff, Nat.reduceBEq, Int.reduceLE, Int.reduceToNat, Nat.reduceAdd, Nat.reduceLT, Nat.reduceLeDiff, gz, gl, hz, pick_cons, hy, gp, by_xor, gs, List.length_map]
    repeat' (first | (with_reducible refine hK _ ?_; clear hK K) | with_reducible apply And.intro)
    · omega
    have hfz : Fz (n + 2) 1 ((turnL d.sectors[z] y x).map b8) (.sl 1 (S (n + 2)) .sh) (.sl 1 ((d.sectors.set z (turnL d.sectors[z] y x)).map secC) .sh) := by
      rw [← hS' (n + 2), List.map_set]
      have h := Fz.bsl (k := n + 2) (sz := 1) (cs := (turnL d.sectors[z] y x).map b8) 0 (d.sectors[z]).length false ⟨by omega, by rw [List.length_map, turnL_len]; omega⟩
      rw [List.drop_zero, chunk_b8' _ (turnL_len _ _ _)] at h
      exact fz_set z ⟨h, trivial⟩
    refine awp_le (le_freezeP (i := 2) 1 [] (lo1 := [some (.box 25 [.sl 1 (d.sectors.map secC) .sh, .sl 2 (d.waits.map wrC) .sh]), some (.box 25 [.sl 1 ((d.sectors.set z (turnL d.sectors[z] y x)).map secC) .sh, .sl 2 (d.waits.map wrC) .sh]), some (.box 5 ((turnL d.sectors[z] y x).map b8))]) rfl (fzL_refl _) ?_) ?_
    · simp only [fzRL_cons, fzRL_nil, fzRes_same, fzRes_box, fzL_cons, fzL_nil, fz_same, hfz, true_and, and_true]
    simp only [patch, s_0, s_s]
    refine awp_ret ?_
    refine ret_ct (.inr rfl) rfl rfl rfl (fun _ _ => rfl) ok25 (k := n + 1) (off := 0) rfl (dom_loc _ (by simp)) (look_loc _ (Nat.le_refl _) 1) rfl rfl ?_
    simp only [dskA, dskC, patch, sl]
  · have e1 : spoilD d a b x = noDsk := by unfold spoilD; rw [if_neg hE]
    have hE' : (spoilE d a b == 0) = false := by simpa using hE
    rw [e1]
    obtain ⟨E, hEE⟩ : ∃ E, E = spoilE d a b := ⟨_, rfl⟩
    have cq := ca ((decide (0 ≤ a) && decide (a < 32)) && (decide (0 ≤ b) && decide (b < 128)))
    rw [show (if may d = true then if ((decide (0 ≤ a) && decide (a < 32)) && (decide (0 ≤ b) && decide (b < 128))) = true then (0 : Int) else 2 else 8) = E from hEE.symm] at cq
    rw [← hEE] at hE' ⊢
    clear hEE
    generalize (decide (0 ≤ a) && decide (a < 32)) = P1 at *
    generalize (decide (0 ≤ b) && decide (b < 128)) = P2 at *
    simp only [dskA, dskC] at cq
    cases P1 <;> cases P2 <;> simp only [Bool.and_false, Bool.and_true, Bool.false_and, Bool.true_and] at cq
    · refine acall_of 3 Try.func21 rfl fun n out _ _ => ?_
      simp only [Try.ntmps21, List.length_cons, List.length_nil, List.length_map, List.length_replicate, rep_map, Nat.reduceAdd, Nat.reduceSub, List.replicate, List.cons_append, List.nil_append]
      repeat' (first | (with_reducible first | refine awp_seq_k fun K hK => ?_ | refine awp_ev tab_ok [] ?_ | refine awp_skip ?_ | apply And.intro | refine awp_ev_quiet tab_ok follows (by kernel_rfl) ?_) | ((with_reducible first | refine gE ?_ | refine gR ?_); simp (maxSteps := 4000000) only [su, evLit, hbT, tab, thenA, blockA, reduceCtorEq, reduceIte, Nat.reduceEqDiff, Nat.reduceBEq, Int.reduceLE, Int.reduceToNat, Nat.reduceAdd, Nat.reduceLT, Nat.reduceLeDiff, dskA, dskC, noDsk, List.map_nil, hE']) | (show (_ : Nat) = (_ : Nat); rfl) | ((with_reducible refine awp_ret ?_); (first | refine ret_ct (.inr rfl) rfl rfl rfl (fun _ _ => rfl) ok25 (k := n + 1) (off := 0) rfl (dom_loc _ (by simp)) (look_loc _ (Nat.le_refl _) 1) rfl rfl ?_ | refine ret_ct (.inr rfl) rfl rfl rfl (fun _ _ => rfl) ok25 (k := m + 1) (off := 0) rfl (dom_loc _ (by simp)) (look_loc _ hm 1) rfl rfl ?_) <;> first | rfl | exact AV.le.rfl _ | (simp only [patch, sl, ti25, List.map_nil, dskA, dskC, noDsk, List.map_nil, hE']; done) | rfl | skip) | (refine call_pure (cb1) ?_) | (refine call_pure (cb2) ?_) | (refine call_pure (cq) ?_) | ((with_reducible refine gsel_case (fun hg => ?_) (fun hg => ?_)) <;> (try simp only [nb] at hg) <;> simp (maxSteps := 4000000) only [su, evLit, hbT, tab, thenA, blockA, reduceCtorEq, reduceIte, Nat.reduceEqDiff, Nat.reduceBEq, Int.reduceLE, Int.reduceToNat, Nat.reduceAdd, Nat.reduceLT, Nat.reduceLeDiff, hg, dskA, dskC, noDsk, List.map_nil, hE']) | (refine hK _ ?_; clear hK K) | refine awp_cond_t rfl ?_ | refine awp_cond_f rfl ?_ | refine awp_if rfl (fun hg => ?_) (fun hg => ?_) | clear hK K)
    · refine acall_of 3 Try.func21 rfl fun n out _ _ => ?_
      simp only [Try.ntmps21, List.length_cons, List.length_nil, List.length_map, List.length_replicate, rep_map, Nat.reduceAdd, Nat.reduceSub, List.replicate, List.cons_append, List.nil_append]
      repeat' (first | (with_reducible first | refine awp_seq_k fun K hK => ?_ | refine awp_ev tab_ok [] ?_ | refine awp_skip ?_ | apply And.intro | refine awp_ev_quiet tab_ok follows (by kernel_rfl) ?_) | ((with_reducible first | refine gE ?_ | refine gR ?_); simp (maxSteps := 4000000) only [su, evLit, hbT, tab, thenA, blockA, reduceCtorEq, reduceIte, Nat.reduceEqDiff, Nat.reduceBEq, Int.reduceLE, Int.reduceToNat, Nat.reduceAdd, Nat.reduceLT, Nat.reduceLeDiff, dskA, dskC, noDsk, List.map_nil, hE']) | (show (_ : Nat) = (_ : Nat); rfl) | ((with_reducible refine awp_ret ?_); (first | refine ret_ct (.inr rfl) rfl rfl rfl (fun _ _ => rfl) ok25 (k := n + 1) (off := 0) rfl (dom_loc _ (by simp)) (look_loc _ (Nat.le_refl _) 1) rfl rfl ?_ | refine ret_ct (.inr rfl) rfl rfl rfl (fun _ _ => rfl) ok25 (k := m + 1) (off := 0) rfl (dom_loc _ (by simp)) (look_loc _ hm 1) rfl rfl ?_) <;> first | rfl | exact AV.le.rfl _ | (simp only [patch, sl, ti25, List.map_nil, dskA, dskC, noDsk, List.map_nil, hE']; done) | rfl | skip) | (refine call_pure (cb1) ?_) | (refine call_pure (cb2) ?_) | (refine call_pure (cq) ?_) | ((with_reducible refine gsel_case (fun hg => ?_) (fun hg => ?_)) <;> (try simp only [nb] at hg) <;> simp (maxSteps := 4000000) only [su, evLit, hbT, tab, thenA, blockA, reduceCtorEq, reduceIte, Nat.reduceEqDiff, Nat.reduceBEq, Int.reduceLE, Int.reduceToNat, Nat.reduceAdd, Nat.reduceLT, Nat.reduceLeDiff, hg, dskA, dskC, noDsk, List.map_nil, hE']) | (refine hK _ ?_; clear hK K) | refine awp_cond_t rfl ?_ | refine awp_cond_f rfl ?_ | refine awp_if rfl (fun hg => ?_) (fun hg => ?_) | clear hK K)
    · refine acall_of 3 Try.func21 rfl fun n out _ _ => ?_
      simp only [Try.ntmps21, List.length_cons, List.length_nil, List.length_map, List.length_replicate, rep_map, Nat.reduceAdd, Nat.reduceSub, List.replicate, List.cons_append, List.nil_append]
      repeat' (first | (with_reducible first | refine awp_seq_k fun K hK => ?_ | refine awp_ev tab_ok [] ?_ | refine awp_skip ?_ | apply And.intro | refine awp_ev_quiet tab_ok follows (by kernel_rfl) ?_) | ((with_reducible first | refine gE ?_ | refine gR ?_); simp (maxSteps := 4000000) only [su, evLit, hbT, tab, thenA, blockA, reduceCtorEq, reduceIte, Nat.reduceEqDiff, Nat.reduceBEq, Int.reduceLE, Int.reduceToNat, Nat.reduceAdd, Nat.reduceLT, Nat.reduceLeDiff, dskA, dskC, noDsk, List.map_nil, hE']) | (show (_ : Nat) = (_ : Nat); rfl) | ((with_reducible refine awp_ret ?_); (first | refine ret_ct (.inr rfl) rfl rfl rfl (fun _ _ => rfl) ok25 (k := n + 1) (off := 0) rfl (dom_loc _ (by simp)) (look_loc _ (Nat.le_refl _) 1) rfl rfl ?_ | refine ret_ct (.inr rfl) rfl rfl rfl (fun _ _ => rfl) ok25 (k := m + 1) (off := 0) rfl (dom_loc _ (by simp)) (look_loc _ hm 1) rfl rfl ?_) <;> first | rfl | exact AV.le.rfl _ | (simp only [patch, sl, ti25, List.map_nil, dskA, dskC, noDsk, List.map_nil, hE']; done) | rfl | skip) | (refine call_pure (cb1) ?_) | (refine call_pure (cb2) ?_) | (refine call_pure (cq) ?_) | ((with_reducible refine gsel_case (fun hg => ?_) (fun hg => ?_)) <;> (try simp only [nb] at hg) <;> simp (maxSteps := 4000000) only [su, evLit, hbT, tab, thenA, blockA, reduceCtorEq, reduceIte, Nat.reduceEqDiff, Nat.reduceBEq, Int.reduceLE, Int.reduceToNat, Nat.reduceAdd, Nat.reduceLT, Nat.reduceLeDiff, hg, dskA, dskC, noDsk, List.map_nil, hE']) | (refine hK _ ?_; clear hK K) | refine awp_cond_t rfl ?_ | refine awp_cond_f rfl ?_ | refine awp_if rfl (fun hg => ?_) (fun hg => ?_) | clear hK K)
    · refine acall_of 3 Try.func21 rfl fun n out _ _ => ?_
      simp only [Try.ntmps21, List.length_cons, List.length_nil, List.length_map, List.length_replicate, rep_map, Nat.reduceAdd, Nat.reduceSub, List.replicate, List.cons_append, List.nil_append]
      repeat' (first | (with_reducible first | refine awp_seq_k fun K hK => ?_ | refine awp_ev tab_ok [] ?_ | refine awp_skip ?_ | apply And.intro | refine awp_ev_quiet tab_ok follows (by kernel_rfl) ?_) | ((with_reducible first | refine gE ?_ | refine gR ?_); simp (maxSteps := 4000000) only [su, evLit, hbT, tab, thenA, blockA, reduceCtorEq, reduceIte, Nat.reduceEqDiff, Nat.reduceBEq, Int.reduceLE, Int.reduceToNat, Nat.reduceAdd, Nat.reduceLT, Nat.reduceLeDiff, dskA, dskC, noDsk, List.map_nil, hE']) | (show (_ : Nat) = (_ : Nat); rfl) | ((with_reducible refine awp_ret ?_); (first | refine ret_ct (.inr rfl) rfl rfl rfl (fun _ _ => rfl) ok25 (k := n + 1) (off := 0) rfl (dom_loc _ (by simp)) (look_loc _ (Nat.le_refl _) 1) rfl rfl ?_ | refine ret_ct (.inr rfl) rfl rfl rfl (fun _ _ => rfl) ok25 (k := m + 1) (off := 0) rfl (dom_loc _ (by simp)) (look_loc _ hm 1) rfl rfl ?_) <;> first | rfl | exact AV.le.rfl _ | (simp only [patch, sl, ti25, List.map_nil, dskA, dskC, noDsk, List.map_nil, hE']; done) | rfl | skip) | (refine call_pure (cb1) ?_) | (refine call_pure (cb2) ?_) | (refine call_pure (cq) ?_) | ((with_reducible refine gsel_case (fun hg => ?_) (fun hg => ?_)) <;> (try simp only [nb] at hg) <;> simp (maxSteps := 4000000) only [su, evLit, hbT, tab, thenA, blockA, reduceCtorEq, reduceIte, Nat.reduceEqDiff, Nat.reduceBEq, Int.reduceLE, Int.reduceToNat, Nat.reduceAdd, Nat.reduceLT, Nat.reduceLeDiff, hg, dskA, dskC, noDsk, List.map_nil, hE']) | (refine hK _ ?_; clear hK K) | refine awp_cond_t rfl ?_ | refine awp_cond_f rfl ?_ | refine awp_if rfl (fun hg => ?_) (fun hg => ?_) | clear hK K)
end Go.Proofs.Ytefkjdkalgemeaa
