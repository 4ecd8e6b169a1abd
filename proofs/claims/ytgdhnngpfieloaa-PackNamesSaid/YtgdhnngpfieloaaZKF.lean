/- The layer of abstract values, joined: KF. -/
import Derived.Test.YtgdhnngpfieloaaZGA
import Derived.Test.YtgdhnngpfieloaaZKE
import Derived.Test.YtgdhnngpfieloaaZK9
import Derived.Test.YtgdhnngpfieloaaZKB
import Derived.Test.YtgdhnngpfieloaaZPP
import Derived.Test.YtgdhnngpfieloaaZKA
import Derived.Test.YtgdhnngpfieloaaZHC
section
namespace Go.Proofs.Ytgdhnngpfieloaa.Pln
set_option linter.unusedVariables false
set_option linter.unusedSimpArgs false
open Go Go.VS Tab
set_option maxHeartbeats 8000000
set_option maxRecDepth 4000
theorem cD_two (wr : List Nat) (R : AState → Prop) (fr : List AV) (lo : List (Option Res)) (out : Nat → Option Res) (n0 n : Nat) (df : List Deferred) (d : Option Tmp) (r : AV) (x y : Nat) (p q : Res) :
    contD wr R ⟨fr, lo, out, n0, n, df⟩ d r [(n + x, p), (n + y, q)] = ((wr.contains x = true ∧ wr.contains y = true) ∧ R (AState.next ⟨fr, lo, out, n0, n, df⟩ d r [(n + x, p), (n + y, q)])) := by
  simp only [contD, List.mem_cons, List.not_mem_nil, or_false, forall_eq_or_imp, forall_eq, List.contains_iff_mem, Nat.add_left_cancel_iff, exists_eq_right', eq_iff_iff]
def noPl : Pl := ⟨0, 0, [], [], [], []⟩
theorem sm_may {p : Pl} (h : mayP p = true) : Sm p := by
  obtain ⟨v, w, sl, s, pl, q, gl, g, rl, r⟩ := plan_nums h
  refine ⟨by omega, fun x hx => ?_, by omega, by omega, by omega, fun x hx => ?_⟩
  · have := (s x hx).2.2.2
    rw [this]; split <;> decide
  · obtain ⟨_, _, _, _, _, _, _, l1, l2, l3⟩ := r x hx; omega
theorem scB : hasBody Try.prog 31 = True := hb0 _ (by decide) (by decide)
theorem poB : hasBody Try.prog 33 = True := hb0 _ (by decide) (by decide)
theorem siB : hasBody Try.prog 35 = True := hb0 _ (by decide) (by decide)
theorem roB : hasBody Try.prog 37 = True := hb0 _ (by decide) (by decide)
theorem c_parse (b : List UInt8) (hb : b.length ≤ 1000000) : ACall Try.prog 12 [.sl 1 (bytesAV b) .sh] [] (.tup [plA (if parseOk b then (readP b).1 else noPl), i64 (if parseOk b then 0 else 8)]) [] := by
  obtain ⟨x1, s1, h1⟩ : ∃ x t, rdN b (0, false) = (x, t) := ⟨_, _, rfl⟩
  obtain ⟨x2, s2, h2⟩ : ∃ x t, rdN b s1 = (x, t) := ⟨_, _, rfl⟩
  obtain ⟨lS, s3, h3⟩ : ∃ x t, rdL decS b s2 = (x, t) := ⟨_, _, rfl⟩
  obtain ⟨lP, s4, h4⟩ : ∃ x t, rdL decJ b s3 = (x, t) := ⟨_, _, rfl⟩
  obtain ⟨lG, s5, h5⟩ : ∃ x t, rdL decG b s4 = (x, t) := ⟨_, _, rfl⟩
  obtain ⟨lR, s6, h6⟩ : ∃ x t, rdL decR b s5 = (x, t) := ⟨_, _, rfl⟩
  have e : readP b = (⟨x1, x2, lS, lP, lG, lR⟩, s6) := by
    unfold readP decP rdB
    rw [h1]; dsimp only; rw [h2]
    show (match rdL decS b s2 with | v => rdB (rdL decJ) (fun pts => rdB (rdL decG) fun sgs => rdB (rdL decR) fun rts => rdP (⟨x1, x2, v.1, pts, sgs, rts⟩ : Pl)) b v.2) = _
    rw [h3]
    show (match rdL decJ b s3 with | v => rdB (rdL decG) (fun sgs => rdB (rdL decR) fun rts => rdP (⟨x1, x2, lS, v.1, sgs, rts⟩ : Pl)) b v.2) = _
    rw [h4]
    show (match rdL decG b s4 with | v => rdB (rdL decR) (fun rts => rdP (⟨x1, x2, lS, lP, v.1, rts⟩ : Pl)) b v.2) = _
    rw [h5]
    show (match rdL decR b s5 with | v => ((⟨x1, x2, lS, lP, lG, v.1⟩ : Pl), v.2)) = _
    rw [h6]
  have hsb := readP_sm b
  have hok : parseOk b = textOk (readP b).1 (readP b).2 (encP (readP b).1) b := rfl
  have c1 := fun n : Nat => rd_next b hb (n + 2) (n + 3) (by omega) (0, false)
  have c2 := fun n : Nat => rd_next b hb (n + 2) (n + 3) (by omega) s1
  have c3 := fun n : Nat => c_some_s b hb (n + 2) (n + 3) (by omega) _ _ scB decS secA (fun _ => rfl) (c_readS b hb (n + 2) (n + 3) (by omega)) s2
  have c4 := fun n : Nat => c_some_p b hb (n + 2) (n + 3) (by omega) _ _ poB decJ jnA (fun _ => rfl) (c_readP b hb (n + 2) (n + 3) (by omega)) s3
  have c5 := fun n : Nat => c_some_g b hb (n + 2) (n + 3) (by omega) _ _ siB decG sgA (fun _ => rfl) (c_readG b hb (n + 2) (n + 3) (by omega)) s4
  have c6 := fun n : Nat => c_some_r b hb (n + 2) (n + 3) (by omega) _ _ roB decR rtA (fun _ => rfl) (c_readR b hb (n + 2) (n + 3) (by omega)) s5
  rw [h1] at c1
  rw [h2] at c2
  rw [h3] at c3
  rw [h4] at c4
  rw [h5] at c5
  rw [h6] at c6
  rw [e] at hsb hok ⊢
  clear h1 h2 h3 h4 h5 h6 e
  dsimp only at c1 c2 c3 c4 c5 c6 hsb hok ⊢
  have cp := c_pcheckB _ hsb
  have cw := fun h : mayP (⟨x1, x2, lS, lP, lG, lR⟩ : Pl) = true => c_written _ (sm_may h) (Nat.le_trans (text_len h) (by decide))
  generalize parseOk b = ok at hok ⊢
  obtain ⟨Q, hQ⟩ : ∃ Q : Pl, Q = ⟨x1, x2, lS, lP, lG, lR⟩ := ⟨_, rfl⟩
  rw [← hQ] at hsb hok cp cw ⊢
  have eQ : plA Q = .agg [i64 x1, i64 x2, .sl 3 (lS.map secC) .sh, .sl 2 (lP.map jnC) .sh, .sl 3 (lG.map sgC) .sh, .sl 7 (lR.map rtC) .sh] := by rw [hQ]; rfl
  rw [eQ] at cp cw
  clear hQ
  refine acall_of 7 Try.func12 rfl fun n out _ _ => ?_
  simp only [Try.ntmps12, List.length_cons, List.length_nil, List.length_map, List.length_replicate, rep_map, Nat.reduceAdd, Nat.reduceSub, List.replicate, List.cons_append, List.nil_append]
  refine awp_seq_k fun K hK => awp_ev tab_ok [] ?_
  simp (maxSteps:=9^7) only [ss, evLit, tab, reduceCtorEq, reduceIte, Nat.reduceEqDiff, Nat.reduceBEq, Int.reduceLE, Int.reduceToNat, Nat.reduceAdd, Nat.reduceLT, Nat.reduceLeDiff]
  repeat' (first | (with_reducible refine hK _ ?_; clear hK K) | with_reducible apply And.intro)
  refine awp_seq_k fun K hK => awp_ev tab_ok [] ?_
  simp (maxSteps:=9^7) only [ss, evLit, tab, reduceCtorEq, reduceIte, Nat.reduceEqDiff, Nat.reduceBEq, Int.reduceLE, Int.reduceToNat, Nat.reduceAdd, Nat.reduceLT, Nat.reduceLeDiff]
  repeat' (first | (with_reducible refine hK _ ?_; clear hK K) | with_reducible apply And.intro)
  refine awp_le (le_freezeAt (i := 0) (t := 1) 1 (.ref [.sl 1 (bytesAV b) .sh]) rfl rfl (.ptr 0)) ?_
  simp only [s_0, s_s]
  refine awp_seq_k fun K hK => awp_ev tab_ok [] ?_
  simp (maxSteps:=9^7) only [ss, evLit, tab, reduceCtorEq, reduceIte, Nat.reduceEqDiff, Nat.reduceBEq, Int.reduceLE, Int.reduceToNat, Nat.reduceAdd, Nat.reduceLT, Nat.reduceLeDiff]
  repeat' (first | (with_reducible refine hK _ ?_; clear hK K) | with_reducible apply And.intro)
  refine awp_le (le_freezeAt (i := 4) (t := 6) 1 (.ref [nxF b (n + 2) (n + 3)]) rfl rfl (.ptr 0)) ?_
  simp only [s_0, s_s]
  refine awp_seq_k fun K hK => awp_ev_draw tab_ok [] [[], [], [2, 3], [], [], [2, 3], [], [5], [5]] [[], [], [2, 3], [], [], [2, 3], [], [5], [5]] follows (by kernel_rfl) (by decide) (by decide) (by kernel_rfl) ?_
  simp (maxSteps:=9^7) only [ss, evLit, tab, reduceCtorEq, reduceIte, Nat.reduceEqDiff, Nat.reduceBEq, Int.reduceLE, Int.reduceToNat, Nat.reduceAdd, Nat.reduceLT, Nat.reduceLeDiff, nxB]
  repeat' (first | (with_reducible refine hK _ ?_; clear hK K) | with_reducible apply And.intro)
  refine call_two (c1 n) (look_loc _ (Nat.le_refl _) 2) (look_loc _ (Nat.le_refl _) 3) (dom_loc _ (by simp)) (dom_loc _ (by simp)) (by simp) (by simp) ?_
  simp (maxSteps:=9^7) only [ss, evLit, tab, reduceCtorEq, reduceIte, Nat.reduceEqDiff, Nat.reduceBEq, Int.reduceLE, Int.reduceToNat, Nat.reduceAdd, Nat.reduceLT, Nat.reduceLeDiff, nxB, splice_all, cD_two, nx_loc (Nat.le_refl n)]
  repeat' (first | (with_reducible refine hK _ ?_; clear hK K) | with_reducible apply And.intro)
  refine call_two (c2 n) (look_loc _ (Nat.le_refl _) 2) (look_loc _ (Nat.le_refl _) 3) (dom_loc _ (by simp)) (dom_loc _ (by simp)) (by simp) (by simp) ?_
  simp (maxSteps:=9^7) only [ss, evLit, tab, reduceCtorEq, reduceIte, Nat.reduceEqDiff, Nat.reduceBEq, Int.reduceLE, Int.reduceToNat, Nat.reduceAdd, Nat.reduceLT, Nat.reduceLeDiff, nxB, splice_all, cD_two, nx_loc (Nat.le_refl n)]
  repeat' (first | (with_reducible refine hK _ ?_; clear hK K) | with_reducible apply And.intro)
  refine awp_seq_k fun K hK => awp_ev tab_ok [] ?_
  simp (maxSteps:=9^7) only [ss, evLit, tab, reduceCtorEq, reduceIte, Nat.reduceEqDiff, Nat.reduceBEq, Int.reduceLE, Int.reduceToNat, Nat.reduceAdd, Nat.reduceLT, Nat.reduceLeDiff]
  repeat' (first | (with_reducible refine hK _ ?_; clear hK K) | with_reducible apply And.intro)
  refine awp_le (le_freezeAt (i := 6) (t := 8) 1 (.ref [.fn (.func 29) [.ref [nxF b (n + 2) (n + 3)]]]) rfl rfl (.ptr 0)) ?_
  simp only [s_0, s_s]
  refine awp_seq_k fun K hK => awp_ev tab_ok [] ?_
  simp (maxSteps:=9^7) only [ss, evLit, tab, reduceCtorEq, reduceIte, Nat.reduceEqDiff, Nat.reduceBEq, Int.reduceLE, Int.reduceToNat, Nat.reduceAdd, Nat.reduceLT, Nat.reduceLeDiff, scB, nx_loc (Nat.le_refl n)]
  repeat' (first | (with_reducible refine hK _ ?_; clear hK K) | with_reducible apply And.intro)
  refine call_two (c3 n) (look_loc _ (Nat.le_refl _) 2) (look_loc _ (Nat.le_refl _) 3) (dom_loc _ (by simp)) (dom_loc _ (by simp)) (by simp) (by simp) ?_
  simp (maxSteps:=9^7) only [ss, evLit, tab, reduceCtorEq, reduceIte, Nat.reduceEqDiff, Nat.reduceBEq, Int.reduceLE, Int.reduceToNat, Nat.reduceAdd, Nat.reduceLT, Nat.reduceLeDiff, splice_all, nx_loc (Nat.le_refl n)]
  repeat' (first | (with_reducible refine hK _ ?_; clear hK K) | with_reducible apply And.intro)
  refine awp_seq_k fun K hK => awp_ev tab_ok [] ?_
  simp (maxSteps:=9^7) only [ss, evLit, tab, reduceCtorEq, reduceIte, Nat.reduceEqDiff, Nat.reduceBEq, Int.reduceLE, Int.reduceToNat, Nat.reduceAdd, Nat.reduceLT, Nat.reduceLeDiff, poB, nx_loc (Nat.le_refl n)]
  repeat' (first | (with_reducible refine hK _ ?_; clear hK K) | with_reducible apply And.intro)
  refine call_two (c4 n) (look_loc _ (Nat.le_refl _) 2) (look_loc _ (Nat.le_refl _) 3) (dom_loc _ (by simp)) (dom_loc _ (by simp)) (by simp) (by simp) ?_
  simp (maxSteps:=9^7) only [ss, evLit, tab, reduceCtorEq, reduceIte, Nat.reduceEqDiff, Nat.reduceBEq, Int.reduceLE, Int.reduceToNat, Nat.reduceAdd, Nat.reduceLT, Nat.reduceLeDiff, splice_all, nx_loc (Nat.le_refl n)]
  repeat' (first | (with_reducible refine hK _ ?_; clear hK K) | with_reducible apply And.intro)
  refine awp_seq_k fun K hK => awp_ev tab_ok [] ?_
  simp (maxSteps:=9^7) only [ss, evLit, tab, reduceCtorEq, reduceIte, Nat.reduceEqDiff, Nat.reduceBEq, Int.reduceLE, Int.reduceToNat, Nat.reduceAdd, Nat.reduceLT, Nat.reduceLeDiff, siB, nx_loc (Nat.le_refl n)]
  repeat' (first | (with_reducible refine hK _ ?_; clear hK K) | with_reducible apply And.intro)
  refine call_two (c5 n) (look_loc _ (Nat.le_refl _) 2) (look_loc _ (Nat.le_refl _) 3) (dom_loc _ (by simp)) (dom_loc _ (by simp)) (by simp) (by simp) ?_
  simp (maxSteps:=9^7) only [ss, evLit, tab, reduceCtorEq, reduceIte, Nat.reduceEqDiff, Nat.reduceBEq, Int.reduceLE, Int.reduceToNat, Nat.reduceAdd, Nat.reduceLT, Nat.reduceLeDiff, splice_all, nx_loc (Nat.le_refl n)]
  repeat' (first | (with_reducible refine hK _ ?_; clear hK K) | with_reducible apply And.intro)
  refine awp_seq_k fun K hK => awp_ev tab_ok [] ?_
  simp (maxSteps:=9^7) only [ss, evLit, tab, reduceCtorEq, reduceIte, Nat.reduceEqDiff, Nat.reduceBEq, Int.reduceLE, Int.reduceToNat, Nat.reduceAdd, Nat.reduceLT, Nat.reduceLeDiff, roB, nx_loc (Nat.le_refl n)]
  repeat' (first | (with_reducible refine hK _ ?_; clear hK K) | with_reducible apply And.intro)
  refine call_two (c6 n) (look_loc _ (Nat.le_refl _) 2) (look_loc _ (Nat.le_refl _) 3) (dom_loc _ (by simp)) (dom_loc _ (by simp)) (by simp) (by simp) ?_
  simp (maxSteps:=9^7) only [ss, evLit, tab, reduceCtorEq, reduceIte, Nat.reduceEqDiff, Nat.reduceBEq, Int.reduceLE, Int.reduceToNat, Nat.reduceAdd, Nat.reduceLT, Nat.reduceLeDiff, splice_all, nx_loc (Nat.le_refl n)]
  repeat' (first | (with_reducible refine hK _ ?_; clear hK K) | with_reducible apply And.intro)
  obtain ⟨a6, d6⟩ := s6
  unfold textOk at hok
  dsimp only at hok ⊢
  have eN : plA noPl = .agg [i64 0, i64 0, .sl 3 [] .sh, .sl 2 [] .sh, .sl 3 [] .sh, .sl 7 [] .sh] := rfl
  cases d6 with
  | true =>
    rw [hok]
    simp only [Bool.not_true, Bool.false_and, Bool.false_eq_true, if_false, eN]
    repeat' (first | (with_reducible first | refine Vk fun K hK => ?_ | refine V0 ?_ | refine Vs ?_ | apply And.intro | refine Vd 9 [] [[3],[],[2],[],[],[],[],[],[5],[],[],[],[],[5],[],[],[],[],[],[]] [[],[],[],[],[],[],[],[],[],[],[],[],[],[],[],[],[],[],[],[]] (by kernel_rfl) (by decide) (by decide) (by kernel_rfl) ?_ | refine Vq (by kernel_rfl) ?_) | ((with_reducible first | refine gE ?_ | refine gR ?_ | refine gD ?_ | refine gF ?_); simp (maxSteps:=9^7) only [ss, evLit, tab, reduceCtorEq, reduceIte, Nat.reduceEqDiff, Nat.reduceBEq, Int.reduceLE, Int.reduceToNat, Nat.reduceAdd, Nat.reduceLT, Nat.reduceLeDiff, sg, splice_all]) | exact Vn | ((with_reducible refine Vz ?_); (first | refine ret_ct (.inr rfl) rfl rfl rfl (fun _ _ => rfl) ok27 (k := n + 1) (off := 0) rfl (dom_loc _ (by simp)) (look_loc _ (Nat.le_refl _) 1) rfl rfl ?_ | refine ret_ct (.inr rfl) rfl rfl rfl (fun _ _ => rfl) ok27 (k := m + 1) (off := 0) rfl (dom_loc _ (by simp)) (look_loc _ hm 1) rfl rfl ?_) <;> first | rfl | exact AV.le.rfl _ | (simp only [patch, sl, ti27, List.map_nil, sg, splice_all]; done) | (exact AV.le.rfl _) | (simp only [patch, sl, sg, splice_all]; done) | rfl | skip) | ((with_reducible first | refine Vg (fun hg => ?_) (fun hg => ?_) | refine gselD_case (fun hg => ?_) (fun hg => ?_)) <;> (try simp only [nb] at hg) <;> simp (maxSteps:=9^7) only [ss, evLit, tab, reduceCtorEq, reduceIte, Nat.reduceEqDiff, Nat.reduceBEq, Int.reduceLE, Int.reduceToNat, Nat.reduceAdd, Nat.reduceLT, Nat.reduceLeDiff, hg, sg, splice_all]) | (refine hK _ ?_; clear hK K) | refine Vt rfl ?_ | refine Vf rfl ?_ | refine Vi rfl (fun hg => ?_) (fun hg => ?_) | clear hK K)
  | false =>
    by_cases ha : a6 = b.length
    · subst ha
      have hne : ((b.length : Int) != (b.length : Int)) = false := by simp
      cases hmy : mayP Q with
      | false =>
        rw [hmy] at cp hok
        rw [hok]
        simp only [Bool.and_false, Bool.false_and, Bool.false_eq_true, if_false, eN] at cp ⊢
        repeat' (first | (with_reducible first | refine Vk fun K hK => ?_ | refine V0 ?_ | refine Vs ?_ | apply And.intro | refine Vd 9 [] [[3],[],[2],[],[],[],[],[],[5],[],[],[],[],[5],[],[],[],[],[],[]] [[],[],[],[],[],[],[],[],[],[],[],[],[],[],[],[],[],[],[],[]] (by kernel_rfl) (by decide) (by decide) (by kernel_rfl) ?_ | refine Vq (by kernel_rfl) ?_) | ((with_reducible first | refine gE ?_ | refine gR ?_ | refine gD ?_ | refine gF ?_); simp (maxSteps:=9^7) only [ss, evLit, tab, reduceCtorEq, reduceIte, Nat.reduceEqDiff, Nat.reduceBEq, Int.reduceLE, Int.reduceToNat, Nat.reduceAdd, Nat.reduceLT, Nat.reduceLeDiff, sg, splice_all, bytes_length, hne, Int.reduceBNe]) | exact Vn | ((with_reducible refine Vz ?_); (first | refine ret_ct (.inr rfl) rfl rfl rfl (fun _ _ => rfl) ok27 (k := n + 1) (off := 0) rfl (dom_loc _ (by simp)) (look_loc _ (Nat.le_refl _) 1) rfl rfl ?_ | refine ret_ct (.inr rfl) rfl rfl rfl (fun _ _ => rfl) ok27 (k := m + 1) (off := 0) rfl (dom_loc _ (by simp)) (look_loc _ hm 1) rfl rfl ?_) <;> first | rfl | exact AV.le.rfl _ | (simp only [patch, sl, ti27, List.map_nil, sg, splice_all, bytes_length, hne, Int.reduceBNe]; done) | (exact AV.le.rfl _) | (simp only [patch, sl, sg, splice_all, bytes_length, hne, Int.reduceBNe]; done) | rfl | skip) | (refine call_pure (cp) ?_) | ((with_reducible first | refine Vg (fun hg => ?_) (fun hg => ?_) | refine gselD_case (fun hg => ?_) (fun hg => ?_)) <;> (try simp only [nb] at hg) <;> simp (maxSteps:=9^7) only [ss, evLit, tab, reduceCtorEq, reduceIte, Nat.reduceEqDiff, Nat.reduceBEq, Int.reduceLE, Int.reduceToNat, Nat.reduceAdd, Nat.reduceLT, Nat.reduceLeDiff, hg, sg, splice_all, bytes_length, hne, Int.reduceBNe]) | (refine hK _ ?_; clear hK K) | refine Vt rfl ?_ | refine Vf rfl ?_ | refine Vi rfl (fun hg => ?_) (fun hg => ?_) | clear hK K)
      | true =>
        have cw := cw hmy
        rw [hmy] at cp hok
        simp only [if_true] at cp
        by_cases hw : encP Q = b
        · rw [hok]
          have hwb : (encP Q == b) = true := beq_iff_eq.2 hw
          simp only [hwb, decide_true, Bool.not_false, Bool.and_true, if_true, eQ]
          repeat' (first | (with_reducible first | refine Vk fun K hK => ?_ | refine V0 ?_ | refine Vs ?_ | apply And.intro | refine Vd 9 [] [[3],[],[2],[],[],[],[],[],[5],[],[],[],[],[5],[],[],[],[],[],[]] [[],[],[],[],[],[],[],[],[],[],[],[],[],[],[],[],[],[],[],[]] (by kernel_rfl) (by decide) (by decide) (by kernel_rfl) ?_ | refine Vq (by kernel_rfl) ?_) | ((with_reducible first | refine gE ?_ | refine gR ?_ | refine gD ?_ | refine gF ?_); simp (maxSteps:=9^7) only [ss, evLit, tab, reduceCtorEq, reduceIte, Nat.reduceEqDiff, Nat.reduceBEq, Int.reduceLE, Int.reduceToNat, Nat.reduceAdd, Nat.reduceLT, Nat.reduceLeDiff, sg, splice_all, bytes_length, hne, Int.reduceBNe, ex_bytes, str_eq, hwb]) | exact Vn | ((with_reducible refine Vz ?_); (first | refine ret_ct (.inr rfl) rfl rfl rfl (fun _ _ => rfl) ok27 (k := n + 1) (off := 0) rfl (dom_loc _ (by simp)) (look_loc _ (Nat.le_refl _) 1) rfl rfl ?_ | refine ret_ct (.inr rfl) rfl rfl rfl (fun _ _ => rfl) ok27 (k := m + 1) (off := 0) rfl (dom_loc _ (by simp)) (look_loc _ hm 1) rfl rfl ?_) <;> first | rfl | exact AV.le.rfl _ | (simp only [patch, sl, ti27, List.map_nil, sg, splice_all, bytes_length, hne, Int.reduceBNe, ex_bytes, str_eq, hwb]; done) | (exact AV.le.rfl _) | (simp only [patch, sl, sg, splice_all, bytes_length, hne, Int.reduceBNe, ex_bytes, str_eq, hwb]; done) | rfl | skip) | (refine call_pure (cp) ?_) | (refine call_pure (cw) ?_) | ((with_reducible first | refine Vg (fun hg => ?_) (fun hg => ?_) | refine gselD_case (fun hg => ?_) (fun hg => ?_)) <;> (try simp only [nb] at hg) <;> simp (maxSteps:=9^7) only [ss, evLit, tab, reduceCtorEq, reduceIte, Nat.reduceEqDiff, Nat.reduceBEq, Int.reduceLE, Int.reduceToNat, Nat.reduceAdd, Nat.reduceLT, Nat.reduceLeDiff, hg, sg, splice_all, bytes_length, hne, Int.reduceBNe, ex_bytes, str_eq, hwb]) | (refine hK _ ?_; clear hK K) | refine Vt rfl ?_ | refine Vf rfl ?_ | refine Vi rfl (fun hg => ?_) (fun hg => ?_) | clear hK K)
        · have hwb : (encP Q == b) = false := beq_eq_false_iff_ne.2 hw
          rw [hok]
          simp only [hwb, Bool.and_false, Bool.false_eq_true, if_false, eN]
          repeat' (first | (with_reducible first | refine Vk fun K hK => ?_ | refine V0 ?_ | refine Vs ?_ | apply And.intro | refine Vd 9 [] [[3],[],[2],[],[],[],[],[],[5],[],[],[],[],[5],[],[],[],[],[],[]] [[],[],[],[],[],[],[],[],[],[],[],[],[],[],[],[],[],[],[],[]] (by kernel_rfl) (by decide) (by decide) (by kernel_rfl) ?_ | refine Vq (by kernel_rfl) ?_) | ((with_reducible first | refine gE ?_ | refine gR ?_ | refine gD ?_ | refine gF ?_); simp (maxSteps:=9^7) only [ss, evLit, tab, reduceCtorEq, reduceIte, Nat.reduceEqDiff, Nat.reduceBEq, Int.reduceLE, Int.reduceToNat, Nat.reduceAdd, Nat.reduceLT, Nat.reduceLeDiff, sg, splice_all, bytes_length, hne, Int.reduceBNe, ex_bytes, str_eq, hwb]) | exact Vn | ((with_reducible refine Vz ?_); (first | refine ret_ct (.inr rfl) rfl rfl rfl (fun _ _ => rfl) ok27 (k := n + 1) (off := 0) rfl (dom_loc _ (by simp)) (look_loc _ (Nat.le_refl _) 1) rfl rfl ?_ | refine ret_ct (.inr rfl) rfl rfl rfl (fun _ _ => rfl) ok27 (k := m + 1) (off := 0) rfl (dom_loc _ (by simp)) (look_loc _ hm 1) rfl rfl ?_) <;> first | rfl | exact AV.le.rfl _ | (simp only [patch, sl, ti27, List.map_nil, sg, splice_all, bytes_length, hne, Int.reduceBNe, ex_bytes, str_eq, hwb]; done) | (exact AV.le.rfl _) | (simp only [patch, sl, sg, splice_all, bytes_length, hne, Int.reduceBNe, ex_bytes, str_eq, hwb]; done) | rfl | skip) | (refine call_pure (cp) ?_) | (refine call_pure (cw) ?_) | ((with_reducible first | refine Vg (fun hg => ?_) (fun hg => ?_) | refine gselD_case (fun hg => ?_) (fun hg => ?_)) <;> (try simp only [nb] at hg) <;> simp (maxSteps:=9^7) only [ss, evLit, tab, reduceCtorEq, reduceIte, Nat.reduceEqDiff, Nat.reduceBEq, Int.reduceLE, Int.reduceToNat, Nat.reduceAdd, Nat.reduceLT, Nat.reduceLeDiff, hg, sg, splice_all, bytes_length, hne, Int.reduceBNe, ex_bytes, str_eq, hwb]) | (refine hK _ ?_; clear hK K) | refine Vt rfl ?_ | refine Vf rfl ?_ | refine Vi rfl (fun hg => ?_) (fun hg => ?_) | clear hK K)
    · have hne : ((a6 : Int) != (b.length : Int)) = true := by simpa using fun h : (a6 : Int) = (b.length : Int) => ha (by omega)
      rw [hok]
      simp only [ha, decide_false, Bool.and_false, Bool.false_and, Bool.false_eq_true, if_false, eN]
      repeat' (first | (with_reducible first | refine Vk fun K hK => ?_ | refine V0 ?_ | refine Vs ?_ | apply And.intro | refine Vd 9 [] [[3],[],[2],[],[],[],[],[],[5],[],[],[],[],[5],[],[],[],[],[],[]] [[],[],[],[],[],[],[],[],[],[],[],[],[],[],[],[],[],[],[],[]] (by kernel_rfl) (by decide) (by decide) (by kernel_rfl) ?_ | refine Vq (by kernel_rfl) ?_) | ((with_reducible first | refine gE ?_ | refine gR ?_ | refine gD ?_ | refine gF ?_); simp (maxSteps:=9^7) only [ss, evLit, tab, reduceCtorEq, reduceIte, Nat.reduceEqDiff, Nat.reduceBEq, Int.reduceLE, Int.reduceToNat, Nat.reduceAdd, Nat.reduceLT, Nat.reduceLeDiff, sg, splice_all, bytes_length, hne]) | exact Vn | ((with_reducible refine Vz ?_); (first | refine ret_ct (.inr rfl) rfl rfl rfl (fun _ _ => rfl) ok27 (k := n + 1) (off := 0) rfl (dom_loc _ (by simp)) (look_loc _ (Nat.le_refl _) 1) rfl rfl ?_ | refine ret_ct (.inr rfl) rfl rfl rfl (fun _ _ => rfl) ok27 (k := m + 1) (off := 0) rfl (dom_loc _ (by simp)) (look_loc _ hm 1) rfl rfl ?_) <;> first | rfl | exact AV.le.rfl _ | (simp only [patch, sl, ti27, List.map_nil, sg, splice_all, bytes_length, hne]; done) | (exact AV.le.rfl _) | (simp only [patch, sl, sg, splice_all, bytes_length, hne]; done) | rfl | skip) | ((with_reducible first | refine Vg (fun hg => ?_) (fun hg => ?_) | refine gselD_case (fun hg => ?_) (fun hg => ?_)) <;> (try simp only [nb] at hg) <;> simp (maxSteps:=9^7) only [ss, evLit, tab, reduceCtorEq, reduceIte, Nat.reduceEqDiff, Nat.reduceBEq, Int.reduceLE, Int.reduceToNat, Nat.reduceAdd, Nat.reduceLT, Nat.reduceLeDiff, hg, sg, splice_all, bytes_length, hne]) | (refine hK _ ?_; clear hK K) | refine Vt rfl ?_ | refine Vf rfl ?_ | refine Vi rfl (fun hg => ?_) (fun hg => ?_) | clear hK K)
end Go.Proofs.Ytgdhnngpfieloaa.Pln
end
section
namespace Go.Proofs.Ytgdhnngpfieloaa.Pln
set_option linter.unusedVariables false
set_option linter.unusedSimpArgs false
open Go Go.VS Tab
set_option maxHeartbeats 8000000
set_option maxRecDepth 4000
def textE (p : Pl) : Int := if mayP p then 0 else 8
def textB (p : Pl) : List UInt8 := if mayP p then encP p else []
theorem c_textK (k : Nat) (p : Pl) (hs : Sm p) (h : mayP p = true) : ACall Try.prog 10 [plA p] [(k, none)] (.tup [.sl 1 (bytesAV (encP p)) (.own k), i64 0]) [(k, .row 5 1 (encP p).length)] := by
  have c1 := c_pcheck p hs
  have hl := text_len h
  have c2 := fun k => c_writtenK k p hs (by omega)
  rw [h] at c1
  simp only [plA, plC, if_true] at c1 c2
  refine acall_of 1 Try.func10 rfl fun n out _ _ => ?_
  simp only [Try.ntmps10, List.length_cons, List.length_nil, List.length_map, List.length_replicate, rep_map, Nat.reduceAdd, Nat.reduceSub, List.replicate, List.cons_append, List.nil_append]
  rename_i hneeds hgv
  obtain ⟨hk, _⟩ := hneeds
  obtain ⟨hkn, _⟩ := hgv
  repeat' (first | (with_reducible first | refine Vk fun K hK => ?_ | refine V0 ?_ | refine Vs ?_ | apply And.intro) | ((with_reducible first | refine gE ?_ | refine gR ?_); simp (maxSteps:=9^7) only [ss, evLit, tab, reduceCtorEq, reduceIte, Nat.reduceEqDiff, Nat.reduceBEq, Int.reduceLE, Int.reduceToNat, Nat.reduceAdd, Nat.reduceLT, Nat.reduceLeDiff, plA, plC, splice_all, Int.reduceBNe, lk_out hkn, dm_out hkn, nx_out0 hkn]) | exact Vn | ((with_reducible refine Vz ?_); refine Vp rfl rfl rfl (fun _ _ => rfl) ?_ ?_ <;> first | rfl | skip) | (refine call_pure (c1) ?_) | (refine call_one (c2 k) (by rw [lk_out hkn]; exact hk) (by rw [dm_out hkn]; trivial) (by simp) ?_) | (refine hK _ ?_; clear hK K) | refine Vt rfl ?_ | refine Vf rfl ?_ | refine Vi rfl (fun hg => ?_) (fun hg => ?_) | clear hK K)
theorem c_text (p : Pl) (hs : Sm p) : ACall Try.prog 10 [plA p] [] (.tup [.sl 1 (bytesAV (textB p)) .sh, i64 (textE p)]) [] := by
  cases h : mayP p with
  | true =>
    have e1 : textB p = encP p := if_pos h
    have e2 : textE p = 0 := if_pos h
    rw [e1, e2]
    refine acall_drop (fun k => c_textK k p hs h) fun k => ?_
    simp only [patch, sl]
  | false =>
    have h' : ¬ mayP p = true := by rw [h]; decide
    have e1 : textB p = [] := if_neg h'
    have e2 : textE p = 8 := if_neg h'
    rw [e1, e2, bytes_nil]
    have c1 := c_pcheck p hs
    rw [h] at c1
    simp only [plA, plC, Bool.false_eq_true, if_false] at c1
    refine acall_of 1 Try.func10 rfl fun n out _ _ => ?_
    simp only [Try.ntmps10, List.length_cons, List.length_nil, List.length_map, List.length_replicate, rep_map, Nat.reduceAdd, Nat.reduceSub, List.replicate, List.cons_append, List.nil_append]
    repeat' (first | (with_reducible first | refine Vk fun K hK => ?_ | refine V0 ?_ | refine Vs ?_ | apply And.intro) | ((with_reducible first | refine gE ?_ | refine gR ?_); simp (maxSteps:=9^7) only [ss, evLit, tab, reduceCtorEq, reduceIte, Nat.reduceEqDiff, Nat.reduceBEq, Int.reduceLE, Int.reduceToNat, Nat.reduceAdd, Nat.reduceLT, Nat.reduceLeDiff, plA, plC, splice_all, Int.reduceBNe]) | exact Vn | ((with_reducible refine Vz ?_); refine ret_tmps_le (.inr rfl) rfl rfl rfl (fun _ _ => rfl) rfl rfl ?_ ?_ <;> first | rfl | (exact AV.le.rfl _) | (simp only [patch, sl, plA, plC, splice_all, Int.reduceBNe]; done) | rfl | skip) | (refine call_pure (c1) ?_) | (refine hK _ ?_; clear hK K) | refine Vt rfl ?_ | refine Vf rfl ?_ | refine Vi rfl (fun hg => ?_) (fun hg => ?_) | clear hK K)
def writeE (key : List UInt8) (p : Pl) : Int := if 64 < key.length then 3 else textE p
def writeB (key : List UInt8) (p : Pl) : List UInt8 := if key.length ≤ 64 ∧ mayP p = true then encP p ++ Hm.tagOf key (encP p) else []
theorem c_write (key : List UInt8) (p : Pl) (hs : Sm p) (hkl : key.length ≤ 1000000) : ACall Try.prog 16 [.sl 1 (bytesAV key) .sh, plA p] [] (.tup [.sl 1 (bytesAV (writeB key p)) .sh, i64 (writeE key p)]) [] := by
  by_cases hk : key.length ≤ 64
  · have g2 : ((key.length : Int) > 64) = False := eq_false (by omega)
    have e2 : writeE key p = textE p := if_neg (by omega)
    cases h : mayP p with
    | true =>
      have e1 : writeB key p = encP p ++ Hm.tagOf key (encP p) := if_pos ⟨hk, h⟩
      have e3 : textE p = 0 := if_pos h
      rw [e1, e2, e3]
      have hl := text_len h
      have ct := Hm.c_tag key (encP p)
      have c1 := fun k => c_textK k p hs h
      simp only [plA, plC] at c1
      have ht32 : (Hm.tagOf key (encP p)).length = 32 := Hm.sumOf_length _
      have etg : Hm.tagR key (encP p) = .tup [.agg ((Hm.tagOf key (encP p)).map b8), i64 0] := if_pos hk
      rw [etg] at ct
      refine acall_of 3 Try.func16 rfl fun n out _ _ => ?_
      simp only [Try.ntmps16, List.length_cons, List.length_nil, List.length_map, List.length_replicate, rep_map, Nat.reduceAdd, Nat.reduceSub, List.replicate, List.cons_append, List.nil_append]
      repeat' (first | (with_reducible first | refine Vk fun K hK => ?_ | refine V0 ?_ | refine Vs ?_ | apply And.intro) | ((with_reducible first | refine gE ?_ | refine gR ?_); simp (maxSteps:=9^7) only [ss, evLit, tab, reduceCtorEq, reduceIte, Nat.reduceEqDiff, Nat.reduceBEq, Int.reduceLE, Int.reduceToNat, Nat.reduceAdd, Nat.reduceLT, Nat.reduceLeDiff, plA, plC, bytes_length, g2, decide_false, splice_all, Int.reduceBNe]) | exact Vn | ((with_reducible refine Vz ?_); refine Vp rfl rfl rfl (fun _ _ => rfl) ?_ ?_ <;> first | rfl | skip) | (refine call_one (c1 (n + 2)) (look_loc _ (Nat.le_refl _) 2) (dom_loc _ (by simp)) (by simp) ?_) | (refine hK _ ?_; clear hK K) | refine Vt rfl ?_ | refine Vf rfl ?_ | refine Vi rfl (fun hg => ?_) (fun hg => ?_) | clear hK K)
      refine call_pure (ct .sh (.own (n + 2)) (by omega)) ?_
      simp (maxSteps:=9^7) only [ss, evLit, tab, reduceCtorEq, reduceIte, Nat.reduceEqDiff, Nat.reduceBEq, Int.reduceLE, Int.reduceToNat, Nat.reduceAdd, Nat.reduceLT, Nat.reduceLeDiff, splice_all, List.length_map, ht32]
      repeat' (first | (with_reducible refine hK _ ?_; clear hK K) | with_reducible apply And.intro)
      refine awp_seq_k fun KC hKC => ?_
      refine awp_seq_k fun K hK => awp_ev tab_ok [] ?_
      simp (maxSteps:=9^7) only [ss, evLit, tab, reduceCtorEq, reduceIte, Nat.reduceEqDiff, Nat.reduceBEq, Int.reduceLE, Int.reduceToNat, Nat.reduceAdd, Nat.reduceLT, Nat.reduceLeDiff, Int.reduceBNe]
      repeat' (first | (with_reducible refine hK _ ?_; clear hK K) | with_reducible apply And.intro)
      refine awp_cond_f rfl ?_
      refine awp_skip ?_
      simp only [thenA, blockA, if_true]
      refine hKC _ ?_
      clear hKC KC
      refine awp_le (le_freeze (i := 1) 1 (e := 47) (cs := (Hm.tagOf key (encP p)).map b8) rfl (by simp)) ?_
      simp only [List.map_cons, List.map_nil, AV.frz, mo_t, mo_f, s_0, s_s, Nat.add_left_cancel_iff, reduceCtorEq, if_true, if_false, Nat.reduceEqDiff, reduceIte, List.drop_zero]
      have hib : (bytesAV (Hm.tagOf key (encP p))).length = 32 := by rw [bytes_length]; exact ht32
      have hi33 : 32 ≤ (Hm.tagOf key (encP p)).length := Nat.le_of_eq ht32.symm
      have y1 : (encP p).length + 32 ≤ 140737488355328 := by omega
      have y2 : (encP p).length + 32 ≤ 9223372036854775807 := by omega
      refine awp_seq_k fun K hK => awp_ev tab_ok [] ?_
      simp (maxSteps:=9^7) only [ss, evLit, tab, reduceCtorEq, reduceIte, Nat.reduceEqDiff, Nat.reduceBEq, Int.reduceLE, Int.reduceToNat, Nat.reduceAdd, Nat.reduceLT, Nat.reduceLeDiff, loOf, hiOf, Nat.sub_zero, chunk_b8' _ ht32, List.take_of_length_le (Nat.le_of_eq hib), hi33, bytes_length, ht32, bytes_app, y1, y2]
      repeat' (first | (with_reducible refine hK _ ?_; clear hK K) | with_reducible apply And.intro)
      exact awp_ret (ret_tmps_le (.inr rfl) rfl rfl rfl (fun _ _ => rfl) rfl rfl (.sh _ _ _) (.rfl _))
    | false =>
      have h' : ¬ (key.length ≤ 64 ∧ mayP p = true) := fun h1 => by rw [h] at h1; exact absurd h1.2 (by decide)
      have e1 : writeB key p = [] := if_neg h'
      have c1 := c_text p hs
      have e3 : textE p = 8 := if_neg (by rw [h]; decide)
      rw [e1, e2, e3, bytes_nil]
      rw [e3] at c1
      simp only [plA, plC] at c1
      refine acall_of 3 Try.func16 rfl fun n out _ _ => ?_
      simp only [Try.ntmps16, List.length_cons, List.length_nil, List.length_map, List.length_replicate, rep_map, Nat.reduceAdd, Nat.reduceSub, List.replicate, List.cons_append, List.nil_append]
      repeat' (first | (with_reducible first | refine Vk fun K hK => ?_ | refine V0 ?_ | refine Vs ?_ | apply And.intro) | ((with_reducible first | refine gE ?_ | refine gR ?_); simp (maxSteps:=9^7) only [ss, evLit, tab, reduceCtorEq, reduceIte, Nat.reduceEqDiff, Nat.reduceBEq, Int.reduceLE, Int.reduceToNat, Nat.reduceAdd, Nat.reduceLT, Nat.reduceLeDiff, plA, plC, bytes_length, g2, decide_false, splice_all, Int.reduceBNe]) | exact Vn | ((with_reducible refine Vz ?_); refine ret_tmps_le (.inr rfl) rfl rfl rfl (fun _ _ => rfl) rfl rfl ?_ ?_ <;> first | rfl | (exact AV.le.rfl _) | (simp only [patch, sl, plA, plC, bytes_length, g2, decide_false, splice_all, Int.reduceBNe]; done) | rfl | skip) | (refine call_pure (c1) ?_) | (refine hK _ ?_; clear hK K) | refine Vt rfl ?_ | refine Vf rfl ?_ | refine Vi rfl (fun hg => ?_) (fun hg => ?_) | clear hK K)
  · have g2 : ((key.length : Int) > 64) = True := eq_true (by omega)
    have e1 : writeB key p = [] := if_neg fun h => hk h.1
    have e2 : writeE key p = 3 := if_pos (by omega)
    rw [e1, e2, bytes_nil]
    refine acall_of 3 Try.func16 rfl fun n out _ _ => ?_
    simp only [Try.ntmps16, List.length_cons, List.length_nil, List.length_map, List.length_replicate, rep_map, Nat.reduceAdd, Nat.reduceSub, List.replicate, List.cons_append, List.nil_append]
    repeat' (first | (with_reducible first | refine Vk fun K hK => ?_ | refine V0 ?_ | refine Vs ?_ | apply And.intro) | ((with_reducible first | refine gE ?_ | refine gR ?_); simp (maxSteps:=9^7) only [ss, evLit, tab, reduceCtorEq, reduceIte, Nat.reduceEqDiff, Nat.reduceBEq, Int.reduceLE, Int.reduceToNat, Nat.reduceAdd, Nat.reduceLT, Nat.reduceLeDiff, plA, plC, bytes_length, g2, decide_true, splice_all]) | exact Vn | ((with_reducible refine Vz ?_); refine ret_tmps_le (.inr rfl) rfl rfl rfl (fun _ _ => rfl) rfl rfl ?_ ?_ <;> first | rfl | (exact AV.le.rfl _) | (simp only [patch, sl, plA, plC, bytes_length, g2, decide_true, splice_all]; done) | rfl | skip) | (refine hK _ ?_; clear hK K) | refine Vt rfl ?_ | refine Vf rfl ?_ | refine Vi rfl (fun hg => ?_) (fun hg => ?_) | clear hK K)
def readN (b : List UInt8) : List UInt8 := b.take (b.length - 32)
def readX (b : List UInt8) : List UInt8 := b.drop (b.length - 32)
def readR (key b : List UInt8) : Bool := Hm.tagOf key (readN b) == readX b
def readE (key b : List UInt8) : Int := if 64 < key.length ∨ 2048 < b.length then 3 else if b.length < 32 then 8 else if readR key b then (if parseOk (readN b) then 0 else 8) else 120
def readD (key b : List UInt8) : Pl := if readE key b = 0 then (readP (readN b)).1 else noPl
theorem readE_big {key b : List UInt8} (h : 64 < key.length ∨ 2048 < b.length) : readE key b = 3 := if_pos h
theorem readE_short {key b : List UInt8} (h : ¬ (64 < key.length ∨ 2048 < b.length)) (h2 : b.length < 32) : readE key b = 8 := by unfold readE; rw [if_neg h, if_pos h2]
theorem readE_tag {key b : List UInt8} (h : ¬ (64 < key.length ∨ 2048 < b.length)) (h2 : ¬ b.length < 32) (h3 : readR key b = false) : readE key b = 120 := by unfold readE; rw [if_neg h, if_neg h2, h3]; rfl
theorem readE_ok {key b : List UInt8} (h : ¬ (64 < key.length ∨ 2048 < b.length)) (h2 : ¬ b.length < 32) (h3 : readR key b = true) : readE key b = (if parseOk (readN b) then 0 else 8) := by unfold readE; rw [if_neg h, if_neg h2, h3]; rfl
theorem readD_no {key b : List UInt8} {x : Int} (h : readE key b = x) (hx : x ≠ 0) : readD key b = noPl := if_neg (by rw [h]; exact hx)
theorem c_read (key b : List UInt8) (hkl : key.length ≤ 1000000) (hb : b.length ≤ 1000000) : ACall Try.prog 17 [.sl 1 (bytesAV key) .sh, .sl 1 (bytesAV b) .sh] [] (.tup [plA (readD key b), i64 (readE key b)]) [] := by
  have eN : plA noPl = .agg [i64 0, i64 0, .sl 3 [] .sh, .sl 2 [] .sh, .sl 3 [] .sh, .sl 7 [] .sh] := rfl
  by_cases h1 : 64 < key.length ∨ 2048 < b.length
  · have e1 := readE_big h1
    rw [readD_no e1 (by decide), e1, eN]
    have w1 : IntKind.i64.wrap ((b.length : Int) - 32) = (b.length : Int) - 32 := by rw [wrap_i64] <;> omega
    by_cases h2 : 64 < key.length
    · have g1 : (64 : Int) < (key.length : Int) := by omega
      refine acall_of 2 Try.func17 rfl fun n out _ _ => ?_
      simp only [Try.ntmps17, List.length_cons, List.length_nil, List.length_map, List.length_replicate, rep_map, Nat.reduceAdd, Nat.reduceSub, List.replicate, List.cons_append, List.nil_append]
      repeat' (first | (with_reducible first | refine Vk fun K hK => ?_ | refine V0 ?_ | refine Vb ?_ | refine Vc ?_ | refine Vr ?_ | refine Vs ?_ | apply And.intro | refine Vq (by kernel_rfl) ?_) | ((with_reducible first | refine gE ?_ | refine gR ?_); simp (maxSteps:=9^7) only [ss, evLit, tab, reduceCtorEq, reduceIte, Nat.reduceEqDiff, Nat.reduceBEq, Int.reduceLE, Int.reduceToNat, Nat.reduceAdd, Nat.reduceLT, Nat.reduceLeDiff, bytes_length, w1, g1, gt_iff_lt, splice_all]) | exact Vn | ((with_reducible refine Vz ?_); (first | refine ret_ct (.inr rfl) rfl rfl rfl (fun _ _ => rfl) ok27 (k := n + 0) (off := 0) rfl (dom_loc _ (by simp)) (look_loc _ (Nat.le_refl _) 0) rfl rfl ?_ | refine ret_ct (.inr rfl) rfl rfl rfl (fun _ _ => rfl) ok27 (k := m + 0) (off := 0) rfl (dom_loc _ (by simp)) (look_loc _ hm 0) rfl rfl ?_) <;> first | rfl | exact AV.le.rfl _ | (simp only [patch, sl, ti27, List.map_nil, bytes_length, w1, g1, gt_iff_lt, splice_all]; done) | (exact AV.le.rfl _) | (simp only [patch, sl, bytes_length, w1, g1, gt_iff_lt, splice_all]; done) | rfl | skip) | (refine hK _ ?_; clear hK K) | refine Vt rfl ?_ | refine Vf rfl ?_ | refine Vi rfl (fun hg => ?_) (fun hg => ?_) | clear hK K)
    · have g1 : ¬ (64 : Int) < (key.length : Int) := by omega
      have g2 : (2048 : Int) < (b.length : Int) := by omega
      refine acall_of 2 Try.func17 rfl fun n out _ _ => ?_
      simp only [Try.ntmps17, List.length_cons, List.length_nil, List.length_map, List.length_replicate, rep_map, Nat.reduceAdd, Nat.reduceSub, List.replicate, List.cons_append, List.nil_append]
      repeat' (first | (with_reducible first | refine Vk fun K hK => ?_ | refine V0 ?_ | refine Vb ?_ | refine Vc ?_ | refine Vr ?_ | refine Vs ?_ | apply And.intro | refine Vq (by kernel_rfl) ?_) | ((with_reducible first | refine gE ?_ | refine gR ?_); simp (maxSteps:=9^7) only [ss, evLit, tab, reduceCtorEq, reduceIte, Nat.reduceEqDiff, Nat.reduceBEq, Int.reduceLE, Int.reduceToNat, Nat.reduceAdd, Nat.reduceLT, Nat.reduceLeDiff, bytes_length, w1, g1, g2, gt_iff_lt, splice_all]) | exact Vn | ((with_reducible refine Vz ?_); (first | refine ret_ct (.inr rfl) rfl rfl rfl (fun _ _ => rfl) ok27 (k := n + 0) (off := 0) rfl (dom_loc _ (by simp)) (look_loc _ (Nat.le_refl _) 0) rfl rfl ?_ | refine ret_ct (.inr rfl) rfl rfl rfl (fun _ _ => rfl) ok27 (k := m + 0) (off := 0) rfl (dom_loc _ (by simp)) (look_loc _ hm 0) rfl rfl ?_) <;> first | rfl | exact AV.le.rfl _ | (simp only [patch, sl, ti27, List.map_nil, bytes_length, w1, g1, g2, gt_iff_lt, splice_all]; done) | (exact AV.le.rfl _) | (simp only [patch, sl, bytes_length, w1, g1, g2, gt_iff_lt, splice_all]; done) | rfl | skip) | (refine hK _ ?_; clear hK K) | refine Vt rfl ?_ | refine Vf rfl ?_ | refine Vi rfl (fun hg => ?_) (fun hg => ?_) | clear hK K)
  · have g1 : ¬ (64 : Int) < (key.length : Int) := by omega
    have g2 : ¬ (2048 : Int) < (b.length : Int) := by omega
    by_cases h2 : b.length < 32
    · have w1 : IntKind.i64.wrap ((b.length : Int) - 32) = (b.length : Int) - 32 := by rw [wrap_i64] <;> omega
      have g3 : (b.length : Int) - 32 < 0 := by omega
      have e1 := readE_short h1 h2
      rw [readD_no e1 (by decide), e1, eN]
      refine acall_of 2 Try.func17 rfl fun n out _ _ => ?_
      simp only [Try.ntmps17, List.length_cons, List.length_nil, List.length_map, List.length_replicate, rep_map, Nat.reduceAdd, Nat.reduceSub, List.replicate, List.cons_append, List.nil_append]
      repeat' (first | (with_reducible first | refine Vk fun K hK => ?_ | refine V0 ?_ | refine Vb ?_ | refine Vc ?_ | refine Vr ?_ | refine Vs ?_ | apply And.intro | refine Vq (by kernel_rfl) ?_) | ((with_reducible first | refine gE ?_ | refine gR ?_); simp (maxSteps:=9^7) only [ss, evLit, tab, reduceCtorEq, reduceIte, Nat.reduceEqDiff, Nat.reduceBEq, Int.reduceLE, Int.reduceToNat, Nat.reduceAdd, Nat.reduceLT, Nat.reduceLeDiff, bytes_length, w1, g1, g2, g3, gt_iff_lt, splice_all]) | exact Vn | ((with_reducible refine Vz ?_); (first | refine ret_ct (.inr rfl) rfl rfl rfl (fun _ _ => rfl) ok27 (k := n + 0) (off := 0) rfl (dom_loc _ (by simp)) (look_loc _ (Nat.le_refl _) 0) rfl rfl ?_ | refine ret_ct (.inr rfl) rfl rfl rfl (fun _ _ => rfl) ok27 (k := m + 0) (off := 0) rfl (dom_loc _ (by simp)) (look_loc _ hm 0) rfl rfl ?_) <;> first | rfl | exact AV.le.rfl _ | (simp only [patch, sl, ti27, List.map_nil, bytes_length, w1, g1, g2, g3, gt_iff_lt, splice_all]; done) | (exact AV.le.rfl _) | (simp only [patch, sl, bytes_length, w1, g1, g2, g3, gt_iff_lt, splice_all]; done) | rfl | skip) | (refine hK _ ?_; clear hK K) | refine Vt rfl ?_ | refine Vf rfl ?_ | refine Vi rfl (fun hg => ?_) (fun hg => ?_) | clear hK K)
    · have w1 := subw (n := b.length) 32 32 rfl (by omega) (by omega)
      have g3 : ¬ ((b.length - 32 : Nat) : Int) < 0 := by omega
      have ct := Hm.c_tag key (readN b) .sh .sh (by unfold readN; rw [List.length_take]; omega)
      have ht32 : (Hm.tagOf key (readN b)).length = 32 := Hm.sumOf_length _
      have etg : Hm.tagR key (readN b) = .tup [.agg ((Hm.tagOf key (readN b)).map b8), i64 0] := if_pos (by omega)
      rw [etg] at ct
      have hX : (readX b).length = 32 := by unfold readX; rw [List.length_drop]; omega
      have cs := Hm.c_same (Hm.tagOf key (readN b)) (readX b) ht32 hX
      rw [show (Hm.tagOf key (readN b) == readX b) = readR key b from rfl] at cs
      generalize Hm.tagOf key (readN b) = T at ct cs ht32
      have k1 : b.length - 32 ≤ b.length := Nat.sub_le _ _
      have k2 : b.length - (b.length - 32) = 32 := by omega
      have k3 : List.take (b.length - 32) b = readN b := rfl
      have k4 : List.drop (b.length - 32) b = readX b := rfl
      have k5 : List.take 32 (readX b) = readX b := List.take_of_length_le (by omega)
      have k6 : 32 ≤ (readX b).length := by omega
      cases hR : readR key b with
      | false =>
        have e1 := readE_tag h1 h2 hR
        rw [readD_no e1 (by decide), e1, eN]
        rw [hR] at cs
        refine acall_of 2 Try.func17 rfl fun n out _ _ => ?_
        simp only [Try.ntmps17, List.length_cons, List.length_nil, List.length_map, List.length_replicate, rep_map, Nat.reduceAdd, Nat.reduceSub, List.replicate, List.cons_append, List.nil_append]
        repeat' (first | (with_reducible first | refine Vk fun K hK => ?_ | refine V0 ?_ | refine Vb ?_ | refine Vc ?_ | refine Vr ?_ | refine Vs ?_ | apply And.intro | refine Vd 10 [] [[1],[],[],[],[],[],[],[]] [[],[],[],[],[],[],[],[]] (by kernel_rfl) (by decide) (by decide) (by kernel_rfl) ?_ | refine Vq (by kernel_rfl) ?_) | ((with_reducible first | refine gE ?_ | refine gR ?_ | refine gD ?_ | refine gF ?_); simp (maxSteps:=9^7) only [ss, evLit, tab, reduceCtorEq, reduceIte, Nat.reduceEqDiff, Nat.reduceBEq, Int.reduceLE, Int.reduceToNat, Nat.reduceAdd, Nat.reduceLT, Nat.reduceLeDiff, bytes_length, w1, g1, g2, g3, gt_iff_lt, splice_all, loOf, hiOf, k1, k2, bytes_take, bytes_drop, Nat.sub_zero, k3, k4, k5, k6, bytes_flat, pick_all, List.length_map, ht32, hX, Int.reduceBNe]) | exact Vn | ((with_reducible refine Vz ?_); (first | refine ret_ct (.inr rfl) rfl rfl rfl (fun _ _ => rfl) ok27 (k := n + 0) (off := 0) rfl (dom_loc _ (by simp)) (look_loc _ (Nat.le_refl _) 0) rfl rfl ?_ | refine ret_ct (.inr rfl) rfl rfl rfl (fun _ _ => rfl) ok27 (k := m + 0) (off := 0) rfl (dom_loc _ (by simp)) (look_loc _ hm 0) rfl rfl ?_) <;> first | rfl | exact AV.le.rfl _ | (simp only [patch, sl, ti27, List.map_nil, bytes_length, w1, g1, g2, g3, gt_iff_lt, splice_all, loOf, hiOf, k1, k2, bytes_take, bytes_drop, Nat.sub_zero, k3, k4, k5, k6, bytes_flat, pick_all, List.length_map, ht32, hX, Int.reduceBNe]; done) | (exact AV.le.rfl _) | (simp only [patch, sl, bytes_length, w1, g1, g2, g3, gt_iff_lt, splice_all, loOf, hiOf, k1, k2, bytes_take, bytes_drop, Nat.sub_zero, k3, k4, k5, k6, bytes_flat, pick_all, List.length_map, ht32, hX, Int.reduceBNe]; done) | rfl | skip) | (refine call_pure (ct) ?_) | (refine call_pure (cs) ?_) | (refine hK _ ?_; clear hK K) | refine Vt rfl ?_ | refine Vf rfl ?_ | refine Vi rfl (fun hg => ?_) (fun hg => ?_) | clear hK K)
      | true =>
        have cp := c_parse (readN b) (by unfold readN; rw [List.length_take]; omega)
        have e1 := readE_ok h1 h2 hR
        have e2 : readD key b = if parseOk (readN b) then (readP (readN b)).1 else noPl := by
          unfold readD
          rw [e1]
          by_cases h : parseOk (readN b) = true
          · rw [if_pos h, if_pos h]; rfl
          · rw [if_neg h, if_neg h]; rfl
        rw [← e2, ← e1] at cp
        rw [hR] at cs
        generalize readD key b = Q at cp ⊢
        generalize readE key b = E at cp ⊢
        simp only [plA, plC] at cp ⊢
        refine acall_of 2 Try.func17 rfl fun n out _ _ => ?_
        simp only [Try.ntmps17, List.length_cons, List.length_nil, List.length_map, List.length_replicate, rep_map, Nat.reduceAdd, Nat.reduceSub, List.replicate, List.cons_append, List.nil_append]
        repeat' (first | (with_reducible first | refine Vk fun K hK => ?_ | refine V0 ?_ | refine Vb ?_ | refine Vc ?_ | refine Vr ?_ | refine Vs ?_ | apply And.intro | refine Vd 10 [] [[1],[],[],[],[],[],[],[]] [[],[],[],[],[],[],[],[]] (by kernel_rfl) (by decide) (by decide) (by kernel_rfl) ?_ | refine Vq (by kernel_rfl) ?_) | ((with_reducible first | refine gE ?_ | refine gR ?_ | refine gD ?_ | refine gF ?_); simp (maxSteps:=9^7) only [ss, evLit, tab, reduceCtorEq, reduceIte, Nat.reduceEqDiff, Nat.reduceBEq, Int.reduceLE, Int.reduceToNat, Nat.reduceAdd, Nat.reduceLT, Nat.reduceLeDiff, bytes_length, w1, g1, g2, g3, gt_iff_lt, splice_all, loOf, hiOf, k1, k2, bytes_take, bytes_drop, Nat.sub_zero, k3, k4, k5, k6, bytes_flat, pick_all, List.length_map, ht32, hX, Int.reduceBNe]) | exact Vn | ((with_reducible refine Vz ?_); (first | refine ret_ct (.inr rfl) rfl rfl rfl (fun _ _ => rfl) ok27 (k := n + 0) (off := 0) rfl (dom_loc _ (by simp)) (look_loc _ (Nat.le_refl _) 0) rfl rfl ?_ | refine ret_ct (.inr rfl) rfl rfl rfl (fun _ _ => rfl) ok27 (k := m + 0) (off := 0) rfl (dom_loc _ (by simp)) (look_loc _ hm 0) rfl rfl ?_) <;> first | rfl | exact AV.le.rfl _ | (simp only [patch, sl, ti27, List.map_nil, bytes_length, w1, g1, g2, g3, gt_iff_lt, splice_all, loOf, hiOf, k1, k2, bytes_take, bytes_drop, Nat.sub_zero, k3, k4, k5, k6, bytes_flat, pick_all, List.length_map, ht32, hX, Int.reduceBNe]; done) | (exact AV.le.rfl _) | (simp only [patch, sl, bytes_length, w1, g1, g2, g3, gt_iff_lt, splice_all, loOf, hiOf, k1, k2, bytes_take, bytes_drop, Nat.sub_zero, k3, k4, k5, k6, bytes_flat, pick_all, List.length_map, ht32, hX, Int.reduceBNe]; done) | rfl | skip) | (refine call_pure (ct) ?_) | (refine call_pure (cs) ?_) | (refine call_pure (cp) ?_) | (refine hK _ ?_; clear hK K) | refine Vt rfl ?_ | refine Vf rfl ?_ | refine Vi rfl (fun hg => ?_) (fun hg => ?_) | clear hK K)
end Go.Proofs.Ytgdhnngpfieloaa.Pln
end
