/-
  What is asked of a point at a place, told by the law; where a walk begins; the end of a route.
-/
import Derived.Test.YtdkiciofkifpdaaZG0
import Derived.Test.YtdkiciofkifpdaaZW15
import Derived.Test.YtdkiciofkifpdaaZP31
namespace Go.Proofs.Ytdkiciofkifpdaa.Pln
set_option linter.unusedVariables false
set_option linter.unusedSimpArgs false
open Go Go.VS Tab
set_option maxHeartbeats 4000000
set_option maxRecDepth 4000
theorem lieL_at {l : List (Int × Int × Int)} {i : Nat} (hi : i < l.length) {pt at' : Int} (h : (l[i].1 == pt && l[i].2.2 == at') = true) (hq : ∀ j (hj : j < l.length), j < i → (l[j].1 == pt && l[j].2.2 == at') = false) : lieL l pt at' = l[i].2.1 := by
  unfold lieL
  have : l.find? (fun a => a.1 == pt && a.2.2 == at') = some l[i] := by
    rw [List.find?_eq_some_iff_getElem]
    exact ⟨h, i, hi, rfl, fun j hj => by simp only [Bool.not_eq_true']; exact hq j (by omega) hj⟩
  rw [this]
theorem lieL_none {l : List (Int × Int × Int)} {pt at' : Int} (hq : ∀ j (hj : j < l.length), (l[j].1 == pt && l[j].2.2 == at') = false) : lieL l pt at' = 0 := by
  unfold lieL
  have : l.find? (fun a => a.1 == pt && a.2.2 == at') = none := by
    rw [List.find?_eq_none]
    intro x hx
    obtain ⟨j, hj, rfl⟩ := List.getElem_of_mem hx
    rw [hq j hj]; decide
  rw [this]
theorem c_llie (w : Wy) (pt at' : Int) (hl : w.asks.length ≤ 1000000) : ACall Try.prog 45 [wyA w, i64 pt, i64 at'] [] (i64 (lieL w.asks pt at')) [] := by
  refine acall_of 1 Try.func45 rfl fun n out _ _ => ?_
  simp only [Try.ntmps45, List.length_cons, List.length_nil, List.length_map, List.length_replicate, rep_map, Nat.reduceAdd, Nat.reduceSub, List.replicate, List.cons_append, List.nil_append]
  repeat' (first | (with_reducible first | refine awp_seq_k fun K hK => ?_ | refine awp_ev tab_ok [] ?_ | refine awp_block_s ?_ | refine awp_block_c ?_ | refine awp_block_r ?_ | refine awp_skip ?_ | apply And.intro) | (with_reducible refine awp_ev_quiet tab_ok follows (by kernel_rfl) ?_) | ((with_reducible first | refine gE ?_ | refine gR ?_ | refine gD ?_ | refine gF ?_); simp (maxSteps := 4000000) only [su, evLit, hbT, tab, thenA, blockA, reduceCtorEq, reduceIte, Nat.reduceEqDiff, Nat.reduceBEq, Int.reduceLE, Int.reduceToNat, Nat.reduceAdd, Nat.reduceLT, Nat.reduceLeDiff, wyA, wyC]) | (show (_ : Nat) = (_ : Nat); rfl) | ((with_reducible refine awp_ret ?_); (try refine Or.inr ⟨(by intro h; cases h), ?_⟩); refine ret_tmp (.inr rfl) rfl rfl rfl (fun _ _ => rfl) ?_ <;> first | rfl | skip) | ((with_reducible refine gsel_case (fun hg => ?_) (fun hg => ?_)) <;> (try simp only [nb] at hg) <;> simp (maxSteps := 4000000) only [su, evLit, hbT, tab, thenA, blockA, reduceCtorEq, reduceIte, Nat.reduceEqDiff, Nat.reduceBEq, Int.reduceLE, Int.reduceToNat, Nat.reduceAdd, Nat.reduceLT, Nat.reduceLeDiff, hg, wyA, wyC]) | ((with_reducible refine awp_exit ?_); simp only [thenA, blockA, if_true, if_false, reduceIte, Nat.reduceEqDiff]) | (refine hK _ ?_; clear hK K) | refine awp_cond_t rfl ?_ | refine awp_cond_f rfl ?_ | refine awp_if rfl (fun hg => ?_) (fun hg => ?_) | (refine Or.inl ⟨rfl, ?_⟩; refine le_of_all ?_ ?_ rfl rfl rfl rfl <;> simp only [patch, sl, wyA, wyC]) | ((first | show Program.eqGuardType _ _ _ = false | show numFieldsB _ _ _ = true | show Program.stoodInHeld _ _ = false); kernel_rfl) | clear hK K)
  refine awp_block ?_
  refine awp_for_g (fun i : Nat => [(7, i64 (i : Int)), (6, .top), (8, .top), (9, .top), (10, .top), (11, .top), (12, .top), (13, .top), (14, .top), (15, .top), (16, .top), (17, .top), (18, .top), (19, .top), (20, .top), (21, .top), (22, .top), (23, .top), (24, .top), (25, .top), (26, .top), (27, .top), (28, .top), (29, .top), (30, .top), (31, .top), (32, .top), (33, .top), (34, .top), (35, .top), (36, .top), (37, .top), (38, .top)]) (fun i => [some (.box 77 (wyC w))]) (fun i => out) (fun i => i ≤ w.asks.length ∧ (∀ j (hj : j < w.asks.length), j < i → (w.asks[j].1 == pt && w.asks[j].2.2 == at') = false)) (fun i => w.asks.length - i) 0 ⟨Nat.zero_le _, by intros; omega⟩ ?_ fun i hi => ?_
  · refine le_of_all ?_ ?_ (by first | rfl | (simp only [wyC, List.length_map]; rfl) | simp only [wyC, List.length_map]) rfl rfl rfl <;> simp only [patch, sl, wyC, List.length_map]
  obtain ⟨hi, hq⟩ := hi
  simp only [patch, s_0, s_s]
  have hw := addw (n := i) 1 1 rfl (by omega)
  by_cases hlt : i < w.asks.length
  · have gi := getD_map sgC w.asks i [] hlt
    have next : (w.asks[i].1 == pt && w.asks[i].2.2 == at') = false → ∀ j (hj : j < w.asks.length), j < i + 1 → (w.asks[j].1 == pt && w.asks[j].2.2 == at') = false := fun h j hj hji => by
      by_cases h' : j = i
      · subst h'; exact h
      · exact hq j hj (by omega)
    have good := fun h => lieL_at (pt := pt) (at' := at') hlt h hq
    clear hq
    cases hb1 : (w.asks[i].1 == pt) with
    | false =>
      repeat' (first | (with_reducible first | refine awp_seq_k fun K hK => ?_ | refine awp_ev tab_ok [] ?_ | refine awp_block_s ?_ | refine awp_block_c ?_ | refine awp_block_r ?_ | refine awp_skip ?_ | apply And.intro) | (with_reducible refine awp_ev_quiet tab_ok follows (by kernel_rfl) ?_) | ((with_reducible first | refine gE ?_ | refine gR ?_ | refine gD ?_ | refine gF ?_); simp (maxSteps := 4000000) only [su, evLit, hbT, tab, thenA, blockA, reduceCtorEq, reduceIte, Nat.reduceEqDiff, Nat.reduceBEq, Int.reduceLE, Int.reduceToNat, Nat.reduceAdd, Nat.reduceLT, Nat.reduceLeDiff, wyC, sgC, splice_all, List.length_map, hlt, gi, hb1, hw]) | (show (_ : Nat) = (_ : Nat); rfl) | ((with_reducible refine awp_ret ?_); (try refine Or.inr ⟨(by intro h; cases h), ?_⟩); refine ret_tmp (.inr rfl) rfl rfl rfl (fun _ _ => rfl) ?_ <;> first | rfl | skip) | ((with_reducible refine gsel_case (fun hg => ?_) (fun hg => ?_)) <;> (try simp only [nb] at hg) <;> simp (maxSteps := 4000000) only [su, evLit, hbT, tab, thenA, blockA, reduceCtorEq, reduceIte, Nat.reduceEqDiff, Nat.reduceBEq, Int.reduceLE, Int.reduceToNat, Nat.reduceAdd, Nat.reduceLT, Nat.reduceLeDiff, hg, wyC, sgC, splice_all, List.length_map, hlt, gi, hb1, hw]) | ((with_reducible refine awp_exit ?_); simp only [thenA, blockA, if_true, if_false, reduceIte, Nat.reduceEqDiff]) | (refine hK _ ?_; clear hK K) | refine awp_cond_t rfl ?_ | refine awp_cond_f rfl ?_ | refine awp_if rfl (fun hg => ?_) (fun hg => ?_) | (refine Or.inl ⟨rfl, ?_⟩; refine le_of_all ?_ ?_ rfl rfl rfl rfl <;> simp only [patch, sl, wyC, sgC, splice_all, List.length_map, hlt, gi, hb1, hw]) | ((first | show Program.eqGuardType _ _ _ = false | show numFieldsB _ _ _ = true | show Program.stoodInHeld _ _ = false); kernel_rfl) | clear hK K)
      refine ⟨i + 1, ⟨by omega, next (by rw [hb1]; rfl)⟩, by omega, ?_⟩
      refine le_of_all ?_ ?_ rfl rfl rfl rfl <;> simp only [patch, sl, wyC, hlt, decide_true]
    | true =>
      cases hb2 : (w.asks[i].2.2 == at') with
      | false =>
        repeat' (first | (with_reducible first | refine awp_seq_k fun K hK => ?_ | refine awp_ev tab_ok [] ?_ | refine awp_block_s ?_ | refine awp_block_c ?_ | refine awp_block_r ?_ | refine awp_skip ?_ | apply And.intro) | (with_reducible refine awp_ev_quiet tab_ok follows (by kernel_rfl) ?_) | ((with_reducible first | refine gE ?_ | refine gR ?_ | refine gD ?_ | refine gF ?_); simp (maxSteps := 4000000) only [su, evLit, hbT, tab, thenA, blockA, reduceCtorEq, reduceIte, Nat.reduceEqDiff, Nat.reduceBEq, Int.reduceLE, Int.reduceToNat, Nat.reduceAdd, Nat.reduceLT, Nat.reduceLeDiff, wyC, sgC, splice_all, List.length_map, hlt, gi, hb1, hb2, hw]) | (show (_ : Nat) = (_ : Nat); rfl) | ((with_reducible refine awp_ret ?_); (try refine Or.inr ⟨(by intro h; cases h), ?_⟩); refine ret_tmp (.inr rfl) rfl rfl rfl (fun _ _ => rfl) ?_ <;> first | rfl | skip) | ((with_reducible refine gsel_case (fun hg => ?_) (fun hg => ?_)) <;> (try simp only [nb] at hg) <;> simp (maxSteps := 4000000) only [su, evLit, hbT, tab, thenA, blockA, reduceCtorEq, reduceIte, Nat.reduceEqDiff, Nat.reduceBEq, Int.reduceLE, Int.reduceToNat, Nat.reduceAdd, Nat.reduceLT, Nat.reduceLeDiff, hg, wyC, sgC, splice_all, List.length_map, hlt, gi, hb1, hb2, hw]) | ((with_reducible refine awp_exit ?_); simp only [thenA, blockA, if_true, if_false, reduceIte, Nat.reduceEqDiff]) | (refine hK _ ?_; clear hK K) | refine awp_cond_t rfl ?_ | refine awp_cond_f rfl ?_ | refine awp_if rfl (fun hg => ?_) (fun hg => ?_) | (refine Or.inl ⟨rfl, ?_⟩; refine le_of_all ?_ ?_ rfl rfl rfl rfl <;> simp only [patch, sl, wyC, sgC, splice_all, List.length_map, hlt, gi, hb1, hb2, hw]) | ((first | show Program.eqGuardType _ _ _ = false | show numFieldsB _ _ _ = true | show Program.stoodInHeld _ _ = false); kernel_rfl) | clear hK K)
        refine ⟨i + 1, ⟨by omega, next (by rw [hb1, hb2]; rfl)⟩, by omega, ?_⟩
        refine le_of_all ?_ ?_ rfl rfl rfl rfl <;> simp only [patch, sl, wyC, hlt, decide_true]
      | true =>
        rw [good (by rw [hb1, hb2]; rfl)]
        repeat' (first | (with_reducible first | refine awp_seq_k fun K hK => ?_ | refine awp_ev tab_ok [] ?_ | refine awp_block_s ?_ | refine awp_block_c ?_ | refine awp_block_r ?_ | refine awp_skip ?_ | apply And.intro) | (with_reducible refine awp_ev_quiet tab_ok follows (by kernel_rfl) ?_) | ((with_reducible first | refine gE ?_ | refine gR ?_ | refine gD ?_ | refine gF ?_); simp (maxSteps := 4000000) only [su, evLit, hbT, tab, thenA, blockA, reduceCtorEq, reduceIte, Nat.reduceEqDiff, Nat.reduceBEq, Int.reduceLE, Int.reduceToNat, Nat.reduceAdd, Nat.reduceLT, Nat.reduceLeDiff, wyC, sgC, splice_all, List.length_map, hlt, gi, hb1, hb2, hw]) | (show (_ : Nat) = (_ : Nat); rfl) | ((with_reducible refine awp_ret ?_); (try refine Or.inr ⟨(by intro h; cases h), ?_⟩); refine ret_tmp (.inr rfl) rfl rfl rfl (fun _ _ => rfl) ?_ <;> first | rfl | skip) | ((with_reducible refine gsel_case (fun hg => ?_) (fun hg => ?_)) <;> (try simp only [nb] at hg) <;> simp (maxSteps := 4000000) only [su, evLit, hbT, tab, thenA, blockA, reduceCtorEq, reduceIte, Nat.reduceEqDiff, Nat.reduceBEq, Int.reduceLE, Int.reduceToNat, Nat.reduceAdd, Nat.reduceLT, Nat.reduceLeDiff, hg, wyC, sgC, splice_all, List.length_map, hlt, gi, hb1, hb2, hw]) | ((with_reducible refine awp_exit ?_); simp only [thenA, blockA, if_true, if_false, reduceIte, Nat.reduceEqDiff]) | (refine hK _ ?_; clear hK K) | refine awp_cond_t rfl ?_ | refine awp_cond_f rfl ?_ | refine awp_if rfl (fun hg => ?_) (fun hg => ?_) | (refine Or.inl ⟨rfl, ?_⟩; refine le_of_all ?_ ?_ rfl rfl rfl rfl <;> simp only [patch, sl, wyC, sgC, splice_all, List.length_map, hlt, gi, hb1, hb2, hw]) | ((first | show Program.eqGuardType _ _ _ = false | show numFieldsB _ _ _ = true | show Program.stoodInHeld _ _ = false); kernel_rfl) | clear hK K)
  · have e := lieL_none (l := w.asks) (pt := pt) (at' := at') fun j hj => hq j hj (by omega)
    repeat' (first | (with_reducible first | refine awp_seq_k fun K hK => ?_ | refine awp_ev tab_ok [] ?_ | refine awp_block_s ?_ | refine awp_block_c ?_ | refine awp_block_r ?_ | refine awp_skip ?_ | apply And.intro) | (with_reducible refine awp_ev_quiet tab_ok follows (by kernel_rfl) ?_) | ((with_reducible first | refine gE ?_ | refine gR ?_ | refine gD ?_ | refine gF ?_); simp (maxSteps := 4000000) only [su, evLit, hbT, tab, thenA, blockA, reduceCtorEq, reduceIte, Nat.reduceEqDiff, Nat.reduceBEq, Int.reduceLE, Int.reduceToNat, Nat.reduceAdd, Nat.reduceLT, Nat.reduceLeDiff, wyC, List.length_map, hlt]) | (show (_ : Nat) = (_ : Nat); rfl) | ((with_reducible refine awp_ret ?_); (try refine Or.inr ⟨(by intro h; cases h), ?_⟩); refine ret_tmp (.inr rfl) rfl rfl rfl (fun _ _ => rfl) ?_ <;> first | rfl | (rw [e]; rfl) | skip) | ((with_reducible refine gsel_case (fun hg => ?_) (fun hg => ?_)) <;> (try simp only [nb] at hg) <;> simp (maxSteps := 4000000) only [su, evLit, hbT, tab, thenA, blockA, reduceCtorEq, reduceIte, Nat.reduceEqDiff, Nat.reduceBEq, Int.reduceLE, Int.reduceToNat, Nat.reduceAdd, Nat.reduceLT, Nat.reduceLeDiff, hg, wyC, List.length_map, hlt]) | ((with_reducible refine awp_exit ?_); simp only [thenA, blockA, if_true, if_false, reduceIte, Nat.reduceEqDiff]) | (refine hK _ ?_; clear hK K) | refine awp_cond_t rfl ?_ | refine awp_cond_f rfl ?_ | refine awp_if rfl (fun hg => ?_) (fun hg => ?_) | (refine Or.inl ⟨rfl, ?_⟩; refine le_of_all ?_ ?_ rfl rfl rfl rfl <;> simp only [patch, sl, wyC, List.length_map, hlt]) | ((first | show Program.eqGuardType _ _ _ = false | show numFieldsB _ _ _ = true | show Program.stoodInHeld _ _ = false); kernel_rfl) | clear hK K)
theorem inAt_of {l : List Sec} (h : mayS l = true) {g : Int × Int × Int} {s : Sec} (hs : s ∈ l) (he : s.id = g.2.1) : inAt l g = s.ends.getD g.2.2.toNat (0, 0) := by
  obtain ⟨k, hk, rfl⟩ := List.getElem_of_mem hs
  have : ∀ i, i ≤ l.length → k < i → inAt (l.take i) g = l[k].ends.getD g.2.2.toNat (0, 0) := by
    intro i
    induction i with
    | zero => intro _ h; omega
    | succ i ih =>
      intro hi hki
      rw [inAt_succ (by omega)]
      by_cases hik : i = k
      · subst hik; rw [if_pos (by simpa using he)]
      · rw [if_neg, ih (by omega) (by omega)]
        intro hb
        have hr := mayS_rising h i (by omega) k (by omega)
        have : l[i].id = g.2.1 := by simpa using hb
        omega
  have := this l.length (Nat.le_refl _) hk
  rwa [List.take_length] at this
theorem next_of {p : Pl} (hm : mayP p = true) {n : Int} {s : Sec} (hg : getS p.secs n = some s) {e : Int} (h0 : 0 ≤ e) (h1 : e < s.ends.length) : nextD p.secs n e = s.ends.getD e.toNat (0, 0) ∧ nextE p.secs n e = 0 := by
  obtain ⟨a, b⟩ := findE_some (may_parts hm).2.1 hg
  unfold nextD nextE
  rw [a, b, if_pos ⟨rfl, h0⟩, if_pos rfl, if_pos ⟨h0, h1⟩]
  exact ⟨rfl, rfl⟩
theorem exit_at {p : Pl} (hm : mayP p = true) {r : Rt} (hr : r ∈ p.rts) (hx : r.ex ≠ 0) : stE p (lastG p.sgs r.ex).2.1 (lastG p.sgs r.ex).2.2 = 0 ∧ stL p (lastG p.sgs r.ex).2.1 (lastG p.sgs r.ex).2.2 = r.ex := by
  obtain ⟨_, _, _, hsg, _, _, hrs⟩ := may_parts hm
  have ho := hrs r hr
  unfold okR at ho
  cases hg : getG p.sgs r.entry with
  | none => rw [hg] at ho; cases ho
  | some en =>
    rw [hg] at ho
    simp only [Bool.and_eq_true, Bool.or_eq_true, decide_eq_true_eq] at ho
    obtain ⟨⟨⟨⟨⟨⟨⟨⟨⟨q, _⟩, _⟩, _⟩, _⟩, _⟩, _⟩, _⟩, _⟩, _⟩ := ho
    have q1 : (getG p.sgs r.ex).isSome = true := by
      rcases q with h | h
      · exact absurd h hx
      · exact h.1
    obtain ⟨x, hxg⟩ := Option.isSome_iff_exists.1 q1
    have hl : lastG p.sgs r.ex = x := by rw [lastG_get (sgs_rise hsg), hxg]; rfl
    have hxm := List.mem_of_find?_eq_some hxg
    have hx1 : x.1 = r.ex := by simpa using List.find?_some hxg
    rw [hl, ← hx1]
    obtain ⟨i, hi, rfl⟩ := List.getElem_of_mem hxm
    exact sg_at hm hi
end Go.Proofs.Ytdkiciofkifpdaa.Pln
