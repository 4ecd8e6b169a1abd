/-
  Plans that may run, told plainly: routes by number, first sections, ways that conflict.
-/
import Derived.Test.YtcfkieacdjcaoaaZG0
import Derived.Test.YtcfkieacdjcaoaaZT3
import Derived.Test.YtcfkieacdjcaoaaZUA
import Derived.Test.YtcfkieacdjcaoaaZPF3
namespace Go.Proofs.Ytcfkieacdjcaoaa.Pln
set_option linter.unusedVariables false
set_option linter.unusedSimpArgs false
open Go Go.VS Tab
set_option maxHeartbeats 4000000
theorem rts_rise {p : Pl} (h : mayP p = true) : ∀ i (hi : i < p.rts.length) j (hj : j < i), (p.rts[j]'(by omega)).id < p.rts[i].id := by
  obtain ⟨_, _, _, _, h5, _, _⟩ := may_parts h
  intro i hi j hj
  have := allP_iff.1 h5 i (by simpa using hi)
  simp only [rises, Bool.and_eq_true, List.all_eq_true, decide_eq_true_eq, List.getElem_map] at this
  refine this.2 _ ?_
  have hj' : j < (p.rts.map Rt.id).length := by simp; omega
  have := mem_take_of (l := p.rts.map Rt.id) hj hj'
  simpa using this
theorem getR_of {p : Pl} (h : mayP p = true) {r : Rt} (hr : r ∈ p.rts) : getR p.rts r.id = some r := by
  obtain ⟨i, hi, rfl⟩ := List.getElem_of_mem hr
  unfold getR
  refine find_first (f := fun x => x.id == p.rts[i].id) hi (by simp) fun j hj hji => ?_
  have := rts_rise h i hi j hji
  simp; omega
theorem rtO_of {p : Pl} (h : mayP p = true) {r : Rt} (hr : r ∈ p.rts) : rtO p r.id = r ∧ rtE p r.id = 0 := by
  unfold rtO rtE elD elE
  rw [h, getR_of h hr]
  exact ⟨rfl, rfl⟩
theorem sound_zero {p : Pl} (h : soundE p = 0) : mayP p = true ∧ ∀ r, r ∈ p.rts → folE p r = 0 ∧ soundR p r = true := by
  unfold soundE at h
  by_cases hc : allE p = 0 ∧ p.rts.all (soundR p) = true
  · obtain ⟨h1, h2⟩ := allE_zero hc.1
    exact ⟨h1, fun r hr => ⟨h2 r hr, List.all_eq_true.1 hc.2 r hr⟩⟩
  · rw [if_neg hc] at h; exact absurd h (by decide)
theorem of_sound {p : Pl} (h : soundE p = 0) {r : Rt} (hr : r ∈ p.rts) : ofE p r.id = 0 ∧ ofW p r.id = folW p r ∧ ofO p r.id = folO p r := by
  obtain ⟨hm, hs⟩ := sound_zero h
  obtain ⟨e1, e2⟩ := rtO_of hm hr
  unfold ofE ofW ofO
  rw [e2, e1, if_pos rfl, if_pos rfl, if_pos rfl]
  exact ⟨(hs r hr).1, rfl, rfl⟩
theorem first_of {p : Pl} {r : Rt} {W : Wy} {O : List (Int × Int)} (g : Gone p r W O) : r.path.getD 0 0 = (inAt p.secs (lastG p.sgs r.entry)).1 := by
  have h1 := g.one
  have hn : 1 ≤ (allL r).length := by unfold allL; rw [List.length_append]; omega
  obtain ⟨s, e, _, b, _⟩ := step_thr (run_keep g.not (0 + 1) hn) (by
    by_cases h : 0 + 1 = r.path.length
    · exact .inl h
    · refine .inr ?_
      unfold allL; rw [List.length_append]; omega)
  have e0 : (allL r).getD 0 0 = r.path.getD 0 0 := by
    unfold allL
    simp only [List.getD_eq_getElem?_getD]
    rw [List.getElem?_append_left (by omega)]
  rw [← e0, ← b]; rfl
theorem same_first {p : Pl} (h : soundE p = 0) {a b : Rt} (ha : a ∈ p.rts) (hb : b ∈ p.rts) (e : a.entry = b.entry) : a.path.getD 0 0 = b.path.getD 0 0 := by
  obtain ⟨hm, hs⟩ := sound_zero h
  rw [first_of (gone_fol hm ha (hs a ha).1), first_of (gone_fol hm hb (hs b hb).1), e]
theorem oddA_symm (x y : Int × Int × Int) : oddA x y = oddA y x := by
  unfold oddA
  rw [Bool.eq_iff_iff]
  simp only [Bool.and_eq_true, beq_iff_eq, bne_iff_ne, ne_eq]
  constructor <;> exact fun ⟨h1, h2⟩ => ⟨h1.symm, fun h => h2 h.symm⟩
theorem any_symm {α : Type} (f : α → α → Bool) (hf : ∀ x y, f x y = f y x) (a b : List α) : (a.any fun x => b.any (f x)) = b.any fun x => a.any (f x) := by
  rw [Bool.eq_iff_iff]
  simp only [List.any_eq_true]
  constructor
  · rintro ⟨x, hx, y, hy, h⟩; exact ⟨y, hy, x, hx, by rw [hf]; exact h⟩
  · rintro ⟨x, hx, y, hy, h⟩; exact ⟨y, hy, x, hx, by rw [hf]; exact h⟩
theorem confW_symm (a b : Wy) : confW a b = confW b a := by
  unfold confW
  have e1 := any_symm (fun x y : Int => x == y) (fun x y => by rw [Bool.eq_iff_iff]; simp only [beq_iff_eq]; exact eq_comm) (allW1 a) (allW1 b)
  have e2 := any_symm oddA oddA_symm a.asks b.asks
  rw [e2]
  congr 1
theorem confW_first {a b : Wy} (ha : 1 ≤ a.path.length) (hb : 1 ≤ b.path.length) (e : a.path.getD 0 0 = b.path.getD 0 0) : confW a b = true := by
  unfold confW
  rw [Bool.or_eq_true]
  refine .inl ?_
  rw [List.any_eq_true]
  have h1 : a.path.getD 0 0 ∈ allW1 a := by
    unfold allW1
    rw [List.mem_append]; refine .inl ?_
    simp only [List.getD_eq_getElem?_getD, List.getElem?_eq_getElem (show 0 < a.path.length by omega), Option.getD_some]
    exact List.getElem_mem _
  have h2 : b.path.getD 0 0 ∈ allW1 b := by
    unfold allW1
    rw [List.mem_append]; refine .inl ?_
    simp only [List.getD_eq_getElem?_getD, List.getElem?_eq_getElem (show 0 < b.path.length by omega), Option.getD_some]
    exact List.getElem_mem _
  refine ⟨_, h1, ?_⟩
  rw [List.any_eq_true]
  exact ⟨_, h2, by simp only [beq_iff_eq]; exact e⟩
theorem two_of {p : Pl} (h : soundE p = 0) {a b : Rt} (ha : a ∈ p.rts) (hb : b ∈ p.rts) (hne : a.id ≠ b.id) : twoE p a.id b.id = 0 ∧ twoB p a.id b.id = confW (folW p a) (folW p b) := by
  obtain ⟨a1, a2, _⟩ := of_sound h ha
  obtain ⟨b1, b2, _⟩ := of_sound h hb
  have e : twoE p a.id b.id = 0 := by
    unfold twoE
    rw [h, a1, b1]
    simp [hne]
  refine ⟨e, ?_⟩
  unfold twoB
  rw [if_pos e, a2, b2]
theorem two_entry {p : Pl} (h : soundE p = 0) {a b : Rt} (ha : a ∈ p.rts) (hb : b ∈ p.rts) (e : a.entry = b.entry) : confW (folW p a) (folW p b) = true := by
  obtain ⟨hm, hs⟩ := sound_zero h
  have ga := gone_fol hm ha (hs a ha).1
  have gb := gone_fol hm hb (hs b hb).1
  refine confW_first (by rw [ga.path]; exact ga.one) (by rw [gb.path]; exact gb.one) ?_
  rw [ga.path, gb.path]
  exact same_first h ha hb e
theorem c_lawEntry (p : Pl) (a b : Int) : ACall Try.prog 6 [plA p, i64 a, i64 b] [] (bool true) [] := by
  have cg := c_rgreat p
  simp only [plA, plC] at cg
  cases hG : greatP p with
  | true =>
    rw [hG] at cg
    refine acall_of 3 Try.func6 rfl fun n out _ _ => ?_
    simp only [Try.ntmps6, List.length_cons, List.length_nil, List.length_map, List.length_replicate, rep_map, Nat.reduceAdd, Nat.reduceSub, List.replicate, List.cons_append, List.nil_append]
    repeat' (first | (with_reducible first | refine awp_seq_k fun K hK => ?_ | refine awp_ev tab_ok [] ?_ | refine awp_skip ?_ | apply And.intro) | (with_reducible refine awp_ev_quiet tab_ok follows (by kernel_rfl) ?_) | ((with_reducible first | refine gE ?_ | refine gR ?_); simp (maxSteps := 4000000) only [su, evLit, hbT, tab, thenA, blockA, reduceCtorEq, reduceIte, Nat.reduceEqDiff, Nat.reduceBEq, Int.reduceLE, Int.reduceToNat, Nat.reduceAdd, Nat.reduceLT, Nat.reduceLeDiff, plA, plC]) | (show (_ : Nat) = (_ : Nat); rfl) | ((with_reducible refine awp_ret ?_); (try refine Or.inr ⟨(by intro h; cases h), ?_⟩); refine ret_tmp (.inr rfl) rfl rfl rfl (fun _ _ => rfl) ?_ <;> first | rfl | skip) | (refine call_pure (cg) ?_) | (refine call_pure (c_salive) ?_) | ((with_reducible refine gsel_case (fun hg => ?_) (fun hg => ?_)) <;> (try simp only [nb] at hg) <;> simp (maxSteps := 4000000) only [su, evLit, hbT, tab, thenA, blockA, reduceCtorEq, reduceIte, Nat.reduceEqDiff, Nat.reduceBEq, Int.reduceLE, Int.reduceToNat, Nat.reduceAdd, Nat.reduceLT, Nat.reduceLeDiff, hg, plA, plC]) | (refine hK _ ?_; clear hK K) | refine awp_cond_t rfl ?_ | refine awp_cond_f rfl ?_ | refine awp_if rfl (fun hg => ?_) (fun hg => ?_) | ((first | show Program.eqGuardType _ _ _ = false | show numFieldsB _ _ _ = true | show Program.stoodInHeld _ _ = false); kernel_rfl) | clear hK K)
  | false =>
    rw [hG] at cg
    have hs := small_of hG
    have c1 := c_soundC p hs
    by_cases hE : soundE p = 0
    · rw [hE] at c1
      have c2 : ACall Try.prog 22 [plA p, i64 a] [] (.tup [rtA (rtO p a), i64 (rtE p a)]) [] := c_pRoute p hs a
      have c3 : ACall Try.prog 22 [plA p, i64 b] [] (.tup [rtA (rtO p b), i64 (rtE p b)]) [] := c_pRoute p hs b
      simp only [plA, plC, rtA, rtC] at c1 c2 c3
      by_cases hA : rtE p a = 0
      · by_cases hB : rtE p b = 0
        · have hf := same_first hE (rtE_zero hA).2 (rtE_zero hB).2
          obtain ⟨hm, hs'⟩ := sound_zero hE
          have ga := (gone_fol hm (rtE_zero hA).2 (hs' _ (rtE_zero hA).2).1).one
          have gb := (gone_fol hm (rtE_zero hB).2 (hs' _ (rtE_zero hB).2).1).one
          rw [hA] at c2
          rw [hB] at c3
          clear hs'
          generalize rtO p a = r at *
          generalize rtO p b = q at *
          obtain ⟨x, xs, hx⟩ : ∃ x xs, r.path = x :: xs := by
            cases hr : r.path with
            | nil => rw [hr] at ga; simp at ga
            | cons x xs => exact ⟨x, xs, rfl⟩
          obtain ⟨y, ys, hy⟩ : ∃ y ys, q.path = y :: ys := by
            cases hr : q.path with
            | nil => rw [hr] at gb; simp at gb
            | cons x xs => exact ⟨x, xs, rfl⟩
          rw [hx, hy] at hf
          rw [hx] at c2
          rw [hy] at c3
          have hf' : (r.entry != q.entry) = false → (x == y) = true := fun h => by
            have h' : r.entry = q.entry := by simpa using h
            simpa using hf h'
          refine acall_of 3 Try.func6 rfl fun n out _ _ => ?_
          simp only [Try.ntmps6, List.length_cons, List.length_nil, List.length_map, List.length_replicate, rep_map, Nat.reduceAdd, Nat.reduceSub, List.replicate, List.cons_append, List.nil_append]
          repeat' (first | (with_reducible first | refine awp_seq_k fun K hK => ?_ | refine awp_ev tab_ok [] ?_ | refine awp_skip ?_ | apply And.intro) | (with_reducible refine awp_ev_quiet tab_ok follows (by kernel_rfl) ?_) | ((with_reducible first | refine gE ?_ | refine gR ?_); simp (maxSteps := 4000000) only [su, evLit, hbT, tab, thenA, blockA, reduceCtorEq, reduceIte, Nat.reduceEqDiff, Nat.reduceBEq, Int.reduceLE, Int.reduceToNat, Nat.reduceAdd, Nat.reduceLT, Nat.reduceLeDiff, plA, plC, splice_all, Int.reduceBNe, List.map_cons, List.getD_cons_zero, intC, Nat.zero_lt_succ, Nat.succ_pos]) | (show (_ : Nat) = (_ : Nat); rfl) | ((with_reducible refine awp_ret ?_); (try refine Or.inr ⟨(by intro h; cases h), ?_⟩); refine ret_tmp (.inr rfl) rfl rfl rfl (fun _ _ => rfl) ?_ <;> first | rfl | (simp_all; done) | skip) | (refine call_pure (cg) ?_) | (refine call_pure (c_salive) ?_) | (refine call_pure (c1) ?_) | (refine call_pure (c2) ?_) | (refine call_pure (c3) ?_) | ((with_reducible refine gsel_case (fun hg => ?_) (fun hg => ?_)) <;> (try simp only [nb] at hg) <;> simp (maxSteps := 4000000) only [su, evLit, hbT, tab, thenA, blockA, reduceCtorEq, reduceIte, Nat.reduceEqDiff, Nat.reduceBEq, Int.reduceLE, Int.reduceToNat, Nat.reduceAdd, Nat.reduceLT, Nat.reduceLeDiff, hg, plA, plC, splice_all, Int.reduceBNe, List.map_cons, List.getD_cons_zero, intC, Nat.zero_lt_succ, Nat.succ_pos]) | (refine hK _ ?_; clear hK K) | refine awp_cond_t rfl ?_ | refine awp_cond_f rfl ?_ | refine awp_if rfl (fun hg => ?_) (fun hg => ?_) | ((first | show Program.eqGuardType _ _ _ = false | show numFieldsB _ _ _ = true | show Program.stoodInHeld _ _ = false); kernel_rfl) | clear hK K)
        · have hB' : (rtE p b != 0) = true := by simpa using hB
          refine acall_of 3 Try.func6 rfl fun n out _ _ => ?_
          simp only [Try.ntmps6, List.length_cons, List.length_nil, List.length_map, List.length_replicate, rep_map, Nat.reduceAdd, Nat.reduceSub, List.replicate, List.cons_append, List.nil_append]
          repeat' (first | (with_reducible first | refine awp_seq_k fun K hK => ?_ | refine awp_ev tab_ok [] ?_ | refine awp_skip ?_ | apply And.intro) | (with_reducible refine awp_ev_quiet tab_ok follows (by kernel_rfl) ?_) | ((with_reducible first | refine gE ?_ | refine gR ?_); simp (maxSteps := 4000000) only [su, evLit, hbT, tab, thenA, blockA, reduceCtorEq, reduceIte, Nat.reduceEqDiff, Nat.reduceBEq, Int.reduceLE, Int.reduceToNat, Nat.reduceAdd, Nat.reduceLT, Nat.reduceLeDiff, plA, plC, splice_all, Int.reduceBNe, hB']) | (show (_ : Nat) = (_ : Nat); rfl) | ((with_reducible refine awp_ret ?_); (try refine Or.inr ⟨(by intro h; cases h), ?_⟩); refine ret_tmp (.inr rfl) rfl rfl rfl (fun _ _ => rfl) ?_ <;> first | rfl | (simp_all; done) | skip) | (refine call_pure (cg) ?_) | (refine call_pure (c_salive) ?_) | (refine call_pure (c1) ?_) | (refine call_pure (c2) ?_) | (refine call_pure (c3) ?_) | ((with_reducible refine gsel_case (fun hg => ?_) (fun hg => ?_)) <;> (try simp only [nb] at hg) <;> simp (maxSteps := 4000000) only [su, evLit, hbT, tab, thenA, blockA, reduceCtorEq, reduceIte, Nat.reduceEqDiff, Nat.reduceBEq, Int.reduceLE, Int.reduceToNat, Nat.reduceAdd, Nat.reduceLT, Nat.reduceLeDiff, hg, plA, plC, splice_all, Int.reduceBNe, hB']) | (refine hK _ ?_; clear hK K) | refine awp_cond_t rfl ?_ | refine awp_cond_f rfl ?_ | refine awp_if rfl (fun hg => ?_) (fun hg => ?_) | ((first | show Program.eqGuardType _ _ _ = false | show numFieldsB _ _ _ = true | show Program.stoodInHeld _ _ = false); kernel_rfl) | clear hK K)
      · have hA' : (rtE p a != 0) = true := by simpa using hA
        refine acall_of 3 Try.func6 rfl fun n out _ _ => ?_
        simp only [Try.ntmps6, List.length_cons, List.length_nil, List.length_map, List.length_replicate, rep_map, Nat.reduceAdd, Nat.reduceSub, List.replicate, List.cons_append, List.nil_append]
        repeat' (first | (with_reducible first | refine awp_seq_k fun K hK => ?_ | refine awp_ev tab_ok [] ?_ | refine awp_skip ?_ | apply And.intro) | (with_reducible refine awp_ev_quiet tab_ok follows (by kernel_rfl) ?_) | ((with_reducible first | refine gE ?_ | refine gR ?_); simp (maxSteps := 4000000) only [su, evLit, hbT, tab, thenA, blockA, reduceCtorEq, reduceIte, Nat.reduceEqDiff, Nat.reduceBEq, Int.reduceLE, Int.reduceToNat, Nat.reduceAdd, Nat.reduceLT, Nat.reduceLeDiff, plA, plC, splice_all, Int.reduceBNe, hA']) | (show (_ : Nat) = (_ : Nat); rfl) | ((with_reducible refine awp_ret ?_); (try refine Or.inr ⟨(by intro h; cases h), ?_⟩); refine ret_tmp (.inr rfl) rfl rfl rfl (fun _ _ => rfl) ?_ <;> first | rfl | (simp_all; done) | skip) | (refine call_pure (cg) ?_) | (refine call_pure (c_salive) ?_) | (refine call_pure (c1) ?_) | (refine call_pure (c2) ?_) | (refine call_pure (c3) ?_) | ((with_reducible refine gsel_case (fun hg => ?_) (fun hg => ?_)) <;> (try simp only [nb] at hg) <;> simp (maxSteps := 4000000) only [su, evLit, hbT, tab, thenA, blockA, reduceCtorEq, reduceIte, Nat.reduceEqDiff, Nat.reduceBEq, Int.reduceLE, Int.reduceToNat, Nat.reduceAdd, Nat.reduceLT, Nat.reduceLeDiff, hg, plA, plC, splice_all, Int.reduceBNe, hA']) | (refine hK _ ?_; clear hK K) | refine awp_cond_t rfl ?_ | refine awp_cond_f rfl ?_ | refine awp_if rfl (fun hg => ?_) (fun hg => ?_) | ((first | show Program.eqGuardType _ _ _ = false | show numFieldsB _ _ _ = true | show Program.stoodInHeld _ _ = false); kernel_rfl) | clear hK K)
    · have hE' : (soundE p != 0) = true := by simpa using hE
      simp only [plA, plC] at c1
      refine acall_of 3 Try.func6 rfl fun n out _ _ => ?_
      simp only [Try.ntmps6, List.length_cons, List.length_nil, List.length_map, List.length_replicate, rep_map, Nat.reduceAdd, Nat.reduceSub, List.replicate, List.cons_append, List.nil_append]
      repeat' (first | (with_reducible first | refine awp_seq_k fun K hK => ?_ | refine awp_ev tab_ok [] ?_ | refine awp_skip ?_ | apply And.intro) | (with_reducible refine awp_ev_quiet tab_ok follows (by kernel_rfl) ?_) | ((with_reducible first | refine gE ?_ | refine gR ?_); simp (maxSteps := 4000000) only [su, evLit, hbT, tab, thenA, blockA, reduceCtorEq, reduceIte, Nat.reduceEqDiff, Nat.reduceBEq, Int.reduceLE, Int.reduceToNat, Nat.reduceAdd, Nat.reduceLT, Nat.reduceLeDiff, plA, plC, splice_all, hE']) | (show (_ : Nat) = (_ : Nat); rfl) | ((with_reducible refine awp_ret ?_); (try refine Or.inr ⟨(by intro h; cases h), ?_⟩); refine ret_tmp (.inr rfl) rfl rfl rfl (fun _ _ => rfl) ?_ <;> first | rfl | skip) | (refine call_pure (cg) ?_) | (refine call_pure (c_salive) ?_) | (refine call_pure (c1) ?_) | ((with_reducible refine gsel_case (fun hg => ?_) (fun hg => ?_)) <;> (try simp only [nb] at hg) <;> simp (maxSteps := 4000000) only [su, evLit, hbT, tab, thenA, blockA, reduceCtorEq, reduceIte, Nat.reduceEqDiff, Nat.reduceBEq, Int.reduceLE, Int.reduceToNat, Nat.reduceAdd, Nat.reduceLT, Nat.reduceLeDiff, hg, plA, plC, splice_all, hE']) | (refine hK _ ?_; clear hK K) | refine awp_cond_t rfl ?_ | refine awp_cond_f rfl ?_ | refine awp_if rfl (fun hg => ?_) (fun hg => ?_) | ((first | show Program.eqGuardType _ _ _ = false | show numFieldsB _ _ _ = true | show Program.stoodInHeld _ _ = false); kernel_rfl) | clear hK K)
end Go.Proofs.Ytcfkieacdjcaoaa.Pln
