/-
  Sections' places; ways through a section.
-/
import Derived.Test.YtcfkieacdjcaoaaZGA
import Derived.Test.YtcfkieacdjcaoaaZP4
namespace Go.Proofs.Ytcfkieacdjcaoaa.Pln
set_option linter.unusedVariables false
set_option linter.unusedSimpArgs false
open Go Go.VS Tab
set_option maxHeartbeats 1000000
set_option maxRecDepth 4000
def waysL (s : Sec) : List Int := if s.pt = 0 then [0, 3, 0, 3, 0, 0, 0, 0, 0] else [0, 1, 2, 1, 0, 0, 2, 0, 0]
theorem af_k (k : Nat) (cs : List AV) (i : Nat) (x : AV) (l : List (Nat × AV)) : afill (fun i => some (i * k, k)) cs ((i, x) :: l) = match x.parts with
    | some xs => if xs.length = k ∧ i * k + k ≤ cs.length then afill (fun i => some (i * k, k)) (splice cs (i * k) xs) l else none
    | none => none := by
  simp only [afill]; cases x.parts <;> rfl
theorem af_1 (cs : List AV) (i : Nat) (x : AV) (l : List (Nat × AV)) : afill (fun i => some (i, 1)) cs ((i, x) :: l) = match x.parts with
    | some xs => if xs.length = 1 ∧ i + 1 ≤ cs.length then afill (fun i => some (i, 1)) (splice cs i xs) l else none
    | none => none := by
  simp only [afill]; cases x.parts <;> rfl
theorem rep9 (x : AV) : List.replicate 9 x = [x, x, x, x, x, x, x, x, x] := rfl
theorem c_ways (s : Sec) : ACall Try.prog 60 [secA s] [] (.agg ((waysL s).map i64)) [] := by
  refine acall_of 2 Try.func60 rfl fun n out _ _ => ?_
  simp only [Try.ntmps60, List.length_cons, List.length_nil, List.length_map, List.length_replicate, rep_map, Nat.reduceAdd, Nat.reduceSub, List.replicate, List.cons_append, List.nil_append]
  repeat' (first | (with_reducible first | refine Vk fun K hK => ?_ | refine V0 ?_ | refine Vs ?_ | apply And.intro) | ((with_reducible first | refine gE ?_ | refine gR ?_); simp (maxSteps:=9^7) only [ss, evLit, tab, reduceCtorEq, reduceIte, Nat.reduceEqDiff, Nat.reduceBEq, Int.reduceLE, Int.reduceToNat, Nat.reduceAdd, Nat.reduceLT, Nat.reduceLeDiff, secA, secC, af_k, af_1, rep9, Nat.reduceMul]) | exact Vn | ((with_reducible refine Vz ?_); (first | refine ret_cell_le (.inr rfl) rfl rfl rfl (fun _ _ => rfl) ok113 (k := n + 1) (off := 0) rfl (dom_loc _ (by simp)) (look_loc _ (Nat.le_refl _) 1) rfl ?_ | refine ret_cell_le (.inr rfl) rfl rfl rfl (fun _ _ => rfl) ok113 (k := m + 1) (off := 0) rfl (dom_loc _ (by simp)) (look_loc _ hm 1) rfl ?_) <;> first | rfl | exact AV.le.rfl _ | (simp only [patch, sl, ti113, List.map_nil, secA, secC, af_k, af_1, rep9, Nat.reduceMul]; done) | (unfold waysL; first | (rw [if_pos (by simpa using hg)]; exact .rfl _) | (rw [if_neg (by simpa using hg)]; exact .rfl _)) | skip) | (refine hK _ ?_; clear hK K) | refine Vt rfl ?_ | refine Vf rfl ?_ | refine Vi rfl (fun hg => ?_) (fun hg => ?_) | clear hK K)
def rowL (s : Sec) (a : Nat) : List Int := if s.pt = 0 then (if a = 0 then [0, 3, 0] else if a = 1 then [3, 0, 0] else [0, 0, 0]) else (if a = 0 then [0, 1, 2] else if a = 1 then [1, 0, 0] else [2, 0, 0])
theorem pick_row (s : Sec) {a : Nat} (ha : a < 3) : pick true 3 (List.drop (a * 3) ((waysL s).map i64)) = some (.agg ((rowL s a).map i64)) := by
  unfold waysL rowL
  have : a = 0 ∨ a = 1 ∨ a = 2 := by omega
  by_cases h : s.pt = 0
  · rw [if_pos h, if_pos h]; rcases this with rfl | rfl | rfl <;> rfl
  · rw [if_neg h, if_neg h]; rcases this with rfl | rfl | rfl <;> rfl
theorem row_len (s : Sec) (a : Nat) : (rowL s a).length = 3 := by unfold rowL; repeat' split <;> try rfl
theorem pick_cell (s : Sec) (a : Nat) {b : Nat} (hb : b < 3) : pick false 1 (List.drop b ((rowL s a).map i64)) = some (i64 ((rowL s a).getD b 0)) := pick_map 1 i64 _ b 0 (by rw [row_len]; exact hb)
theorem row_lie (s : Sec) {a b : Nat} (ha : a < 3) (hb : b < 3) : (((rowL s a).getD b 0 == 0) = decide (lieF s a b < 0)) ∧ (0 ≤ lieF s a b → ((rowL s a).getD b 0).tmod 3 = lieF s a b) := by
  have h1 : a = 0 ∨ a = 1 ∨ a = 2 := by omega
  have h2 : b = 0 ∨ b = 1 ∨ b = 2 := by omega
  unfold rowL lieF
  by_cases h : s.pt = 0
  · rw [if_pos h, if_pos h]; rcases h1 with rfl | rfl | rfl <;> rcases h2 with rfl | rfl | rfl <;> decide
  · rw [if_neg h, if_neg h]; rcases h1 with rfl | rfl | rfl <;> rcases h2 with rfl | rfl | rfl <;> decide
def thruL (s : Sec) (a b : Int) : Int := if shaped s ∧ 0 ≤ lieF s a b then lieF s a b else 0
def thruE (s : Sec) (a b : Int) : Int := if shaped s then (if lieF s a b < 0 then 2 else 0) else 8
theorem c_through (s : Sec) (a b : Int) : ACall Try.prog 123 [secA s, i64 a, i64 b] [] (.tup [i64 (thruL s a b), i64 (thruE s a b)]) [] := by
  cases hs : shaped s with
  | false =>
    have e1 : thruL s a b = 0 := by simp [thruL, hs]
    have e2 : thruE s a b = 8 := by simp [thruE, hs]
    rw [e1, e2]
    refine acall_of 1 Try.func123 rfl fun n out _ _ => ?_
    simp only [Try.ntmps123, List.length_cons, List.length_nil, List.length_map, List.length_replicate, rep_map, Nat.reduceAdd, Nat.reduceSub, List.replicate, List.cons_append, List.nil_append]
    repeat' (first | (with_reducible first | refine Vk fun K hK => ?_ | refine V0 ?_ | refine Vs ?_ | apply And.intro) | ((with_reducible first | refine gE ?_ | refine gR ?_); simp (maxSteps:=9^7) only [ss, evLit, tab, reduceCtorEq, reduceIte, Nat.reduceEqDiff, Nat.reduceBEq, Int.reduceLE, Int.reduceToNat, Nat.reduceAdd, Nat.reduceLT, Nat.reduceLeDiff, secA, secC, hs]) | exact Vn | ((with_reducible refine Vz ?_); refine Vp rfl rfl rfl (fun _ _ => rfl) ?_ ?_ <;> first | rfl | skip) | (refine call_pure (c_shaped s) ?_) | ((with_reducible refine Vg (fun hg => ?_) (fun hg => ?_)) <;> (try simp only [nb] at hg) <;> simp (maxSteps:=9^7) only [ss, evLit, tab, reduceCtorEq, reduceIte, Nat.reduceEqDiff, Nat.reduceBEq, Int.reduceLE, Int.reduceToNat, Nat.reduceAdd, Nat.reduceLT, Nat.reduceLeDiff, hg, secA, secC, hs]) | (refine hK _ ?_; clear hK K) | refine Vt rfl ?_ | refine Vf rfl ?_ | refine Vi rfl (fun hg => ?_) (fun hg => ?_) | clear hK K)
  | true =>
    have cs := c_shaped s
    rw [hs] at cs
    by_cases hr : 0 ≤ a ∧ a ≤ 2 ∧ 0 ≤ b ∧ b ≤ 2
    · obtain ⟨na, rfl⟩ := Int.eq_ofNat_of_zero_le hr.1
      obtain ⟨nb, rfl⟩ := Int.eq_ofNat_of_zero_le hr.2.2.1
      have ha : na < 3 := by omega
      have hb : nb < 3 := by omega
      have ha' : ((na : Int) < 3) := by omega
      have hb' : ((nb : Int) < 3) := by omega
      have ha1 : decide ((na : Int) < 0) = false := decide_eq_false (by omega)
      have ha2 : decide ((na : Int) > 2) = false := decide_eq_false (by omega)
      have hb1 : decide ((nb : Int) < 0) = false := decide_eq_false (by omega)
      have hb2 : decide ((nb : Int) > 2) = false := decide_eq_false (by omega)
      have hr3 := fun (k : IntKind) (x : Int) => i_rem k x (b := 3) (by decide)
      obtain ⟨q1, q2⟩ := row_lie s ha hb
      by_cases hl : lieF s na nb < 0
      · have e1 : thruL s na nb = 0 := by simp [thruL, hs]; omega
        have e2 : thruE s na nb = 2 := by simp [thruE, hs, hl]
        rw [decide_eq_true hl] at q1
        rw [e1, e2]
        refine acall_of 1 Try.func123 rfl fun n out _ _ => ?_
        simp only [Try.ntmps123, List.length_cons, List.length_nil, List.length_map, List.length_replicate, rep_map, Nat.reduceAdd, Nat.reduceSub, List.replicate, List.cons_append, List.nil_append]
        repeat' (first | (with_reducible first | refine Vk fun K hK => ?_ | refine V0 ?_ | refine Vs ?_ | apply And.intro) | ((with_reducible first | refine gE ?_ | refine gR ?_); simp (maxSteps:=9^7) only [ss, evLit, tab, reduceCtorEq, reduceIte, Nat.reduceEqDiff, Nat.reduceBEq, Int.reduceLE, Int.reduceToNat, Nat.reduceAdd, Nat.reduceLT, Nat.reduceLeDiff, secA, secC, ha, hb, ha', hb', ha1, ha2, hb1, hb2, pick_row s ha, pick_cell s na hb, q1]) | exact Vn | ((with_reducible refine Vz ?_); refine Vp rfl rfl rfl (fun _ _ => rfl) ?_ ?_ <;> first | rfl | skip) | (refine call_pure (cs) ?_) | (refine call_pure (c_ways s) ?_) | ((with_reducible refine Vg (fun hg => ?_) (fun hg => ?_)) <;> (try simp only [nb] at hg) <;> simp (maxSteps:=9^7) only [ss, evLit, tab, reduceCtorEq, reduceIte, Nat.reduceEqDiff, Nat.reduceBEq, Int.reduceLE, Int.reduceToNat, Nat.reduceAdd, Nat.reduceLT, Nat.reduceLeDiff, hg, secA, secC, ha, hb, ha', hb', ha1, ha2, hb1, hb2, pick_row s ha, pick_cell s na hb, q1]) | (refine hK _ ?_; clear hK K) | refine Vt rfl ?_ | refine Vf rfl ?_ | refine Vi rfl (fun hg => ?_) (fun hg => ?_) | clear hK K)
      · have e1 : thruL s na nb = lieF s na nb := by simp [thruL, hs]; omega
        have e2 : thruE s na nb = 0 := by simp [thruE, hs, hl]
        rw [decide_eq_false hl] at q1
        have q3 := q2 (by omega)
        rw [e1, e2]
        refine acall_of 1 Try.func123 rfl fun n out _ _ => ?_
        simp only [Try.ntmps123, List.length_cons, List.length_nil, List.length_map, List.length_replicate, rep_map, Nat.reduceAdd, Nat.reduceSub, List.replicate, List.cons_append, List.nil_append]
        repeat' (first | (with_reducible first | refine Vk fun K hK => ?_ | refine V0 ?_ | refine Vs ?_ | apply And.intro) | ((with_reducible first | refine gE ?_ | refine gR ?_); simp (maxSteps:=9^7) only [ss, evLit, tab, reduceCtorEq, reduceIte, Nat.reduceEqDiff, Nat.reduceBEq, Int.reduceLE, Int.reduceToNat, Nat.reduceAdd, Nat.reduceLT, Nat.reduceLeDiff, secA, secC, ha, hb, ha', hb', ha1, ha2, hb1, hb2, pick_row s ha, pick_cell s na hb, q1, hr3, q3]) | exact Vn | ((with_reducible refine Vz ?_); refine Vp rfl rfl rfl (fun _ _ => rfl) ?_ ?_ <;> first | rfl | skip) | (refine call_pure (cs) ?_) | (refine call_pure (c_ways s) ?_) | ((with_reducible refine Vg (fun hg => ?_) (fun hg => ?_)) <;> (try simp only [nb] at hg) <;> simp (maxSteps:=9^7) only [ss, evLit, tab, reduceCtorEq, reduceIte, Nat.reduceEqDiff, Nat.reduceBEq, Int.reduceLE, Int.reduceToNat, Nat.reduceAdd, Nat.reduceLT, Nat.reduceLeDiff, hg, secA, secC, ha, hb, ha', hb', ha1, ha2, hb1, hb2, pick_row s ha, pick_cell s na hb, q1, hr3, q3]) | (refine hK _ ?_; clear hK K) | refine Vt rfl ?_ | refine Vf rfl ?_ | refine Vi rfl (fun hg => ?_) (fun hg => ?_) | clear hK K)
    · have hl : lieF s a b < 0 := by
        unfold lieF
        by_cases h0 : s.pt = 0
        · rw [if_pos h0, if_neg (by omega)]; decide
        · rw [if_neg h0, if_neg (by omega), if_neg (by omega)]; decide
      have e1 : thruL s a b = 0 := by simp [thruL, hs]; omega
      have e2 : thruE s a b = 2 := by simp [thruE, hs, hl]
      rw [e1, e2]
      refine acall_of 1 Try.func123 rfl fun n out _ _ => ?_
      simp only [Try.ntmps123, List.length_cons, List.length_nil, List.length_map, List.length_replicate, rep_map, Nat.reduceAdd, Nat.reduceSub, List.replicate, List.cons_append, List.nil_append]
      repeat' (first | (with_reducible first | refine Vk fun K hK => ?_ | refine V0 ?_ | refine Vs ?_ | apply And.intro) | ((with_reducible first | refine gE ?_ | refine gR ?_); simp (maxSteps:=9^7) only [ss, evLit, tab, reduceCtorEq, reduceIte, Nat.reduceEqDiff, Nat.reduceBEq, Int.reduceLE, Int.reduceToNat, Nat.reduceAdd, Nat.reduceLT, Nat.reduceLeDiff, secA, secC]) | exact Vn | ((with_reducible refine Vz ?_); refine Vp rfl rfl rfl (fun _ _ => rfl) ?_ ?_ <;> first | rfl | skip) | (refine call_pure (cs) ?_) | ((with_reducible refine Vg (fun hg => ?_) (fun hg => ?_)) <;> (try simp only [nb] at hg) <;> simp (maxSteps:=9^7) only [ss, evLit, tab, reduceCtorEq, reduceIte, Nat.reduceEqDiff, Nat.reduceBEq, Int.reduceLE, Int.reduceToNat, Nat.reduceAdd, Nat.reduceLT, Nat.reduceLeDiff, hg, secA, secC]) | (refine hK _ ?_; clear hK K) | refine Vt rfl ?_ | refine Vf rfl ?_ | refine Vi rfl (fun hg => ?_) (fun hg => ?_) | clear hK K)
      all_goals (exfalso; simp at *; omega)
end Go.Proofs.Ytcfkieacdjcaoaa.Pln
