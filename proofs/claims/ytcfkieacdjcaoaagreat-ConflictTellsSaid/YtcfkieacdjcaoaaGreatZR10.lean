/-
  The document's answer: routes that may not be together; the law ConflictTells.
-/
import Derived.Test.YtcfkieacdjcaoaaGreatZGA
import Derived.Test.YtcfkieacdjcaoaaGreatZR9
import Derived.Test.YtcfkieacdjcaoaaGreatZR6
import Derived.Test.YtcfkieacdjcaoaaGreatZUA
namespace Go.Proofs.YtcfkieacdjcaoaaGreat.Pln
set_option linter.unusedVariables false
set_option linter.unusedSimpArgs false
open Go Go.VS Tab
set_option maxHeartbeats 8000000
set_option maxRecDepth 4000
theorem c_ris (a b : Wy) (pa : a.path ≠ []) (pb : b.path ≠ []) (a1 : a.path.length ≤ 20) (a2 : a.over.length ≤ 20) (a3 : a.asks.length ≤ 60) (b1 : b.path.length ≤ 20) (b2 : b.over.length ≤ 20) (b3 : b.asks.length ≤ 60) : ACall Tryz.prog 20 [wyA a, wyA b] [] (bool (confW a b)) [] := by
  obtain ⟨L, hL⟩ : ∃ L, L = allW1 a := ⟨_, rfl⟩
  obtain ⟨M, hM⟩ : ∃ M, M = allW1 b := ⟨_, rfl⟩
  obtain ⟨B, hB⟩ : ∃ B, B = confW a b := ⟨_, rfl⟩
  have eB : B = ((L.any fun x => M.any fun y => x == y) || a.asks.any fun x => b.asks.any (oddA x)) := by rw [hB, hL, hM]; rfl
  have hit1 : ∀ {i k : Nat} (hi : i < L.length) (hk : k < M.length), (L[i] == M[k]) = true → B = true := by
    intro i k hi hk h
    rw [eB, Bool.or_eq_true, List.any_eq_true]
    exact .inl ⟨_, List.getElem_mem hi, List.any_eq_true.2 ⟨_, List.getElem_mem hk, h⟩⟩
  have hit2 : ∀ {i k : Nat} (hi : i < a.asks.length) (hk : k < b.asks.length), oddA a.asks[i] b.asks[k] = true → B = true := by
    intro i k hi hk h
    rw [eB, Bool.or_eq_true]
    refine .inr ?_
    rw [List.any_eq_true]
    exact ⟨_, List.getElem_mem hi, List.any_eq_true.2 ⟨_, List.getElem_mem hk, h⟩⟩
  have non : (∀ j (hj : j < L.length) q (hq : q < M.length), (L[j] == M[q]) = false) → (∀ j (hj : j < a.asks.length) q (hq : q < b.asks.length), oddA a.asks[j] b.asks[q] = false) → B = false := by
    intro h1 h2
    rw [eB, Bool.or_eq_false_iff]
    refine ⟨List.any_eq_false.2 fun x hx => ?_, List.any_eq_false.2 fun x hx => ?_⟩
    · obtain ⟨i, hi, rfl⟩ := List.getElem_of_mem hx
      rw [List.any_eq_true]
      rintro ⟨y, hy, h⟩
      obtain ⟨k, hk, rfl⟩ := List.getElem_of_mem hy
      rw [h1 i hi k hk] at h; cases h
    · obtain ⟨i, hi, rfl⟩ := List.getElem_of_mem hx
      rw [List.any_eq_true]
      rintro ⟨y, hy, h⟩
      obtain ⟨k, hk, rfl⟩ := List.getElem_of_mem hy
      rw [h2 i hi k hk] at h; cases h
  rw [← hB]
  have lA : L.length = a.path.length + a.over.length := by rw [hL]; exact List.length_append
  have lB : M.length = b.path.length + b.over.length := by rw [hM]; exact List.length_append
  have mA : L.map intC = a.path.map intC ++ a.over.map intC := by rw [hL]; exact List.map_append
  have mB : M.map intC = b.path.map intC ++ b.over.map intC := by rw [hM]; exact List.map_append
  have na : ¬ (a.path.map intC = []) := fun h => pa (List.map_eq_nil_iff.1 h)
  have nb' : ¬ (b.path.map intC = []) := fun h => pb (List.map_eq_nil_iff.1 h)
  have y1 : a.path.length * 8 ≤ 140737488355328 := by omega
  have y2 : a.path.length ≤ 9223372036854775807 := by omega
  have y3 : (a.path.length + a.over.length) * 8 ≤ 140737488355328 := by omega
  have y4 : a.path.length + a.over.length ≤ 9223372036854775807 := by omega
  have y5 : b.path.length * 8 ≤ 140737488355328 := by omega
  have y6 : b.path.length ≤ 9223372036854775807 := by omega
  have y7 : (b.path.length + b.over.length) * 8 ≤ 140737488355328 := by omega
  have y8 : b.path.length + b.over.length ≤ 9223372036854775807 := by omega
  clear hL hM hB eB
  refine acall_of 4 Tryz.func20 rfl fun n out _ _ => ?_
  simp only [Tryz.ntmps20, List.length_cons, List.length_nil, List.length_map, List.length_replicate, rep_map, Nat.reduceAdd, Nat.reduceSub, List.replicate, List.cons_append, List.nil_append]
  repeat' (first | (with_reducible first | refine Vk fun K hK => ?_ | refine Ve [(14, none), (21, none)] ?_ | refine Vb ?_ | refine Vc ?_ | refine Vr ?_ | refine Vs ?_ | apply And.intro | refine Vd 1 [(14, none), (21, none)] [[],[],[0],[2],[],[0],[2],[]] [[],[],[],[2],[],[],[2],[]] (by kernel_rfl) (by decide) (by decide) (by kernel_rfl) ?_ | refine Vd 2 [(14, none), (21, none)] [[],[],[1],[3],[],[1],[3],[]] [[],[],[],[3],[],[],[3],[]] (by kernel_rfl) (by decide) (by decide) (by kernel_rfl) ?_ | refine Vq (by kernel_rfl) ?_) | ((with_reducible first | refine gE ?_ | refine gR ?_ | refine gD ?_ | refine gF ?_); simp (maxSteps:=9^7) only [ss, evLit, tab, reduceCtorEq, reduceIte, Nat.reduceEqDiff, Nat.reduceBEq, Int.reduceLE, Int.reduceToNat, Nat.reduceAdd, Nat.reduceLT, Nat.reduceLeDiff, wyA, wyC, splice_all, List.length_map, na, nb', y1, y2, y3, y4, y5, y6, y7, y8]) | exact Vn | ((with_reducible refine Vz ?_); refine Vo rfl rfl rfl (fun _ _ => rfl) ?_ <;> first | rfl | skip) | ((with_reducible refine Vg (fun hg => ?_) (fun hg => ?_)) <;> (try simp only [nb] at hg) <;> simp (maxSteps:=9^7) only [ss, evLit, tab, reduceCtorEq, reduceIte, Nat.reduceEqDiff, Nat.reduceBEq, Int.reduceLE, Int.reduceToNat, Nat.reduceAdd, Nat.reduceLT, Nat.reduceLeDiff, hg, wyA, wyC, splice_all, List.length_map, na, nb', y1, y2, y3, y4, y5, y6, y7, y8]) | ((with_reducible refine Vx ?_); simp only [sb, reduceIte, Nat.reduceEqDiff]) | (refine hK _ ?_; clear hK K) | refine Vt rfl ?_ | refine Vf rfl ?_ | refine Vi rfl (fun hg => ?_) (fun hg => ?_) | clear hK K)
  refine awp_block ?_
  refine awp_for_mv (fun m (i : Nat) => [(7, i64 (i : Int)), (5, .sl 1 (L.map intC) .sh), (6, .sl 1 (M.map intC) .sh), (2, .ptr (m + 0) 0), (3, .ptr (m + 1) 0), (4, .top), (8, .top), (25, .top), (26, .top), (27, .top), (28, .top), (29, .top), (30, .top), (31, .top), (32, .top), (33, .top), (34, .top), (35, .top), (36, .top), (37, .top), (38, .top), (39, .top), (40, .top), (41, .top), (42, .top), (43, .top), (44, .top), (45, .top)]) (fun m i => [some (.box 56 (wyC a)), some (.box 56 (wyC b)), some (.row 3 1 (a.path.length + a.over.length)), some (.row 3 1 (b.path.length + b.over.length))]) (fun i => out) (fun i => i ≤ L.length ∧ (∀ j (hj : j < L.length), j < i → ∀ q (hq : q < M.length), (L[j] == M[q]) = false)) (fun i => L.length - i) 0 ⟨Nat.zero_le _, by intros; omega⟩ ?_ fun m i hm hi => ?_
  · refine le_of_all ?_ ?_ (by first | rfl | (simp only [wyC, mA, mB, List.length_map]; rfl) | simp only [wyC, mA, mB, List.length_map]) rfl rfl rfl <;> simp only [patch, sl, wyC, mA, mB, List.length_map]
  obtain ⟨hi, hq⟩ := hi
  simp only [patch, s_0, s_s]
  have hw := addw (n := i) 1 1 rfl (by omega)
  by_cases hlt : i < L.length
  · have gi := getD_map intC L i [] hlt
    have hq0 := hq
    have hlti := hlt
    clear hq
    repeat' (first | (with_reducible first | refine Vk fun K hK => ?_ | refine V0 ?_ | refine Vb ?_ | refine Vc ?_ | refine Vr ?_ | refine Vs ?_ | apply And.intro | refine Vq (by kernel_rfl) ?_) | ((with_reducible first | refine gE ?_ | refine gR ?_); simp (maxSteps:=9^7) only [ss, evLit, tab, reduceCtorEq, reduceIte, Nat.reduceEqDiff, Nat.reduceBEq, Int.reduceLE, Int.reduceToNat, Nat.reduceAdd, Nat.reduceLT, Nat.reduceLeDiff, locM hm, splice_all, List.length_map, hlt]) | exact Vn | ((with_reducible refine Vz ?_); refine Vo rfl rfl rfl (fun _ _ => rfl) ?_ <;> first | rfl | skip) | ((with_reducible refine Vg (fun hg => ?_) (fun hg => ?_)) <;> (try simp only [nb] at hg) <;> simp (maxSteps:=9^7) only [ss, evLit, tab, reduceCtorEq, reduceIte, Nat.reduceEqDiff, Nat.reduceBEq, Int.reduceLE, Int.reduceToNat, Nat.reduceAdd, Nat.reduceLT, Nat.reduceLeDiff, hg, locM hm, splice_all, List.length_map, hlt]) | ((with_reducible refine Vx ?_); simp only [sb, reduceIte, Nat.reduceEqDiff]) | (refine hK _ ?_; clear hK K) | refine Vt rfl ?_ | refine Vf rfl ?_ | refine Vi rfl (fun hg => ?_) (fun hg => ?_) | clear hK K)
    refine awp_block ?_
    refine awp_for_mv (fun m (k : Nat) => [(8, i64 (k : Int)), (2, .ptr (m + 0) 0), (3, .ptr (m + 1) 0), (4, .top), (31, .top), (32, .top), (33, .top), (34, .top), (35, .top), (36, .top), (37, .top), (38, .top), (39, .top), (40, .top), (41, .top), (42, .top), (43, .top), (44, .top), (45, .top)]) (fun m k => [some (.box 56 (wyC a)), some (.box 56 (wyC b)), some (.row 3 1 (a.path.length + a.over.length)), some (.row 3 1 (b.path.length + b.over.length))]) (fun k => out) (fun k => k ≤ M.length ∧ (∀ q (hq : q < M.length), q < k → (L[i] == M[q]) = false)) (fun k => M.length - k) 0 ⟨Nat.zero_le _, by intros; omega⟩ ?_ fun m k hm hk => ?_
    · refine le_of_all ?_ ?_ (by first | rfl | (simp only [wyC]; rfl) | simp only [wyC]) rfl rfl rfl <;> simp only [patch, sl, wyC]
    obtain ⟨hk, hq⟩ := hk
    simp only [patch, s_0, s_s]
    have hw2 := addw (n := k) 1 1 rfl (by omega)
    by_cases hlt : k < M.length
    · have gk := getD_map intC M k [] hlt
      have hit := hit1 hlti hlt
      repeat' (first | (with_reducible first | refine Vk fun K hK => ?_ | refine V0 ?_ | refine Vb ?_ | refine Vc ?_ | refine Vr ?_ | refine Vs ?_ | apply And.intro | refine Vq (by kernel_rfl) ?_) | ((with_reducible first | refine gE ?_ | refine gR ?_); simp (maxSteps:=9^7) only [ss, evLit, tab, reduceCtorEq, reduceIte, Nat.reduceEqDiff, Nat.reduceBEq, Int.reduceLE, Int.reduceToNat, Nat.reduceAdd, Nat.reduceLT, Nat.reduceLeDiff, locM hm, intC, splice_all, List.length_map, hlt, hlti, gi, gk, hw2]) | exact Vn | ((with_reducible refine Vz ?_); refine Vo rfl rfl rfl (fun _ _ => rfl) ?_ <;> first | rfl | (rw [hit (by assumption)]; rfl) | skip) | ((with_reducible refine Vg (fun hg => ?_) (fun hg => ?_)) <;> (try simp only [nb] at hg) <;> simp (maxSteps:=9^7) only [ss, evLit, tab, reduceCtorEq, reduceIte, Nat.reduceEqDiff, Nat.reduceBEq, Int.reduceLE, Int.reduceToNat, Nat.reduceAdd, Nat.reduceLT, Nat.reduceLeDiff, hg, locM hm, intC, splice_all, List.length_map, hlt, hlti, gi, gk, hw2]) | ((with_reducible refine Vx ?_); simp only [sb, reduceIte, Nat.reduceEqDiff]) | (refine hK _ ?_; clear hK K) | refine Vt rfl ?_ | refine Vf rfl ?_ | refine Vi rfl (fun hg => ?_) (fun hg => ?_) | clear hK K)
      refine ⟨k + 1, ⟨by omega, fun q hq1 hq2 => ?_⟩, by omega, ?_⟩
      · by_cases h' : q = k
        · subst h'; assumption
        · exact hq q hq1 (by omega)
      refine le_move [true, true, true, true] (fun n_ => ?_) (fun n_ => ?_) <;> simp only [patch, sm, wyC, hlt, decide_true]
    · repeat' (first | (with_reducible first | refine Vk fun K hK => ?_ | refine V0 ?_ | refine Vb ?_ | refine Vc ?_ | refine Vr ?_ | refine Vs ?_ | apply And.intro | refine Vq (by kernel_rfl) ?_) | ((with_reducible first | refine gE ?_ | refine gR ?_); simp (maxSteps:=9^7) only [ss, evLit, tab, reduceCtorEq, reduceIte, Nat.reduceEqDiff, Nat.reduceBEq, Int.reduceLE, Int.reduceToNat, Nat.reduceAdd, Nat.reduceLT, Nat.reduceLeDiff, locM hm, splice_all, List.length_map, hlt, hw]) | exact Vn | ((with_reducible refine Vz ?_); refine Vo rfl rfl rfl (fun _ _ => rfl) ?_ <;> first | rfl | skip) | ((with_reducible refine Vg (fun hg => ?_) (fun hg => ?_)) <;> (try simp only [nb] at hg) <;> simp (maxSteps:=9^7) only [ss, evLit, tab, reduceCtorEq, reduceIte, Nat.reduceEqDiff, Nat.reduceBEq, Int.reduceLE, Int.reduceToNat, Nat.reduceAdd, Nat.reduceLT, Nat.reduceLeDiff, hg, locM hm, splice_all, List.length_map, hlt, hw]) | ((with_reducible refine Vx ?_); simp only [sb, reduceIte, Nat.reduceEqDiff]) | (refine hK _ ?_; clear hK K) | refine Vt rfl ?_ | refine Vf rfl ?_ | refine Vi rfl (fun hg => ?_) (fun hg => ?_) | clear hK K)
      refine ⟨i + 1, ⟨by omega, fun j hj hji q hqm => ?_⟩, by omega, ?_⟩
      · by_cases h : j = i
        · subst h; exact hq q hqm (by omega)
        · exact hq0 j hj (by omega) q hqm
      refine le_move [true, true, true, true] (fun n_ => ?_) (fun n_ => ?_) <;> simp only [patch, sm, wyC, hlti, decide_true]
  · have non1 := non fun j hj q hqm => hq j hj (by omega) q hqm
    clear hq hit1 non
    repeat' (first | (with_reducible first | refine Vk fun K hK => ?_ | refine V0 ?_ | refine Vb ?_ | refine Vc ?_ | refine Vr ?_ | refine Vs ?_ | apply And.intro | refine Vq (by kernel_rfl) ?_) | ((with_reducible first | refine gE ?_ | refine gR ?_); simp (maxSteps:=9^7) only [ss, evLit, tab, reduceCtorEq, reduceIte, Nat.reduceEqDiff, Nat.reduceBEq, Int.reduceLE, Int.reduceToNat, Nat.reduceAdd, Nat.reduceLT, Nat.reduceLeDiff, locM hm, splice_all, List.length_map, hlt]) | exact Vn | ((with_reducible refine Vz ?_); refine Vo rfl rfl rfl (fun _ _ => rfl) ?_ <;> first | rfl | skip) | ((with_reducible refine Vg (fun hg => ?_) (fun hg => ?_)) <;> (try simp only [nb] at hg) <;> simp (maxSteps:=9^7) only [ss, evLit, tab, reduceCtorEq, reduceIte, Nat.reduceEqDiff, Nat.reduceBEq, Int.reduceLE, Int.reduceToNat, Nat.reduceAdd, Nat.reduceLT, Nat.reduceLeDiff, hg, locM hm, splice_all, List.length_map, hlt]) | ((with_reducible refine Vx ?_); simp only [sb, reduceIte, Nat.reduceEqDiff]) | (refine hK _ ?_; clear hK K) | refine Vt rfl ?_ | refine Vf rfl ?_ | refine Vi rfl (fun hg => ?_) (fun hg => ?_) | clear hK K)
    refine awp_block ?_
    refine awp_for_mv (fun m (i : Nat) => [(9, i64 (i : Int)), (2, .ptr (m + 0) 0), (3, .ptr (m + 1) 0), (4, .top), (10, .top), (46, .top), (47, .top), (48, .top), (49, .top), (50, .top), (51, .top), (52, .top), (53, .top), (54, .top), (55, .top), (56, .top), (57, .top), (58, .top), (59, .top), (60, .top), (61, .top), (62, .top), (63, .top), (64, .top), (65, .top), (66, .top), (67, .top), (68, .top), (69, .top), (70, .top), (71, .top), (72, .top), (73, .top), (74, .top), (75, .top), (76, .top), (77, .top), (78, .top), (79, .top), (80, .top), (81, .top), (82, .top), (83, .top), (84, .top), (85, .top), (86, .top), (87, .top)]) (fun m i => [some (.box 56 (wyC a)), some (.box 56 (wyC b)), some (.row 3 1 (a.path.length + a.over.length)), some (.row 3 1 (b.path.length + b.over.length))]) (fun i => out) (fun i => i ≤ a.asks.length ∧ (∀ j (hj : j < a.asks.length), j < i → ∀ q (hq : q < b.asks.length), oddA a.asks[j] b.asks[q] = false)) (fun i => a.asks.length - i) 0 ⟨Nat.zero_le _, by intros; omega⟩ ?_ fun m i hm hi => ?_
    · refine le_of_all ?_ ?_ (by first | rfl | (simp only [wyC]; rfl) | simp only [wyC]) rfl rfl rfl <;> simp only [patch, sl, wyC]
    obtain ⟨hi, hq⟩ := hi
    simp only [patch, s_0, s_s]
    have hw := addw (n := i) 1 1 rfl (by omega)
    by_cases hlt : i < a.asks.length
    · have gi := getD_map sgC a.asks i [] hlt
      have hq0 := hq
      have hlti := hlt
      clear hq
      repeat' (first | (with_reducible first | refine Vk fun K hK => ?_ | refine V0 ?_ | refine Vb ?_ | refine Vc ?_ | refine Vr ?_ | refine Vs ?_ | apply And.intro | refine Vq (by kernel_rfl) ?_) | ((with_reducible first | refine gE ?_ | refine gR ?_); simp (maxSteps:=9^7) only [ss, evLit, tab, reduceCtorEq, reduceIte, Nat.reduceEqDiff, Nat.reduceBEq, Int.reduceLE, Int.reduceToNat, Nat.reduceAdd, Nat.reduceLT, Nat.reduceLeDiff, locM hm, wyC, splice_all, List.length_map, hlt]) | exact Vn | ((with_reducible refine Vz ?_); refine Vo rfl rfl rfl (fun _ _ => rfl) ?_ <;> first | rfl | skip) | ((with_reducible refine Vg (fun hg => ?_) (fun hg => ?_)) <;> (try simp only [nb] at hg) <;> simp (maxSteps:=9^7) only [ss, evLit, tab, reduceCtorEq, reduceIte, Nat.reduceEqDiff, Nat.reduceBEq, Int.reduceLE, Int.reduceToNat, Nat.reduceAdd, Nat.reduceLT, Nat.reduceLeDiff, hg, locM hm, wyC, splice_all, List.length_map, hlt]) | ((with_reducible refine Vx ?_); simp only [sb, reduceIte, Nat.reduceEqDiff]) | (refine hK _ ?_; clear hK K) | refine Vt rfl ?_ | refine Vf rfl ?_ | refine Vi rfl (fun hg => ?_) (fun hg => ?_) | clear hK K)
      refine awp_block ?_
      refine awp_for_mv (fun m (k : Nat) => [(10, i64 (k : Int)), (2, .ptr (m + 0) 0), (3, .ptr (m + 1) 0), (4, .top), (53, .top), (54, .top), (55, .top), (56, .top), (57, .top), (58, .top), (59, .top), (60, .top), (61, .top), (62, .top), (63, .top), (64, .top), (65, .top), (66, .top), (67, .top), (68, .top), (69, .top), (70, .top), (71, .top), (72, .top), (73, .top), (74, .top), (75, .top), (76, .top), (77, .top), (78, .top), (79, .top), (80, .top), (81, .top), (82, .top), (83, .top), (84, .top), (85, .top), (86, .top), (87, .top)]) (fun m k => [some (.box 56 (wyC a)), some (.box 56 (wyC b)), some (.row 3 1 (a.path.length + a.over.length)), some (.row 3 1 (b.path.length + b.over.length))]) (fun k => out) (fun k => k ≤ b.asks.length ∧ (∀ q (hq : q < b.asks.length), q < k → oddA a.asks[i] b.asks[q] = false)) (fun k => b.asks.length - k) 0 ⟨Nat.zero_le _, by intros; omega⟩ ?_ fun m k hm hk => ?_
      · refine le_of_all ?_ ?_ (by first | rfl | (simp only [wyC]; rfl) | simp only [wyC]) rfl rfl rfl <;> simp only [patch, sl, wyC]
      obtain ⟨hk, hq⟩ := hk
      simp only [patch, s_0, s_s]
      have hw2 := addw (n := k) 1 1 rfl (by omega)
      by_cases hlt : k < b.asks.length
      · have gk := getD_map sgC b.asks k [] hlt
        have hit := hit2 hlti hlt
        have okv : oddA a.asks[i] b.asks[k] = (a.asks[i].1 == b.asks[k].1 && a.asks[i].2.1 != b.asks[k].2.1) := rfl
        have next : oddA a.asks[i] b.asks[k] = false → ∀ q (hq : q < b.asks.length), q < k + 1 → oddA a.asks[i] b.asks[q] = false := fun h q hq1 hq2 => by
          by_cases h' : q = k
          · subst h'; exact h
          · exact hq q hq1 (by omega)
        generalize oddA a.asks[i] b.asks[k] = OD at *
        clear hq hit2 non1
        cases e1 : (a.asks[i].1 == b.asks[k].1) with
        | false =>
          rw [e1, Bool.false_and] at okv
          repeat' (first | (with_reducible first | refine Vk fun K hK => ?_ | refine V0 ?_ | refine Vb ?_ | refine Vc ?_ | refine Vr ?_ | refine Vs ?_ | apply And.intro | refine Vq (by kernel_rfl) ?_) | ((with_reducible first | refine gE ?_ | refine gR ?_); simp (maxSteps:=9^7) only [ss, evLit, tab, reduceCtorEq, reduceIte, Nat.reduceEqDiff, Nat.reduceBEq, Int.reduceLE, Int.reduceToNat, Nat.reduceAdd, Nat.reduceLT, Nat.reduceLeDiff, locM hm, wyC, sgC, splice_all, List.length_map, hlt, hlti, gi, gk, hw2, e1]) | exact Vn | ((with_reducible refine Vz ?_); refine Vo rfl rfl rfl (fun _ _ => rfl) ?_ <;> first | rfl | skip) | ((with_reducible refine Vg (fun hg => ?_) (fun hg => ?_)) <;> (try simp only [nb] at hg) <;> simp (maxSteps:=9^7) only [ss, evLit, tab, reduceCtorEq, reduceIte, Nat.reduceEqDiff, Nat.reduceBEq, Int.reduceLE, Int.reduceToNat, Nat.reduceAdd, Nat.reduceLT, Nat.reduceLeDiff, hg, locM hm, wyC, sgC, splice_all, List.length_map, hlt, hlti, gi, gk, hw2, e1]) | ((with_reducible refine Vx ?_); simp only [sb, reduceIte, Nat.reduceEqDiff]) | (refine hK _ ?_; clear hK K) | refine Vt rfl ?_ | refine Vf rfl ?_ | refine Vi rfl (fun hg => ?_) (fun hg => ?_) | clear hK K)
          refine ⟨k + 1, ⟨by omega, next okv⟩, by omega, ?_⟩
          refine le_move [true, true, true, true] (fun n_ => ?_) (fun n_ => ?_) <;> simp only [patch, sm, wyC, hlt, decide_true]
        | true =>
          cases e2 : (a.asks[i].2.1 != b.asks[k].2.1) with
          | false =>
            rw [e1, e2, Bool.and_false] at okv
            repeat' (first | (with_reducible first | refine Vk fun K hK => ?_ | refine V0 ?_ | refine Vb ?_ | refine Vc ?_ | refine Vr ?_ | refine Vs ?_ | apply And.intro | refine Vq (by kernel_rfl) ?_) | ((with_reducible first | refine gE ?_ | refine gR ?_); simp (maxSteps:=9^7) only [ss, evLit, tab, reduceCtorEq, reduceIte, Nat.reduceEqDiff, Nat.reduceBEq, Int.reduceLE, Int.reduceToNat, Nat.reduceAdd, Nat.reduceLT, Nat.reduceLeDiff, locM hm, wyC, sgC, splice_all, List.length_map, hlt, hlti, gi, gk, hw2, e1, e2]) | exact Vn | ((with_reducible refine Vz ?_); refine Vo rfl rfl rfl (fun _ _ => rfl) ?_ <;> first | rfl | skip) | ((with_reducible refine Vg (fun hg => ?_) (fun hg => ?_)) <;> (try simp only [nb] at hg) <;> simp (maxSteps:=9^7) only [ss, evLit, tab, reduceCtorEq, reduceIte, Nat.reduceEqDiff, Nat.reduceBEq, Int.reduceLE, Int.reduceToNat, Nat.reduceAdd, Nat.reduceLT, Nat.reduceLeDiff, hg, locM hm, wyC, sgC, splice_all, List.length_map, hlt, hlti, gi, gk, hw2, e1, e2]) | ((with_reducible refine Vx ?_); simp only [sb, reduceIte, Nat.reduceEqDiff]) | (refine hK _ ?_; clear hK K) | refine Vt rfl ?_ | refine Vf rfl ?_ | refine Vi rfl (fun hg => ?_) (fun hg => ?_) | clear hK K)
            refine ⟨k + 1, ⟨by omega, next okv⟩, by omega, ?_⟩
            refine le_move [true, true, true, true] (fun n_ => ?_) (fun n_ => ?_) <;> simp only [patch, sm, wyC, hlt, decide_true]
          | true =>
            rw [e1, e2, Bool.and_true] at okv
            have hT := hit okv
            repeat' (first | (with_reducible first | refine Vk fun K hK => ?_ | refine V0 ?_ | refine Vb ?_ | refine Vc ?_ | refine Vr ?_ | refine Vs ?_ | apply And.intro | refine Vq (by kernel_rfl) ?_) | ((with_reducible first | refine gE ?_ | refine gR ?_); simp (maxSteps:=9^7) only [ss, evLit, tab, reduceCtorEq, reduceIte, Nat.reduceEqDiff, Nat.reduceBEq, Int.reduceLE, Int.reduceToNat, Nat.reduceAdd, Nat.reduceLT, Nat.reduceLeDiff, locM hm, wyC, sgC, splice_all, List.length_map, hlt, hlti, gi, gk, hw2, e1, e2]) | exact Vn | ((with_reducible refine Vz ?_); refine Vo rfl rfl rfl (fun _ _ => rfl) ?_ <;> first | rfl | (rw [hT]; rfl) | skip) | ((with_reducible refine Vg (fun hg => ?_) (fun hg => ?_)) <;> (try simp only [nb] at hg) <;> simp (maxSteps:=9^7) only [ss, evLit, tab, reduceCtorEq, reduceIte, Nat.reduceEqDiff, Nat.reduceBEq, Int.reduceLE, Int.reduceToNat, Nat.reduceAdd, Nat.reduceLT, Nat.reduceLeDiff, hg, locM hm, wyC, sgC, splice_all, List.length_map, hlt, hlti, gi, gk, hw2, e1, e2]) | ((with_reducible refine Vx ?_); simp only [sb, reduceIte, Nat.reduceEqDiff]) | (refine hK _ ?_; clear hK K) | refine Vt rfl ?_ | refine Vf rfl ?_ | refine Vi rfl (fun hg => ?_) (fun hg => ?_) | clear hK K)
      · repeat' (first | (with_reducible first | refine Vk fun K hK => ?_ | refine V0 ?_ | refine Vb ?_ | refine Vc ?_ | refine Vr ?_ | refine Vs ?_ | apply And.intro | refine Vq (by kernel_rfl) ?_) | ((with_reducible first | refine gE ?_ | refine gR ?_); simp (maxSteps:=9^7) only [ss, evLit, tab, reduceCtorEq, reduceIte, Nat.reduceEqDiff, Nat.reduceBEq, Int.reduceLE, Int.reduceToNat, Nat.reduceAdd, Nat.reduceLT, Nat.reduceLeDiff, locM hm, wyC, splice_all, List.length_map, hlt, hw]) | exact Vn | ((with_reducible refine Vz ?_); refine Vo rfl rfl rfl (fun _ _ => rfl) ?_ <;> first | rfl | skip) | ((with_reducible refine Vg (fun hg => ?_) (fun hg => ?_)) <;> (try simp only [nb] at hg) <;> simp (maxSteps:=9^7) only [ss, evLit, tab, reduceCtorEq, reduceIte, Nat.reduceEqDiff, Nat.reduceBEq, Int.reduceLE, Int.reduceToNat, Nat.reduceAdd, Nat.reduceLT, Nat.reduceLeDiff, hg, locM hm, wyC, splice_all, List.length_map, hlt, hw]) | ((with_reducible refine Vx ?_); simp only [sb, reduceIte, Nat.reduceEqDiff]) | (refine hK _ ?_; clear hK K) | refine Vt rfl ?_ | refine Vf rfl ?_ | refine Vi rfl (fun hg => ?_) (fun hg => ?_) | clear hK K)
        refine ⟨i + 1, ⟨by omega, fun j hj hji q hqm => ?_⟩, by omega, ?_⟩
        · by_cases h : j = i
          · subst h; exact hq q hqm (by omega)
          · exact hq0 j hj (by omega) q hqm
        refine le_move [true, true, true, true] (fun n_ => ?_) (fun n_ => ?_) <;> simp only [patch, sm, wyC, hlti, decide_true]
    · have hF : B = false := non1 fun j hj q hqm => hq j hj (by omega) q hqm
      repeat' (first | (with_reducible first | refine Vk fun K hK => ?_ | refine V0 ?_ | refine Vb ?_ | refine Vc ?_ | refine Vr ?_ | refine Vs ?_ | apply And.intro | refine Vq (by kernel_rfl) ?_) | ((with_reducible first | refine gE ?_ | refine gR ?_); simp (maxSteps:=9^7) only [ss, evLit, tab, reduceCtorEq, reduceIte, Nat.reduceEqDiff, Nat.reduceBEq, Int.reduceLE, Int.reduceToNat, Nat.reduceAdd, Nat.reduceLT, Nat.reduceLeDiff, locM hm, wyC, splice_all, List.length_map, hlt]) | exact Vn | ((with_reducible refine Vz ?_); refine Vo rfl rfl rfl (fun _ _ => rfl) ?_ <;> first | rfl | (rw [hF]; rfl) | skip) | ((with_reducible refine Vg (fun hg => ?_) (fun hg => ?_)) <;> (try simp only [nb] at hg) <;> simp (maxSteps:=9^7) only [ss, evLit, tab, reduceCtorEq, reduceIte, Nat.reduceEqDiff, Nat.reduceBEq, Int.reduceLE, Int.reduceToNat, Nat.reduceAdd, Nat.reduceLT, Nat.reduceLeDiff, hg, locM hm, wyC, splice_all, List.length_map, hlt]) | ((with_reducible refine Vx ?_); simp only [sb, reduceIte, Nat.reduceEqDiff]) | (refine hK _ ?_; clear hK K) | refine Vt rfl ?_ | refine Vf rfl ?_ | refine Vi rfl (fun hg => ?_) (fun hg => ?_) | clear hK K)
theorem route_two {p : Pl} (hs : Sm p) (hE : soundE p = 0) (id : Int) : (decide (idx (fun x : Rt => x.id == id) p.rts < 0) = true ∧ ofE p id = 6) ∨ (decide (idx (fun x : Rt => x.id == id) p.rts < 0) = false ∧ ofE p id = 0 ∧ (ofW p id).path ≠ []) := by
  obtain ⟨hm, hall⟩ := sound_zero hE
  rcases idx_cases (fun x : Rt => x.id == id) p.rts with ⟨z1, z2, z3⟩ | ⟨k, hk, z1, z2, z3, z4⟩
  · have hg : getR p.rts id = none := z2
    have e1 : rtE p id = 6 := by unfold rtE elE; rw [hm, hg]; rfl
    refine .inl ⟨by rw [z1]; rfl, ?_⟩
    unfold ofE; rw [e1, if_neg (by decide)]
  · have hg : getR p.rts id = some p.rts[k] := z2
    have e1 : rtE p id = 0 := by unfold rtE elE; rw [hm, hg]; rfl
    have e3 : rtO p id = p.rts[k] := by unfold rtO elD; rw [hm, hg]; rfl
    have e4 : ofE p id = 0 := by unfold ofE; rw [e1, if_pos rfl, e3]; exact (hall _ (List.getElem_mem hk)).1
    refine .inr ⟨by rw [z1]; exact decide_eq_false (by omega), e4, ?_⟩
    have g := (gone_of e4).1
    have hone := g.one
    rw [← g.path] at hone
    intro h
    rw [h] at hone; simp at hone
theorem c_rtwo (p : Pl) (hs : Sm p) (a b : Int) : ACall Tryz.prog 7 [plA p, i64 a, i64 b] [] (.tup [bool (twoB p a b), i64 (twoE p a b)]) [] := by
  have c1 := c_rcheck10 p hs
  have c2 := c_rRouteAt p.rts a (by have := hs.rts; omega)
  have c3 := c_rRouteAt p.rts b (by have := hs.rts; omega)
  have c4 := c_rOf p hs a
  have c5 := c_rOf p hs b
  obtain ⟨a1, a2, a3⟩ := ofW_tiny hs a
  obtain ⟨b1, b2, b3⟩ := ofW_tiny hs b
  have c6 := fun x y => c_ris (ofW p a) (ofW p b) x y (by omega) (by omega) (by omega) (by omega) (by omega) (by omega)
  by_cases hE : soundE p = 0
  · have ka := route_two hs hE a
    have kb := route_two hs hE b
    have bF : twoE p a b ≠ 0 → twoB p a b = false := fun h => by unfold twoB; rw [if_neg h]
    have bT : twoE p a b = 0 → twoB p a b = confW (ofW p a) (ofW p b) := fun h => by unfold twoB; rw [if_pos h]
    have eV : twoE p a b = if ofE p a ≠ 0 then ofE p a else if ofE p b ≠ 0 then ofE p b else if a = b then 2 else 0 := by unfold twoE; rw [if_neg (fun h => h hE)]
    rw [hE] at c1
    generalize twoE p a b = TE at *
    generalize twoB p a b = TB at *
    generalize confW (ofW p a) (ofW p b) = CB at *
    generalize idx (fun x : Rt => x.id == a) p.rts = IA at *
    generalize idx (fun x : Rt => x.id == b) p.rts = IB at *
    simp only [plA, plC] at c1 c4 c5
    rcases ka with ⟨d1, d2⟩ | ⟨d1, d2, d3⟩
    · rw [d2, if_pos (by decide)] at eV
      have hB := bF (by rw [eV]; decide)
      rw [hB, eV]
      clear c4 c5 c6
      refine acall_of 3 Tryz.func7 rfl fun n out _ _ => ?_
      simp only [Tryz.ntmps7, List.length_cons, List.length_nil, List.length_map, List.length_replicate, rep_map, Nat.reduceAdd, Nat.reduceSub, List.replicate, List.cons_append, List.nil_append]
      repeat' (first | (with_reducible first | refine Vk fun K hK => ?_ | refine V0 ?_ | refine Vs ?_ | apply And.intro) | ((with_reducible first | refine gE ?_ | refine gR ?_); simp (maxSteps:=9^7) only [ss, evLit, tab, reduceCtorEq, reduceIte, Nat.reduceEqDiff, Nat.reduceBEq, Int.reduceLE, Int.reduceToNat, Nat.reduceAdd, Nat.reduceLT, Nat.reduceLeDiff, plA, plC, Int.reduceBNe, d1]) | exact Vn | ((with_reducible refine Vz ?_); refine Vp rfl rfl rfl (fun _ _ => rfl) ?_ ?_ <;> first | rfl | skip) | (refine call_pure (c1) ?_) | (refine call_pure (c2) ?_) | ((with_reducible refine Vg (fun hg => ?_) (fun hg => ?_)) <;> (try simp only [nb] at hg) <;> simp (maxSteps:=9^7) only [ss, evLit, tab, reduceCtorEq, reduceIte, Nat.reduceEqDiff, Nat.reduceBEq, Int.reduceLE, Int.reduceToNat, Nat.reduceAdd, Nat.reduceLT, Nat.reduceLeDiff, hg, plA, plC, Int.reduceBNe, d1]) | (refine hK _ ?_; clear hK K) | refine Vt rfl ?_ | refine Vf rfl ?_ | refine Vi rfl (fun hg => ?_) (fun hg => ?_) | clear hK K)
    · rw [d2, if_neg (fun h => h rfl)] at eV
      rcases kb with ⟨f1, f2⟩ | ⟨f1, f2, f3⟩
      · rw [f2, if_pos (by decide)] at eV
        have hB := bF (by rw [eV]; decide)
        rw [hB, eV]
        clear c4 c5 c6
        refine acall_of 3 Tryz.func7 rfl fun n out _ _ => ?_
        simp only [Tryz.ntmps7, List.length_cons, List.length_nil, List.length_map, List.length_replicate, rep_map, Nat.reduceAdd, Nat.reduceSub, List.replicate, List.cons_append, List.nil_append]
        repeat' (first | (with_reducible first | refine Vk fun K hK => ?_ | refine V0 ?_ | refine Vs ?_ | apply And.intro) | ((with_reducible first | refine gE ?_ | refine gR ?_); simp (maxSteps:=9^7) only [ss, evLit, tab, reduceCtorEq, reduceIte, Nat.reduceEqDiff, Nat.reduceBEq, Int.reduceLE, Int.reduceToNat, Nat.reduceAdd, Nat.reduceLT, Nat.reduceLeDiff, plA, plC, Int.reduceBNe, d1, f1]) | exact Vn | ((with_reducible refine Vz ?_); refine Vp rfl rfl rfl (fun _ _ => rfl) ?_ ?_ <;> first | rfl | skip) | (refine call_pure (c1) ?_) | (refine call_pure (c2) ?_) | (refine call_pure (c3) ?_) | ((with_reducible refine Vg (fun hg => ?_) (fun hg => ?_)) <;> (try simp only [nb] at hg) <;> simp (maxSteps:=9^7) only [ss, evLit, tab, reduceCtorEq, reduceIte, Nat.reduceEqDiff, Nat.reduceBEq, Int.reduceLE, Int.reduceToNat, Nat.reduceAdd, Nat.reduceLT, Nat.reduceLeDiff, hg, plA, plC, Int.reduceBNe, d1, f1]) | (refine hK _ ?_; clear hK K) | refine Vt rfl ?_ | refine Vf rfl ?_ | refine Vi rfl (fun hg => ?_) (fun hg => ?_) | clear hK K)
      · rw [f2, if_neg (fun h => h rfl)] at eV
        by_cases hab : a = b
        · rw [if_pos hab] at eV
          have hB := bF (by rw [eV]; decide)
          have hab' : (a == b) = true := by simpa using hab
          rw [hB, eV]
          clear c4 c5 c6
          refine acall_of 3 Tryz.func7 rfl fun n out _ _ => ?_
          simp only [Tryz.ntmps7, List.length_cons, List.length_nil, List.length_map, List.length_replicate, rep_map, Nat.reduceAdd, Nat.reduceSub, List.replicate, List.cons_append, List.nil_append]
          repeat' (first | (with_reducible first | refine Vk fun K hK => ?_ | refine V0 ?_ | refine Vs ?_ | apply And.intro) | ((with_reducible first | refine gE ?_ | refine gR ?_); simp (maxSteps:=9^7) only [ss, evLit, tab, reduceCtorEq, reduceIte, Nat.reduceEqDiff, Nat.reduceBEq, Int.reduceLE, Int.reduceToNat, Nat.reduceAdd, Nat.reduceLT, Nat.reduceLeDiff, plA, plC, Int.reduceBNe, d1, f1, hab']) | exact Vn | ((with_reducible refine Vz ?_); refine Vp rfl rfl rfl (fun _ _ => rfl) ?_ ?_ <;> first | rfl | skip) | (refine call_pure (c1) ?_) | (refine call_pure (c2) ?_) | (refine call_pure (c3) ?_) | ((with_reducible refine Vg (fun hg => ?_) (fun hg => ?_)) <;> (try simp only [nb] at hg) <;> simp (maxSteps:=9^7) only [ss, evLit, tab, reduceCtorEq, reduceIte, Nat.reduceEqDiff, Nat.reduceBEq, Int.reduceLE, Int.reduceToNat, Nat.reduceAdd, Nat.reduceLT, Nat.reduceLeDiff, hg, plA, plC, Int.reduceBNe, d1, f1, hab']) | (refine hK _ ?_; clear hK K) | refine Vt rfl ?_ | refine Vf rfl ?_ | refine Vi rfl (fun hg => ?_) (fun hg => ?_) | clear hK K)
        · rw [if_neg hab] at eV
          have hB := bT eV
          have hab' : (a == b) = false := by simpa using hab
          have c7 := c6 d3 f3
          rw [d2] at c4
          rw [f2] at c5
          rw [hB, eV]
          clear c6 bT bF hB eV d3 f3 hs
          generalize ofW p a = A at *
          generalize ofW p b = C at *
          simp only [wyA, wyC] at c4 c5 c7
          refine acall_of 3 Tryz.func7 rfl fun n out _ _ => ?_
          simp only [Tryz.ntmps7, List.length_cons, List.length_nil, List.length_map, List.length_replicate, rep_map, Nat.reduceAdd, Nat.reduceSub, List.replicate, List.cons_append, List.nil_append]
          repeat' (first | (with_reducible first | refine Vk fun K hK => ?_ | refine V0 ?_ | refine Vs ?_ | apply And.intro) | ((with_reducible first | refine gE ?_ | refine gR ?_); simp (maxSteps:=9^7) only [ss, evLit, tab, reduceCtorEq, reduceIte, Nat.reduceEqDiff, Nat.reduceBEq, Int.reduceLE, Int.reduceToNat, Nat.reduceAdd, Nat.reduceLT, Nat.reduceLeDiff, plA, plC, wyC, splice_all, Int.reduceBNe, d1, f1, hab']) | exact Vn | ((with_reducible refine Vz ?_); refine Vp rfl rfl rfl (fun _ _ => rfl) ?_ ?_ <;> first | rfl | skip) | (refine call_pure (c1) ?_) | (refine call_pure (c2) ?_) | (refine call_pure (c3) ?_) | (refine call_pure (c4) ?_) | (refine call_pure (c5) ?_) | (refine call_pure (c7) ?_) | ((with_reducible refine Vg (fun hg => ?_) (fun hg => ?_)) <;> (try simp only [nb] at hg) <;> simp (maxSteps:=9^7) only [ss, evLit, tab, reduceCtorEq, reduceIte, Nat.reduceEqDiff, Nat.reduceBEq, Int.reduceLE, Int.reduceToNat, Nat.reduceAdd, Nat.reduceLT, Nat.reduceLeDiff, hg, plA, plC, wyC, splice_all, Int.reduceBNe, d1, f1, hab']) | (refine hK _ ?_; clear hK K) | refine Vt rfl ?_ | refine Vf rfl ?_ | refine Vi rfl (fun hg => ?_) (fun hg => ?_) | clear hK K)
  · have eV : twoE p a b = soundE p := by unfold twoE; rw [if_pos hE]
    have hB : twoB p a b = false := by unfold twoB; rw [eV, if_neg hE]
    have hE' : (soundE p != 0) = true := by simpa using hE
    rw [hB, eV]
    simp only [plA, plC] at c1
    generalize soundE p = E at *
    clear c4 c5 c6
    refine acall_of 3 Tryz.func7 rfl fun n out _ _ => ?_
    simp only [Tryz.ntmps7, List.length_cons, List.length_nil, List.length_map, List.length_replicate, rep_map, Nat.reduceAdd, Nat.reduceSub, List.replicate, List.cons_append, List.nil_append]
    repeat' (first | (with_reducible first | refine Vk fun K hK => ?_ | refine V0 ?_ | refine Vs ?_ | apply And.intro) | ((with_reducible first | refine gE ?_ | refine gR ?_); simp (maxSteps:=9^7) only [ss, evLit, tab, reduceCtorEq, reduceIte, Nat.reduceEqDiff, Nat.reduceBEq, Int.reduceLE, Int.reduceToNat, Nat.reduceAdd, Nat.reduceLT, Nat.reduceLeDiff, plA, plC, hE']) | exact Vn | ((with_reducible refine Vz ?_); refine Vp rfl rfl rfl (fun _ _ => rfl) ?_ ?_ <;> first | rfl | skip) | (refine call_pure (c1) ?_) | ((with_reducible refine Vg (fun hg => ?_) (fun hg => ?_)) <;> (try simp only [nb] at hg) <;> simp (maxSteps:=9^7) only [ss, evLit, tab, reduceCtorEq, reduceIte, Nat.reduceEqDiff, Nat.reduceBEq, Int.reduceLE, Int.reduceToNat, Nat.reduceAdd, Nat.reduceLT, Nat.reduceLeDiff, hg, plA, plC, hE']) | (refine hK _ ?_; clear hK K) | refine Vt rfl ?_ | refine Vf rfl ?_ | refine Vi rfl (fun hg => ?_) (fun hg => ?_) | clear hK K)
theorem two_zero {p : Pl} {a b : Int} : (twoE p a b == 0 && twoB p a b) = twoB p a b := by
  unfold twoB
  split
  · rename_i h; rw [h]; simp
  · simp
theorem c_rtable (p : Pl) (hs : Sm p) : ACall Tryz.prog 9 [plA p] [] (.tup [.sl 2 ((tabL p).map jnC) .sh, i64 (soundE p)]) [] := by
  have c1 := c_rcheck10 p hs
  have hrl := hs.rts
  by_cases hE : soundE p = 0
  · have c2 := fun a b => c_rtwo p hs a b
    obtain ⟨RL, hRL⟩ : ∃ RL, RL = tabL p := ⟨_, rfl⟩
    have hTL : RL = tabPre p p.rts.length := by rw [hRL]; unfold tabL; rw [if_pos hE]
    rw [← hRL, hE]
    rw [hE] at c1
    have hPl := tabPre_len p
    have hX0 := tabX_zero p
    have hXe := fun i (hi : i < p.rts.length) => tabX_end hi
    have hXs := fun i k (hi : i < p.rts.length) (hk : i + 1 + k < p.rts.length) => tabX_succ hi hk
    simp only [two_zero] at hXs
    have hXl : ∀ i k, i < p.rts.length → (tabX p i k).length ≤ 2000 := fun i k hi => by
      have h1 := hPl i (by omega)
      have h2 := Nat.le_trans h1 (Nat.le_trans (Nat.mul_le_mul (show i ≤ 40 by omega) hrl) (by decide : 40 * 40 ≤ 1600))
      have h3 := tabIn_len p (p.rts.getD i noRt) ((p.rts.drop (i + 1)).take k)
      rw [List.length_take, List.length_drop] at h3
      unfold tabX
      rw [List.length_append]; omega
    have hP0 : tabPre p 0 = [] := rfl
    generalize tabX p = X at *
    generalize tabPre p = PRE at *
    simp only [plA, plC] at c1 c2
    refine acall_of 3 Tryz.func9 rfl fun n out _ _ => ?_
    simp only [Tryz.ntmps9, List.length_cons, List.length_nil, List.length_map, List.length_replicate, rep_map, Nat.reduceAdd, Nat.reduceSub, List.replicate, List.cons_append, List.nil_append]
    repeat' (first | (with_reducible first | refine Vk fun K hK => ?_ | refine V0 ?_ | refine Vb ?_ | refine Vc ?_ | refine Vr ?_ | refine Vs ?_ | apply And.intro | refine Vq (by kernel_rfl) ?_) | ((with_reducible first | refine gE ?_ | refine gR ?_); simp (maxSteps:=9^7) only [ss, evLit, tab, reduceCtorEq, reduceIte, Nat.reduceEqDiff, Nat.reduceBEq, Int.reduceLE, Int.reduceToNat, Nat.reduceAdd, Nat.reduceLT, Nat.reduceLeDiff, plA, plC, Int.reduceBNe, List.length_map]) | exact Vn | ((with_reducible refine Vz ?_); refine Vp rfl rfl rfl (fun _ _ => rfl) ?_ ?_ <;> first | rfl | skip) | (refine call_pure (c1) ?_) | ((with_reducible refine Vx ?_); simp only [sb, reduceIte, Nat.reduceEqDiff]) | (refine hK _ ?_; clear hK K) | refine Vt rfl ?_ | refine Vf rfl ?_ | refine Vi rfl (fun hg => ?_) (fun hg => ?_) | clear hK K)
    refine awp_le (le_row (i := 1) 41 2 rfl) ?_
    simp only [s_0, s_s]
    refine awp_block ?_
    refine awp_for_mv (fun m (i : Nat) => [(6, i64 (i : Int)), (1, .ptr (m + 0) 0), (5, .sl 2 ((PRE i).map jnC) (.own (m + 1))), (7, .top), (8, .top), (9, .top), (15, .top), (16, .top), (17, .top), (18, .top), (19, .top), (20, .top), (21, .top), (22, .top), (23, .top), (24, .top), (25, .top), (26, .top), (27, .top), (28, .top), (29, .top), (30, .top), (31, .top), (32, .top), (33, .top), (34, .top), (35, .top), (36, .top), (37, .top), (38, .top), (39, .top), (40, .top), (41, .top), (42, .top), (43, .top), (44, .top), (45, .top), (46, .top), (47, .top), (48, .top), (49, .top), (50, .top), (51, .top), (52, .top), (53, .top), (54, .top), (55, .top), (56, .top), (57, .top), (58, .top), (59, .top), (60, .top), (61, .top), (62, .top), (63, .top), (64, .top)]) (fun m i => [some (.box 27 (plC p)), some (.row 41 2 (PRE i).length), none]) (fun i => out) (fun i => i ≤ p.rts.length) (fun i => p.rts.length - i) 0 (Nat.zero_le _) ?_ fun m i hm hi => ?_
    · refine le_of_all ?_ ?_ (by first | rfl | (simp only [plC, hP0, List.map_nil, List.length_map, List.length_nil]; rfl) | simp only [plC, hP0, List.map_nil, List.length_map, List.length_nil]) rfl rfl rfl <;> simp only [patch, sl, plC, hP0, List.map_nil, List.length_map, List.length_nil]
    simp only [patch, s_0, s_s]
    have hw := addw (n := i) 1 1 rfl (by omega)
    by_cases hlt : i < p.rts.length
    · have gi := getD_map rtC p.rts i [] hlt
      have hXi := hXe i hlt
      have hX0i := hX0 i
      have hXsi := fun k hk => hXs i k hlt hk
      have hXli := fun k => hXl i k hlt
      clear hPl hXe hX0 hXs hXl
      have hlti := hlt
      repeat' (first | (with_reducible first | refine Vk fun K hK => ?_ | refine V0 ?_ | refine Vb ?_ | refine Vc ?_ | refine Vr ?_ | refine Vs ?_ | apply And.intro | refine Vq (by kernel_rfl) ?_) | ((with_reducible first | refine gE ?_ | refine gR ?_); simp (maxSteps:=9^7) only [ss, evLit, tab, reduceCtorEq, reduceIte, Nat.reduceEqDiff, Nat.reduceBEq, Int.reduceLE, Int.reduceToNat, Nat.reduceAdd, Nat.reduceLT, Nat.reduceLeDiff, locM hm, plC, List.length_map, hlt, splice_all, hw]) | exact Vn | ((with_reducible refine Vz ?_); refine Vp rfl rfl rfl (fun _ _ => rfl) ?_ ?_ <;> first | rfl | skip) | ((with_reducible refine Vx ?_); simp only [sb, reduceIte, Nat.reduceEqDiff]) | (refine hK _ ?_; clear hK K) | refine Vt rfl ?_ | refine Vf rfl ?_ | refine Vi rfl (fun hg => ?_) (fun hg => ?_) | clear hK K)
      obtain ⟨NL, hNL⟩ : ∃ NL, NL = p.rts.length - (i + 1) := ⟨_, rfl⟩
      refine awp_block ?_
      refine awp_for_mv (fun m (k : Nat) => [(7, i64 ((i + 1 + k : Nat) : Int)), (1, .ptr (m + 0) 0), (5, .sl 2 ((X i k).map jnC) (.own (m + 1))), (8, .top), (9, .top), (24, .top), (25, .top), (26, .top), (27, .top), (28, .top), (29, .top), (30, .top), (31, .top), (32, .top), (33, .top), (34, .top), (35, .top), (36, .top), (37, .top), (38, .top), (39, .top), (40, .top), (41, .top), (42, .top), (43, .top), (44, .top), (45, .top), (46, .top), (47, .top), (48, .top), (49, .top), (50, .top), (51, .top), (52, .top), (53, .top), (54, .top), (55, .top), (56, .top), (57, .top), (58, .top), (59, .top), (60, .top), (61, .top), (62, .top), (63, .top), (64, .top)]) (fun m k => [some (.box 27 (plC p)), some (.row 41 2 (X i k).length), none]) (fun k => out) (fun k => k ≤ NL) (fun k => NL - k) 0 (Nat.zero_le _) ?_ fun m k hm hk => ?_
      · refine le_of_all ?_ ?_ (by first | rfl | (simp only [plC, hX0i, Nat.add_zero, List.length_map]; rfl) | simp only [plC, hX0i, Nat.add_zero, List.length_map]) rfl rfl rfl <;> simp only [patch, sl, plC, hX0i, Nat.add_zero, List.length_map]
      simp only [patch, s_0, s_s]
      have hw2 := addw (n := i + 1 + k) 1 1 rfl (by omega)
      by_cases hlt : k < NL
      · have hk2 : i + 1 + k < p.rts.length := by omega
        have gk := getD_map rtC p.rts (i + 1 + k) [] hk2
        have cT := c2 p.rts[i].id p.rts[i + 1 + k].id
        have hXk := hXsi k hk2
        have hXb := hXli k
        have y1 : ((X i k).length + 1) * 16 ≤ 140737488355328 := by omega
        have y2 : (X i k).length ≤ 9223372036854775806 := by omega
        have lit : ∀ (σ : AState) (K : AV → List (Nat × Res) → Prop), evLit tab σ K none 35 1 [(0, .agg [i64 p.rts[i].id, i64 p.rts[i + 1 + k].id])] = K (.sl 2 [[i64 p.rts[i].id, i64 p.rts[i + 1 + k].id]] .full) [] := fun σ K => evLit_one (T := tab) (ti := ti35) (te := ti41) rfl rfl rfl (by decide) (by decide) rfl rfl
        generalize twoE p p.rts[i].id p.rts[i + 1 + k].id = TE at *
        generalize twoB p p.rts[i].id p.rts[i + 1 + k].id = TB at *
        clear c2 hXsi hXli
        cases TB with
        | true =>
          rw [if_pos rfl] at hXk
          repeat' (first | (with_reducible first | refine Vk fun K hK => ?_ | refine V0 ?_ | refine Vb ?_ | refine Vc ?_ | refine Vr ?_ | refine Vs ?_ | apply And.intro | refine Vd 13 [] [[],[],[0],[],[],[],[],[],[0],[],[],[],[],[],[],[1],[]] [[],[],[],[],[],[],[],[],[],[],[],[],[],[],[],[1],[]] (by kernel_rfl) (by decide) (by decide) (by kernel_rfl) ?_ | refine Vq (by kernel_rfl) ?_) | ((with_reducible first | refine gE ?_ | refine gR ?_ | refine gD ?_ | refine gF ?_); simp (maxSteps:=9^7) only [ss, tab, reduceCtorEq, reduceIte, Nat.reduceEqDiff, Nat.reduceBEq, Int.reduceLE, Int.reduceToNat, Nat.reduceAdd, Nat.reduceLT, Nat.reduceLeDiff, lit, af_ii, locM hm, plC, rtC, List.length_map, hlti, hk2, gi, gk, splice_all, hw2, y1, y2]) | exact Vn | ((with_reducible refine Vz ?_); refine Vp rfl rfl rfl (fun _ _ => rfl) ?_ ?_ <;> first | rfl | skip) | (refine call_pure (cT) ?_) | ((with_reducible refine Vx ?_); simp only [sb, reduceIte, Nat.reduceEqDiff]) | (refine hK _ ?_; clear hK K) | refine Vt rfl ?_ | refine Vf rfl ?_ | refine Vi rfl (fun hg => ?_) (fun hg => ?_) | clear hK K)
          refine ⟨k + 1, by omega, by omega, ?_⟩
          rw [hXk, List.map_append, List.length_append, show i + 1 + (k + 1) = i + 1 + k + 1 from rfl]
          refine le_move [true, true, false] (fun n_ => ?_) (fun n_ => ?_) <;> simp only [patch, sm, plC, hk2, decide_true, jnC, List.map_cons, List.map_nil, List.length_cons, List.length_nil, Nat.zero_add]
        | false =>
          rw [if_neg (by decide), List.append_nil] at hXk
          repeat' (first | (with_reducible first | refine Vk fun K hK => ?_ | refine V0 ?_ | refine Vb ?_ | refine Vc ?_ | refine Vr ?_ | refine Vs ?_ | apply And.intro | refine Vq (by kernel_rfl) ?_) | ((with_reducible first | refine gE ?_ | refine gR ?_); simp (maxSteps:=9^7) only [ss, evLit, tab, reduceCtorEq, reduceIte, Nat.reduceEqDiff, Nat.reduceBEq, Int.reduceLE, Int.reduceToNat, Nat.reduceAdd, Nat.reduceLT, Nat.reduceLeDiff, locM hm, plC, rtC, List.length_map, hlti, hk2, gi, gk, splice_all, hw2]) | exact Vn | ((with_reducible refine Vz ?_); refine Vp rfl rfl rfl (fun _ _ => rfl) ?_ ?_ <;> first | rfl | skip) | (refine call_pure (cT) ?_) | ((with_reducible refine Vx ?_); simp only [sb, reduceIte, Nat.reduceEqDiff]) | (refine hK _ ?_; clear hK K) | refine Vt rfl ?_ | refine Vf rfl ?_ | refine Vi rfl (fun hg => ?_) (fun hg => ?_) | clear hK K)
          refine ⟨k + 1, by omega, by omega, ?_⟩
          rw [hXk, show i + 1 + (k + 1) = i + 1 + k + 1 from rfl]
          refine le_move [true, true, false] (fun n_ => ?_) (fun n_ => ?_) <;> simp only [patch, sm, plC, hk2, decide_true]
      · obtain rfl : k = NL := by omega
        have hXf : X i k = PRE (i + 1) := by rw [← hXi, hNL]
        have hk3 : ¬ i + 1 + k < p.rts.length := by omega
        rw [hXf]
        repeat' (first | (with_reducible first | refine Vk fun K hK => ?_ | refine V0 ?_ | refine Vb ?_ | refine Vc ?_ | refine Vr ?_ | refine Vs ?_ | apply And.intro | refine Vq (by kernel_rfl) ?_) | ((with_reducible first | refine gE ?_ | refine gR ?_); simp (maxSteps:=9^7) only [ss, evLit, tab, reduceCtorEq, reduceIte, Nat.reduceEqDiff, Nat.reduceBEq, Int.reduceLE, Int.reduceToNat, Nat.reduceAdd, Nat.reduceLT, Nat.reduceLeDiff, locM hm, plC, splice_all, List.length_map, hk3, hw]) | exact Vn | ((with_reducible refine Vz ?_); refine Vp rfl rfl rfl (fun _ _ => rfl) ?_ ?_ <;> first | rfl | skip) | ((with_reducible refine Vx ?_); simp only [sb, reduceIte, Nat.reduceEqDiff]) | (refine hK _ ?_; clear hK K) | refine Vt rfl ?_ | refine Vf rfl ?_ | refine Vi rfl (fun hg => ?_) (fun hg => ?_) | clear hK K)
        refine ⟨i + 1, by omega, by omega, ?_⟩
        refine le_move [true, true, false] (fun n_ => ?_) (fun n_ => ?_) <;> simp only [patch, sm, plC, hlti, decide_true]
    · obtain rfl : i = p.rts.length := by omega
      rw [← hTL]
      repeat' (first | (with_reducible first | refine Vk fun K hK => ?_ | refine V0 ?_ | refine Vb ?_ | refine Vc ?_ | refine Vr ?_ | refine Vs ?_ | apply And.intro | refine Vq (by kernel_rfl) ?_) | ((with_reducible first | refine gE ?_ | refine gR ?_); simp (maxSteps:=9^7) only [ss, evLit, tab, reduceCtorEq, reduceIte, Nat.reduceEqDiff, Nat.reduceBEq, Int.reduceLE, Int.reduceToNat, Nat.reduceAdd, Nat.reduceLT, Nat.reduceLeDiff, locM hm, plC, List.length_map, hlt, splice_all]) | exact Vn | ((with_reducible refine Vz ?_); refine ret_tmps_le (.inr rfl) rfl rfl rfl (fun _ _ => rfl) rfl rfl ?_ ?_ <;> first | rfl | (exact AV.le.rfl _) | (simp only [patch, sl, locM hm, plC, List.length_map, hlt, splice_all]; done) | rfl | skip) | ((with_reducible refine Vx ?_); simp only [sb, reduceIte, Nat.reduceEqDiff]) | (refine hK _ ?_; clear hK K) | refine Vt rfl ?_ | refine Vf rfl ?_ | refine Vi rfl (fun hg => ?_) (fun hg => ?_) | clear hK K)
  · have e1 : tabL p = [] := by unfold tabL; rw [if_neg hE]
    have hE' : (soundE p != 0) = true := by simpa using hE
    rw [e1]
    simp only [plA, plC] at c1
    refine acall_of 3 Tryz.func9 rfl fun n out _ _ => ?_
    simp only [Tryz.ntmps9, List.length_cons, List.length_nil, List.length_map, List.length_replicate, rep_map, Nat.reduceAdd, Nat.reduceSub, List.replicate, List.cons_append, List.nil_append]
    repeat' (first | (with_reducible first | refine Vk fun K hK => ?_ | refine V0 ?_ | refine Vb ?_ | refine Vc ?_ | refine Vr ?_ | refine Vs ?_ | apply And.intro | refine Vq (by kernel_rfl) ?_) | ((with_reducible first | refine gE ?_ | refine gR ?_); simp (maxSteps:=9^7) only [ss, evLit, tab, reduceCtorEq, reduceIte, Nat.reduceEqDiff, Nat.reduceBEq, Int.reduceLE, Int.reduceToNat, Nat.reduceAdd, Nat.reduceLT, Nat.reduceLeDiff, plA, plC, hE', List.map_nil]) | exact Vn | ((with_reducible refine Vz ?_); refine ret_tmps_le (.inr rfl) rfl rfl rfl (fun _ _ => rfl) rfl rfl ?_ ?_ <;> first | rfl | (exact AV.le.rfl _) | (simp only [patch, sl, plA, plC, hE', List.map_nil]; done) | rfl | skip) | (refine call_pure (c1) ?_) | ((with_reducible refine Vx ?_); simp only [sb, reduceIte, Nat.reduceEqDiff]) | (refine hK _ ?_; clear hK K) | refine Vt rfl ?_ | refine Vf rfl ?_ | refine Vi rfl (fun hg => ?_) (fun hg => ?_) | clear hK K)
theorem tabL_len {p : Pl} (hs : Sm p) : (tabL p).length ≤ 1600 := by
  unfold tabL
  split
  · exact Nat.le_trans (tabPre_len p _ (Nat.le_refl _)) (Nat.le_trans (Nat.mul_le_mul hs.rts hs.rts) (by decide))
  · exact Nat.zero_le _
theorem c_lawCTells (p : Pl) (a b : Int) : ACall Tryz.prog 3 [plA p, i64 a, i64 b] [] (bool true) [] := by
  have cg := c_rgreat p
  simp only [plA, plC] at cg
  cases hG : greatP p with
  | true =>
    rw [hG] at cg
    refine acall_of 2 Tryz.func3 rfl fun n out _ _ => ?_
    simp only [Tryz.ntmps3, List.length_cons, List.length_nil, List.length_map, List.length_replicate, rep_map, Nat.reduceAdd, Nat.reduceSub, List.replicate, List.cons_append, List.nil_append]
    repeat' (first | (with_reducible first | refine Vk fun K hK => ?_ | refine V0 ?_ | refine Vb ?_ | refine Vc ?_ | refine Vr ?_ | refine Vs ?_ | apply And.intro | refine Vq (by kernel_rfl) ?_) | ((with_reducible first | refine gE ?_ | refine gR ?_); simp (maxSteps:=9^7) only [ss, evLit, tab, reduceCtorEq, reduceIte, Nat.reduceEqDiff, Nat.reduceBEq, Int.reduceLE, Int.reduceToNat, Nat.reduceAdd, Nat.reduceLT, Nat.reduceLeDiff, plA, plC]) | exact Vn | ((with_reducible refine Vz ?_); refine Vo rfl rfl rfl (fun _ _ => rfl) ?_ <;> first | rfl | skip) | (refine call_pure (cg) ?_) | ((with_reducible refine Vg (fun hg => ?_) (fun hg => ?_)) <;> (try simp only [nb] at hg) <;> simp (maxSteps:=9^7) only [ss, evLit, tab, reduceCtorEq, reduceIte, Nat.reduceEqDiff, Nat.reduceBEq, Int.reduceLE, Int.reduceToNat, Nat.reduceAdd, Nat.reduceLT, Nat.reduceLeDiff, hg, plA, plC]) | ((with_reducible refine Vx ?_); simp only [sb, reduceIte, Nat.reduceEqDiff]) | (refine hK _ ?_; clear hK K) | refine Vt rfl ?_ | refine Vf rfl ?_ | refine Vi rfl (fun hg => ?_) (fun hg => ?_) | ((first | show Program.eqGuardType _ _ _ = false | show numFieldsB _ _ _ = true | show Program.stoodInHeld _ _ = false); kernel_rfl) | clear hK K)
  | false =>
    rw [hG] at cg
    have hs := small_of hG
    have c1 := c_two p hs a b
    have c2 := c_rtwo p hs a b
    have c3 := c_rtwinP p hs
    have c4 := c_rsameP p p hs
    have c5 := c_table p hs
    have c6 := c_rtable p hs
    have hTn := tabL_len hs
    rw [sameP_refl] at c4
    simp only [plA, plC] at c1 c2 c3 c4 c5 c6
    generalize soundE p = E at *
    generalize twoE p a b = TE at *
    generalize twoB p a b = TB at *
    generalize tabL p = TL at *
    refine acall_of 2 Tryz.func3 rfl fun n out _ _ => ?_
    simp only [Tryz.ntmps3, List.length_cons, List.length_nil, List.length_map, List.length_replicate, rep_map, Nat.reduceAdd, Nat.reduceSub, List.replicate, List.cons_append, List.nil_append]
    repeat' (first | (with_reducible first | refine Vk fun K hK => ?_ | refine V0 ?_ | refine Vb ?_ | refine Vc ?_ | refine Vr ?_ | refine Vs ?_ | apply And.intro | refine Vq (by kernel_rfl) ?_) | ((with_reducible first | refine gE ?_ | refine gR ?_); simp (maxSteps:=9^7) only [ss, evLit, tab, reduceCtorEq, reduceIte, Nat.reduceEqDiff, Nat.reduceBEq, Int.reduceLE, Int.reduceToNat, Nat.reduceAdd, Nat.reduceLT, Nat.reduceLeDiff, plA, plC, splice_all, bne_self_eq_false, Bool.not_true]) | exact Vn | ((with_reducible refine Vz ?_); refine Vo rfl rfl rfl (fun _ _ => rfl) ?_ <;> first | rfl | skip) | (refine call_pure (cg) ?_) | (refine call_pure (c1) ?_) | (refine call_pure (c2) ?_) | (refine call_pure (c3) ?_) | (refine call_pure (c4) ?_) | (refine call_pure (c5) ?_) | (refine call_pure (c6) ?_) | ((with_reducible refine Vg (fun hg => ?_) (fun hg => ?_)) <;> (try simp only [nb] at hg) <;> simp (maxSteps:=9^7) only [ss, evLit, tab, reduceCtorEq, reduceIte, Nat.reduceEqDiff, Nat.reduceBEq, Int.reduceLE, Int.reduceToNat, Nat.reduceAdd, Nat.reduceLT, Nat.reduceLeDiff, hg, plA, plC, splice_all, bne_self_eq_false, Bool.not_true]) | ((with_reducible refine Vx ?_); simp only [sb, reduceIte, Nat.reduceEqDiff]) | (refine hK _ ?_; clear hK K) | refine Vt rfl ?_ | refine Vf rfl ?_ | refine Vi rfl (fun hg => ?_) (fun hg => ?_) | ((first | show Program.eqGuardType _ _ _ = false | show numFieldsB _ _ _ = true | show Program.stoodInHeld _ _ = false); kernel_rfl) | clear hK K)
    refine awp_block ?_
    refine awp_for_mv (fun m (i : Nat) => [(16, i64 (i : Int)), (3, .ptr (m + 0) 0), (7, .ptr (m + 1) 0), (6, .top), (71, .top), (72, .top), (73, .top), (74, .top), (75, .top), (76, .top), (77, .top), (78, .top), (79, .top), (80, .top), (81, .top), (82, .top), (83, .top), (84, .top), (85, .top)]) (fun m i => [some (.box 27 (plC p)), some (.box 27 (plC p))]) (fun i => out) (fun i => i ≤ TL.length) (fun i => TL.length - i) 0 (Nat.zero_le _) ?_ fun m i hm hi => ?_
    · refine le_of_all ?_ ?_ (by first | rfl | (simp only [plC]; rfl) | simp only [plC]) rfl rfl rfl <;> simp only [patch, sl, plC]
    simp only [patch, s_0, s_s]
    have hw := addw (n := i) 1 1 rfl (by omega)
    by_cases hlt : i < TL.length
    · have gi := getD_map jnC TL i [] hlt
      repeat' (first | (with_reducible first | refine Vk fun K hK => ?_ | refine V0 ?_ | refine Vb ?_ | refine Vc ?_ | refine Vr ?_ | refine Vs ?_ | apply And.intro | refine Vq (by kernel_rfl) ?_) | ((with_reducible first | refine gE ?_ | refine gR ?_); simp (maxSteps:=9^7) only [ss, evLit, tab, reduceCtorEq, reduceIte, Nat.reduceEqDiff, Nat.reduceBEq, Int.reduceLE, Int.reduceToNat, Nat.reduceAdd, Nat.reduceLT, Nat.reduceLeDiff, locM hm, jnC, splice_all, List.length_map, hlt, gi, evEq_ii, beq_self_eq_true, Bool.and_self, Bool.not_true, hw]) | exact Vn | ((with_reducible refine Vz ?_); refine Vo rfl rfl rfl (fun _ _ => rfl) ?_ <;> first | rfl | skip) | ((with_reducible refine Vg (fun hg => ?_) (fun hg => ?_)) <;> (try simp only [nb] at hg) <;> simp (maxSteps:=9^7) only [ss, evLit, tab, reduceCtorEq, reduceIte, Nat.reduceEqDiff, Nat.reduceBEq, Int.reduceLE, Int.reduceToNat, Nat.reduceAdd, Nat.reduceLT, Nat.reduceLeDiff, hg, locM hm, jnC, splice_all, List.length_map, hlt, gi, evEq_ii, beq_self_eq_true, Bool.and_self, Bool.not_true, hw]) | ((with_reducible refine Vx ?_); simp only [sb, reduceIte, Nat.reduceEqDiff]) | (refine hK _ ?_; clear hK K) | refine Vt rfl ?_ | refine Vf rfl ?_ | refine Vi rfl (fun hg => ?_) (fun hg => ?_) | ((first | show Program.eqGuardType _ _ _ = false | show numFieldsB _ _ _ = true | show Program.stoodInHeld _ _ = false); kernel_rfl) | clear hK K)
      refine ⟨i + 1, by omega, by omega, ?_⟩
      refine le_move [true, true] (fun n_ => ?_) (fun n_ => ?_) <;> simp only [patch, sm, plC, hlt, decide_true]
    · repeat' (first | (with_reducible first | refine Vk fun K hK => ?_ | refine V0 ?_ | refine Vb ?_ | refine Vc ?_ | refine Vr ?_ | refine Vs ?_ | apply And.intro | refine Vq (by kernel_rfl) ?_) | ((with_reducible first | refine gE ?_ | refine gR ?_); simp (maxSteps:=9^7) only [ss, evLit, tab, reduceCtorEq, reduceIte, Nat.reduceEqDiff, Nat.reduceBEq, Int.reduceLE, Int.reduceToNat, Nat.reduceAdd, Nat.reduceLT, Nat.reduceLeDiff, locM hm, List.length_map, hlt]) | exact Vn | ((with_reducible refine Vz ?_); refine Vo rfl rfl rfl (fun _ _ => rfl) ?_ <;> first | rfl | skip) | ((with_reducible refine Vg (fun hg => ?_) (fun hg => ?_)) <;> (try simp only [nb] at hg) <;> simp (maxSteps:=9^7) only [ss, evLit, tab, reduceCtorEq, reduceIte, Nat.reduceEqDiff, Nat.reduceBEq, Int.reduceLE, Int.reduceToNat, Nat.reduceAdd, Nat.reduceLT, Nat.reduceLeDiff, hg, locM hm, List.length_map, hlt]) | ((with_reducible refine Vx ?_); simp only [sb, reduceIte, Nat.reduceEqDiff]) | (refine hK _ ?_; clear hK K) | refine Vt rfl ?_ | refine Vf rfl ?_ | refine Vi rfl (fun hg => ?_) (fun hg => ?_) | ((first | show Program.eqGuardType _ _ _ = false | show numFieldsB _ _ _ = true | show Program.stoodInHeld _ _ = false); kernel_rfl) | clear hK K)
end Go.Proofs.YtcfkieacdjcaoaaGreat.Pln
