/-
  A walk along a route: which ends are right; signals by their numbers.
-/
import Derived.Test.YtcfkieacdjcaoaaZGA
import Derived.Test.YtcfkieacdjcaoaaZWC
namespace Go.Proofs.Ytcfkieacdjcaoaa.Pln
set_option linter.unusedVariables false
set_option linter.unusedSimpArgs false
open Go Go.VS Tab
set_option maxHeartbeats 8000000
set_option maxRecDepth 4000
theorem evEq_jj (a b : Int × Int) : evEq [i64 a.1, i64 a.2] [i64 b.1, i64 b.2] = some (a == b) := by
  have : (a == b) = (a.1 == b.1 && a.2 == b.2) := rfl
  rw [this]; simp [evEq]
theorem c_right1 (e : Int) (j : Int × Int) : ACall Try.prog 91 [i64 e, jnA j] [] (bool (j == (0, 0))) [] := by
  have h := evEq_jj j (0, 0)
  dsimp only at h
  refine acall_of 1 Try.func91 rfl fun n out _ _ => ?_
  simp only [Try.ntmps91, List.length_cons, List.length_nil, List.length_map, List.length_replicate, rep_map, Nat.reduceAdd, Nat.reduceSub, List.replicate, List.cons_append, List.nil_append]
  repeat' (first | (with_reducible first | refine Vk fun K hK => ?_ | refine V0 ?_ | refine Vs ?_ | apply And.intro) | ((with_reducible first | refine gE ?_ | refine gR ?_); simp (maxSteps:=9^7) only [ss, evLit, tab, reduceCtorEq, reduceIte, Nat.reduceEqDiff, Nat.reduceBEq, Int.reduceLE, Int.reduceToNat, Nat.reduceAdd, Nat.reduceLT, Nat.reduceLeDiff, jnA, jnC, splice_all, h]) | exact Vn | ((with_reducible refine Vz ?_); refine Vo rfl rfl rfl (fun _ _ => rfl) ?_ <;> first | rfl | skip) | (refine hK _ ?_; clear hK K) | ((first | show Program.eqGuardType _ _ _ = false | show numFieldsB _ _ _ = true | show Program.stoodInHeld _ _ = false); kernel_rfl) | clear hK K)
theorem c_right2 (s : Int) (x : Int × Int × Int) (e : Int) (j : Int × Int) : ACall Try.prog 92 [i64 e, jnA j, .ref [i64 s], .ref (sgC x)] [] (bool (s == x.2.1 && e == x.2.2)) [] := by
  refine acall_of 1 Try.func92 rfl fun n out _ _ => ?_
  simp only [Try.ntmps92, List.length_cons, List.length_nil, List.length_map, List.length_replicate, rep_map, Nat.reduceAdd, Nat.reduceSub, List.replicate, List.cons_append, List.nil_append]
  repeat' (first | (with_reducible first | refine Vk fun K hK => ?_ | refine V0 ?_ | refine Vs ?_ | apply And.intro) | ((with_reducible first | refine gE ?_ | refine gR ?_); simp (maxSteps:=9^7) only [ss, evLit, tab, reduceCtorEq, reduceIte, Nat.reduceEqDiff, Nat.reduceBEq, Int.reduceLE, Int.reduceToNat, Nat.reduceAdd, Nat.reduceLT, Nat.reduceLeDiff, jnA, jnC, sgC, splice_all]) | exact Vn | ((with_reducible refine Vz ?_); refine Vo rfl rfl rfl (fun _ _ => rfl) ?_ <;> first | rfl | (first | rfl | (simp only [g_0, g_s]; refine congrArg VS.bool ?_; rw [Bool.eq_iff_iff]; first | (simp [] at * <;> omega) | (simp_all [] <;> omega))) | skip) | ((with_reducible refine Vg (fun hg => ?_) (fun hg => ?_)) <;> (try simp only [nb] at hg) <;> simp (maxSteps:=9^7) only [ss, evLit, tab, reduceCtorEq, reduceIte, Nat.reduceEqDiff, Nat.reduceBEq, Int.reduceLE, Int.reduceToNat, Nat.reduceAdd, Nat.reduceLT, Nat.reduceLeDiff, hg, jnA, jnC, sgC, splice_all]) | (refine hK _ ?_; clear hK K) | clear hK K)
theorem c_right3 (l : List Int) (i : Nat) (hi : i + 1 < l.length) (hl : l.length ≤ 1000000) (e : Int) (j : Int × Int) : ACall Try.prog 94 [i64 e, jnA j, .ref [ints l], .ref [i64 (i : Int)]] [] (bool (j.1 == l.getD (i + 1) 0)) [] := by
  have gi := getD_map intC l (i + 1) [] hi
  have gd : l.getD (i + 1) 0 = l[i + 1] := by simp [List.getD_eq_getElem?_getD, hi]
  have hw := addw (n := i) 1 1 rfl (by omega)
  rw [gd]
  refine acall_of 1 Try.func94 rfl fun n out _ _ => ?_
  simp only [Try.ntmps94, List.length_cons, List.length_nil, List.length_map, List.length_replicate, rep_map, Nat.reduceAdd, Nat.reduceSub, List.replicate, List.cons_append, List.nil_append]
  repeat' (first | (with_reducible first | refine Vk fun K hK => ?_ | refine V0 ?_ | refine Vs ?_ | apply And.intro | refine Vd 1 [] [[],[0],[],[],[],[],[],[],[]] [[],[],[],[],[],[],[],[],[]] (by kernel_rfl) (by decide) (by decide) (by kernel_rfl) ?_ | refine Vq (by kernel_rfl) ?_) | ((with_reducible first | refine gE ?_ | refine gR ?_ | refine gD ?_ | refine gF ?_); simp (maxSteps:=9^7) only [ss, evLit, tab, reduceCtorEq, reduceIte, Nat.reduceEqDiff, Nat.reduceBEq, Int.reduceLE, Int.reduceToNat, Nat.reduceAdd, Nat.reduceLT, Nat.reduceLeDiff, jnA, jnC, intC, splice_all, List.length_map, hi, gi, hw]) | exact Vn | ((with_reducible refine Vz ?_); refine Vo rfl rfl rfl (fun _ _ => rfl) ?_ <;> first | rfl | skip) | (refine hK _ ?_; clear hK K) | clear hK K)
def lastG (l : List (Int × Int × Int)) (n : Int) : Int × Int × Int := l.foldl (fun o x => if (x.1 == n) = true then x else o) (0, 0, 0)
theorem lastG_succ {l : List (Int × Int × Int)} {i : Nat} (hi : i < l.length) (n : Int) : lastG (l.take (i + 1)) n = if (l[i].1 == n) = true then l[i] else lastG (l.take i) n := by
  unfold lastG
  rw [List.take_succ_eq_append_getElem hi, List.foldl_append]; rfl
theorem lastG_nil (n : Int) : lastG [] n = (0, 0, 0) := rfl
theorem c_signal (p : Pl) (n' : Int) (hl : p.sgs.length ≤ 1000000) : ACall Try.prog 88 [plA p, i64 n'] [] (sgA (lastG p.sgs n')) [] := by
  refine acall_of 3 Try.func88 rfl fun n out _ _ => ?_
  simp only [Try.ntmps88, List.length_cons, List.length_nil, List.length_map, List.length_replicate, rep_map, Nat.reduceAdd, Nat.reduceSub, List.replicate, List.cons_append, List.nil_append]
  repeat' (first | (with_reducible first | refine Vk fun K hK => ?_ | refine V0 ?_ | refine Vb ?_ | refine Vc ?_ | refine Vr ?_ | refine Vs ?_ | apply And.intro) | ((with_reducible first | refine gE ?_ | refine gR ?_); simp (maxSteps:=9^7) only [ss, evLit, tab, reduceCtorEq, reduceIte, Nat.reduceEqDiff, Nat.reduceBEq, Int.reduceLE, Int.reduceToNat, Nat.reduceAdd, Nat.reduceLT, Nat.reduceLeDiff, plA, plC, List.length_map]) | exact Vn | ((with_reducible refine Vz ?_); (first | refine ret_cell_le (.inr rfl) rfl rfl rfl (fun _ _ => rfl) ok36 (k := n + 1) (off := 0) rfl (dom_loc _ (by simp)) (look_loc _ (Nat.le_refl _) 1) rfl ?_ | refine ret_cell_le (.inr rfl) rfl rfl rfl (fun _ _ => rfl) ok36 (k := m + 1) (off := 0) rfl (dom_loc _ (by simp)) (look_loc _ hm 1) rfl ?_) <;> first | rfl | exact AV.le.rfl _ | (simp only [patch, sl, ti36, List.map_nil, plA, plC, List.length_map]; done) | rfl | skip) | ((with_reducible refine Vx ?_); simp only [sb, reduceIte, Nat.reduceEqDiff]) | (refine hK _ ?_; clear hK K) | refine Vt rfl ?_ | refine Vf rfl ?_ | refine Vi rfl (fun hg => ?_) (fun hg => ?_) | clear hK K)
  refine awp_block ?_
  refine awp_for_mv (fun m (i : Nat) => [(10, i64 (i : Int)), (2, .ptr (m + 0) 0), (4, .ptr (m + 1) 0), (6, .top), (11, .top), (12, .top), (13, .top), (14, .top), (15, .top), (16, .top), (17, .top), (18, .top), (19, .top)]) (fun m i => [some (.box 27 (plC p)), some (.box 36 (sgC (lastG (p.sgs.take i) n'))), none]) (fun i => out) (fun i => i ≤ p.sgs.length) (fun i => p.sgs.length - i) 0 (Nat.zero_le _) ?_ fun m i hm hi => ?_
  · refine le_of_all ?_ ?_ (by first | rfl | (simp only [plC, sgC, List.take_zero, lastG_nil, List.length_map]; rfl) | simp only [plC, sgC, List.take_zero, lastG_nil, List.length_map]) rfl rfl rfl <;> simp only [patch, sl, plC, sgC, List.take_zero, lastG_nil, List.length_map]
  simp only [patch, s_0, s_s]
  have hw := addw (n := i) 1 1 rfl (by omega)
  by_cases hlt : i < p.sgs.length
  · have gi := getD_map sgC p.sgs i [] hlt
    have hsu := lastG_succ hlt n'
    cases hb : (p.sgs[i].1 == n') with
    | false =>
      rw [hb, if_neg (by decide)] at hsu
      repeat' (first | (with_reducible first | refine Vk fun K hK => ?_ | refine V0 ?_ | refine Vb ?_ | refine Vc ?_ | refine Vr ?_ | refine Vs ?_ | apply And.intro) | ((with_reducible first | refine gE ?_ | refine gR ?_); simp (maxSteps:=9^7) only [ss, evLit, tab, reduceCtorEq, reduceIte, Nat.reduceEqDiff, Nat.reduceBEq, Int.reduceLE, Int.reduceToNat, Nat.reduceAdd, Nat.reduceLT, Nat.reduceLeDiff, locM hm, plC, sgC, List.length_map, hlt, gi, splice_all, hb, hw]) | exact Vn | ((with_reducible refine Vz ?_); (first | refine ret_cell_le (.inr rfl) rfl rfl rfl (fun _ _ => rfl) ok36 (k := n + 1) (off := 0) rfl (dom_loc _ (by simp)) (look_loc _ (Nat.le_refl _) 1) rfl ?_ | refine ret_cell_le (.inr rfl) rfl rfl rfl (fun _ _ => rfl) ok36 (k := m + 1) (off := 0) rfl (dom_loc _ (by simp)) (look_loc _ hm 1) rfl ?_) <;> first | rfl | exact AV.le.rfl _ | (simp only [patch, sl, ti36, List.map_nil, locM hm, plC, sgC, List.length_map, hlt, gi, splice_all, hb, hw]; done) | rfl | skip) | ((with_reducible refine Vx ?_); simp only [sb, reduceIte, Nat.reduceEqDiff]) | (refine hK _ ?_; clear hK K) | refine Vt rfl ?_ | refine Vf rfl ?_ | refine Vi rfl (fun hg => ?_) (fun hg => ?_) | clear hK K)
      refine ⟨i + 1, by omega, by omega, ?_⟩
      rw [hsu]
      refine le_move [true, true, false] (fun n_ => ?_) (fun n_ => ?_) <;> simp only [patch, sm, plC, sgC, hlt, decide_true]
    | true =>
      rw [hb, if_pos rfl] at hsu
      repeat' (first | (with_reducible first | refine Vk fun K hK => ?_ | refine V0 ?_ | refine Vb ?_ | refine Vc ?_ | refine Vr ?_ | refine Vs ?_ | apply And.intro) | ((with_reducible first | refine gE ?_ | refine gR ?_); simp (maxSteps:=9^7) only [ss, evLit, tab, reduceCtorEq, reduceIte, Nat.reduceEqDiff, Nat.reduceBEq, Int.reduceLE, Int.reduceToNat, Nat.reduceAdd, Nat.reduceLT, Nat.reduceLeDiff, locM hm, plC, sgC, List.length_map, hlt, gi, splice_all, hb, hw]) | exact Vn | ((with_reducible refine Vz ?_); (first | refine ret_cell_le (.inr rfl) rfl rfl rfl (fun _ _ => rfl) ok36 (k := n + 1) (off := 0) rfl (dom_loc _ (by simp)) (look_loc _ (Nat.le_refl _) 1) rfl ?_ | refine ret_cell_le (.inr rfl) rfl rfl rfl (fun _ _ => rfl) ok36 (k := m + 1) (off := 0) rfl (dom_loc _ (by simp)) (look_loc _ hm 1) rfl ?_) <;> first | rfl | exact AV.le.rfl _ | (simp only [patch, sl, ti36, List.map_nil, locM hm, plC, sgC, List.length_map, hlt, gi, splice_all, hb, hw]; done) | rfl | skip) | ((with_reducible refine Vx ?_); simp only [sb, reduceIte, Nat.reduceEqDiff]) | (refine hK _ ?_; clear hK K) | refine Vt rfl ?_ | refine Vf rfl ?_ | refine Vi rfl (fun hg => ?_) (fun hg => ?_) | clear hK K)
      refine ⟨i + 1, by omega, by omega, ?_⟩
      rw [hsu]
      refine le_move [true, true, false] (fun n_ => ?_) (fun n_ => ?_) <;> simp only [patch, sm, plC, sgC, hlt, decide_true]
  · obtain rfl : i = p.sgs.length := by omega
    rw [List.take_length]
    repeat' (first | (with_reducible first | refine Vk fun K hK => ?_ | refine V0 ?_ | refine Vb ?_ | refine Vc ?_ | refine Vr ?_ | refine Vs ?_ | apply And.intro) | ((with_reducible first | refine gE ?_ | refine gR ?_); simp (maxSteps:=9^7) only [ss, evLit, tab, reduceCtorEq, reduceIte, Nat.reduceEqDiff, Nat.reduceBEq, Int.reduceLE, Int.reduceToNat, Nat.reduceAdd, Nat.reduceLT, Nat.reduceLeDiff, locM hm, plC, sgC, sgA, List.length_map, hlt]) | exact Vn | ((with_reducible refine Vz ?_); (first | refine ret_cell_le (.inr rfl) rfl rfl rfl (fun _ _ => rfl) ok36 (k := n + 1) (off := 0) rfl (dom_loc _ (by simp)) (look_loc _ (Nat.le_refl _) 1) rfl ?_ | refine ret_cell_le (.inr rfl) rfl rfl rfl (fun _ _ => rfl) ok36 (k := m + 1) (off := 0) rfl (dom_loc _ (by simp)) (look_loc _ hm 1) rfl ?_) <;> first | rfl | exact AV.le.rfl _ | (simp only [patch, sl, ti36, List.map_nil, locM hm, plC, sgC, sgA, List.length_map, hlt]; done) | rfl | skip) | ((with_reducible refine Vx ?_); simp only [sb, reduceIte, Nat.reduceEqDiff]) | (refine hK _ ?_; clear hK K) | refine Vt rfl ?_ | refine Vf rfl ?_ | refine Vi rfl (fun hg => ?_) (fun hg => ?_) | clear hK K)
    all_goals (refine awp_ret ?_; exact ret_cell_le (.inr rfl) rfl rfl rfl (fun _ _ => rfl) ok36 (k := m + 1) (off := 0) rfl (dom_loc _ (by simp)) (look_loc _ hm 1) rfl (AV.le.rfl _))
end Go.Proofs.Ytcfkieacdjcaoaa.Pln
