/-
  The chapter's plan; the first examples.
-/
import Derived.Test.YtdkiciofkifpdaaZGA
import Derived.Test.YtdkiciofkifpdaaZPP
import Derived.KernelRfl
namespace Go.Proofs.Ytdkiciofkifpdaa.Pln
set_option linter.unusedVariables false
set_option linter.unusedSimpArgs false
open Go Go.VS Tab
set_option maxHeartbeats 8000000
set_option maxRecDepth 8000
def exS1 : Sec := ⟨1, 0, [(2, 0), (0, 0)]⟩
def exS2 : Sec := ⟨2, 5, [(1, 0), (3, 0), (3, 1)]⟩
def exS3 : Sec := ⟨3, 0, [(2, 1), (2, 2)]⟩
def exR : Rt := ⟨8, 4, 0, [2, 3], [], [], 3⟩
def exP : Pl := ⟨2, 1, [exS1, exS2, exS3], [(5, 2)], [(4, 1, 0)], [exR]⟩
theorem c_one : ACall Try.prog 23 [] [] (plA exP) [] := by
  refine acall_of 1 Try.func23 rfl fun n out _ _ => ?_
  simp only [Try.ntmps23, List.length_cons, List.length_nil, List.length_map, List.length_replicate, rep_map, Nat.reduceAdd, Nat.reduceSub, List.replicate, List.cons_append, List.nil_append]
  repeat' (first | (with_reducible first | refine Vk fun K hK => ?_ | refine V0 ?_ | refine Vs ?_ | apply And.intro) | ((with_reducible first | refine gE ?_ | refine gR ?_); simp (maxSteps:=9^7) only [ss, tab, reduceCtorEq, reduceIte, Nat.reduceEqDiff, Nat.reduceBEq, Int.reduceLE, Int.reduceToNat, Nat.reduceAdd, Nat.reduceLT, Nat.reduceLeDiff, splice_all, plA, plC, exP, exS1, exS2, exS3, exR, secC, jnC, sgC, rtC, intC, List.map_cons, List.map_nil]) | exact Vn | ((with_reducible refine Vz ?_); (first | refine ret_cell_le (.inr rfl) rfl rfl rfl (fun _ _ => rfl) ok27 (k := n + 0) (off := 0) rfl (dom_loc _ (by simp)) (look_loc _ (Nat.le_refl _) 0) rfl ?_ | refine ret_cell_le (.inr rfl) rfl rfl rfl (fun _ _ => rfl) ok27 (k := m + 0) (off := 0) rfl (dom_loc _ (by simp)) (look_loc _ hm 0) rfl ?_) <;> first | rfl | exact AV.le.rfl _ | (simp only [patch, sl, ti27, List.map_nil, splice_all, plA, plC, exP, exS1, exS2, exS3, exR, secC, jnC, sgC, rtC, intC, List.map_cons, List.map_nil]; done) | rfl | skip) | (refine evLit_of 2 [[i64 2, i64 0], [i64 0, i64 0]] rfl ?_) | (refine evLit_of 2 [[i64 1, i64 0], [i64 3, i64 0], [i64 3, i64 1]] rfl ?_) | (refine evLit_of 2 [[i64 2, i64 1], [i64 2, i64 2]] rfl ?_) | (refine evLit_of 3 [[i64 1, i64 0, .sl 2 [[i64 2, i64 0], [i64 0, i64 0]] .full], [i64 2, i64 5, .sl 2 [[i64 1, i64 0], [i64 3, i64 0], [i64 3, i64 1]] .full], [i64 3, i64 0, .sl 2 [[i64 2, i64 1], [i64 2, i64 2]] .full]] rfl ?_) | (refine evLit_of 2 [[i64 5, i64 2]] rfl ?_) | (refine evLit_of 3 [[i64 4, i64 1, i64 0]] rfl ?_) | (refine evLit_of 1 [[i64 2], [i64 3]] rfl ?_) | (refine evLit_of 7 [[i64 8, i64 4, i64 0, .sl 1 [[i64 2], [i64 3]] .full, .sl 0 [] .nil, .sl 0 [] .nil, i64 3]] rfl ?_) | (refine hK _ ?_; clear hK K) | clear hK K)
theorem evEq_iii (a b c d e f : Int) : evEq [i64 a, i64 b, i64 c] [i64 d, i64 e, i64 f] = some (a == d && (b == e && c == f)) := by simp [evEq]
theorem exP_sm : Sm exP := ⟨by decide, by decide, by decide, by decide, by decide, by decide⟩
theorem exP_may : mayP exP = true := by kernel_rfl
theorem c_alive : ACall Try.prog 19 [] [] (bool true) [] := by
  have h1 := c_pPoint exP exP_sm 5
  rw [show elD (mayP exP) (getP exP.pts 5) (0, 0) = (5, 2) by kernel_rfl, show elE (mayP exP) (getP exP.pts 5) = 0 by kernel_rfl] at h1
  have h2 := c_pSignal exP exP_sm 4
  rw [show elD (mayP exP) (getG exP.sgs 4) (0, 0, 0) = (4, 1, 0) by kernel_rfl, show elE (mayP exP) (getG exP.sgs 4) = 0 by kernel_rfl] at h2
  have h3 := c_pStands exP exP_sm 1 0
  rw [show stL exP 1 0 = 4 by kernel_rfl, show stE exP 1 0 = 0 by kernel_rfl] at h3
  have h4 := c_pcheck exP exP_sm
  rw [exP_may] at h4
  refine acall_of 2 Try.func19 rfl fun n out _ _ => ?_
  simp only [Try.ntmps19, List.length_cons, List.length_nil, List.length_map, List.length_replicate, rep_map, Nat.reduceAdd, Nat.reduceSub, List.replicate, List.cons_append, List.nil_append]
  repeat' (first | (with_reducible first | refine Vk fun K hK => ?_ | refine V0 ?_ | refine Vs ?_ | apply And.intro) | ((with_reducible first | refine gE ?_ | refine gR ?_); simp (maxSteps:=9^7) only [ss, evLit, tab, reduceCtorEq, reduceIte, Nat.reduceEqDiff, Nat.reduceBEq, Int.reduceLE, Int.reduceToNat, Nat.reduceAdd, Nat.reduceLT, Nat.reduceLeDiff, jnA, sgA, jnC, sgC, splice_all, evEq_iii, Int.reduceBEq, Bool.and_self]) | exact Vn | ((with_reducible refine Vz ?_); refine Vo rfl rfl rfl (fun _ _ => rfl) ?_ <;> first | rfl | skip) | (refine call_pure (c_one) ?_) | (refine call_pure (h1) ?_) | (refine call_pure (h2) ?_) | (refine call_pure (h3) ?_) | (refine call_pure (h4) ?_) | ((with_reducible refine Vg (fun hg => ?_) (fun hg => ?_)) <;> (try simp only [nb] at hg) <;> simp (maxSteps:=9^7) only [ss, evLit, tab, reduceCtorEq, reduceIte, Nat.reduceEqDiff, Nat.reduceBEq, Int.reduceLE, Int.reduceToNat, Nat.reduceAdd, Nat.reduceLT, Nat.reduceLeDiff, hg, jnA, sgA, jnC, sgC, splice_all, evEq_iii, Int.reduceBEq, Bool.and_self]) | (refine hK _ ?_; clear hK K) | ((first | show Program.eqGuardType _ _ _ = false | show numFieldsB _ _ _ = true | show Program.stoodInHeld _ _ = false); kernel_rfl) | clear hK K)
end Go.Proofs.Ytdkiciofkifpdaa.Pln
