/-
 Sections: numbers, shapes, places.
-/
import Derived.Test.YtgdhnngpfieloaaGreatZGA
import Derived.Test.YtgdhnngpfieloaaGreatZPR
import Derived.Test.YtgdhnngpfieloaaGreatZTab
namespace Go.Proofs.YtgdhnngpfieloaaGreat.Pln
set_option linter.unusedVariables false
set_option linter.unusedSimpArgs false
open Go Go.VS Tab
set_option maxHeartbeats 1000000
set_option maxRecDepth 4000
theorem Wh (n : Int) : Xr Tryz.prog 92 [i64 n] [] (bool (Uk n)) [] := by
 refine Xc 0 Tryz.func92 rfl fun n out _ _ => ?_
 simp only [Tryz.ntmps92, List.length_cons, List.length_nil, List.length_map, List.length_replicate, Xf, Nat.reduceAdd, Nat.reduceSub, List.replicate, List.cons_append, List.nil_append]
 repeat' (first | (with_reducible first | refine Vk fun K hK => ?_ | refine V0 ?_) | ((with_reducible refine gE ?_); simp (maxSteps:=9^7) only [ss, X1, tab, simprocAttr, -List.reduceReplicate, g_0, g_s]) | ((with_reducible refine Vz ?_); refine Vo rfl rfl rfl (fun _ _ => rfl) ?_ <;> first | rfl | (first | rfl | (simp only [g_0, g_s]; refine congrArg VS.bool ?_; rw [Bool.eq_iff_iff]; first | (simp [Uk] at * <;> omega) | (simp_all [Uk] <;> omega))) | skip) | ((with_reducible refine Vg (fun hg => ?_) (fun hg => ?_)) <;> (try simp only [nb] at hg) <;> simp (maxSteps:=9^7) only [ss, X1, tab, simprocAttr, -List.reduceReplicate, hg, g_0, g_s]) | (refine hK _ ?_; clear hK K))
theorem Di (s : Sec) : Xr Tryz.prog 93 [Qh s] [] (bool (Qc s)) [] := by
 refine Xc 1 Tryz.func93 rfl fun n out _ _ => ?_
 simp only [Tryz.ntmps93, List.length_cons, List.length_nil, List.length_map, List.length_replicate, Xf, Nat.reduceAdd, Nat.reduceSub, List.replicate, List.cons_append, List.nil_append]
 repeat' (first | (with_reducible first | refine Vk fun K hK => ?_ | refine V0 ?_) | ((with_reducible first | refine gE ?_ | refine gR ?_); simp (maxSteps:=9^7) only [ss, X1, tab, simprocAttr, -List.reduceReplicate, Qh, Y6, List.length_map]) | ((with_reducible refine Vz ?_); refine Vo rfl rfl rfl (fun _ _ => rfl) ?_ <;> first | rfl | (first | rfl | (simp only [g_0, g_s]; refine congrArg VS.bool ?_; rw [Bool.eq_iff_iff]; first | (simp [Qc, Uk] at * <;> omega) | (simp_all [Qc, Uk] <;> omega))) | skip) | (refine X3 (Wh _) ?_) | ((with_reducible refine Vg (fun hg => ?_) (fun hg => ?_)) <;> (try simp only [nb] at hg) <;> simp (maxSteps:=9^7) only [ss, X1, tab, simprocAttr, -List.reduceReplicate, hg, Qh, Y6, List.length_map]) | (refine hK _ ?_; clear hK K))
theorem Gx (s : Sec) : Xr Tryz.prog 78 [Qh s] [] (bool (Qc s)) [] := by
 refine Xc 1 Tryz.func78 rfl fun n out _ _ => ?_
 simp only [Tryz.ntmps78, List.length_cons, List.length_nil, List.length_map, List.length_replicate, Xf, Nat.reduceAdd, Nat.reduceSub, List.replicate, List.cons_append, List.nil_append]
 repeat' (first | (with_reducible first | refine Vk fun K hK => ?_ | refine V0 ?_ | refine Vs ?_) | ((with_reducible refine gE ?_); simp (maxSteps:=9^7) only [ss, X1, tab, simprocAttr, -List.reduceReplicate, Qh, Y6, List.length_map]) | ((with_reducible refine Vz ?_); refine Vo rfl rfl rfl (fun _ _ => rfl) ?_ <;> first | rfl | (first | rfl | (simp only [g_0, g_s]; refine congrArg VS.bool ?_; rw [Bool.eq_iff_iff]; first | (simp [Qc, Uk] at * <;> omega) | (simp_all [Qc, Uk] <;> omega))) | skip) | ((with_reducible refine Vg (fun hg => ?_) (fun hg => ?_)) <;> (try simp only [nb] at hg) <;> simp (maxSteps:=9^7) only [ss, X1, tab, simprocAttr, -List.reduceReplicate, hg, Qh, Y6, List.length_map]) | (refine hK _ ?_; clear hK K) | refine Vi rfl (fun hg => ?_) (fun hg => ?_))
theorem X31 (a : Int) : Xr Tryz.prog 129 [i64 a] [] (bool false) [] := by
 refine Xc 0 Tryz.func129 rfl fun n out _ _ => ?_
 simp only [Tryz.ntmps129, List.length_cons, List.length_nil, List.length_map, List.length_replicate, Xf, Nat.reduceAdd, Nat.reduceSub, List.replicate, List.cons_append, List.nil_append]
 repeat' (first | (with_reducible first | refine Vk fun K hK => ?_ | refine V0 ?_) | ((with_reducible refine gE ?_); simp (maxSteps:=9^7) only [ss, X1, tab, simprocAttr, -List.reduceReplicate]) | ((with_reducible refine Vz ?_); refine Vo rfl rfl rfl (fun _ _ => rfl) ?_ <;> first | rfl | (first | rfl | (simp only [g_0, g_s]; refine congrArg VS.bool ?_; rw [Bool.eq_iff_iff]; first | (simp [] at * <;> omega) | (simp_all [] <;> omega))) | skip) | (refine hK _ ?_; clear hK K))
def As (a b : Int) : Int := if a < b then -1 else if b < a then 1 else 0
theorem X80 (a b : Int) : Xr Tryz.prog 118 [i64 a, i64 b] [] (i64 (As a b)) [] := by
 refine Xc 0 Tryz.func118 rfl fun n out _ _ => ?_
 simp only [Tryz.ntmps118, List.length_cons, List.length_nil, List.length_map, List.length_replicate, Xf, Nat.reduceAdd, Nat.reduceSub, List.replicate, List.cons_append, List.nil_append]
 repeat' (first | (with_reducible first | refine Vk fun K hK => ?_ | refine V0 ?_ | refine Vs ?_) | ((with_reducible first | refine gE ?_ | refine gR ?_); simp (maxSteps:=9^7) only [ss, X1, tab, simprocAttr, -List.reduceReplicate]) | ((with_reducible refine Vz ?_); refine Vo rfl rfl rfl (fun _ _ => rfl) ?_ <;> first | rfl | (first | rfl | (simp only [g_0, g_s]; refine congrArg i64 ?_; first | (simp [As] at * <;> omega) | (simp_all [As] <;> omega))) | skip) | (refine X3 (X31 _) ?_) | (refine hK _ ?_; clear hK K) | refine Vf rfl ?_ | refine Vi rfl (fun hg => ?_) (fun hg => ?_))
theorem At (s : Sec) (b : Int) : Xr Tryz.prog 117 [Qh s, i64 b] [] (i64 (As s.id b)) [] := by
 refine Xc 1 Tryz.func117 rfl fun n out _ _ => ?_
 simp only [Tryz.ntmps117, List.length_cons, List.length_nil, List.length_map, List.length_replicate, Xf, Nat.reduceAdd, Nat.reduceSub, List.replicate, List.cons_append, List.nil_append]
 repeat' (first | (with_reducible first | refine Vk fun K hK => ?_ | refine V0 ?_) | ((with_reducible first | refine gE ?_ | refine gR ?_); simp (maxSteps:=9^7) only [ss, X1, tab, simprocAttr, -List.reduceReplicate, Qh, Y6]) | ((with_reducible refine Vz ?_); refine Vo rfl rfl rfl (fun _ _ => rfl) ?_ <;> first | rfl | (first | rfl | (simp only [g_0, g_s]; refine congrArg i64 ?_; first | (simp [] at * <;> omega) | (simp_all [] <;> omega))) | skip) | (refine X3 (X80 _ _) ?_) | (refine hK _ ?_; clear hK K))
end Go.Proofs.YtgdhnngpfieloaaGreat.Pln
