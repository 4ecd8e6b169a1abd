/-
 The document's answer: elements' places; lists compared.
-/
import Derived.Test.YtjgbbjooeibppaaZGA
import Derived.Test.YtjgbbjooeibppaaZP9
namespace Go.Proofs.Ytjgbbjooeibppaa.Pln
set_option linter.unusedVariables false
set_option linter.unusedSimpArgs false
open Go Go.VS Tab
set_option maxHeartbeats 4000000
set_option maxRecDepth 4000
theorem H1 (l m' : List Int) (hl : l.length ≤ 1000000) : Xr Try.prog 79 [X62 l, X62 m'] [] (bool (l == m')) [] := by
 refine Xc 0 Try.func79 rfl fun n out _ _ => ?_
 simp only [Try.ntmps79, List.length_cons, List.length_nil, List.length_map, List.length_replicate, Xf, Nat.reduceAdd, Nat.reduceSub, List.replicate, List.cons_append, List.nil_append]
 repeat' (first | (with_reducible first | refine Vk fun K hK => ?_ | refine V0 ?_ | refine Vs ?_) | ((with_reducible refine gE ?_); simp (maxSteps:=9^7) only [ss, X1, tab, simprocAttr, -List.reduceReplicate, List.length_map]) | ((with_reducible refine Vz ?_); refine Vo rfl rfl rfl (fun _ _ => rfl) ?_ <;> first | rfl | (rw [Mu (by intro h; simp [h] at hg)]; rfl) | skip) | (refine hK _ ?_; clear hK K) | refine Vi rfl (fun hg => ?_) (fun hg => ?_))
 have hlen : l.length = m'.length := by simp at hg; omega
 refine Xe ?_
 refine Xz (fun i : Nat => [(5, i64 (i : Int)), (4, .top), (11, .top), (12, .top), (13, .top), (14, .top), (15, .top), (16, .top), (17, .top), (18, .top), (19, .top), (20, .top), (21, .top), (22, .top), (23, .top), (24, .top), (25, .top)]) (fun i => []) (fun i => out) (fun i => i ≤ l.length ∧ (∀ j (hj : j < l.length) (hj' : j < m'.length), j < i → l[j] = m'[j])) (fun i => l.length - i) 0 ⟨Nat.zero_le _, by intros; omega⟩ ?_ fun i hi => ?_
 ·refine X2 ?_ ?_ (by first | rfl | (simp only [List.length_map]; rfl) | simp only [List.length_map]) rfl rfl rfl <;> simp only [X4, sl, List.length_map]
 obtain ⟨hi, hq⟩ := hi
 simp only [X4, s_0, s_s]
 have hw := Yl (n := i) 1 1 rfl (by omega)
 by_cases hlt : i < l.length
 ·have hlt' : i < m'.length := by omega
  have ga := Xg Ym l i [] hlt
  have gb := Xg Ym m' i [] hlt'
  repeat' (first | (with_reducible first | refine Vk fun K hK => ?_ | refine V0 ?_ | refine Vb ?_ | refine Vs ?_ | refine Vq (by kernel_rfl) ?_) | ((with_reducible refine gE ?_); simp (maxSteps:=9^7) only [ss, X1, tab, simprocAttr, -List.reduceReplicate, List.length_map, hlt, hlt', ga, gb, Ym, hw]) | ((with_reducible refine Vz ?_); refine Vo rfl rfl rfl (fun _ _ => rfl) ?_ <;> first | rfl | (rw [Ut hlt hlt' (by simpa using hg)]; rfl) | skip) | (refine hK _ ?_; clear hK K) | refine Vt rfl ?_ | refine Vi rfl (fun hg => ?_) (fun hg => ?_) | clear hK K)
  refine ⟨i + 1, ⟨by omega, fun j hj hj' hji => ?_⟩, by omega, ?_⟩
  ·by_cases h : j = i
   ·subst h; simpa using hg
   ·exact hq j hj hj' (by omega)
  refine X2 ?_ ?_ rfl rfl rfl rfl <;> simp only [X4, sl, hlt, decide_true]
 ·have e := Ua (l := l) (m := m') hlen fun j hj hj' => hq j hj hj' (by omega)
  repeat' (first | (with_reducible first | refine Vk fun K hK => ?_ | refine V0 ?_) | ((with_reducible refine gE ?_); simp (maxSteps:=9^7) only [ss, X1, tab, simprocAttr, -List.reduceReplicate, List.length_map, hlt]) | ((with_reducible refine Vz ?_); refine Vo rfl rfl rfl (fun _ _ => rfl) ?_ <;> first | rfl | (rw [e]; rfl) | skip) | ((with_reducible refine Vx ?_); simp only [sb, reduceIte, Nat.reduceEqDiff]) | (refine hK _ ?_; clear hK K) | refine Vf rfl ?_ | clear hK K)
end Go.Proofs.Ytjgbbjooeibppaa.Pln
