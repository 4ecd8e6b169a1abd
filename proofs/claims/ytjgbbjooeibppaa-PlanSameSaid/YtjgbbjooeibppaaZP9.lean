/-
 The document's answer: sections copied, compared, found.
-/
import Derived.Test.YtjgbbjooeibppaaZGA
import Derived.Test.YtjgbbjooeibppaaZP2
import Derived.Test.YtjgbbjooeibppaaZPR
import Derived.Test.YtjgbbjooeibppaaZP3
import Derived.Test.YtjgbbjooeibppaaZPQ
namespace Go.Proofs.Ytjgbbjooeibppaa.Pln
set_option linter.unusedVariables false
set_option linter.unusedSimpArgs false
open Go Go.VS Tab
set_option maxHeartbeats 2000000
set_option maxRecDepth 4000
def Mw (a b : Sec) : Bool := a.id == b.id && a.pt == b.pt && a.ends == b.ends
theorem Ay (a b : Sec) (hl : a.ends.length ≤ 1000000) : Xr Try.prog 78 [Qh a, Qh b] [] (bool (Mw a b)) [] := by
 refine Xc 2 Try.func78 rfl fun n out _ _ => ?_
 simp only [Try.ntmps78, List.length_cons, List.length_nil, List.length_map, List.length_replicate, Xf, Nat.reduceAdd, Nat.reduceSub, List.replicate, List.cons_append, List.nil_append]
 repeat' (first | (with_reducible first | refine Vk fun K hK => ?_ | refine V0 ?_ | refine Vs ?_) | ((with_reducible refine gE ?_); simp (maxSteps:=9^7) only [ss, X1, tab, simprocAttr, -List.reduceReplicate, Qh, Y6, List.length_map]) | ((with_reducible refine Vz ?_); refine Vo rfl rfl rfl (fun _ _ => rfl) ?_ <;> first | rfl | (simp [Mw] at *; simp_all; done) | (simp only [g_0, g_s]; refine congrArg VS.bool ?_; rw [Mw, Mu (by simp at *; omega)]; simp; done) | skip) | ((with_reducible refine Vg (fun hg => ?_) (fun hg => ?_)) <;> (try simp only [nb] at hg) <;> simp (maxSteps:=9^7) only [ss, X1, tab, simprocAttr, -List.reduceReplicate, hg, Qh, Y6, List.length_map]) | (refine hK _ ?_; clear hK K) | refine Vt rfl ?_ | refine Vi rfl (fun hg => ?_) (fun hg => ?_))
 have hlen : a.ends.length = b.ends.length := by simp at hg; omega
 have hid : a.id = b.id ∧ a.pt = b.pt := by constructor <;> simp_all
 refine Xe ?_
 refine Xz (fun i : Nat => [(5, i64 (i : Int)), (4, .top), (27, .top), (28, .top), (29, .top), (30, .top), (31, .top), (32, .top), (33, .top), (34, .top), (35, .top), (36, .top), (37, .top), (38, .top), (39, .top), (40, .top), (41, .top), (42, .top), (43, .top), (44, .top)]) (fun i => [some (.box 37 [i64 a.id, i64 a.pt, .sl 2 (a.ends.map jnC) .sh]), some (.box 37 [i64 b.id, i64 b.pt, .sl 2 (b.ends.map jnC) .sh])]) (fun i => out) (fun i => i ≤ a.ends.length ∧ (∀ j (hj : j < a.ends.length) (hj' : j < b.ends.length), j < i → a.ends[j] = b.ends[j])) (fun i => a.ends.length - i) 0 ⟨Nat.zero_le _, by intros; omega⟩ ?_ fun i hi => ?_
 ·refine X2 ?_ ?_ rfl rfl rfl rfl <;> simp only [X4, sl]
 obtain ⟨hi, hq⟩ := hi
 simp only [X4, s_0, s_s]
 have hw := Yl (n := i) 1 1 rfl (by omega)
 by_cases hlt : i < a.ends.length
 ·have hlt' : i < b.ends.length := by omega
  have ga := Xg jnC a.ends i [] hlt
  have gb := Xg jnC b.ends i [] hlt'
  repeat' (first | (with_reducible first | refine Vk fun K hK => ?_ | refine V0 ?_ | refine Vb ?_ | refine Vs ?_ | apply And.intro | refine Vq (by kernel_rfl) ?_) | ((with_reducible refine gE ?_); simp (maxSteps:=9^7) only [ss, X1, tab, simprocAttr, -List.reduceReplicate, List.length_map, hlt, hlt', ga, gb, jnC, Lj, hw]) | exact Vn | ((with_reducible refine Vz ?_); refine Vo rfl rfl rfl (fun _ _ => rfl) ?_ <;> first | rfl | (simp only [g_0, g_s]; refine congrArg VS.bool ?_; rw [Mw, Ut hlt hlt' (by simpa using hg)]; simp; done) | skip) | (refine hK _ ?_; clear hK K) | refine Vt rfl ?_ | refine Vi rfl (fun hg => ?_) (fun hg => ?_) | ((first | show Program.eqGuardType _ _ _ = false | show Xs _ _ _ = true | show Program.stoodInHeld _ _ = false); kernel_rfl) | clear hK K)
  refine ⟨i + 1, ⟨by omega, fun j hj hj' hji => ?_⟩, by omega, ?_⟩
  ·by_cases h : j = i
   ·subst h; simpa using hg
   ·exact hq j hj hj' (by omega)
  refine X2 ?_ ?_ rfl rfl rfl rfl <;> simp only [X4, sl, hlt, decide_true]
 ·have e := Ua (l := a.ends) (m := b.ends) hlen fun j hj hj' => hq j hj hj' (by omega)
  have e2 : Mw a b = true := by rw [Mw, e, hid.1, hid.2]; simp
  repeat' (first | (with_reducible first | refine Vk fun K hK => ?_ | refine V0 ?_) | ((with_reducible refine gE ?_); simp (maxSteps:=9^7) only [ss, X1, tab, simprocAttr, -List.reduceReplicate, List.length_map, hlt, hw]) | ((with_reducible refine Vz ?_); refine Vo rfl rfl rfl (fun _ _ => rfl) ?_ <;> first | rfl | (rw [e2]; rfl) | skip) | ((with_reducible refine Vx ?_); simp only [sb, reduceIte, Nat.reduceEqDiff]) | (refine hK _ ?_; clear hK K) | refine Vf rfl ?_ | clear hK K)
def Lw (l m' : List Sec) : Bool := Fv Mw l m'
theorem H5 (l m' : List Sec) (hl : l.length ≤ 1000000) (he : ∀ s, s ∈ l → s.ends.length ≤ 1000000) : Xr Try.prog 47 [P9 l, P9 m'] [] (bool (Lw l m')) [] := by
 refine Xc 0 Try.func47 rfl fun n out _ _ => ?_
 simp only [Try.ntmps47, List.length_cons, List.length_nil, List.length_map, List.length_replicate, Xf, Nat.reduceAdd, Nat.reduceSub, List.replicate, List.cons_append, List.nil_append]
 repeat' (first | (with_reducible first | refine Vk fun K hK => ?_ | refine V0 ?_ | refine Vs ?_) | ((with_reducible refine gE ?_); simp (maxSteps:=9^7) only [ss, X1, tab, simprocAttr, -List.reduceReplicate, List.length_map]) | ((with_reducible refine Vz ?_); refine Vo rfl rfl rfl (fun _ _ => rfl) ?_ <;> first | rfl | (rw [Lw, Rj (by simp at *; omega)]; rfl) | skip) | (refine hK _ ?_; clear hK K) | refine Vi rfl (fun hg => ?_) (fun hg => ?_))
 have hlen : l.length = m'.length := by simp at hg; omega
 refine Xe ?_
 refine Xz (fun i : Nat => [(5, i64 (i : Int)), (4, .top), (11, .top), (12, .top), (13, .top), (14, .top), (15, .top), (16, .top), (17, .top), (18, .top), (19, .top), (20, .top), (21, .top), (22, .top), (23, .top), (24, .top), (25, .top), (26, .top)]) (fun i => []) (fun i => out) (fun i => i ≤ l.length ∧ (∀ j (hj : j < l.length) (hj' : j < m'.length), j < i → Mw l[j] m'[j] = true)) (fun i => l.length - i) 0 ⟨Nat.zero_le _, by intros; omega⟩ ?_ fun i hi => ?_
 ·refine X2 ?_ ?_ rfl rfl rfl rfl <;> simp only [X4, sl]
 obtain ⟨hi, hq⟩ := hi
 simp only [X4, s_0, s_s]
 have hw := Yl (n := i) 1 1 rfl (by omega)
 by_cases hlt : i < l.length
 ·have hlt' : i < m'.length := by omega
  have ga := Xg Y6 l i [] hlt
  have gb := Xg Y6 m' i [] hlt'
  repeat' (first | (with_reducible first | refine Vk fun K hK => ?_ | refine V0 ?_ | refine Vb ?_ | refine Vs ?_ | refine Vq (by kernel_rfl) ?_) | ((with_reducible first | refine gE ?_ | refine gR ?_); simp (maxSteps:=9^7) only [ss, X1, tab, simprocAttr, -List.reduceReplicate, List.length_map, hlt, hlt', ga, gb, X0b, hw]) | ((with_reducible refine Vz ?_); refine Vo rfl rfl rfl (fun _ _ => rfl) ?_ <;> first | rfl | (rw [Lw, Lk hlt hlt' (by simpa using hg)]; rfl) | skip) | (refine X3 (Ay _ _ (he _ (List.getElem_mem hlt))) ?_) | (refine hK _ ?_; clear hK K) | refine Vt rfl ?_ | refine Vi rfl (fun hg => ?_) (fun hg => ?_) | clear hK K)
  refine ⟨i + 1, ⟨by omega, fun j hj hj' hji => ?_⟩, by omega, ?_⟩
  ·by_cases h : j = i
   ·subst h; simpa using hg
   ·exact hq j hj hj' (by omega)
  refine X2 ?_ ?_ rfl rfl rfl rfl <;> simp only [X4, sl, hlt, decide_true]
 ·have e := W2 (p := Mw) hlen fun j hj hj' => hq j hj hj' (by omega)
  repeat' (first | (with_reducible first | refine Vk fun K hK => ?_ | refine V0 ?_) | ((with_reducible refine gE ?_); simp (maxSteps:=9^7) only [ss, X1, tab, simprocAttr, -List.reduceReplicate, List.length_map, hlt, hw]) | ((with_reducible refine Vz ?_); refine Vo rfl rfl rfl (fun _ _ => rfl) ?_ <;> first | rfl | (rw [Lw, e]; rfl) | skip) | ((with_reducible refine Vx ?_); simp only [sb, reduceIte, Nat.reduceEqDiff]) | (refine hK _ ?_; clear hK K) | refine Vf rfl ?_ | clear hK K)
theorem Eo (a : Sec) : Mw a a = true := by simp [Mw]
theorem Bp (l : List Sec) : Lw l l = true := W2 rfl fun i hi hi' => Eo _
end Go.Proofs.Ytjgbbjooeibppaa.Pln
