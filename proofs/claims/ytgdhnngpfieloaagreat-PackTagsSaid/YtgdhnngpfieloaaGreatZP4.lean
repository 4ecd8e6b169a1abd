/-
 Sections are looked for; ways through a section.
-/
import Derived.Test.YtgdhnngpfieloaaGreatZGA
import Derived.Test.YtgdhnngpfieloaaGreatZP2
namespace Go.Proofs.YtgdhnngpfieloaaGreat.Pln
set_option linter.unusedVariables false
set_option linter.unusedSimpArgs false
open Go Go.VS Tab
set_option maxHeartbeats 1000000
set_option maxRecDepth 4000
def Pk (l : List Sec) : Prop := ∀ i (hi : i < l.length) j (hj : j < i), (l[j]'(by omega)).id < l[i].id
theorem X9k (n : Nat) (h : n < 4611686018427387904) : Zr .shr .u64 (n : Int) 1 = some (.int .u64 ((n / 2 : Nat) : Int)) := by
 have e := X3y (BitVec.ofNat 64 n) (b := 1) (by decide)
 have e1 : (BitVec.ofNat 64 n).toNat = n := by rw [BitVec.toNat_ofNat]; omega
 rw [BitVec.toNat_ushiftRight, e1] at e
 rw [e, Nat.shiftRight_eq_div_pow]; rfl
theorem X34 {a b : Int} : decide (As a b < 0) = decide (a < b) := by
 unfold As; split
 ·simp [*]
 ·split <;> simp [*]
theorem X35 {a b : Int} : (As a b == 0) = (a == b) := by
 unfold As; rw [Bool.eq_iff_iff]; split
 ·simp; omega
 ·split <;> simp <;> omega
def Qz (l : List Sec) (b : Int) : Nat := l.findIdx fun s => decide (b ≤ s.id)
theorem Ax {l : List Sec} {b : Int} {i : Nat} (hi : i ≤ l.length) (h3 : ∀ k (hk : k < l.length), k < i → l[k].id < b) (h4 : ∀ k (hk : k < l.length), i ≤ k → b ≤ l[k].id) : Qz l b = i := by
 unfold Qz
 rcases Nat.lt_or_ge i l.length with hlt | hge
 ·exact (List.findIdx_eq hlt).2 ⟨decide_eq_true (h4 i hlt (Nat.le_refl _)), fun j hj => decide_eq_false (by have := h3 j (by omega) hj; omega)⟩
 ·obtain rfl : i = l.length := by omega
  rw [List.findIdx_eq_length]
  intro x hx
  obtain ⟨j, hj, rfl⟩ := List.getElem_of_mem hx
  exact decide_eq_false (by have := h3 j hj hj; omega)
theorem En {l : List Sec} (hr : Pk l) (b : Int) : Qt l b = if Qz l b < l.length ∧ (l.getD (Qz l b) St).id = b then some (l.getD (Qz l b) St) else none := by
 have h1 : ∀ j (hj : j < l.length), j < Qz l b → l[j].id < b := fun j hj hjl => by
  have := List.not_of_lt_findIdx (p := fun s : Sec => decide (b ≤ s.id)) hjl
  simp at this; exact this
 rcases Nat.lt_or_ge (Qz l b) l.length with hlt | hge
 ·have h2 : b ≤ (l[Qz l b]).id := by
   have := List.findIdx_getElem (p := fun s : Sec => decide (b ≤ s.id)) (w := hlt)
   exact of_decide_eq_true this
  have hd : l.getD (Qz l b) St = l[Qz l b] := by simp [List.getD_eq_getElem?_getD, hlt]
  rw [hd]
  by_cases he : (l[Qz l b]).id = b
  ·rw [if_pos ⟨hlt, he⟩]
   unfold Qt
   rw [List.find?_eq_some_iff_getElem]
   exact ⟨by simpa using he, Qz l b, hlt, rfl, fun j hj => by have := h1 j (by omega) hj; simp; omega⟩
  ·rw [if_neg fun h => he h.2]
   unfold Qt
   rw [List.find?_eq_none]
   intro x hx
   obtain ⟨j, hj, rfl⟩ := List.getElem_of_mem hx
   rcases Nat.lt_trichotomy j (Qz l b) with h | h | h
   ·have := h1 j hj h; simp; omega
   ·subst h; simpa using he
   ·have := hr j hj (Qz l b) h; simp; omega
 ·rw [if_neg fun h => by omega]
  unfold Qt
  rw [List.find?_eq_none]
  intro x hx
  obtain ⟨j, hj, rfl⟩ := List.getElem_of_mem hx
  have := h1 j hj (by omega); simp; omega
theorem H4 (l : List Sec) (b : Int) (fid : FuncId) (hb : Xd Tryz.prog fid = True) (hl : l.length ≤ 1000000000) (hr : Pk l)
  (hp : ∀ x, x ∈ l → Xr Tryz.prog fid [Qh x, i64 b] [] (i64 (As x.id b)) []) :
  Xr Tryz.prog 116 [P9 l, i64 b, .fn (.func fid) []] [] (.tup [i64 (Qz l b : Int), bool (decide (Qz l b < l.length ∧ (l.getD (Qz l b) St).id = b))]) [] := by
 refine Xc 0 Tryz.func116 rfl fun n out _ _ => ?_
 simp only [Tryz.ntmps116, List.length_cons, List.length_nil, List.length_map, List.length_replicate, Xf, Nat.reduceAdd, Nat.reduceSub, List.replicate, List.cons_append, List.nil_append]
 refine X9 fun K hK => Xn Xj [] ?_
 simp (maxSteps:=9^7) only [ss, X1, tab, simprocAttr, -List.reduceReplicate]
 (refine hK _ ?_; clear hK K)
 refine X9 fun K hK => Xn Xj [] ?_
 simp (maxSteps:=9^7) only [ss, X1, tab, simprocAttr, -List.reduceReplicate, List.length_map]
 (refine hK _ ?_; clear hK K)
 refine X9 fun K hK => Xn Xj [] ?_
 simp (maxSteps:=9^7) only [ss, X1, tab, simprocAttr, -List.reduceReplicate]
 (refine hK _ ?_; clear hK K)
 refine X9 fun KB hKB => ?_
 refine Xe ?_
 refine Xz (fun q : Nat × Nat => [(9, i64 (q.1 : Int)), (10, i64 (q.2 : Int)), (11, .top), (15, .top), (16, .top), (17, .top), (18, .top), (19, .top), (20, .top), (21, .top), (22, .top), (23, .top), (24, .top), (25, .top), (26, .top), (27, .top), (28, .top), (29, .top), (30, .top), (31, .top), (32, .top), (33, .top), (34, .top)]) (fun q => []) (fun q => out) (fun q => q.1 ≤ q.2 ∧ q.2 ≤ l.length ∧ (∀ k (hk : k < l.length), k < q.1 → l[k].id < b) ∧ (∀ k (hk : k < l.length), q.2 ≤ k → b ≤ l[k].id)) (fun q => q.2 - q.1) (0, l.length) ⟨Nat.zero_le _, Nat.le_refl _, by intros; omega, by intros; omega⟩ ?_ fun q hq => ?_
 ·refine X2 ?_ ?_ rfl rfl rfl rfl <;> simp only [X4, sl]
 obtain ⟨i, j⟩ := q
 obtain ⟨h1, h2, h3, h4⟩ := hq
 simp only at h1 h2 h3 h4
 simp only [X4, s_0, s_s]
 refine X9 fun KC hKC => ?_
 refine X9 fun K hK => Xn Xj [] ?_
 simp (maxSteps:=9^7) only [ss, X1, tab, simprocAttr, -List.reduceReplicate]
 (refine hK _ ?_; clear hK K)
 refine Uz rfl (fun ht => Z1 (hKC _ ?_)) (fun hf => Qi (id ?_))
 ·clear hKC KC
  have hij : i < j := by have := of_decide_eq_true ht; omega
  have e1 : IntKind.i64.wrap ((i : Int) + (j : Int)) = ((i + j : Nat) : Int) := by rw [wrap_i64] <;> omega
  have e2 : IntKind.u64.wrap ((i + j : Nat) : Int) = ((i + j : Nat) : Int) := by rw [X1m] <;> omega
  have e3 := X9k (i + j) (by omega)
  have e4 : IntKind.i64.wrap (((i + j) / 2 : Nat) : Int) = (((i + j) / 2 : Nat) : Int) := by rw [wrap_i64] <;> omega
  have hlt : (i + j) / 2 < l.length := by omega
  have e5 := Yl (n := (i + j) / 2) 1 1 rfl (by omega)
  have hb1 : i ≤ (i + j) / 2 ∧ (i + j) / 2 < j := by omega
  generalize (i + j) / 2 = h at e3 e4 hlt e5 hb1
  refine Xe ?_
  have hg := Xg Y6 l h [] hlt
  refine X9 fun K hK => Xn Xj [] ?_
  simp (maxSteps:=9^7) only [ss, X1, tab, simprocAttr, -List.reduceReplicate, e1, e2, e3, e4]
  (refine hK _ ?_; clear hK K)
  refine X9 fun K hK => Xn Xj [] ?_
  simp (maxSteps:=9^7) only [ss, X1, tab, simprocAttr, -List.reduceReplicate, List.length_map, hlt, hg, Y6, hb]
  skip
  refine X3 (hp _ (List.getElem_mem hlt)) ?_
  simp (maxSteps:=9^7) only [ss, X1, tab, simprocAttr, -List.reduceReplicate, X34]
  (refine hK _ ?_; clear hK K)
  refine Uz rfl (fun ht => ?_) (fun hf => ?_)
  ·refine Xn Xj [] ?_
   simp (maxSteps:=9^7) only [ss, X1, tab, simprocAttr, -List.reduceReplicate, e5]
   refine ⟨(h + 1, j), ⟨by simp only; omega, h2, fun k hk hki => ?_, h4⟩, by simp only; omega, ?_⟩
   ·have := of_decide_eq_true ht
    simp only at hki
    by_cases hkh : k = h
    ·subst hkh; exact this
    ·exact Int.lt_trans (hr h hlt k (by omega)) this
   ·refine X2 ?_ ?_ rfl rfl rfl rfl <;> simp only [X4, sl]
  ·refine Xn Xj [] ?_
   simp (maxSteps:=9^7) only [ss, X1, tab, simprocAttr, -List.reduceReplicate]
   refine ⟨(i, h), ⟨by simp only; omega, by simp only; omega, h3, fun k hk hki => ?_⟩, by simp only; omega, ?_⟩
   ·have := of_decide_eq_false hf
    simp only at hki
    by_cases hkh : k = h
    ·subst hkh; omega
    ·have := hr k hk h (by omega); omega
   ·refine X2 ?_ ?_ rfl rfl rfl rfl <;> simp only [X4, sl]
 ·simp only [Qd, Z4, if_true]
  refine hKB _ ?_
  clear hKB KB hKC KC
  have hij : i = j := by have := of_decide_eq_false hf; omega
  subst hij
  have hL : Qz l b = i := Ax h2 h3 h4
  rw [hL]
  by_cases hlt : i < l.length
  ·have hg := Xg Y6 l i [] hlt
   have e0 : l.getD i St = l[i] := by simp [List.getD_eq_getElem?_getD, hlt]
   refine X9 fun K hK => Xn Xj [] ?_
   simp (maxSteps:=9^7) only [ss, X1, tab, simprocAttr, -List.reduceReplicate, List.length_map, hlt, hg, Y6, hb]
   skip
   refine X3 (hp _ (List.getElem_mem hlt)) ?_
   rw [e0]
   simp (maxSteps:=9^7) only [ss, X1, tab, simprocAttr, -List.reduceReplicate, X35, hlt]
   (refine hK _ ?_; clear hK K)
   repeat' ((with_reducible refine Vz ?_); refine Vp rfl rfl rfl (fun _ _ => rfl) ?_ ?_ <;> first | rfl | (show AV.val (.bool _) = AV.val (.bool _); congr 2; simp [hlt, List.getElem?_eq_getElem hlt]; rfl) | skip)
  ·refine X9 fun K hK => Xn Xj [] ?_
   simp (maxSteps:=9^7) only [ss, X1, tab, simprocAttr, -List.reduceReplicate, List.length_map, hlt]
   (refine hK _ ?_; clear hK K)
   repeat' ((with_reducible refine Vz ?_); refine Vp rfl rfl rfl (fun _ _ => rfl) ?_ ?_ <;> first | rfl | (show AV.val (.bool _) = AV.val (.bool _); congr 2; simp [hlt]) | skip)
theorem X36 (l : List Sec) (b : Int) (hl : l.length ≤ 1000000000) (hr : Pk l) :
  Xr Tryz.prog 94 [P9 l, i64 b] [] (.tup [i64 (Qz l b : Int), bool (decide (Qz l b < l.length ∧ (l.getD (Qz l b) St).id = b))]) [] := by
 refine Xc 0 Tryz.func94 rfl fun n out _ _ => ?_
 simp only [Tryz.ntmps94, List.length_cons, List.length_nil, List.length_map, List.length_replicate, Xf, Nat.reduceAdd, Nat.reduceSub, List.replicate, List.cons_append, List.nil_append]
 repeat' (first | (with_reducible first | refine Vk fun K hK => ?_ | refine V0 ?_) | ((with_reducible first | refine gE ?_ | refine gR ?_); simp (maxSteps:=9^7) only [ss, X1, tab, simprocAttr, -List.reduceReplicate]) | ((with_reducible refine Vz ?_); refine Vp rfl rfl rfl (fun _ _ => rfl) ?_ ?_ <;> first | rfl | skip) | (refine X3 (H4 l b _ (hb0 _ (by decide) (by decide)) hl hr fun x _ => At x b) ?_) | (refine hK _ ?_; clear hK K))
end Go.Proofs.YtgdhnngpfieloaaGreat.Pln
