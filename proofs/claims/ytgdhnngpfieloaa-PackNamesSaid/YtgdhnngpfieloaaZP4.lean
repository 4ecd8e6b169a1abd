/-
  Sections are looked for; ways through a section.
-/
import Derived.Test.YtgdhnngpfieloaaZGA
import Derived.Test.YtgdhnngpfieloaaZP2
namespace Go.Proofs.Ytgdhnngpfieloaa.Pln
set_option linter.unusedVariables false
set_option linter.unusedSimpArgs false
open Go Go.VS Tab
set_option maxHeartbeats 1000000
set_option maxRecDepth 4000
def Rising (l : List Sec) : Prop := ∀ i (hi : i < l.length) j (hj : j < i), (l[j]'(by omega)).id < l[i].id
theorem shr1 (n : Nat) (h : n < 4611686018427387904) : evInt .shr .u64 (n : Int) 1 = some (.int .u64 ((n / 2 : Nat) : Int)) := by
  have e := w64_shr (BitVec.ofNat 64 n) (b := 1) (by decide)
  have e1 : (BitVec.ofNat 64 n).toNat = n := by rw [BitVec.toNat_ofNat]; omega
  rw [BitVec.toNat_ushiftRight, e1] at e
  rw [e, Nat.shiftRight_eq_div_pow]; rfl
theorem cmpI_lt {a b : Int} : decide (cmpI a b < 0) = decide (a < b) := by
  unfold cmpI; split
  · simp [*]
  · split <;> simp [*]
theorem cmpI_eq {a b : Int} : (cmpI a b == 0) = (a == b) := by
  unfold cmpI; rw [Bool.eq_iff_iff]; split
  · simp; omega
  · split <;> simp <;> omega
def lower (l : List Sec) (b : Int) : Nat := l.findIdx fun s => decide (b ≤ s.id)
theorem lower_of {l : List Sec} {b : Int} {i : Nat} (hi : i ≤ l.length) (h3 : ∀ k (hk : k < l.length), k < i → l[k].id < b) (h4 : ∀ k (hk : k < l.length), i ≤ k → b ≤ l[k].id) : lower l b = i := by
  unfold lower
  rcases Nat.lt_or_ge i l.length with hlt | hge
  · exact (List.findIdx_eq hlt).2 ⟨decide_eq_true (h4 i hlt (Nat.le_refl _)), fun j hj => decide_eq_false (by have := h3 j (by omega) hj; omega)⟩
  · obtain rfl : i = l.length := by omega
    rw [List.findIdx_eq_length]
    intro x hx
    obtain ⟨j, hj, rfl⟩ := List.getElem_of_mem hx
    exact decide_eq_false (by have := h3 j hj hj; omega)
theorem lower_getS {l : List Sec} (hr : Rising l) (b : Int) : getS l b = if lower l b < l.length ∧ (l.getD (lower l b) noSec).id = b then some (l.getD (lower l b) noSec) else none := by
  have h1 : ∀ j (hj : j < l.length), j < lower l b → l[j].id < b := fun j hj hjl => by
    have := List.not_of_lt_findIdx (p := fun s : Sec => decide (b ≤ s.id)) hjl
    simp at this; exact this
  rcases Nat.lt_or_ge (lower l b) l.length with hlt | hge
  · have h2 : b ≤ (l[lower l b]).id := by
      have := List.findIdx_getElem (p := fun s : Sec => decide (b ≤ s.id)) (w := hlt)
      exact of_decide_eq_true this
    have hd : l.getD (lower l b) noSec = l[lower l b] := by simp [List.getD_eq_getElem?_getD, hlt]
    rw [hd]
    by_cases he : (l[lower l b]).id = b
    · rw [if_pos ⟨hlt, he⟩]
      unfold getS
      rw [List.find?_eq_some_iff_getElem]
      exact ⟨by simpa using he, lower l b, hlt, rfl, fun j hj => by have := h1 j (by omega) hj; simp; omega⟩
    · rw [if_neg fun h => he h.2]
      unfold getS
      rw [List.find?_eq_none]
      intro x hx
      obtain ⟨j, hj, rfl⟩ := List.getElem_of_mem hx
      rcases Nat.lt_trichotomy j (lower l b) with h | h | h
      · have := h1 j hj h; simp; omega
      · subst h; simpa using he
      · have := hr j hj (lower l b) h; simp; omega
  · rw [if_neg fun h => by omega]
    unfold getS
    rw [List.find?_eq_none]
    intro x hx
    obtain ⟨j, hj, rfl⟩ := List.getElem_of_mem hx
    have := h1 j hj (by omega); simp; omega
theorem c_bsearch (l : List Sec) (b : Int) (fid : FuncId) (hb : hasBody Try.prog fid = True) (hl : l.length ≤ 1000000000) (hr : Rising l)
    (hp : ∀ x, x ∈ l → ACall Try.prog fid [secA x, i64 b] [] (i64 (cmpI x.id b)) []) :
    ACall Try.prog 104 [secsA l, i64 b, .fn (.func fid) []] [] (.tup [i64 (lower l b : Int), bool (decide (lower l b < l.length ∧ (l.getD (lower l b) noSec).id = b))]) [] := by
  refine acall_of 0 Try.func104 rfl fun n out _ _ => ?_
  simp only [Try.ntmps104, List.length_cons, List.length_nil, List.length_map, List.length_replicate, rep_map, Nat.reduceAdd, Nat.reduceSub, List.replicate, List.cons_append, List.nil_append]
  refine awp_seq_k fun K hK => awp_ev tab_ok [] ?_
  simp (maxSteps:=9^7) only [ss, evLit, tab, reduceCtorEq, reduceIte, Nat.reduceEqDiff, Nat.reduceBEq, Int.reduceLE, Int.reduceToNat, Nat.reduceAdd, Nat.reduceLT, Nat.reduceLeDiff]
  repeat' (first | (with_reducible refine hK _ ?_; clear hK K) | with_reducible apply And.intro)
  refine awp_seq_k fun K hK => awp_ev tab_ok [] ?_
  simp (maxSteps:=9^7) only [ss, evLit, tab, reduceCtorEq, reduceIte, Nat.reduceEqDiff, Nat.reduceBEq, Int.reduceLE, Int.reduceToNat, Nat.reduceAdd, Nat.reduceLT, Nat.reduceLeDiff, List.length_map]
  repeat' (first | (with_reducible refine hK _ ?_; clear hK K) | with_reducible apply And.intro)
  refine awp_seq_k fun K hK => awp_ev tab_ok [] ?_
  simp (maxSteps:=9^7) only [ss, evLit, tab, reduceCtorEq, reduceIte, Nat.reduceEqDiff, Nat.reduceBEq, Int.reduceLE, Int.reduceToNat, Nat.reduceAdd, Nat.reduceLT, Nat.reduceLeDiff]
  repeat' (first | (with_reducible refine hK _ ?_; clear hK K) | with_reducible apply And.intro)
  refine awp_seq_k fun KB hKB => ?_
  refine awp_block ?_
  refine awp_for_g (fun q : Nat × Nat => [(9, i64 (q.1 : Int)), (10, i64 (q.2 : Int)), (11, .top), (15, .top), (16, .top), (17, .top), (18, .top), (19, .top), (20, .top), (21, .top), (22, .top), (23, .top), (24, .top), (25, .top), (26, .top), (27, .top), (28, .top), (29, .top), (30, .top), (31, .top), (32, .top), (33, .top), (34, .top)]) (fun q => []) (fun q => out) (fun q => q.1 ≤ q.2 ∧ q.2 ≤ l.length ∧ (∀ k (hk : k < l.length), k < q.1 → l[k].id < b) ∧ (∀ k (hk : k < l.length), q.2 ≤ k → b ≤ l[k].id)) (fun q => q.2 - q.1) (0, l.length) ⟨Nat.zero_le _, Nat.le_refl _, by intros; omega, by intros; omega⟩ ?_ fun q hq => ?_
  · refine le_of_all ?_ ?_ rfl rfl rfl rfl <;> simp only [patch, sl]
  obtain ⟨i, j⟩ := q
  obtain ⟨h1, h2, h3, h4⟩ := hq
  simp only at h1 h2 h3 h4
  simp only [patch, s_0, s_s]
  refine awp_seq_k fun KC hKC => ?_
  refine awp_seq_k fun K hK => awp_ev tab_ok [] ?_
  simp (maxSteps:=9^7) only [ss, evLit, tab, reduceCtorEq, reduceIte, Nat.reduceEqDiff, Nat.reduceBEq, Int.reduceLE, Int.reduceToNat, Nat.reduceAdd, Nat.reduceLT, Nat.reduceLeDiff]
  repeat' (first | (with_reducible refine hK _ ?_; clear hK K) | with_reducible apply And.intro)
  refine awp_if rfl (fun ht => awp_skip (hKC _ ?_)) (fun hf => awp_exit (id ?_))
  · clear hKC KC
    have hij : i < j := by have := of_decide_eq_true ht; omega
    have e1 : IntKind.i64.wrap ((i : Int) + (j : Int)) = ((i + j : Nat) : Int) := by rw [wrap_i64] <;> omega
    have e2 : IntKind.u64.wrap ((i + j : Nat) : Int) = ((i + j : Nat) : Int) := by rw [wrap_u64] <;> omega
    have e3 := shr1 (i + j) (by omega)
    have e4 : IntKind.i64.wrap (((i + j) / 2 : Nat) : Int) = (((i + j) / 2 : Nat) : Int) := by rw [wrap_i64] <;> omega
    have hlt : (i + j) / 2 < l.length := by omega
    have e5 := addw (n := (i + j) / 2) 1 1 rfl (by omega)
    have hb1 : i ≤ (i + j) / 2 ∧ (i + j) / 2 < j := by omega
    generalize (i + j) / 2 = h at e3 e4 hlt e5 hb1
    refine awp_block ?_
    have hg := getD_map secC l h [] hlt
    refine awp_seq_k fun K hK => awp_ev tab_ok [] ?_
    simp (maxSteps:=9^7) only [ss, evLit, tab, reduceCtorEq, reduceIte, Nat.reduceEqDiff, Nat.reduceBEq, Int.reduceLE, Int.reduceToNat, Nat.reduceAdd, Nat.reduceLT, Nat.reduceLeDiff, e1, e2, e3, e4]
    repeat' (first | (with_reducible refine hK _ ?_; clear hK K) | with_reducible apply And.intro)
    refine awp_seq_k fun K hK => awp_ev tab_ok [] ?_
    simp (maxSteps:=9^7) only [ss, evLit, tab, reduceCtorEq, reduceIte, Nat.reduceEqDiff, Nat.reduceBEq, Int.reduceLE, Int.reduceToNat, Nat.reduceAdd, Nat.reduceLT, Nat.reduceLeDiff, List.length_map, hlt, hg, secC, hb]
    repeat' (first | (with_reducible refine hK _ ?_; clear hK K) | with_reducible apply And.intro)
    refine call_pure (hp _ (List.getElem_mem hlt)) ?_
    simp (maxSteps:=9^7) only [ss, evLit, tab, reduceCtorEq, reduceIte, Nat.reduceEqDiff, Nat.reduceBEq, Int.reduceLE, Int.reduceToNat, Nat.reduceAdd, Nat.reduceLT, Nat.reduceLeDiff, cmpI_lt]
    repeat' (first | (with_reducible refine hK _ ?_; clear hK K) | with_reducible apply And.intro)
    refine awp_if rfl (fun ht => ?_) (fun hf => ?_)
    · refine awp_ev tab_ok [] ?_
      simp (maxSteps:=9^7) only [ss, evLit, tab, reduceCtorEq, reduceIte, Nat.reduceEqDiff, Nat.reduceBEq, Int.reduceLE, Int.reduceToNat, Nat.reduceAdd, Nat.reduceLT, Nat.reduceLeDiff, e5]
      refine ⟨(h + 1, j), ⟨by simp only; omega, h2, fun k hk hki => ?_, h4⟩, by simp only; omega, ?_⟩
      · have := of_decide_eq_true ht
        simp only at hki
        by_cases hkh : k = h
        · subst hkh; exact this
        · exact Int.lt_trans (hr h hlt k (by omega)) this
      · refine le_of_all ?_ ?_ rfl rfl rfl rfl <;> simp only [patch, sl]
    · refine awp_ev tab_ok [] ?_
      simp (maxSteps:=9^7) only [ss, evLit, tab, reduceCtorEq, reduceIte, Nat.reduceEqDiff, Nat.reduceBEq, Int.reduceLE, Int.reduceToNat, Nat.reduceAdd, Nat.reduceLT, Nat.reduceLeDiff]
      refine ⟨(i, h), ⟨by simp only; omega, by simp only; omega, h3, fun k hk hki => ?_⟩, by simp only; omega, ?_⟩
      · have := of_decide_eq_false hf
        simp only at hki
        by_cases hkh : k = h
        · subst hkh; omega
        · have := hr k hk h (by omega); omega
      · refine le_of_all ?_ ?_ rfl rfl rfl rfl <;> simp only [patch, sl]
  · simp only [thenA, blockA, if_true]
    refine hKB _ ?_
    clear hKB KB hKC KC
    have hij : i = j := by have := of_decide_eq_false hf; omega
    subst hij
    have hL : lower l b = i := lower_of h2 h3 h4
    rw [hL]
    by_cases hlt : i < l.length
    · have hg := getD_map secC l i [] hlt
      have e0 : l.getD i noSec = l[i] := by simp [List.getD_eq_getElem?_getD, hlt]
      refine awp_seq_k fun K hK => awp_ev tab_ok [] ?_
      simp (maxSteps:=9^7) only [ss, evLit, tab, reduceCtorEq, reduceIte, Nat.reduceEqDiff, Nat.reduceBEq, Int.reduceLE, Int.reduceToNat, Nat.reduceAdd, Nat.reduceLT, Nat.reduceLeDiff, List.length_map, hlt, hg, secC, hb]
      repeat' (first | (with_reducible refine hK _ ?_; clear hK K) | with_reducible apply And.intro)
      refine call_pure (hp _ (List.getElem_mem hlt)) ?_
      rw [e0]
      simp (maxSteps:=9^7) only [ss, evLit, tab, reduceCtorEq, reduceIte, Nat.reduceEqDiff, Nat.reduceBEq, Int.reduceLE, Int.reduceToNat, Nat.reduceAdd, Nat.reduceLT, Nat.reduceLeDiff, cmpI_eq, hlt]
      repeat' (first | (with_reducible refine hK _ ?_; clear hK K) | with_reducible apply And.intro)
      repeat' (first | (with_reducible first | refine Vk fun K hK => ?_ | refine V0 ?_ | refine Vb ?_ | refine Vc ?_ | refine Vr ?_ | refine Vs ?_ | apply And.intro) | ((with_reducible first | refine gE ?_ | refine gR ?_); simp (maxSteps:=9^7) only [ss, evLit, tab, reduceCtorEq, reduceIte, Nat.reduceEqDiff, Nat.reduceBEq, Int.reduceLE, Int.reduceToNat, Nat.reduceAdd, Nat.reduceLT, Nat.reduceLeDiff]) | exact Vn | ((with_reducible refine Vz ?_); refine Vp rfl rfl rfl (fun _ _ => rfl) ?_ ?_ <;> first | rfl | (show AV.val (.bool _) = AV.val (.bool _); congr 2; simp [hlt, List.getElem?_eq_getElem hlt]; rfl) | skip) | ((with_reducible refine Vg (fun hg => ?_) (fun hg => ?_)) <;> (try simp only [nb] at hg) <;> simp (maxSteps:=9^7) only [ss, evLit, tab, reduceCtorEq, reduceIte, Nat.reduceEqDiff, Nat.reduceBEq, Int.reduceLE, Int.reduceToNat, Nat.reduceAdd, Nat.reduceLT, Nat.reduceLeDiff, hg]) | ((with_reducible refine Vx ?_); simp only [sb, reduceIte, Nat.reduceEqDiff]) | (refine hK _ ?_; clear hK K) | refine Vt rfl ?_ | refine Vf rfl ?_ | refine Vi rfl (fun hg => ?_) (fun hg => ?_) | clear hK K)
    · refine awp_seq_k fun K hK => awp_ev tab_ok [] ?_
      simp (maxSteps:=9^7) only [ss, evLit, tab, reduceCtorEq, reduceIte, Nat.reduceEqDiff, Nat.reduceBEq, Int.reduceLE, Int.reduceToNat, Nat.reduceAdd, Nat.reduceLT, Nat.reduceLeDiff, List.length_map, hlt]
      repeat' (first | (with_reducible refine hK _ ?_; clear hK K) | with_reducible apply And.intro)
      repeat' (first | (with_reducible first | refine Vk fun K hK => ?_ | refine V0 ?_ | refine Vb ?_ | refine Vc ?_ | refine Vr ?_ | refine Vs ?_ | apply And.intro) | ((with_reducible first | refine gE ?_ | refine gR ?_); simp (maxSteps:=9^7) only [ss, evLit, tab, reduceCtorEq, reduceIte, Nat.reduceEqDiff, Nat.reduceBEq, Int.reduceLE, Int.reduceToNat, Nat.reduceAdd, Nat.reduceLT, Nat.reduceLeDiff]) | exact Vn | ((with_reducible refine Vz ?_); refine Vp rfl rfl rfl (fun _ _ => rfl) ?_ ?_ <;> first | rfl | (show AV.val (.bool _) = AV.val (.bool _); congr 2; simp [hlt]) | skip) | ((with_reducible refine Vg (fun hg => ?_) (fun hg => ?_)) <;> (try simp only [nb] at hg) <;> simp (maxSteps:=9^7) only [ss, evLit, tab, reduceCtorEq, reduceIte, Nat.reduceEqDiff, Nat.reduceBEq, Int.reduceLE, Int.reduceToNat, Nat.reduceAdd, Nat.reduceLT, Nat.reduceLeDiff, hg]) | ((with_reducible refine Vx ?_); simp only [sb, reduceIte, Nat.reduceEqDiff]) | (refine hK _ ?_; clear hK K) | refine Vt rfl ?_ | refine Vf rfl ?_ | refine Vi rfl (fun hg => ?_) (fun hg => ?_) | clear hK K)
theorem c_place (l : List Sec) (b : Int) (hl : l.length ≤ 1000000000) (hr : Rising l) :
    ACall Try.prog 81 [secsA l, i64 b] [] (.tup [i64 (lower l b : Int), bool (decide (lower l b < l.length ∧ (l.getD (lower l b) noSec).id = b))]) [] := by
  refine acall_of 0 Try.func81 rfl fun n out _ _ => ?_
  simp only [Try.ntmps81, List.length_cons, List.length_nil, List.length_map, List.length_replicate, rep_map, Nat.reduceAdd, Nat.reduceSub, List.replicate, List.cons_append, List.nil_append]
  repeat' (first | (with_reducible first | refine Vk fun K hK => ?_ | refine V0 ?_ | refine Vs ?_ | apply And.intro) | ((with_reducible first | refine gE ?_ | refine gR ?_); simp (maxSteps:=9^7) only [ss, evLit, tab, reduceCtorEq, reduceIte, Nat.reduceEqDiff, Nat.reduceBEq, Int.reduceLE, Int.reduceToNat, Nat.reduceAdd, Nat.reduceLT, Nat.reduceLeDiff]) | exact Vn | ((with_reducible refine Vz ?_); refine Vp rfl rfl rfl (fun _ _ => rfl) ?_ ?_ <;> first | rfl | skip) | (refine call_pure (c_bsearch l b _ (hb0 _ (by decide) (by decide)) hl hr fun x _ => c_place1 x b) ?_) | (refine hK _ ?_; clear hK K) | clear hK K)
end Go.Proofs.Ytgdhnngpfieloaa.Pln
