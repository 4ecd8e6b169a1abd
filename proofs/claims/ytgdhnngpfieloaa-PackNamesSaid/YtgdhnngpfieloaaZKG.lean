/- The layer of abstract values, joined: KG. -/
import Derived.Test.YtgdhnngpfieloaaZKF
import Derived.Test.YtgdhnngpfieloaaZR5
import Derived.Test.YtgdhnngpfieloaaZGA
import Derived.KernelRfl
section
namespace Go.Proofs.Ytgdhnngpfieloaa.Pln
set_option linter.unusedVariables false
set_option linter.unusedSimpArgs false
open Go Go.VS
set_option maxHeartbeats 1000000
theorem eqBy_eq {α : Type} {p : α → α → Bool} (h : ∀ a b, p a b = true → a = b) : ∀ {l q : List α}, eqBy p l q = true → l = q
  | [], [], _ => rfl
  | x :: l, y :: q, hh => by
    have h' : (p x y && eqBy p l q) = true := hh
    rw [Bool.and_eq_true] at h'
    rw [h x y h'.1, eqBy_eq h h'.2]
  | [], _ :: _, hh => by cases hh
  | _ :: _, [], hh => by cases hh
theorem sameS_eq (a b : Sec) (h : sameS a b = true) : a = b := by
  cases a; cases b
  simp [sameS] at h
  simp [h]
theorem sameP_iff {a b : Pl} : sameP a b = true ↔ a = b := by
  constructor
  · intro h
    unfold sameP at h
    simp only [Bool.and_eq_true, beq_iff_eq] at h
    obtain ⟨h1, h2, h3, h4, h5, h6⟩ := h
    have h3' := eqBy_eq sameS_eq h3
    have h6' := eqBy_eq (fun a b => sameR_iff.1) h6
    cases a; cases b
    simp only at *
    subst h1 h2 h3' h4 h5 h6'; rfl
  · rintro rfl; exact sameP_refl _
theorem text_same {p o : Pl} (hp : mayP p = true) (ho : mayP o = true) : (encP p == encP o) = sameP p o := by
  rw [Bool.eq_iff_iff, beq_iff_eq, sameP_iff]
  exact ⟨encP_inj hp ho, fun h => by rw [h]⟩
theorem read_own {key : List UInt8} {p : Pl} (hk : key.length ≤ 64) (h : mayP p = true) : readE key (encP p ++ Hm.tagOf key (encP p)) = 0 ∧ readD key (encP p ++ Hm.tagOf key (encP p)) = p := by
  have ht : (Hm.tagOf key (encP p)).length = 32 := Hm.sumOf_length _
  have hl := text_len h
  have hN : readN (encP p ++ Hm.tagOf key (encP p)) = encP p := by
    unfold readN
    rw [List.length_append, ht, Nat.add_sub_cancel]
    exact List.take_left' rfl
  have hX : readX (encP p ++ Hm.tagOf key (encP p)) = Hm.tagOf key (encP p) := by
    unfold readX
    rw [List.length_append, ht, Nat.add_sub_cancel]
    exact List.drop_left' rfl
  have hR : readR key (encP p ++ Hm.tagOf key (encP p)) = true := by
    unfold readR
    rw [hN, hX, beq_self_eq_true]
  have hp := parse_text h []
  rw [List.append_nil] at hp
  have hE : readE key (encP p ++ Hm.tagOf key (encP p)) = 0 := by
    rw [readE_ok (by rw [List.length_append]; omega) (by rw [List.length_append]; omega) hR, hN, hp]; rfl
  refine ⟨hE, ?_⟩
  unfold readD
  rw [if_pos hE, hN, parse_read h]
theorem read_ok {key b : List UInt8} (h : readE key b = 0) : key.length ≤ 64 ∧ mayP (readD key b) = true ∧ encP (readD key b) ++ Hm.tagOf key (encP (readD key b)) = b := by
  have hD : readD key b = (readP (readN b)).1 := if_pos h
  unfold readE at h
  split at h
  · cases h
  · rename_i h1
    split at h
    · cases h
    · rename_i h2
      split at h
      · rename_i h3
        split at h
        · rename_i h4
          obtain ⟨q1, q2⟩ := parse_ok h4
          rw [hD]
          refine ⟨by omega, q1, ?_⟩
          rw [q2]
          unfold readR at h3
          rw [beq_iff_eq] at h3
          rw [h3]
          exact List.take_append_drop _ _
        · cases h
      · cases h
theorem str_app (a b : List UInt8) : (⟨a.toArray⟩ ++ ⟨b.toArray⟩ : ByteArray) = ⟨(a ++ b).toArray⟩ := by
  apply ByteArray.ext
  simp
theorem str_size (a : List UInt8) : (⟨a.toArray⟩ : ByteArray).size = a.length := by simp [ByteArray.size]
end Go.Proofs.Ytgdhnngpfieloaa.Pln
end
section
namespace Go.Proofs.Ytgdhnngpfieloaa.Pln
set_option linter.unusedVariables false
set_option linter.unusedSimpArgs false
open Go Go.VS Tab
set_option maxHeartbeats 8000000
set_option maxRecDepth 8000
def pkP : Pl := ⟨2, 1, [⟨1, 0, [(2, 0), (0, 0)]⟩, ⟨2, 5, [(1, 0), (3, 0), (3, 1)]⟩, ⟨3, 0, [(2, 1), (2, 2)]⟩], [(5, 2)], [(4, 1, 0)], [⟨8, 4, 0, [2, 3], [], [], 3⟩]⟩
theorem c_one12 : ACall Try.prog 15 [] [] (plA pkP) [] := by
  refine acall_of 1 Try.func15 rfl fun n out _ _ => ?_
  simp only [Try.ntmps15, List.length_cons, List.length_nil, List.length_map, List.length_replicate, rep_map, Nat.reduceAdd, Nat.reduceSub, List.replicate, List.cons_append, List.nil_append]
  repeat' (first | (with_reducible first | refine Vk fun K hK => ?_ | refine V0 ?_ | refine Vs ?_ | apply And.intro) | ((with_reducible first | refine gE ?_ | refine gR ?_); simp (maxSteps:=9^7) only [ss, tab, reduceCtorEq, reduceIte, Nat.reduceEqDiff, Nat.reduceBEq, Int.reduceLE, Int.reduceToNat, Nat.reduceAdd, Nat.reduceLT, Nat.reduceLeDiff, splice_all, plA, plC, pkP, secC, jnC, sgC, rtC, intC, List.map_cons, List.map_nil]) | exact Vn | ((with_reducible refine Vz ?_); (first | refine ret_cell_le (.inr rfl) rfl rfl rfl (fun _ _ => rfl) ok27 (k := n + 0) (off := 0) rfl (dom_loc _ (by simp)) (look_loc _ (Nat.le_refl _) 0) rfl ?_ | refine ret_cell_le (.inr rfl) rfl rfl rfl (fun _ _ => rfl) ok27 (k := m + 0) (off := 0) rfl (dom_loc _ (by simp)) (look_loc _ hm 0) rfl ?_) <;> first | rfl | exact AV.le.rfl _ | (simp only [patch, sl, ti27, List.map_nil, splice_all, plA, plC, pkP, secC, jnC, sgC, rtC, intC, List.map_cons, List.map_nil]; done) | rfl | skip) | (refine evLit_of 2 [[i64 2, i64 0], [i64 0, i64 0]] rfl ?_) | (refine evLit_of 2 [[i64 1, i64 0], [i64 3, i64 0], [i64 3, i64 1]] rfl ?_) | (refine evLit_of 2 [[i64 2, i64 1], [i64 2, i64 2]] rfl ?_) | (refine evLit_of 3 [[i64 1, i64 0, .sl 2 [[i64 2, i64 0], [i64 0, i64 0]] .full], [i64 2, i64 5, .sl 2 [[i64 1, i64 0], [i64 3, i64 0], [i64 3, i64 1]] .full], [i64 3, i64 0, .sl 2 [[i64 2, i64 1], [i64 2, i64 2]] .full]] rfl ?_) | (refine evLit_of 2 [[i64 5, i64 2]] rfl ?_) | (refine evLit_of 3 [[i64 4, i64 1, i64 0]] rfl ?_) | (refine evLit_of 1 [[i64 2], [i64 3]] rfl ?_) | (refine evLit_of 7 [[i64 8, i64 4, i64 0, .sl 1 [[i64 2], [i64 3]] .full, .sl 0 [] .nil, .sl 0 [] .nil, i64 3]] rfl ?_) | (refine hK _ ?_; clear hK K) | clear hK K)
theorem pkP_sm : Sm pkP := ⟨by decide, by decide, by decide, by decide, by decide, by decide⟩
theorem pkP_may : mayP pkP = true := by kernel_rfl
theorem pkP_text : (encP pkP).take 7 = [2, 1, 3, 1, 0, 2, 0] ∧ 7 < (encP pkP).length := ⟨by kernel_rfl, of_decide_eq_true (by kernel_rfl)⟩
theorem lit_k (x : UInt8) (σ : AState) (K : AV → List (Nat × Res) → Prop) (hf : freeN σ none) (hK : K (.bsl (nameOf σ none) 0 1 true) [(nameOf σ none, .box 5 [b8 x])]) : evLit tab σ K (some none) 28 1 [(0, b8 x)] :=
  evLit_box 5 [b8 x] rfl hf hK
theorem c_alive12 : ACall Try.prog 18 [] [] (bool true) [] := by
  have c1 := c_text pkP pkP_sm
  rw [show textB pkP = encP pkP from if_pos pkP_may, show textE pkP = 0 from if_pos pkP_may] at c1
  have c2 := c_write [107] pkP pkP_sm (by decide)
  rw [show writeB [107] pkP = encP pkP ++ Hm.tagOf [107] (encP pkP) from if_pos ⟨by decide, pkP_may⟩, show writeE [107] pkP = 0 from (if_neg (by decide)).trans (if_pos pkP_may)] at c2
  have hl := text_len pkP_may
  have ht : (Hm.tagOf [107] (encP pkP)).length = 32 := Hm.sumOf_length _
  have c3 := c_read [107] (encP pkP ++ Hm.tagOf [107] (encP pkP)) (by decide) (by rw [List.length_append]; omega)
  obtain ⟨r1, r2⟩ := read_own (key := [107]) (by decide) pkP_may
  rw [r1, r2] at c3
  have c4 := c_rsameP pkP pkP pkP_sm
  rw [sameP_refl] at c4
  obtain ⟨t1, t2⟩ := pkP_text
  have co := c_one12
  generalize Hm.tagOf [107] (encP pkP) = T at c2 c3 ht
  obtain ⟨B, hB⟩ : ∃ B, B = encP pkP := ⟨_, rfl⟩
  rw [← hB] at c1 c2 c3 t1 t2 hl
  clear hB r1 r2
  obtain ⟨Q, hQ⟩ : ∃ Q, Q = pkP := ⟨_, rfl⟩
  rw [← hQ] at c1 c2 c3 c4 co
  clear hQ
  have hlen : (B ++ T).length = B.length + 32 := by rw [List.length_append, ht]
  have k7 : (7 : Int) < (B.length : Int) := by omega
  have k8 : 7 ≤ B.length := by omega
  have hadd := addw (n := B.length) 32 32 rfl (by omega)
  have hstr : (⟨#[2, 1, 3, 1, 0, 2, 0]⟩ : ByteArray) = ⟨([2, 1, 3, 1, 0, 2, 0] : List UInt8).toArray⟩ := rfl
  simp only [plA, plC] at c1 c2 c3 c4 co
  refine acall_of 3 Try.func18 rfl fun n out _ _ => ?_
  simp only [Try.ntmps18, List.length_cons, List.length_nil, List.length_map, List.length_replicate, rep_map, Nat.reduceAdd, Nat.reduceSub, List.replicate, List.cons_append, List.nil_append]
  repeat' (first | (with_reducible first | refine Vk fun K hK => ?_ | refine Ve [(13, none), (20, none)] ?_ | refine Vs ?_ | apply And.intro | refine Vd 4 [(13, none), (20, none)] [[],[],[],[],[],[],[],[],[],[],[],[],[],[],[],[],[],[],[],[],[],[],[],[],[],[],[],[],[],[],[2],[],[],[],[]] [[],[],[],[],[],[],[],[],[],[],[],[],[],[],[],[],[],[],[],[],[],[],[],[],[],[],[],[],[],[],[],[],[],[],[]] (by kernel_rfl) (by decide) (by decide) (by kernel_rfl) ?_ | refine Vq (by kernel_rfl) ?_) | ((with_reducible first | refine gE ?_ | refine gR ?_ | refine gD ?_ | refine gF ?_); simp (maxSteps:=9^7) only [ss, tab, reduceCtorEq, reduceIte, Nat.reduceEqDiff, Nat.reduceBEq, Int.reduceLE, Int.reduceToNat, Nat.reduceAdd, Nat.reduceLT, Nat.reduceLeDiff, sg, plA, plC, bytes_length, splice_all, hlen, ht, k7, k8, hadd, hstr, gt_iff_lt, loOf, hiOf, Nat.sub_zero, bytes_take, t1, ex_bytes, str_eq, beq_self_eq_true, Int.reduceBEq, Int.reduceBNe]) | exact Vn | ((with_reducible refine Vz ?_); refine Vo rfl rfl rfl (fun _ _ => rfl) ?_ <;> first | rfl | skip) | (refine lit_k 107 _ _ rfl ?_) | (refine call_pure (co) ?_) | (refine call_pure (c1) ?_) | (refine call_pure (c2) ?_) | (refine call_pure (c3) ?_) | (refine call_pure (c4) ?_) | ((with_reducible first | refine Vg (fun hg => ?_) (fun hg => ?_) | refine gselD_case (fun hg => ?_) (fun hg => ?_)) <;> (try simp only [nb] at hg) <;> simp (maxSteps:=9^7) only [ss, tab, reduceCtorEq, reduceIte, Nat.reduceEqDiff, Nat.reduceBEq, Int.reduceLE, Int.reduceToNat, Nat.reduceAdd, Nat.reduceLT, Nat.reduceLeDiff, hg, sg, plA, plC, bytes_length, splice_all, hlen, ht, k7, k8, hadd, hstr, gt_iff_lt, loOf, hiOf, Nat.sub_zero, bytes_take, t1, ex_bytes, str_eq, beq_self_eq_true, Int.reduceBEq, Int.reduceBNe]) | (refine hK _ ?_; clear hK K) | clear hK K)
end Go.Proofs.Ytgdhnngpfieloaa.Pln
end
