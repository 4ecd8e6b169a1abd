/-
  The law PackNames.
-/
import Derived.Test.YtgdhnngpfieloaaZGA
import Derived.Test.YtgdhnngpfieloaaZK18
namespace Go.Proofs.Ytgdhnngpfieloaa.Pln
set_option linter.unusedVariables false
set_option linter.unusedSimpArgs false
open Go Go.VS Tab
set_option maxHeartbeats 8000000
set_option maxRecDepth 8000
theorem lit8n (v : Int) (σ : AState) (K : AV → List (Nat × Res) → Prop) : evLit tab σ K none 28 1 [(0, .val (.int .u8 v))] = K (.sl 1 [[.val (.int .u8 v)]] .full) [] := evLit_one (T := tab) (ti := ti28) (te := ti5) rfl rfl rfl (by decide) (by decide) rfl rfl
set_option maxRecDepth 100000 in
theorem pk_tags : (Hm.tagOf [108] (encP pkP) == Hm.tagOf [107] (encP pkP)) = false := by decide +kernel
theorem c_lawPNames12 : ACall Try.prog 4 [] [] (bool true) [] := by
  have ct := fun k => c_textK k pkP pkP_sm pkP_may
  have cw := c_write [107] pkP pkP_sm (by decide)
  rw [show writeB [107] pkP = encP pkP ++ Hm.tagOf [107] (encP pkP) from if_pos ⟨by decide, pkP_may⟩, show writeE [107] pkP = 0 from (if_neg (by decide)).trans (if_pos pkP_may)] at cw
  have hl := text_len pkP_may
  have ht : (Hm.tagOf [107] (encP pkP)).length = 32 := Hm.sumOf_length _
  have hlen : (encP pkP ++ Hm.tagOf [107] (encP pkP)).length = (encP pkP).length + 32 := by rw [List.length_append, ht]
  have hN : readN (encP pkP ++ Hm.tagOf [107] (encP pkP)) = encP pkP := by
    unfold readN
    rw [hlen, Nat.add_sub_cancel]
    exact List.take_left' rfl
  have hX : readX (encP pkP ++ Hm.tagOf [107] (encP pkP)) = Hm.tagOf [107] (encP pkP) := by
    unfold readX
    rw [hlen, Nat.add_sub_cancel]
    exact List.drop_left' rfl
  have hR : readR [108] (encP pkP ++ Hm.tagOf [107] (encP pkP)) = false := by
    unfold readR
    rw [hN, hX]; exact pk_tags
  have c1 := c_read [108] (encP pkP ++ Hm.tagOf [107] (encP pkP)) (by decide) (by omega)
  rw [readE_tag (by rw [hlen]; simp only [List.length_cons, List.length_nil]; omega) (by omega) hR] at c1
  generalize readD [108] (encP pkP ++ Hm.tagOf [107] (encP pkP)) = Q1 at c1
  have c2 := c_read [107] ((encP pkP ++ Hm.tagOf [107] (encP pkP)).take 31) (by decide) (by rw [List.length_take]; omega)
  rw [readE_short (by rw [List.length_take]; simp only [List.length_cons, List.length_nil]; omega) (by rw [List.length_take]; omega)] at c2
  generalize readD [107] ((encP pkP ++ Hm.tagOf [107] (encP pkP)).take 31) = Q2 at c2
  have c3 := c_parse (encP pkP ++ [0]) (by rw [List.length_append, List.length_singleton]; omega)
  rw [parse_text pkP_may [0]] at c3
  rw [show (decide (([0] : List UInt8) = [])) = false from rfl] at c3
  simp only [Bool.false_eq_true, if_false] at c3
  have c4 := c_read (List.replicate 65 0) (encP pkP ++ Hm.tagOf [107] (encP pkP)) (by decide) (by omega)
  rw [readE_big (.inl (by rw [List.length_replicate]; decide))] at c4
  generalize readD (List.replicate 65 0) (encP pkP ++ Hm.tagOf [107] (encP pkP)) = Q4 at c4
  have c5 := c_read [107] (List.replicate 2049 0) (by decide) (by rw [List.length_replicate]; decide)
  rw [readE_big (.inr (by rw [List.length_replicate]; decide))] at c5
  generalize readD [107] (List.replicate 2049 0) = Q5 at c5
  have ca := c_alive12
  have co := c_one12
  generalize Hm.tagOf [107] (encP pkP) = T at *
  generalize encP pkP = B at *
  generalize pkP = P at ct cw co
  clear hN hX hR
  have k1 : ¬ ((B.length + 32 : Nat) : Int) < 32 := by omega
  have k2 : 31 ≤ B.length + 32 := by omega
  have y1 : B.length + 1 ≤ 140737488355328 := by omega
  have y2 : B.length + 1 ≤ 9223372036854775807 := by omega
  have eb : bytesAV B ++ [[.val (.int .u8 0)]] = bytesAV (B ++ [0]) := bytes_app B [0]
  simp only [plA, plC] at *
  refine acall_of 10 Try.func4 rfl fun n out _ _ => ?_
  simp only [Try.ntmps4, List.length_cons, List.length_nil, List.length_map, List.length_replicate, rep_map, Nat.reduceAdd, Nat.reduceSub, List.replicate, List.cons_append, List.nil_append]
  repeat' (first | (with_reducible first | refine Vk fun K hK => ?_ | refine Ve [(21, none), (31, none), (38, none), (59, none)] ?_ | refine Vs ?_ | apply And.intro) | ((with_reducible first | refine gE ?_ | refine gR ?_); simp (maxSteps:=9^7) only [ss, tab, reduceCtorEq, reduceIte, Nat.reduceEqDiff, Nat.reduceBEq, Int.reduceLE, Int.reduceToNat, Nat.reduceAdd, Nat.reduceLT, Nat.reduceLeDiff, plA, plC, bytes_length, splice_all, hlen, k1, k2, y1, y2, eb, noughts, lit8n, decide_false, loOf, hiOf, Nat.sub_zero, bytes_take, Int.reduceBEq, Int.reduceBNe]) | exact Vn | ((with_reducible refine Vz ?_); refine Vo rfl rfl rfl (fun _ _ => rfl) ?_ <;> first | rfl | skip) | (refine lit_k 107 _ _ rfl ?_) | (refine lit_k 108 _ _ rfl ?_) | (refine call_pure (co) ?_) | (refine call_one (ct (n + 0)) (look_loc _ (Nat.le_refl _) 0) (dom_loc _ (by simp)) (by simp) ?_) | (refine call_pure (cw) ?_) | (refine call_pure (c1) ?_) | (refine call_pure (c2) ?_) | (refine call_pure (acall_le c3 ⟨.sh _ _ _, trivial⟩) ?_) | (refine call_pure (acall_le c4 ⟨.sh _ _ _, .rfl _, trivial⟩) ?_) | (refine call_pure (acall_le c5 ⟨.rfl _, .sh _ _ _, trivial⟩) ?_) | (refine call_pure (ca) ?_) | ((with_reducible refine Vg (fun hg => ?_) (fun hg => ?_)) <;> (try simp only [nb] at hg) <;> simp (maxSteps:=9^7) only [ss, tab, reduceCtorEq, reduceIte, Nat.reduceEqDiff, Nat.reduceBEq, Int.reduceLE, Int.reduceToNat, Nat.reduceAdd, Nat.reduceLT, Nat.reduceLeDiff, hg, plA, plC, bytes_length, splice_all, hlen, k1, k2, y1, y2, eb, noughts, lit8n, decide_false, loOf, hiOf, Nat.sub_zero, bytes_take, Int.reduceBEq, Int.reduceBNe]) | (refine hK _ ?_; clear hK K) | refine Vt rfl ?_ | refine Vf rfl ?_ | refine Vi rfl (fun hg => ?_) (fun hg => ?_) | clear hK K)
  all_goals decide
end Go.Proofs.Ytgdhnngpfieloaa.Pln
