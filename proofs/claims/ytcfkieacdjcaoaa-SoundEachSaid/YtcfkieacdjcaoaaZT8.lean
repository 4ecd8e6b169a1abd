/-
  The law SoundEach.
-/
import Derived.Test.YtcfkieacdjcaoaaZGA
import Derived.Test.YtcfkieacdjcaoaaZW22
import Derived.Test.YtcfkieacdjcaoaaZW23
import Derived.Test.YtcfkieacdjcaoaaZUA
namespace Go.Proofs.Ytcfkieacdjcaoaa.Pln
set_option linter.unusedVariables false
set_option linter.unusedSimpArgs false
open Go Go.VS Tab
set_option maxHeartbeats 8000000
set_option maxRecDepth 4000
theorem soundE_two (p : Pl) : soundE p = 0 ∨ soundE p = 100 := by unfold soundE; split <;> simp
theorem soundF_at {p : Pl} (hm : mayP p = true) {r : Rt} (hr : r ∈ p.rts) : (soundF p r.id = 0 ∨ soundF p r.id = 100) ∧ (soundF p r.id = 0 ↔ folE p r = 0 ∧ soundR p r = true) := by
  have hg := getR_of hm hr
  have e1 : rtE p r.id = 0 := by unfold rtE elE; rw [hm, hg]; rfl
  have e2 : rtO p r.id = r := by unfold rtO elD; rw [hm, hg]; rfl
  have e3 : ofE p r.id = folE p r := by unfold ofE; rw [if_pos e1, e2]
  unfold soundF
  rw [if_pos e1, e2, e3]
  by_cases h : folE p r = 0 ∧ soundR p r = true
  · rw [if_pos h]; exact ⟨.inl rfl, ⟨fun _ => h, fun _ => rfl⟩⟩
  · rw [if_neg h]; exact ⟨.inr rfl, ⟨fun e => absurd e (by decide), fun e => absurd e h⟩⟩
theorem soundE_all {p : Pl} (hm : mayP p = true) : (soundE p == 0) = p.rts.all fun r => soundF p r.id == 0 := by
  rw [Bool.eq_iff_iff, beq_iff_eq, List.all_eq_true]
  constructor
  · intro h r hr
    rw [beq_iff_eq, (soundF_at hm hr).2]
    exact (sound_zero h).2 r hr
  · intro h
    have h' : ∀ r, r ∈ p.rts → folE p r = 0 ∧ soundR p r = true := fun r hr => (soundF_at hm hr).2.1 (by simpa using h r hr)
    have e1 : allE p = 0 := by
      unfold allE
      rw [hm, if_pos rfl]
      rw [show p.rts.find? (fun r => folE p r != 0) = none from by
        rw [List.find?_eq_none]
        intro r hr
        simp [(h' r hr).1]]
    unfold soundE
    rw [if_pos ⟨e1, List.all_eq_true.2 fun r hr => (h' r hr).2⟩]
theorem c_lawEach (p : Pl) (x : UInt8) : ACall Try.prog 5 [plA p, b8 x] [] (bool true) [] := by
  have cg := c_rgreat p
  simp only [plA, plC] at cg
  cases hG : greatP p with
  | true =>
    rw [hG] at cg
    refine acall_of 3 Try.func5 rfl fun n out _ _ => ?_
    simp only [Try.ntmps5, List.length_cons, List.length_nil, List.length_map, List.length_replicate, rep_map, Nat.reduceAdd, Nat.reduceSub, List.replicate, List.cons_append, List.nil_append]
    repeat' (first | (with_reducible first | refine Vk fun K hK => ?_ | refine V0 ?_ | refine Vb ?_ | refine Vc ?_ | refine Vr ?_ | refine Vs ?_ | apply And.intro | refine Vq (by kernel_rfl) ?_) | ((with_reducible first | refine gE ?_ | refine gR ?_); simp (maxSteps:=9^7) only [ss, evLit, tab, reduceCtorEq, reduceIte, Nat.reduceEqDiff, Nat.reduceBEq, Int.reduceLE, Int.reduceToNat, Nat.reduceAdd, Nat.reduceLT, Nat.reduceLeDiff, plA, plC]) | exact Vn | ((with_reducible refine Vz ?_); refine Vo rfl rfl rfl (fun _ _ => rfl) ?_ <;> first | rfl | skip) | (refine call_pure (cg) ?_) | (refine call_pure (c_salive) ?_) | ((with_reducible refine Vg (fun hg => ?_) (fun hg => ?_)) <;> (try simp only [nb] at hg) <;> simp (maxSteps:=9^7) only [ss, evLit, tab, reduceCtorEq, reduceIte, Nat.reduceEqDiff, Nat.reduceBEq, Int.reduceLE, Int.reduceToNat, Nat.reduceAdd, Nat.reduceLT, Nat.reduceLeDiff, hg, plA, plC]) | ((with_reducible refine Vx ?_); simp only [sb, reduceIte, Nat.reduceEqDiff]) | (refine hK _ ?_; clear hK K) | refine Vt rfl ?_ | refine Vf rfl ?_ | refine Vi rfl (fun hg => ?_) (fun hg => ?_) | clear hK K)
  | false =>
    rw [hG] at cg
    have hs := small_of hG
    have c1 := c_soundC p hs
    have c2 := c_pcheck p hs
    have hrl := hs.rts
    cases hmy : mayP p with
    | false =>
      have hE : soundE p = 100 := by
        rcases soundE_two p with h | h
        · have := (sound_zero h).1; rw [hmy] at this; cases this
        · exact h
      rw [hmy] at c2
      rw [hE] at c1
      simp only [plA, plC, Bool.false_eq_true, if_false] at c1 c2
      refine acall_of 3 Try.func5 rfl fun n out _ _ => ?_
      simp only [Try.ntmps5, List.length_cons, List.length_nil, List.length_map, List.length_replicate, rep_map, Nat.reduceAdd, Nat.reduceSub, List.replicate, List.cons_append, List.nil_append]
      repeat' (first | (with_reducible first | refine Vk fun K hK => ?_ | refine V0 ?_ | refine Vb ?_ | refine Vc ?_ | refine Vr ?_ | refine Vs ?_ | apply And.intro | refine Vq (by kernel_rfl) ?_) | ((with_reducible first | refine gE ?_ | refine gR ?_); simp (maxSteps:=9^7) only [ss, evLit, tab, reduceCtorEq, reduceIte, Nat.reduceEqDiff, Nat.reduceBEq, Int.reduceLE, Int.reduceToNat, Nat.reduceAdd, Nat.reduceLT, Nat.reduceLeDiff, plA, plC, Int.reduceBNe, Int.reduceBEq]) | exact Vn | ((with_reducible refine Vz ?_); refine Vo rfl rfl rfl (fun _ _ => rfl) ?_ <;> first | rfl | skip) | (refine call_pure (cg) ?_) | (refine call_pure (c_salive) ?_) | (refine call_pure (c1) ?_) | (refine call_pure (c2) ?_) | ((with_reducible refine Vg (fun hg => ?_) (fun hg => ?_)) <;> (try simp only [nb] at hg) <;> simp (maxSteps:=9^7) only [ss, evLit, tab, reduceCtorEq, reduceIte, Nat.reduceEqDiff, Nat.reduceBEq, Int.reduceLE, Int.reduceToNat, Nat.reduceAdd, Nat.reduceLT, Nat.reduceLeDiff, hg, plA, plC, Int.reduceBNe, Int.reduceBEq]) | ((with_reducible refine Vx ?_); simp only [sb, reduceIte, Nat.reduceEqDiff]) | (refine hK _ ?_; clear hK K) | refine Vt rfl ?_ | refine Vf rfl ?_ | refine Vi rfl (fun hg => ?_) (fun hg => ?_) | clear hK K)
    | true =>
      have hall := soundE_all hmy
      have h2 := soundE_two p
      have cF := fun i (hi : i < p.rts.length) => c_soundR p hs p.rts[i].id
      have hF := fun i (hi : i < p.rts.length) => (soundF_at hmy (List.getElem_mem hi)).1
      obtain ⟨B, hB⟩ : ∃ B : Nat → Bool, B = fun i => (p.rts.take i).all fun r => soundF p r.id == 0 := ⟨_, rfl⟩
      have hB0 : B 0 = true := by rw [hB]; rfl
      have hBS : ∀ i (hi : i < p.rts.length), B (i + 1) = (B i && soundF p p.rts[i].id == 0) := fun i hi => by
        rw [hB]; dsimp only
        rw [List.take_succ_eq_append_getElem hi, List.all_append]; simp
      have hBN : (soundE p == 0) = B p.rts.length := by rw [hall, hB]; dsimp only; rw [List.take_length]
      rw [hmy] at c2
      have cq := fun n (h : soundE p = 0) => c_soundC (fewP p n) (few_sm hs n)
      have hfew := fun n (h : soundE p = 0) => few_sound h n
      have ct := fun k (h : 0 < p.rts.length) => c_rtwinPK k p hs h
      have hch := fun {n} (h : n < p.rts.length) => few_chunks p h
      have hcl : (p.rts.map rtC).flatten.length = p.rts.length * 7 := by rw [flat_length (rts_rows _), List.length_map]
      clear hall hB
      simp only [plA, plC, if_true] at c1 c2 cF
      refine acall_of 3 Try.func5 rfl fun n out _ _ => ?_
      simp only [Try.ntmps5, List.length_cons, List.length_nil, List.length_map, List.length_replicate, rep_map, Nat.reduceAdd, Nat.reduceSub, List.replicate, List.cons_append, List.nil_append]
      repeat' (first | (with_reducible first | refine Vk fun K hK => ?_ | refine V0 ?_ | refine Vb ?_ | refine Vc ?_ | refine Vr ?_ | refine Vs ?_ | apply And.intro | refine Vq (by kernel_rfl) ?_) | ((with_reducible first | refine gE ?_ | refine gR ?_); simp (maxSteps:=9^7) only [ss, evLit, tab, reduceCtorEq, reduceIte, Nat.reduceEqDiff, Nat.reduceBEq, Int.reduceLE, Int.reduceToNat, Nat.reduceAdd, Nat.reduceLT, Nat.reduceLeDiff, plA, plC, Int.reduceBNe]) | exact Vn | ((with_reducible refine Vz ?_); refine Vo rfl rfl rfl (fun _ _ => rfl) ?_ <;> first | rfl | skip) | (refine call_pure (cg) ?_) | (refine call_pure (c_salive) ?_) | (refine call_pure (c1) ?_) | (refine call_pure (c2) ?_) | ((with_reducible refine Vg (fun hg => ?_) (fun hg => ?_)) <;> (try simp only [nb] at hg) <;> simp (maxSteps:=9^7) only [ss, evLit, tab, reduceCtorEq, reduceIte, Nat.reduceEqDiff, Nat.reduceBEq, Int.reduceLE, Int.reduceToNat, Nat.reduceAdd, Nat.reduceLT, Nat.reduceLeDiff, hg, plA, plC, Int.reduceBNe]) | ((with_reducible refine Vx ?_); simp only [sb, reduceIte, Nat.reduceEqDiff]) | (refine hK _ ?_; clear hK K) | refine Vt rfl ?_ | refine Vf rfl ?_ | refine Vi rfl (fun hg => ?_) (fun hg => ?_) | clear hK K)
      refine awp_block ?_
      refine awp_for_mv (fun m (i : Nat) => [(8, i64 (i : Int)), (7, bool (B i)), (2, .ptr (m + 0) 0), (4, .top), (9, .top), (27, .top), (28, .top), (29, .top), (30, .top), (31, .top), (32, .top), (33, .top), (34, .top), (35, .top), (36, .top), (37, .top), (38, .top), (39, .top), (40, .top), (41, .top), (42, .top), (43, .top), (44, .top), (45, .top), (46, .top), (47, .top), (48, .top), (49, .top), (50, .top), (51, .top), (52, .top)]) (fun m i => [some (.box 27 (plC p)), none, none]) (fun i => out) (fun i => i ≤ p.rts.length) (fun i => p.rts.length - i) 0 (Nat.zero_le _) ?_ fun m i hm hi => ?_
      · refine le_of_all ?_ ?_ (by first | rfl | (simp only [plC, hB0]; rfl) | simp only [plC, hB0]) rfl rfl rfl <;> simp only [patch, sl, plC, hB0]
      simp only [patch, s_0, s_s]
      have hw := addw (n := i) 1 1 rfl (by omega)
      by_cases hlt : i < p.rts.length
      · have gi := getD_map rtC p.rts i [] hlt
        have cFi := cF i hlt
        have hS := hBS i hlt
        have hFi := hF i hlt
        clear cF hBS hF cq hfew ct hch
        generalize soundF p p.rts[i].id = F at *
        generalize B i = Bi at *
        rcases hFi with rfl | rfl
        · rw [show ((0 : Int) == 0) = true from rfl, Bool.and_true] at hS
          cases Bi
          · repeat' (first | (with_reducible first | refine Vk fun K hK => ?_ | refine V0 ?_ | refine Vb ?_ | refine Vc ?_ | refine Vr ?_ | refine Vs ?_ | apply And.intro | refine Vq (by kernel_rfl) ?_) | ((with_reducible first | refine gE ?_ | refine gR ?_); simp (maxSteps:=9^7) only [ss, evLit, tab, reduceCtorEq, reduceIte, Nat.reduceEqDiff, Nat.reduceBEq, Int.reduceLE, Int.reduceToNat, Nat.reduceAdd, Nat.reduceLT, Nat.reduceLeDiff, locM hm, plC, rtC, List.length_map, hlt, gi, splice_all, Int.reduceBNe, Int.reduceBEq, hw]) | exact Vn | ((with_reducible refine Vz ?_); refine Vo rfl rfl rfl (fun _ _ => rfl) ?_ <;> first | rfl | skip) | (refine call_pure (cFi) ?_) | ((with_reducible refine Vg (fun hg => ?_) (fun hg => ?_)) <;> (try simp only [nb] at hg) <;> simp (maxSteps:=9^7) only [ss, evLit, tab, reduceCtorEq, reduceIte, Nat.reduceEqDiff, Nat.reduceBEq, Int.reduceLE, Int.reduceToNat, Nat.reduceAdd, Nat.reduceLT, Nat.reduceLeDiff, hg, locM hm, plC, rtC, List.length_map, hlt, gi, splice_all, Int.reduceBNe, Int.reduceBEq, hw]) | ((with_reducible refine Vx ?_); simp only [sb, reduceIte, Nat.reduceEqDiff]) | (refine hK _ ?_; clear hK K) | refine Vt rfl ?_ | refine Vf rfl ?_ | refine Vi rfl (fun hg => ?_) (fun hg => ?_) | clear hK K)
            refine ⟨i + 1, by omega, by omega, ?_⟩
            rw [hS]
            refine le_move [true, false, false] (fun n_ => ?_) (fun n_ => ?_) <;> simp only [patch, sm, plC, hlt, decide_true]
          · repeat' (first | (with_reducible first | refine Vk fun K hK => ?_ | refine V0 ?_ | refine Vb ?_ | refine Vc ?_ | refine Vr ?_ | refine Vs ?_ | apply And.intro | refine Vq (by kernel_rfl) ?_) | ((with_reducible first | refine gE ?_ | refine gR ?_); simp (maxSteps:=9^7) only [ss, evLit, tab, reduceCtorEq, reduceIte, Nat.reduceEqDiff, Nat.reduceBEq, Int.reduceLE, Int.reduceToNat, Nat.reduceAdd, Nat.reduceLT, Nat.reduceLeDiff, locM hm, plC, rtC, List.length_map, hlt, gi, splice_all, Int.reduceBNe, Int.reduceBEq, hw]) | exact Vn | ((with_reducible refine Vz ?_); refine Vo rfl rfl rfl (fun _ _ => rfl) ?_ <;> first | rfl | skip) | (refine call_pure (cFi) ?_) | ((with_reducible refine Vg (fun hg => ?_) (fun hg => ?_)) <;> (try simp only [nb] at hg) <;> simp (maxSteps:=9^7) only [ss, evLit, tab, reduceCtorEq, reduceIte, Nat.reduceEqDiff, Nat.reduceBEq, Int.reduceLE, Int.reduceToNat, Nat.reduceAdd, Nat.reduceLT, Nat.reduceLeDiff, hg, locM hm, plC, rtC, List.length_map, hlt, gi, splice_all, Int.reduceBNe, Int.reduceBEq, hw]) | ((with_reducible refine Vx ?_); simp only [sb, reduceIte, Nat.reduceEqDiff]) | (refine hK _ ?_; clear hK K) | refine Vt rfl ?_ | refine Vf rfl ?_ | refine Vi rfl (fun hg => ?_) (fun hg => ?_) | clear hK K)
            refine ⟨i + 1, by omega, by omega, ?_⟩
            rw [hS]
            refine le_move [true, false, false] (fun n_ => ?_) (fun n_ => ?_) <;> simp only [patch, sm, plC, hlt, decide_true]
        · rw [show ((100 : Int) == 0) = false from rfl, Bool.and_false] at hS
          cases Bi
          · repeat' (first | (with_reducible first | refine Vk fun K hK => ?_ | refine V0 ?_ | refine Vb ?_ | refine Vc ?_ | refine Vr ?_ | refine Vs ?_ | apply And.intro | refine Vq (by kernel_rfl) ?_) | ((with_reducible first | refine gE ?_ | refine gR ?_); simp (maxSteps:=9^7) only [ss, evLit, tab, reduceCtorEq, reduceIte, Nat.reduceEqDiff, Nat.reduceBEq, Int.reduceLE, Int.reduceToNat, Nat.reduceAdd, Nat.reduceLT, Nat.reduceLeDiff, locM hm, plC, rtC, List.length_map, hlt, gi, splice_all, Int.reduceBNe, Int.reduceBEq, hw]) | exact Vn | ((with_reducible refine Vz ?_); refine Vo rfl rfl rfl (fun _ _ => rfl) ?_ <;> first | rfl | skip) | (refine call_pure (cFi) ?_) | ((with_reducible refine Vg (fun hg => ?_) (fun hg => ?_)) <;> (try simp only [nb] at hg) <;> simp (maxSteps:=9^7) only [ss, evLit, tab, reduceCtorEq, reduceIte, Nat.reduceEqDiff, Nat.reduceBEq, Int.reduceLE, Int.reduceToNat, Nat.reduceAdd, Nat.reduceLT, Nat.reduceLeDiff, hg, locM hm, plC, rtC, List.length_map, hlt, gi, splice_all, Int.reduceBNe, Int.reduceBEq, hw]) | ((with_reducible refine Vx ?_); simp only [sb, reduceIte, Nat.reduceEqDiff]) | (refine hK _ ?_; clear hK K) | refine Vt rfl ?_ | refine Vf rfl ?_ | refine Vi rfl (fun hg => ?_) (fun hg => ?_) | clear hK K)
            refine ⟨i + 1, by omega, by omega, ?_⟩
            rw [hS]
            refine le_move [true, false, false] (fun n_ => ?_) (fun n_ => ?_) <;> simp only [patch, sm, plC, hlt, decide_true]
          · repeat' (first | (with_reducible first | refine Vk fun K hK => ?_ | refine V0 ?_ | refine Vb ?_ | refine Vc ?_ | refine Vr ?_ | refine Vs ?_ | apply And.intro | refine Vq (by kernel_rfl) ?_) | ((with_reducible first | refine gE ?_ | refine gR ?_); simp (maxSteps:=9^7) only [ss, evLit, tab, reduceCtorEq, reduceIte, Nat.reduceEqDiff, Nat.reduceBEq, Int.reduceLE, Int.reduceToNat, Nat.reduceAdd, Nat.reduceLT, Nat.reduceLeDiff, locM hm, plC, rtC, List.length_map, hlt, gi, splice_all, Int.reduceBNe, Int.reduceBEq, hw]) | exact Vn | ((with_reducible refine Vz ?_); refine Vo rfl rfl rfl (fun _ _ => rfl) ?_ <;> first | rfl | skip) | (refine call_pure (cFi) ?_) | ((with_reducible refine Vg (fun hg => ?_) (fun hg => ?_)) <;> (try simp only [nb] at hg) <;> simp (maxSteps:=9^7) only [ss, evLit, tab, reduceCtorEq, reduceIte, Nat.reduceEqDiff, Nat.reduceBEq, Int.reduceLE, Int.reduceToNat, Nat.reduceAdd, Nat.reduceLT, Nat.reduceLeDiff, hg, locM hm, plC, rtC, List.length_map, hlt, gi, splice_all, Int.reduceBNe, Int.reduceBEq, hw]) | ((with_reducible refine Vx ?_); simp only [sb, reduceIte, Nat.reduceEqDiff]) | (refine hK _ ?_; clear hK K) | refine Vt rfl ?_ | refine Vf rfl ?_ | refine Vi rfl (fun hg => ?_) (fun hg => ?_) | clear hK K)
            refine ⟨i + 1, by omega, by omega, ?_⟩
            rw [hS]
            refine le_move [true, false, false] (fun n_ => ?_) (fun n_ => ?_) <;> simp only [patch, sm, plC, hlt, decide_true]
      · obtain rfl : i = p.rts.length := by omega
        by_cases hE : soundE p = 0
        · rw [hE] at hBN
          rw [← hBN]
          rw [hE]
          by_cases hN : p.rts.length = 0
          · repeat' (first | (with_reducible first | refine Vk fun K hK => ?_ | refine V0 ?_ | refine Vb ?_ | refine Vc ?_ | refine Vr ?_ | refine Vs ?_ | apply And.intro | refine Vq (by kernel_rfl) ?_) | ((with_reducible first | refine gE ?_ | refine gR ?_); simp (maxSteps:=9^7) only [ss, evLit, tab, reduceCtorEq, reduceIte, Nat.reduceEqDiff, Nat.reduceBEq, Int.reduceLE, Int.reduceToNat, Nat.reduceAdd, Nat.reduceLT, Nat.reduceLeDiff, locM hm, plC, List.length_map, hlt, splice_all, Int.reduceBNe, Int.reduceBEq, hN, bne_self_eq_false, Int.cast_ofNat_Int]) | exact Vn | ((with_reducible refine Vz ?_); refine Vo rfl rfl rfl (fun _ _ => rfl) ?_ <;> first | rfl | skip) | ((with_reducible refine Vg (fun hg => ?_) (fun hg => ?_)) <;> (try simp only [nb] at hg) <;> simp (maxSteps:=9^7) only [ss, evLit, tab, reduceCtorEq, reduceIte, Nat.reduceEqDiff, Nat.reduceBEq, Int.reduceLE, Int.reduceToNat, Nat.reduceAdd, Nat.reduceLT, Nat.reduceLeDiff, hg, locM hm, plC, List.length_map, hlt, splice_all, Int.reduceBNe, Int.reduceBEq, hN, bne_self_eq_false, Int.cast_ofNat_Int]) | ((with_reducible refine Vx ?_); simp only [sb, reduceIte, Nat.reduceEqDiff]) | (refine hK _ ?_; clear hK K) | refine Vt rfl ?_ | refine Vf rfl ?_ | refine Vi rfl (fun hg => ?_) (fun hg => ?_) | clear hK K)
          · obtain ⟨n, hn⟩ : ∃ n, n = x.toNat % p.rts.length := ⟨_, rfl⟩
            have hnl : n < p.rts.length := by rw [hn]; exact Nat.mod_lt _ (by omega)
            have hrem : evInt .rem .i64 (x.toNat : Int) (p.rts.length : Int) = some (.int .i64 (n : Int)) := by
              rw [i_rem _ _ (by omega), hn]; rfl
            have hxw : IntKind.i64.wrap (x.toNat : Int) = (x.toNat : Int) := by
              have := x.toNat_lt
              rw [wrap_i64] <;> omega
            have hN0 : ((p.rts.length : Int) == 0) = false := by rw [beq_eq_false_iff_ne]; omega
            have c3 := ct (m + 2) (by omega)
            have c4 := cq n hE
            rw [hfew n hE] at c4
            have hc := hch hnl
            have hw1 := addw (n := n) 1 1 rfl (by omega)
            obtain ⟨CS, hCS⟩ : ∃ CS, CS = (p.rts.map rtC).flatten := ⟨_, rfl⟩
            rw [← hCS] at c3 hc hcl
            have y1 : (n + (p.rts.length - (n + 1))) * 7 ≤ CS.length := by omega
            have y2 : (n + 1) * 7 + (p.rts.length - (n + 1)) * 7 ≤ CS.length := by omega
            simp only [plA, plC] at c3 c4
            clear ct cq hfew hch cF hBS hF
            repeat' (first | (with_reducible first | refine Vk fun K hK => ?_ | refine V0 ?_ | refine Vb ?_ | refine Vc ?_ | refine Vr ?_ | refine Vs ?_ | apply And.intro | refine Vd 21 [] [[],[1],[],[],[],[1],[],[],[],[2],[],[1]] [[],[],[],[],[],[],[],[],[],[2],[],[1]] (by kernel_rfl) (by decide) (by decide) (by kernel_rfl) ?_ | refine Vq (by kernel_rfl) ?_) | ((with_reducible first | refine gE ?_ | refine gR ?_ | refine gD ?_ | refine gF ?_); simp (maxSteps:=9^7) only [ss, evLit, tab, reduceCtorEq, reduceIte, Nat.reduceEqDiff, Nat.reduceBEq, Int.reduceLE, Int.reduceToNat, Nat.reduceAdd, Nat.reduceLT, Nat.reduceLeDiff, locM hm, plC, List.length_map, hlt, splice_all, Int.reduceBNe, Int.reduceBEq, bne_self_eq_false, hN0, hrem, hxw, hw1, loOf, hiOf, Nat.sub_zero, hc]) | exact Vn | ((with_reducible refine Vz ?_); refine Vo rfl rfl rfl (fun _ _ => rfl) ?_ <;> first | rfl | skip) | (refine call_pure (c4) ?_) | (refine call_one c3 (look_loc _ hm 2) (dom_loc _ (by simp)) (by simp) ?_) | ((with_reducible refine Vg (fun hg => ?_) (fun hg => ?_)) <;> (try simp only [nb] at hg) <;> simp (maxSteps:=9^7) only [ss, evLit, tab, reduceCtorEq, reduceIte, Nat.reduceEqDiff, Nat.reduceBEq, Int.reduceLE, Int.reduceToNat, Nat.reduceAdd, Nat.reduceLT, Nat.reduceLeDiff, hg, locM hm, plC, List.length_map, hlt, splice_all, Int.reduceBNe, Int.reduceBEq, bne_self_eq_false, hN0, hrem, hxw, hw1, loOf, hiOf, Nat.sub_zero, hc]) | ((with_reducible refine Vx ?_); simp only [sb, reduceIte, Nat.reduceEqDiff]) | (refine hK _ ?_; clear hK K) | refine Vt rfl ?_ | refine Vf rfl ?_ | refine Vi rfl (fun hg => ?_) (fun hg => ?_) | clear hK K)
            all_goals omega
        · have h100 : soundE p = 100 := h2.resolve_left hE
          rw [h100] at hBN ⊢
          rw [← hBN]
          repeat' (first | (with_reducible first | refine Vk fun K hK => ?_ | refine V0 ?_ | refine Vb ?_ | refine Vc ?_ | refine Vr ?_ | refine Vs ?_ | apply And.intro | refine Vq (by kernel_rfl) ?_) | ((with_reducible first | refine gE ?_ | refine gR ?_); simp (maxSteps:=9^7) only [ss, evLit, tab, reduceCtorEq, reduceIte, Nat.reduceEqDiff, Nat.reduceBEq, Int.reduceLE, Int.reduceToNat, Nat.reduceAdd, Nat.reduceLT, Nat.reduceLeDiff, locM hm, plC, List.length_map, hlt, splice_all, Int.reduceBNe, Int.reduceBEq, bne_self_eq_false]) | exact Vn | ((with_reducible refine Vz ?_); refine Vo rfl rfl rfl (fun _ _ => rfl) ?_ <;> first | rfl | skip) | ((with_reducible refine Vg (fun hg => ?_) (fun hg => ?_)) <;> (try simp only [nb] at hg) <;> simp (maxSteps:=9^7) only [ss, evLit, tab, reduceCtorEq, reduceIte, Nat.reduceEqDiff, Nat.reduceBEq, Int.reduceLE, Int.reduceToNat, Nat.reduceAdd, Nat.reduceLT, Nat.reduceLeDiff, hg, locM hm, plC, List.length_map, hlt, splice_all, Int.reduceBNe, Int.reduceBEq, bne_self_eq_false]) | ((with_reducible refine Vx ?_); simp only [sb, reduceIte, Nat.reduceEqDiff]) | (refine hK _ ?_; clear hK K) | refine Vt rfl ?_ | refine Vf rfl ?_ | refine Vi rfl (fun hg => ?_) (fun hg => ?_) | clear hK K)
end Go.Proofs.Ytcfkieacdjcaoaa.Pln
