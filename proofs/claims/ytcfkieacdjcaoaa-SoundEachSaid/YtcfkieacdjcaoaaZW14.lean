/-
  What all routes come to.
-/
import Derived.Test.YtcfkieacdjcaoaaZGA
import Derived.Test.YtcfkieacdjcaoaaZWD
namespace Go.Proofs.Ytcfkieacdjcaoaa.Pln
set_option linter.unusedVariables false
set_option linter.unusedSimpArgs false
open Go Go.VS Tab
set_option maxHeartbeats 8000000
set_option maxRecDepth 4000
theorem ret_ttt {P : Program} {n : Nat} {fn : Func} {out : Nat → Option Res} {gives : List (Nat × Res)} {r r' q q' u u' : AV} {a b c : Tmp} {e : Exit} {σ : AState} (he : e = .normal ∨ e = .ret) (hr : fn.results = #[.tmp a, .tmp b, .tmp c]) (hd : σ.df = []) (h0 : σ.n0 = n)
    (ho : ∀ k, k < n → σ.out k = upd out gives k) (hx : σ.fr.getD a .top = r) (hy : σ.fr.getD b .top = q) (hz : σ.fr.getD c .top = u) (l1 : AV.le r r') (l2 : AV.le q q') (l3 : AV.le u u') : retPost P n fn out gives (.tup [r', q', u']) e σ := by
  refine ⟨he, hd, h0, ho, fun M act hI hs => ?_⟩
  have h1 := hs.ev (.tmp a)
  have h2 := hs.ev (.tmp b)
  have h3 := hs.ev (.tmp c)
  simp only [AState.ev, Act.eval] at h1 h2 h3
  rw [hx] at h1
  rw [hy] at h2
  rw [hz] at h3
  refine ⟨.tuple #[act.tmps.getD a undef, act.tmps.getD b undef, act.tmps.getD c undef], by simp [results, hr], .tup _ _ rfl fun i c v hi hv => ?_⟩
  match i, hi, hv with
  | 0, hi, hv => simp at hi hv; subst hi; subst hv; simpa using h1.le l1
  | 1, hi, hv => simp at hi hv; subst hi; subst hv; simpa using h2.le l2
  | 2, hi, hv => simp at hi hv; subst hi; subst hv; simpa using h3.le l3
def joC (l : List (Int × Int)) : List AV := [.sl 2 (l.map jnC) .sh]
def allE (p : Pl) : Int := if mayP p then (match p.rts.find? (fun r => folE p r != 0) with
  | some r => folE p r
  | none => 0) else 8
def allW (p : Pl) : List Wy := if allE p = 0 then p.rts.map (folW p) else []
def allO (p : Pl) : List (List (Int × Int)) := if allE p = 0 then p.rts.map (folO p) else []
theorem find_first {α : Type} {f : α → Bool} {l : List α} {i : Nat} (hi : i < l.length) (hf : f l[i] = true) (hq : ∀ j (hj : j < l.length), j < i → f l[j] = false) : l.find? f = some l[i] := by
  rw [List.find?_eq_some_iff_getElem]
  exact ⟨hf, i, hi, rfl, fun j hj => by simp [hq j (by omega) hj]⟩
theorem find_none' {α : Type} {f : α → Bool} {l : List α} (hq : ∀ j (hj : j < l.length), f l[j] = false) : l.find? f = none := by
  rw [List.find?_eq_none]
  intro x hx
  obtain ⟨i, hi, rfl⟩ := List.getElem_of_mem hx
  simp [hq i hi]
theorem c_wall (p : Pl) (hs : Sm p) : ACall Try.prog 33 [plA p] [] (.tup [.sl 4 ((allW p).map wyC) .sh, .sl 1 ((allO p).map joC) .sh, i64 (allE p)]) [] := by
  have cc := c_pcheck p hs
  have hrl := hs.rts
  cases hmy : mayP p with
  | false =>
    have e1 : allE p = 8 := by unfold allE; rw [hmy]; rfl
    have e2 : allW p = [] := by unfold allW; rw [e1]; rfl
    have e3 : allO p = [] := by unfold allO; rw [e1]; rfl
    rw [e1, e2, e3]
    rw [hmy] at cc
    refine acall_of 5 Try.func33 rfl fun n out _ _ => ?_
    simp only [Try.ntmps33, List.length_cons, List.length_nil, List.length_map, List.length_replicate, rep_map, Nat.reduceAdd, Nat.reduceSub, List.replicate, List.cons_append, List.nil_append]
    repeat' (first | (with_reducible first | refine Vk fun K hK => ?_ | refine V0 ?_ | refine Vb ?_ | refine Vc ?_ | refine Vr ?_ | refine Vs ?_ | apply And.intro) | ((with_reducible first | refine gE ?_ | refine gR ?_); simp (maxSteps:=9^7) only [ss, evLit, tab, reduceCtorEq, reduceIte, Nat.reduceEqDiff, Nat.reduceBEq, Int.reduceLE, Int.reduceToNat, Nat.reduceAdd, Nat.reduceLT, Nat.reduceLeDiff, plA, plC, Bool.false_eq_true, Int.reduceBNe]) | exact Vn | (refine call_pure (cc) ?_) | ((with_reducible refine Vx ?_); simp only [sb, reduceIte, Nat.reduceEqDiff]) | (refine hK _ ?_; clear hK K) | refine Vt rfl ?_ | refine Vf rfl ?_ | refine Vi rfl (fun hg => ?_) (fun hg => ?_) | clear hK K)
    refine awp_ret (ret_ttt (.inr rfl) rfl rfl rfl (fun _ _ => rfl) rfl rfl rfl ?_ ?_ ?_) <;> simp only [List.map_nil, patch, sl]
  | true =>
    rw [hmy] at cc
    have cf : ∀ (i : Nat) (hi : i < p.rts.length), ACall Try.prog 55 [plA p, rtA p.rts[i]] [] (.tup [wyA (folW p p.rts[i]), .sl 2 ((folO p p.rts[i]).map jnC) .sh, i64 (folE p p.rts[i])]) [] := fun i hi => by
      obtain ⟨h1, en, _, h3, _, h5⟩ := entry_of hmy (List.getElem_mem hi)
      exact c_followed p p.rts[i] hs (hs.rt _ (List.getElem_mem hi)) h1 (by rw [h3]; exact h5)
    obtain ⟨RW, hRW⟩ : ∃ RW, RW = allW p := ⟨_, rfl⟩
    obtain ⟨RO, hRO⟩ : ∃ RO, RO = allO p := ⟨_, rfl⟩
    obtain ⟨RE, hRE⟩ : ∃ RE, RE = allE p := ⟨_, rfl⟩
    rw [← hRW, ← hRO, ← hRE]
    refine acall_of 5 Try.func33 rfl fun n out _ _ => ?_
    simp only [Try.ntmps33, List.length_cons, List.length_nil, List.length_map, List.length_replicate, rep_map, Nat.reduceAdd, Nat.reduceSub, List.replicate, List.cons_append, List.nil_append]
    repeat' (first | (with_reducible first | refine Vk fun K hK => ?_ | refine V0 ?_ | refine Vb ?_ | refine Vc ?_ | refine Vr ?_ | refine Vs ?_ | apply And.intro) | ((with_reducible first | refine gE ?_ | refine gR ?_); simp (maxSteps:=9^7) only [ss, evLit, tab, reduceCtorEq, reduceIte, Nat.reduceEqDiff, Nat.reduceBEq, Int.reduceLE, Int.reduceToNat, Nat.reduceAdd, Nat.reduceLT, Nat.reduceLeDiff, plA, plC, Int.reduceBNe, List.length_map]) | exact Vn | (refine call_pure (cc) ?_) | ((with_reducible refine Vx ?_); simp only [sb, reduceIte, Nat.reduceEqDiff]) | (refine hK _ ?_; clear hK K) | refine Vt rfl ?_ | refine Vf rfl ?_ | refine Vi rfl (fun hg => ?_) (fun hg => ?_) | clear hK K)
    refine awp_le (le_row (i := 1) 59 4 rfl) ?_
    refine awp_le (le_row (i := 2) 71 1 rfl) ?_
    simp only [s_0, s_s]
    refine awp_block ?_
    refine awp_for_mv (fun m (i : Nat) => [(17, i64 (i : Int)), (4, i64 0), (1, .ptr (m + 0) 0), (2, .sl 4 ((p.rts.take i).map fun r => wyC (folW p r)) (.own (m + 1))), (3, .sl 1 ((p.rts.take i).map fun r => joC (folO p r)) (.own (m + 2))), (6, .top), (7, .top), (8, .top), (9, .top), (18, .top), (19, .top), (20, .top), (21, .top), (22, .top), (23, .top), (24, .top), (25, .top), (26, .top), (27, .top), (28, .top), (29, .top), (30, .top), (31, .top), (32, .top), (33, .top), (34, .top), (35, .top), (36, .top), (37, .top), (38, .top), (39, .top)]) (fun m i => [some (.box 27 (plC p)), some (.row 59 4 i), some (.row 71 1 i), none, none]) (fun i => out) (fun i => i ≤ p.rts.length ∧ (∀ j (hj : j < p.rts.length), j < i → (folE p p.rts[j] != 0) = false)) (fun i => p.rts.length - i) 0 ⟨Nat.zero_le _, by intros; omega⟩ ?_ fun m i hm hi => ?_
    · refine le_of_all ?_ ?_ (by first | rfl | (simp only [plC, List.take_zero, List.map_nil, List.length_map]; rfl) | simp only [plC, List.take_zero, List.map_nil, List.length_map]) rfl rfl rfl <;> simp only [patch, sl, plC, List.take_zero, List.map_nil, List.length_map]
    obtain ⟨hi, hq⟩ := hi
    simp only [patch, s_0, s_s]
    have hw := addw (n := i) 1 1 rfl (by omega)
    by_cases hlt : i < p.rts.length
    · have gi := getD_map rtC p.rts i [] hlt
      have cF := cf i hlt
      have next : (folE p p.rts[i] != 0) = false → ∀ j (hj : j < p.rts.length), j < i + 1 → (folE p p.rts[j] != 0) = false := fun h j hj hji => by
        by_cases h' : j = i
        · subst h'; exact h
        · exact hq j hj (by omega)
      have bad : (folE p p.rts[i] != 0) = true → allE p = folE p p.rts[i] ∧ allW p = [] ∧ allO p = [] := fun h => by
        have e1 : allE p = folE p p.rts[i] := by
          unfold allE; rw [hmy, find_first (f := fun r => folE p r != 0) hlt h hq]; rfl
        have hn : ¬ allE p = 0 := by rw [e1]; simpa using h
        exact ⟨e1, by unfold allW; rw [if_neg hn], by unfold allO; rw [if_neg hn]⟩
      have hsw := map_snoc (fun r => wyC (folW p r)) p.rts i hlt
      have hso := map_snoc (fun r => joC (folO p r)) p.rts i hlt
      clear hq cf
      cases hb : (folE p p.rts[i] != 0) with
      | true =>
        obtain ⟨e1, e2, e3⟩ := bad hb
        rw [e1] at hRE
        rw [e2] at hRW
        rw [e3] at hRO
        subst hRE hRW hRO
        simp only [plA, plC, rtA, rtC, wyA, wyC] at cF
        repeat' (first | (with_reducible first | refine Vk fun K hK => ?_ | refine V0 ?_ | refine Vb ?_ | refine Vc ?_ | refine Vr ?_ | refine Vs ?_ | apply And.intro) | ((with_reducible first | refine gE ?_ | refine gR ?_); simp (maxSteps:=9^7) only [ss, evLit, tab, reduceCtorEq, reduceIte, Nat.reduceEqDiff, Nat.reduceBEq, Int.reduceLE, Int.reduceToNat, Nat.reduceAdd, Nat.reduceLT, Nat.reduceLeDiff, locM hm, plC, rtC, List.length_map, hlt, gi, splice_all, hb]) | exact Vn | (refine call_pure (cF) ?_) | ((with_reducible refine Vx ?_); simp only [sb, reduceIte, Nat.reduceEqDiff]) | (refine hK _ ?_; clear hK K) | refine Vt rfl ?_ | refine Vf rfl ?_ | refine Vi rfl (fun hg => ?_) (fun hg => ?_) | clear hK K)
        refine awp_ret (ret_ttt (.inr rfl) rfl rfl rfl (fun _ _ => rfl) rfl rfl rfl ?_ ?_ ?_) <;> simp only [List.map_nil, patch, sl]
      | false =>
        have nx := next hb
        clear next bad
        have lw : ∀ (σ : AState) (K : AV → List (Nat × Res) → Prop), evLit tab σ K none 81 1 [(0, .agg [.sl 1 ((folW p p.rts[i]).path.map intC) .sh, .sl 1 ((folW p p.rts[i]).over.map intC) .sh, .sl 3 ((folW p p.rts[i]).asks.map sgC) .sh, i64 (folW p p.rts[i]).near])] = K (.sl 4 [[.sl 1 ((folW p p.rts[i]).path.map intC) .sh, .sl 1 ((folW p p.rts[i]).over.map intC) .sh, .sl 3 ((folW p p.rts[i]).asks.map sgC) .sh, i64 (folW p p.rts[i]).near]] .full) [] := fun σ K => evLit_one (T := tab) (ti := ti81) (te := ti59) rfl rfl rfl (by decide) (by decide) rfl rfl
        have lo' : ∀ (σ : AState) (K : AV → List (Nat × Res) → Prop), evLit tab σ K none 82 1 [(0, .sl 2 ((folO p p.rts[i]).map jnC) .sh)] = K (.sl 1 [[.sl 2 ((folO p p.rts[i]).map jnC) .sh]] .full) [] := fun σ K => evLit_one (T := tab) (ti := ti82) (te := ti71) rfl rfl rfl (by decide) (by decide) rfl rfl
        have hsw' : (p.rts.take i).map (fun r => wyC (folW p r)) ++ [[.sl 1 ((folW p p.rts[i]).path.map intC) .sh, .sl 1 ((folW p p.rts[i]).over.map intC) .sh, .sl 3 ((folW p p.rts[i]).asks.map sgC) .sh, i64 (folW p p.rts[i]).near]] = (p.rts.take (i + 1)).map fun r => wyC (folW p r) := hsw
        have hso' : (p.rts.take i).map (fun r => joC (folO p r)) ++ [[.sl 2 ((folO p p.rts[i]).map jnC) .sh]] = (p.rts.take (i + 1)).map fun r => joC (folO p r) := hso
        simp only [plA, plC, rtA, rtC, wyA, wyC] at cF
        have z1 : (i + 1) * 80 ≤ 140737488355328 := by omega
        have z2 : (i + 1) * 24 ≤ 140737488355328 := by omega
        have z3 : i ≤ 9223372036854775806 := by omega
        repeat' (first | (with_reducible first | refine Vk fun K hK => ?_ | refine V0 ?_ | refine Vb ?_ | refine Vc ?_ | refine Vr ?_ | refine Vs ?_ | apply And.intro) | ((with_reducible first | refine gE ?_ | refine gR ?_); simp (maxSteps:=9^7) only [ss, tab, reduceCtorEq, reduceIte, Nat.reduceEqDiff, Nat.reduceBEq, Int.reduceLE, Int.reduceToNat, Nat.reduceAdd, Nat.reduceLT, Nat.reduceLeDiff, lw, lo', locM hm, plC, rtC, List.length_map, List.length_take, Nat.min_eq_left hi, hlt, gi, splice_all, hb, hw, z1, z2, z3]) | exact Vn | (refine call_pure (cF) ?_) | ((with_reducible refine Vx ?_); simp only [sb, reduceIte, Nat.reduceEqDiff]) | (refine hK _ ?_; clear hK K) | refine Vt rfl ?_ | refine Vf rfl ?_ | refine Vi rfl (fun hg => ?_) (fun hg => ?_) | clear hK K)
        rw [hsw', hso']
        refine ⟨i + 1, ⟨by omega, nx⟩, by omega, ?_⟩
        refine le_move [true, true, true, false, false] (fun n_ => ?_) (fun n_ => ?_) <;> simp only [patch, sm, plC, hlt, decide_true]
    · have e1 : allE p = 0 := by
        unfold allE; rw [hmy, find_none' (f := fun r => folE p r != 0) fun j hj => hq j hj (by omega)]; rfl
      have e2 : allW p = p.rts.map (folW p) := by unfold allW; rw [if_pos e1]
      have e3 : allO p = p.rts.map (folO p) := by unfold allO; rw [if_pos e1]
      rw [e1] at hRE
      rw [e2] at hRW
      rw [e3] at hRO
      subst hRE hRW hRO
      obtain rfl : i = p.rts.length := by omega
      clear hq
      have hm1 : (p.rts.map (folW p)).map wyC = p.rts.map fun r => wyC (folW p r) := by rw [List.map_map]; rfl
      have hm2 : (p.rts.map (folO p)).map joC = p.rts.map fun r => joC (folO p r) := by rw [List.map_map]; rfl
      repeat' (first | (with_reducible first | refine Vk fun K hK => ?_ | refine V0 ?_ | refine Vb ?_ | refine Vc ?_ | refine Vr ?_ | refine Vs ?_ | apply And.intro) | ((with_reducible first | refine gE ?_ | refine gR ?_); simp (maxSteps:=9^7) only [ss, evLit, tab, reduceCtorEq, reduceIte, Nat.reduceEqDiff, Nat.reduceBEq, Int.reduceLE, Int.reduceToNat, Nat.reduceAdd, Nat.reduceLT, Nat.reduceLeDiff, locM hm, List.length_map, hlt, List.take_length]) | exact Vn | ((with_reducible refine Vx ?_); simp only [sb, reduceIte, Nat.reduceEqDiff]) | (refine hK _ ?_; clear hK K) | refine Vt rfl ?_ | refine Vf rfl ?_ | refine Vi rfl (fun hg => ?_) (fun hg => ?_) | clear hK K)
      refine awp_ret (ret_ttt (.inr rfl) rfl rfl rfl (fun _ _ => rfl) rfl rfl rfl ?_ ?_ ?_) <;> simp only [hm1, hm2, patch, sl]
end Go.Proofs.Ytcfkieacdjcaoaa.Pln
