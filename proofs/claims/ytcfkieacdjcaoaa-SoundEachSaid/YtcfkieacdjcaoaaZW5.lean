/-
  A route followed.
-/
import Derived.Test.YtcfkieacdjcaoaaZGA
import Derived.Test.YtcfkieacdjcaoaaZWC
import Derived.Test.YtcfkieacdjcaoaaZW4
namespace Go.Proofs.Ytcfkieacdjcaoaa.Pln
set_option linter.unusedVariables false
set_option linter.unusedSimpArgs false
open Go Go.VS Tab
set_option maxHeartbeats 16000000
set_option maxRecDepth 8000
set_option linter.defProp false
theorem awp_patch {P : Program} {c : Code} {Q : Exit → AState → Prop} {σ : AState} (lE : List (Nat × AV)) (loE : List (Option Res)) (h1 : σ.le { σ with fr := patch σ.fr lE, lo := loE }) (h : AWp P c Q { σ with fr := patch σ.fr lE, lo := loE }) : AWp P c Q σ := awp_le h1 h
theorem kept_6 (a b c d e f : Bool) (l : List Bool) : kept (a :: b :: c :: d :: e :: f :: true :: l) 6 ↔ True := by simp [kept]
theorem kept_7 (a b c d e f g : Bool) (l : List Bool) : kept (a :: b :: c :: d :: e :: f :: g :: true :: l) 7 ↔ True := by simp [kept]
theorem kept_8 (a b c d e f g h : Bool) (l : List Bool) : kept (a :: b :: c :: d :: e :: f :: g :: h :: true :: l) 8 ↔ True := by simp [kept]
theorem kept_9 (a b c d e f g h i : Bool) (l : List Bool) : kept (a :: b :: c :: d :: e :: f :: g :: h :: i :: true :: l) 9 ↔ True := by simp [kept]
def sk := And.intro @kept_6 <| And.intro @kept_7 <| And.intro @kept_8 <| @kept_9
theorem c_followed (p : Pl) (r : Rt) (hs : Sm p) (h20 : r.path.length ≤ 20 ∧ r.over.length ≤ 20 ∧ r.flanks.length ≤ 20) (hpath : 1 ≤ r.path.length)
    (hin : ∀ s, s ∈ p.secs → (s.id == (lastG p.sgs r.entry).2.1) = true → 0 ≤ (lastG p.sgs r.entry).2.2 ∧ (lastG p.sgs r.entry).2.2 < s.ends.length) :
    ACall Try.prog 55 [plA p, rtA r] [] (.tup [wyA (folW p r), .sl 2 ((folO p r).map jnC) .sh, i64 (folE p r)]) [] := by
  obtain ⟨hp1, hp2, hp3⟩ := h20
  have hsl := hs.sgs
  have hsc := hs.secs
  have c1 := c_signal p r.entry (by omega)
  have c2 := c_signal p r.ex (by omega)
  obtain ⟨en, hen⟩ : ∃ en, en = lastG p.sgs r.entry := ⟨_, rfl⟩
  obtain ⟨ex, hex⟩ : ∃ ex, ex = lastG p.sgs r.ex := ⟨_, rfl⟩
  rw [← hen] at c1 hin
  rw [← hex] at c2
  simp only [sgA, sgC, plA, plC] at c1 c2
  obtain ⟨RW, hRW⟩ : ∃ RW, RW = folW p r := ⟨_, rfl⟩
  obtain ⟨RO, hRO⟩ : ∃ RO, RO = folO p r := ⟨_, rfl⟩
  obtain ⟨RE, hRE⟩ : ∃ RE, RE = folE p r := ⟨_, rfl⟩
  rw [← hRW, ← hRO, ← hRE]
  refine acall_of 12 Try.func55 rfl fun n out _ _ => ?_
  simp only [Try.ntmps55, List.length_cons, List.length_nil, List.length_map, List.length_replicate, rep_map, Nat.reduceAdd, Nat.reduceSub, List.replicate, List.cons_append, List.nil_append]
  refine awp_seq_k fun K hK => awp_ev tab_ok [] ?_
  simp (maxSteps:=9^7) only [ss, evLit, tab, reduceCtorEq, reduceIte, Nat.reduceEqDiff, Nat.reduceBEq, Int.reduceLE, Int.reduceToNat, Nat.reduceAdd, Nat.reduceLT, Nat.reduceLeDiff, plA, plC, rtA, rtC]
  repeat' (first | (with_reducible refine hK _ ?_; clear hK K) | with_reducible apply And.intro)
  repeat' (first | (with_reducible first | refine Vk fun K hK => ?_ | refine V0 ?_ | refine Vb ?_ | refine Vc ?_ | refine Vr ?_ | refine Vs ?_ | apply And.intro | refine Vd 1 [] [[0],[],[1],[],[0],[],[1],[],[3],[4],[3],[4]] [[],[],[],[],[],[],[],[],[3],[4],[3],[4]] (by kernel_rfl) (by decide) (by decide) (by kernel_rfl) ?_ | refine Vq (by kernel_rfl) ?_) | ((with_reducible first | refine gE ?_ | refine gR ?_ | refine gD ?_ | refine gF ?_); simp (maxSteps:=9^7) only [ss, evLit, tab, reduceCtorEq, reduceIte, Nat.reduceEqDiff, Nat.reduceBEq, Int.reduceLE, Int.reduceToNat, Nat.reduceAdd, Nat.reduceLT, Nat.reduceLeDiff, plC, rtC, splice_all]) | exact Vn | (refine call_pure (c1) ?_) | (refine call_pure (c2) ?_) | ((with_reducible refine Vg (fun hg => ?_) (fun hg => ?_)) <;> (try simp only [nb] at hg) <;> simp (maxSteps:=9^7) only [ss, evLit, tab, reduceCtorEq, reduceIte, Nat.reduceEqDiff, Nat.reduceBEq, Int.reduceLE, Int.reduceToNat, Nat.reduceAdd, Nat.reduceLT, Nat.reduceLeDiff, hg, plC, rtC, splice_all]) | ((with_reducible refine Vx ?_); simp only [sb, reduceIte, Nat.reduceEqDiff]) | (refine hK _ ?_; clear hK K) | refine Vt rfl ?_ | refine Vf rfl ?_ | refine Vi rfl (fun hg => ?_) (fun hg => ?_) | clear hK K)
  refine awp_le (le_row (i := 6) 63 3 rfl) ?_
  refine awp_le (le_row (i := 7) 68 2 rfl) ?_
  refine awp_le (le_freezeAt (i := 4) (t := 8) 1 (.ref (sgC ex)) rfl rfl (.ptr 0)) ?_
  simp only [s_0, s_s]
  refine awp_block ?_
  refine awp_for_mv (fun m (i : Nat) => [(31, i64 (i : Int)), (2, .ptr (m + 0) 0), (3, .ptr (m + 1) 0), (4, .ptr (m + 2) 0), (7, .ptr (m + 3) 0), (9, .ptr (m + 5) 0), (11, .top), (32, .top), (33, .top), (34, .top), (35, .top), (36, .top), (37, .top), (38, .top), (39, .top), (40, .top), (41, .top), (42, .top), (43, .top), (44, .top), (45, .top), (46, .top), (47, .top), (48, .top), (49, .top)]) (fun m i => [some (.box 27 (plC p)), some (.box 34 (rtC r)), some (.box 59 [.sl 0 [] .nil, .sl 0 [] .nil, .sl 0 [] .nil, i64 0]), some (.box 36 (sgC en)), some .dead, some (.box 149 (wkC p ⟨inAt (p.secs.take i) en, [], [], false⟩ (m + 6) (m + 7))), some (.row 63 3 0), some (.row 68 2 0), none, none, none, none]) (fun i => out) (fun i => i ≤ p.secs.length) (fun i => p.secs.length - i) 0 (Nat.zero_le _) ?_ fun m i hm hi => ?_
  · refine le_of_all ?_ ?_ (by first | rfl | (simp only [plC, rtC, sgC, wkC, List.length_map, List.map_nil, List.take_zero, inAt_nil]; rfl) | simp only [plC, rtC, sgC, wkC, List.length_map, List.map_nil, List.take_zero, inAt_nil]) rfl rfl rfl <;> simp only [patch, sl, plC, rtC, sgC, wkC, List.length_map, List.map_nil, List.take_zero, inAt_nil]
  simp only [patch, s_0, s_s]
  have hw := addw (n := i) 1 1 rfl (by omega)
  by_cases hlt : i < p.secs.length
  · have gi := getD_map secC p.secs i [] hlt
    have hsu := inAt_succ hlt en
    have hii := hin _ (List.getElem_mem hlt)
    cases hb : (p.secs[i].id == en.2.1) with
    | false =>
      rw [hb, if_neg (by decide)] at hsu
      repeat' (first | (with_reducible first | refine Vk fun K hK => ?_ | refine V0 ?_ | refine Vb ?_ | refine Vc ?_ | refine Vr ?_ | refine Vs ?_ | apply And.intro | refine Vq (by kernel_rfl) ?_) | ((with_reducible first | refine gE ?_ | refine gR ?_); simp (maxSteps:=9^7) only [ss, evLit, tab, reduceCtorEq, reduceIte, Nat.reduceEqDiff, Nat.reduceBEq, Int.reduceLE, Int.reduceToNat, Nat.reduceAdd, Nat.reduceLT, Nat.reduceLeDiff, locM hm, secC, sgC, List.length_map, hlt, gi, splice_all, hb, hw]) | exact Vn | ((with_reducible refine Vg (fun hg => ?_) (fun hg => ?_)) <;> (try simp only [nb] at hg) <;> simp (maxSteps:=9^7) only [ss, evLit, tab, reduceCtorEq, reduceIte, Nat.reduceEqDiff, Nat.reduceBEq, Int.reduceLE, Int.reduceToNat, Nat.reduceAdd, Nat.reduceLT, Nat.reduceLeDiff, hg, locM hm, secC, sgC, List.length_map, hlt, gi, splice_all, hb, hw]) | ((with_reducible refine Vx ?_); simp only [sb, reduceIte, Nat.reduceEqDiff]) | (refine hK _ ?_; clear hK K) | refine Vt rfl ?_ | refine Vf rfl ?_ | refine Vi rfl (fun hg => ?_) (fun hg => ?_) | clear hK K)
      refine ⟨i + 1, by omega, by omega, ?_⟩
      rw [hsu]
      refine le_move [true, true, true, true, true, true, true, true, false, false, false, false] (fun n_ => ?_) (fun n_ => ?_) <;> simp only [patch, sm, plC, rtC, sgC, wkC, hlt, decide_true, sk]
    | true =>
      rw [hb, if_pos rfl] at hsu
      obtain ⟨q1, q2⟩ := hii hb
      obtain ⟨ne, hne⟩ := Int.eq_ofNat_of_zero_le q1
      have hnl : ne < p.secs[i].ends.length := by omega
      have gn := getD_map jnC p.secs[i].ends ne [] hnl
      have gd : p.secs[i].ends.getD en.2.2.toNat (0, 0) = p.secs[i].ends[ne] := by rw [hne]; simp [List.getD_eq_getElem?_getD, hnl]
      rw [gd] at hsu
      repeat' (first | (with_reducible first | refine Vk fun K hK => ?_ | refine V0 ?_ | refine Vb ?_ | refine Vc ?_ | refine Vr ?_ | refine Vs ?_ | apply And.intro | refine Vq (by kernel_rfl) ?_) | ((with_reducible first | refine gE ?_ | refine gR ?_); simp (maxSteps:=9^7) only [ss, evLit, tab, reduceCtorEq, reduceIte, Nat.reduceEqDiff, Nat.reduceBEq, Int.reduceLE, Int.reduceToNat, Nat.reduceAdd, Nat.reduceLT, Nat.reduceLeDiff, locM hm, secC, sgC, jnC, wkC, List.length_map, hlt, gi, splice_all, hb, hw, hne, hnl, gn]) | exact Vn | ((with_reducible refine Vg (fun hg => ?_) (fun hg => ?_)) <;> (try simp only [nb] at hg) <;> simp (maxSteps:=9^7) only [ss, evLit, tab, reduceCtorEq, reduceIte, Nat.reduceEqDiff, Nat.reduceBEq, Int.reduceLE, Int.reduceToNat, Nat.reduceAdd, Nat.reduceLT, Nat.reduceLeDiff, hg, locM hm, secC, sgC, jnC, wkC, List.length_map, hlt, gi, splice_all, hb, hw, hne, hnl, gn]) | ((with_reducible refine Vx ?_); simp only [sb, reduceIte, Nat.reduceEqDiff]) | (refine hK _ ?_; clear hK K) | refine Vt rfl ?_ | refine Vf rfl ?_ | refine Vi rfl (fun hg => ?_) (fun hg => ?_) | clear hK K)
      refine ⟨i + 1, by omega, by omega, ?_⟩
      rw [hsu]
      refine le_move [true, true, true, true, true, true, true, true, false, false, false, false] (fun n_ => ?_) (fun n_ => ?_) <;> simp only [patch, sm, plC, rtC, sgC, wkC, hlt, decide_true, hne, sk]
  · obtain rfl : i = p.secs.length := by omega
    rw [List.take_length]
    have cc := fun k => c_concat_ints k (r.path.map intC) (r.over.map intC) .full .sh .sh (by simp; omega)
    have lit : ∀ (σ : AState) (K : AV → List (Nat × Res) → Prop), evLit tab σ K none 134 2 [(0, .sl 1 (r.path.map intC) .sh), (1, .sl 1 (r.over.map intC) .sh)] = K (.sl 1 [[.sl 1 (r.path.map intC) .sh], [.sl 1 (r.over.map intC) .sh]] .full) [] := fun σ K => evLit_two (T := tab) (ti := ti134) (te := ti32) rfl rfl rfl rfl rfl rfl
    repeat' (first | (with_reducible first | refine Vk fun K hK => ?_ | refine V0 ?_ | refine Vb ?_ | refine Vc ?_ | refine Vr ?_ | refine Vs ?_ | apply And.intro | refine Vq (by kernel_rfl) ?_) | ((with_reducible first | refine gE ?_ | refine gR ?_); simp (maxSteps:=9^7) only [ss, tab, reduceCtorEq, reduceIte, Nat.reduceEqDiff, Nat.reduceBEq, Int.reduceLE, Int.reduceToNat, Nat.reduceAdd, Nat.reduceLT, Nat.reduceLeDiff, lit, locM hm, plC, rtC, wkC, List.length_map, hlt, splice_all, nx_loc hm]) | exact Vn | (refine call_one (cc (m + 8)) (look_loc _ hm 8) (dom_loc _ (by simp)) (by simp) ?_) | ((with_reducible refine Vg (fun hg => ?_) (fun hg => ?_)) <;> (try simp only [nb] at hg) <;> simp (maxSteps:=9^7) only [ss, tab, reduceCtorEq, reduceIte, Nat.reduceEqDiff, Nat.reduceBEq, Int.reduceLE, Int.reduceToNat, Nat.reduceAdd, Nat.reduceLT, Nat.reduceLeDiff, hg, lit, locM hm, plC, rtC, wkC, List.length_map, hlt, splice_all, nx_loc hm]) | ((with_reducible refine Vx ?_); simp only [sb, reduceIte, Nat.reduceEqDiff]) | (refine hK _ ?_; clear hK K) | refine Vt rfl ?_ | refine Vf rfl ?_ | refine Vi rfl (fun hg => ?_) (fun hg => ?_) | clear hK K)
    obtain ⟨L, hL⟩ : ∃ L, L = r.path ++ r.over := ⟨_, rfl⟩
    have hLm : r.path.map intC ++ r.over.map intC = L.map intC := by rw [hL, List.map_append]
    have hLl : L.length = r.path.length + r.over.length := by rw [hL, List.length_append]
    have hL40 : L.length ≤ 40 := by omega
    obtain ⟨WK, hWK⟩ : ∃ WK, WK = runW p r := ⟨_, rfl⟩
    have hW0 : WK 0 = ⟨inAt p.secs en, [], [], false⟩ := by rw [hWK, hen]; rfl
    have hWS : ∀ i, WK (i + 1) = stepW p r (WK i) i := fun i => by rw [hWK]; rfl
    have hWl : ∀ i, (WK i).asks.length ≤ i ∧ (WK i).outs.length ≤ i := fun i => by rw [hWK]; exact runW_len p r i
    have hEW : endW p r = WK L.length := by rw [hWK, hL]; rfl
    unfold folW folO folE at *
    rw [← hen] at hRW
    rw [hEW] at hRW hRO hRE
    refine awp_patch [(56, ints L), (57, i64 (L.length : Int))] ([some (.box 27 (plC p)), some (.box 34 (rtC r)), some (.box 59 [.sl 0 [] .nil, .sl 0 [] .nil, .sl 0 [] .nil, i64 0]), some (.box 36 (sgC en)), some .dead, some (.box 149 (wkC p ⟨inAt p.secs en, [], [], false⟩ (m + 6) (m + 7))), some (.row 63 3 (WK 0).asks.length), some (.row 68 2 (WK 0).outs.length), some (.row 3 1 (r.path.length + r.over.length)), some (.box 32 [ints L]), none, none]) ?_ ?_
    · refine le_of_all ?_ ?_ rfl rfl rfl rfl <;> simp only [patch, sl, hLm, hW0, List.length_map, plC, rtC, sgC, wkC, List.map_nil, List.length_nil]
    refine awp_le (le_freezeAt (i := 9) (t := 12) 1 (.ref [ints L]) rfl rfl (.ptr 0)) ?_
    simp only [patch, s_0, s_s]
    refine awp_block ?_
    refine awp_for_mv (fun m (i : Nat) => [(58, i64 (i : Int)), (2, .ptr (m + 0) 0), (3, .ptr (m + 1) 0), (4, .ptr (m + 2) 0), (7, .ptr (m + 3) 0), (9, .ptr (m + 5) 0), (13, .top), (14, .top), (59, .top), (60, .top), (61, .top), (62, .top), (63, .top), (64, .top), (65, .top), (66, .top), (67, .top), (68, .top), (69, .top), (70, .top), (71, .top), (72, .top), (73, .top), (74, .top), (75, .top), (76, .top), (77, .top), (78, .top), (79, .top), (80, .top), (81, .top), (82, .top), (83, .top), (84, .top), (85, .top), (86, .top), (87, .top), (88, .top), (89, .top), (90, .top), (91, .top), (92, .top), (93, .top), (94, .top), (95, .top), (96, .top), (97, .top), (98, .top), (99, .top), (100, .top), (101, .top), (102, .top), (103, .top), (104, .top), (105, .top), (106, .top)]) (fun m i => [some (.box 27 (plC p)), some (.box 34 (rtC r)), some (.box 59 [.sl 0 [] .nil, .sl 0 [] .nil, .sl 0 [] .nil, i64 0]), some (.box 36 (sgC en)), some .dead, some (.box 149 (wkC p (WK i) (m + 6) (m + 7))), some (.row 63 3 (WK i).asks.length), some (.row 68 2 (WK i).outs.length), some (.row 3 1 (r.path.length + r.over.length)), some .dead, none, none]) (fun i => out) (fun i => i ≤ L.length) (fun i => L.length - i) 0 (Nat.zero_le _) ?_ fun m i hm hi => ?_
    · refine le_of_all ?_ ?_ (by first | rfl | (simp only [plC, rtC, sgC, wkC, hW0, List.length_map, List.map_nil]; rfl) | simp only [plC, rtC, sgC, wkC, hW0, List.length_map, List.map_nil]) rfl rfl rfl <;> simp only [patch, sl, plC, rtC, sgC, wkC, hW0, List.length_map, List.map_nil]
    simp only [patch, s_0, s_s]
    have hw := addw (n := i) 1 1 rfl (by omega)
    by_cases hlt : i < L.length
    · have gi := getD_map intC L i [] hlt
      have hwp := subw (n := r.path.length) 1 1 rfl (by omega) (by omega)
      have hwl := subw (n := L.length) 1 1 rfl (by omega) (by omega)
      obtain ⟨ha, ho⟩ := hWl i
      have hse := secW_small hs (WK i) L[i]
      have gd : (r.path ++ r.over).getD i 0 = L[i] := by rw [← hL]; simp [List.getD_eq_getElem?_getD, hlt]
      have hst := hWS i
      unfold stepW at hst
      rw [gd, ← hex, ← hL] at hst
      repeat' (first | (with_reducible first | refine Vk fun K hK => ?_ | refine V0 ?_ | refine Vb ?_ | refine Vc ?_ | refine Vr ?_ | refine Vs ?_ | apply And.intro | refine Vq (by kernel_rfl) ?_) | ((with_reducible first | refine gE ?_ | refine gR ?_); simp (maxSteps:=9^7) only [ss, evLit, tab, reduceCtorEq, reduceIte, Nat.reduceEqDiff, Nat.reduceBEq, Int.reduceLE, Int.reduceToNat, Nat.reduceAdd, Nat.reduceLT, Nat.reduceLeDiff, locM hm, List.length_map, hlt]) | exact Vn | ((with_reducible refine Vg (fun hg => ?_) (fun hg => ?_)) <;> (try simp only [nb] at hg) <;> simp (maxSteps:=9^7) only [ss, evLit, tab, reduceCtorEq, reduceIte, Nat.reduceEqDiff, Nat.reduceBEq, Int.reduceLE, Int.reduceToNat, Nat.reduceAdd, Nat.reduceLT, Nat.reduceLeDiff, hg, locM hm, List.length_map, hlt]) | ((with_reducible refine Vx ?_); simp only [sb, reduceIte, Nat.reduceEqDiff]) | (refine hK _ ?_; clear hK K) | refine Vt rfl ?_ | refine Vf rfl ?_ | refine Vi rfl (fun hg => ?_) (fun hg => ?_) | clear hK K)
      simp (maxSteps:=9^7) only [ss, evLit, tab, reduceCtorEq, reduceIte, Nat.reduceEqDiff, Nat.reduceBEq, Int.reduceLE, Int.reduceToNat, Nat.reduceAdd, Nat.reduceLT, Nat.reduceLeDiff, locM hm, gi, intC, splice_all]
      repeat' (first | (with_reducible refine hK _ ?_; clear hK K) | with_reducible apply And.intro)
      refine awp_le (le_freezeAt (i := 10) (t := 13) 1 (.ref [i64 (i : Int)]) rfl rfl (.ptr 0)) ?_
      refine awp_le (le_freezeAt (i := 11) (t := 14) 1 (.ref [i64 L[i]]) rfl rfl (.ptr 0)) ?_
      simp only [s_0, s_s]
      have hnl : (L.getD (i + 1) 0) = L.getD (i + 1) 0 := rfl
      have hb0f : (hasBody Try.prog 91) = True := hb0 _ (by decide) (by decide)
      by_cases hA : i + 1 = r.path.length
      · have bA : ((i : Int) == ((r.path.length - 1 : Nat) : Int)) = true := by simp; omega
        rw [if_pos hA] at hst
        cases hX : (r.ex == 0) with
        | true =>
          rw [if_pos (by simpa using hX)] at hst
          have ct := c_thr p (WK i) (m + 5) (m + 6) (m + 7) (by omega) (by omega) (by omega) L[i] i 91 [] (fun _ j => j == (0, 0)) (hb0 _ (by decide) (by decide)) (fun e j => c_right1 e j) (by omega) (by omega) (by omega) (by omega)
          rw [← hst] at ct
          repeat' (first | (with_reducible first | refine Vk fun K hK => ?_ | refine V0 ?_ | refine Vb ?_ | refine Vc ?_ | refine Vr ?_ | refine Vs ?_ | apply And.intro | refine Vq (by kernel_rfl) ?_) | ((with_reducible first | refine gE ?_ | refine gR ?_); simp (maxSteps:=9^7) only [ss, evLit, tab, reduceCtorEq, reduceIte, Nat.reduceEqDiff, Nat.reduceBEq, Int.reduceLE, Int.reduceToNat, Nat.reduceAdd, Nat.reduceLT, Nat.reduceLeDiff, locM hm, rtC, List.length_map, intC, splice_all, nx_loc hm, hwp, hwl, hw, hb0f, bA, hX]) | exact Vn | (refine call_three ct (look_loc _ hm 5) (look_loc _ hm 6) (look_loc _ hm 7) (dom_loc _ (by simp)) (dom_loc _ (by simp)) (dom_loc _ (by simp)) (by simp) (by simp) (by simp) ?_) | ((with_reducible refine Vg (fun hg => ?_) (fun hg => ?_)) <;> (try simp only [nb] at hg) <;> simp (maxSteps:=9^7) only [ss, evLit, tab, reduceCtorEq, reduceIte, Nat.reduceEqDiff, Nat.reduceBEq, Int.reduceLE, Int.reduceToNat, Nat.reduceAdd, Nat.reduceLT, Nat.reduceLeDiff, hg, locM hm, rtC, List.length_map, intC, splice_all, nx_loc hm, hwp, hwl, hw, hb0f, bA, hX]) | ((with_reducible refine Vx ?_); simp only [sb, reduceIte, Nat.reduceEqDiff]) | (refine hK _ ?_; clear hK K) | refine Vt rfl ?_ | refine Vf rfl ?_ | (refine Vi rfl (fun hg => ?_) (fun hg => ?_)) <;> try simp only [hg] | clear hK K)
          refine ⟨i + 1, by omega, by omega, ?_⟩
          refine le_move [true, true, true, true, true, true, true, true, true, true, false, false] (fun n_ => ?_) (fun n_ => ?_) <;> simp only [patch, sm, plC, rtC, sgC, wkC, hlt, decide_true, sk]
        | false =>
          rw [if_neg (by simpa using hX)] at hst
          have ct := c_thr p (WK i) (m + 5) (m + 6) (m + 7) (by omega) (by omega) (by omega) L[i] i 92 [.ref [i64 L[i]], .ref (sgC ex)] (fun e _ => L[i] == ex.2.1 && e == ex.2.2) (hb0 _ (by decide) (by decide)) (fun e j => c_right2 L[i] ex e j) (by omega) (by omega) (by omega) (by omega)
          rw [← hst] at ct
          repeat' (first | (with_reducible first | refine Vk fun K hK => ?_ | refine V0 ?_ | refine Vb ?_ | refine Vc ?_ | refine Vr ?_ | refine Vs ?_ | apply And.intro | refine Vq (by kernel_rfl) ?_) | ((with_reducible first | refine gE ?_ | refine gR ?_); simp (maxSteps:=9^7) only [ss, evLit, tab, reduceCtorEq, reduceIte, Nat.reduceEqDiff, Nat.reduceBEq, Int.reduceLE, Int.reduceToNat, Nat.reduceAdd, Nat.reduceLT, Nat.reduceLeDiff, locM hm, rtC, List.length_map, intC, splice_all, nx_loc hm, hwp, hwl, hw, hb0f, bA, hX]) | exact Vn | (refine call_three ct (look_loc _ hm 5) (look_loc _ hm 6) (look_loc _ hm 7) (dom_loc _ (by simp)) (dom_loc _ (by simp)) (dom_loc _ (by simp)) (by simp) (by simp) (by simp) ?_) | ((with_reducible refine Vg (fun hg => ?_) (fun hg => ?_)) <;> (try simp only [nb] at hg) <;> simp (maxSteps:=9^7) only [ss, evLit, tab, reduceCtorEq, reduceIte, Nat.reduceEqDiff, Nat.reduceBEq, Int.reduceLE, Int.reduceToNat, Nat.reduceAdd, Nat.reduceLT, Nat.reduceLeDiff, hg, locM hm, rtC, List.length_map, intC, splice_all, nx_loc hm, hwp, hwl, hw, hb0f, bA, hX]) | ((with_reducible refine Vx ?_); simp only [sb, reduceIte, Nat.reduceEqDiff]) | (refine hK _ ?_; clear hK K) | refine Vt rfl ?_ | refine Vf rfl ?_ | (refine Vi rfl (fun hg => ?_) (fun hg => ?_)) <;> try simp only [hg] | clear hK K)
          refine ⟨i + 1, by omega, by omega, ?_⟩
          refine le_move [true, true, true, true, true, true, true, true, true, true, false, false] (fun n_ => ?_) (fun n_ => ?_) <;> simp only [patch, sm, plC, rtC, sgC, wkC, hlt, decide_true, sk]
      · have bA : ((i : Int) == ((r.path.length - 1 : Nat) : Int)) = false := by simp; omega
        rw [if_neg hA] at hst
        by_cases hB : i + 1 = L.length
        · have bB : ((i : Int) == ((L.length - 1 : Nat) : Int)) = true := by simp; omega
          rw [if_pos hB] at hst
          have ct := c_stay p (WK i) (m + 5) (m + 6) (m + 7) (by omega) L[i] i (by omega) (by omega)
          rw [← hst] at ct
          have ho2 : (WK (i + 1)).outs.length = (WK i).outs.length := by
            rw [hst]; unfold stayW
            obtain ⟨s, l, e⟩ := secW_keeps p (WK i) L[i]
            rw [e]
            dsimp only
            split
            · rw [(askW_len _ _ _ _).2.1]
            · rfl
          repeat' (first | (with_reducible first | refine Vk fun K hK => ?_ | refine V0 ?_ | refine Vb ?_ | refine Vc ?_ | refine Vr ?_ | refine Vs ?_ | apply And.intro | refine Vq (by kernel_rfl) ?_) | ((with_reducible first | refine gE ?_ | refine gR ?_); simp (maxSteps:=9^7) only [ss, evLit, tab, reduceCtorEq, reduceIte, Nat.reduceEqDiff, Nat.reduceBEq, Int.reduceLE, Int.reduceToNat, Nat.reduceAdd, Nat.reduceLT, Nat.reduceLeDiff, locM hm, rtC, List.length_map, intC, splice_all, nx_loc hm, hwp, hwl, hw, hb0f, bA, bB]) | exact Vn | (refine call_two ct (look_loc _ hm 5) (look_loc _ hm 6) (dom_loc _ (by simp)) (dom_loc _ (by simp)) (by simp) (by simp) ?_) | ((with_reducible refine Vg (fun hg => ?_) (fun hg => ?_)) <;> (try simp only [nb] at hg) <;> simp (maxSteps:=9^7) only [ss, evLit, tab, reduceCtorEq, reduceIte, Nat.reduceEqDiff, Nat.reduceBEq, Int.reduceLE, Int.reduceToNat, Nat.reduceAdd, Nat.reduceLT, Nat.reduceLeDiff, hg, locM hm, rtC, List.length_map, intC, splice_all, nx_loc hm, hwp, hwl, hw, hb0f, bA, bB]) | ((with_reducible refine Vx ?_); simp only [sb, reduceIte, Nat.reduceEqDiff]) | (refine hK _ ?_; clear hK K) | refine Vt rfl ?_ | refine Vf rfl ?_ | (refine Vi rfl (fun hg => ?_) (fun hg => ?_)) <;> try simp only [hg] | clear hK K)
          rw [← ho2]
          refine ⟨i + 1, by omega, by omega, ?_⟩
          refine le_move [true, true, true, true, true, true, true, true, true, true, false, false] (fun n_ => ?_) (fun n_ => ?_) <;> simp only [patch, sm, plC, rtC, sgC, wkC, hlt, decide_true, sk]
        · have bB : ((i : Int) == ((L.length - 1 : Nat) : Int)) = false := by simp; omega
          rw [if_neg hB] at hst
          have ct := c_thr p (WK i) (m + 5) (m + 6) (m + 7) (by omega) (by omega) (by omega) L[i] i 94 [.ref [ints L], .ref [i64 (i : Int)]] (fun _ j => j.1 == L.getD (i + 1) 0) (hb0 _ (by decide) (by decide)) (fun e j => c_right3 L i (by omega) (by omega) e j) (by omega) (by omega) (by omega) (by omega)
          rw [← hst] at ct
          repeat' (first | (with_reducible first | refine Vk fun K hK => ?_ | refine V0 ?_ | refine Vb ?_ | refine Vc ?_ | refine Vr ?_ | refine Vs ?_ | apply And.intro | refine Vq (by kernel_rfl) ?_) | ((with_reducible first | refine gE ?_ | refine gR ?_); simp (maxSteps:=9^7) only [ss, evLit, tab, reduceCtorEq, reduceIte, Nat.reduceEqDiff, Nat.reduceBEq, Int.reduceLE, Int.reduceToNat, Nat.reduceAdd, Nat.reduceLT, Nat.reduceLeDiff, locM hm, rtC, List.length_map, intC, splice_all, nx_loc hm, hwp, hwl, hw, hb0f, bA, bB]) | exact Vn | (refine call_three ct (look_loc _ hm 5) (look_loc _ hm 6) (look_loc _ hm 7) (dom_loc _ (by simp)) (dom_loc _ (by simp)) (dom_loc _ (by simp)) (by simp) (by simp) (by simp) ?_) | ((with_reducible refine Vg (fun hg => ?_) (fun hg => ?_)) <;> (try simp only [nb] at hg) <;> simp (maxSteps:=9^7) only [ss, evLit, tab, reduceCtorEq, reduceIte, Nat.reduceEqDiff, Nat.reduceBEq, Int.reduceLE, Int.reduceToNat, Nat.reduceAdd, Nat.reduceLT, Nat.reduceLeDiff, hg, locM hm, rtC, List.length_map, intC, splice_all, nx_loc hm, hwp, hwl, hw, hb0f, bA, bB]) | ((with_reducible refine Vx ?_); simp only [sb, reduceIte, Nat.reduceEqDiff]) | (refine hK _ ?_; clear hK K) | refine Vt rfl ?_ | refine Vf rfl ?_ | (refine Vi rfl (fun hg => ?_) (fun hg => ?_)) <;> try simp only [hg] | clear hK K)
          refine ⟨i + 1, by omega, by omega, ?_⟩
          refine le_move [true, true, true, true, true, true, true, true, true, true, false, false] (fun n_ => ?_) (fun n_ => ?_) <;> simp only [patch, sm, plC, rtC, sgC, wkC, hlt, decide_true, sk]
    · obtain rfl : i = L.length := by omega
      obtain ⟨ha, ho⟩ := hWl L.length
      obtain ⟨w, hw'⟩ : ∃ w, w = WK L.length := ⟨_, rfl⟩
      rw [← hw'] at hRW hRO hRE ha ho
      simp only [← hw']
      clear hWS hW0 hWl hEW
      cases hlost : w.lost with
      | true =>
        rw [hlost, if_pos rfl] at hRW hRO hRE
        subst hRW hRO hRE
        repeat' (first | (with_reducible first | refine Vk fun K hK => ?_ | refine V0 ?_ | refine Vb ?_ | refine Vc ?_ | refine Vr ?_ | refine Vs ?_ | apply And.intro | refine Vq (by kernel_rfl) ?_) | ((with_reducible first | refine gE ?_ | refine gR ?_); simp (maxSteps:=9^7) only [ss, evLit, tab, reduceCtorEq, reduceIte, Nat.reduceEqDiff, Nat.reduceBEq, Int.reduceLE, Int.reduceToNat, Nat.reduceAdd, Nat.reduceLT, Nat.reduceLeDiff, locM hm, wkC, hlt, hlost, splice_all]) | exact Vn | ((with_reducible refine Vg (fun hg => ?_) (fun hg => ?_)) <;> (try simp only [nb] at hg) <;> simp (maxSteps:=9^7) only [ss, evLit, tab, reduceCtorEq, reduceIte, Nat.reduceEqDiff, Nat.reduceBEq, Int.reduceLE, Int.reduceToNat, Nat.reduceAdd, Nat.reduceLT, Nat.reduceLeDiff, hg, locM hm, wkC, hlt, hlost, splice_all]) | ((with_reducible refine Vx ?_); simp only [sb, reduceIte, Nat.reduceEqDiff]) | (refine hK _ ?_; clear hK K) | refine Vt rfl ?_ | refine Vf rfl ?_ | refine Vi rfl (fun hg => ?_) (fun hg => ?_) | clear hK K)
        refine awp_ret ?_
        refine ret_ctt (.inr rfl) rfl rfl rfl (fun _ _ => rfl) ok59 (k := m + 2) (off := 0) rfl (dom_loc _ (by simp)) (look_loc _ hm 2) rfl rfl rfl ?_
        simp only [wyA, wyC, noWy, List.map_nil, List.take, patch, sl, ti59]
      | false =>
        rw [hlost, if_neg (by decide)] at hRW hRO hRE
        obtain ⟨F, hF⟩ : ∃ F : Nat → Wk, F = fun i => flkW w (r.flanks.take i) := ⟨_, rfl⟩
        have hF0 : F 0 = w := by rw [hF]; rfl
        have hFS : ∀ i (hi : i < r.flanks.length), F (i + 1) = askW (F i) r.flanks[i].1 r.flanks[i].2 (-1) := fun i hi => by rw [hF]; exact flkW_succ hi w
        have hFl : ∀ i, (F i).asks.length ≤ 40 + i ∧ (F i).outs = w.outs := fun i => by
          rw [hF]
          have := flkW_len w (r.flanks.take i)
          rw [List.length_take] at this
          exact ⟨by dsimp only; omega, this.2.1⟩
        have hFe : flkW w r.flanks = F r.flanks.length := by rw [hF]; dsimp only; rw [List.take_length]
        rw [hFe] at hRW
        subst hRW hRO hRE
        clear hF
        repeat' (first | (with_reducible first | refine Vk fun K hK => ?_ | refine V0 ?_ | refine Vb ?_ | refine Vc ?_ | refine Vr ?_ | refine Vs ?_ | apply And.intro | refine Vq (by kernel_rfl) ?_) | ((with_reducible first | refine gE ?_ | refine gR ?_); simp (maxSteps:=9^7) only [ss, evLit, tab, reduceCtorEq, reduceIte, Nat.reduceEqDiff, Nat.reduceBEq, Int.reduceLE, Int.reduceToNat, Nat.reduceAdd, Nat.reduceLT, Nat.reduceLeDiff, locM hm, rtC, wkC, hlt, hlost, List.length_map]) | exact Vn | ((with_reducible refine Vg (fun hg => ?_) (fun hg => ?_)) <;> (try simp only [nb] at hg) <;> simp (maxSteps:=9^7) only [ss, evLit, tab, reduceCtorEq, reduceIte, Nat.reduceEqDiff, Nat.reduceBEq, Int.reduceLE, Int.reduceToNat, Nat.reduceAdd, Nat.reduceLT, Nat.reduceLeDiff, hg, locM hm, rtC, wkC, hlt, hlost, List.length_map]) | ((with_reducible refine Vx ?_); simp only [sb, reduceIte, Nat.reduceEqDiff]) | (refine hK _ ?_; clear hK K) | refine Vt rfl ?_ | refine Vf rfl ?_ | refine Vi rfl (fun hg => ?_) (fun hg => ?_) | clear hK K)
        refine awp_block ?_
        refine awp_for_mv (fun m (i : Nat) => [(115, i64 (i : Int)), (2, .ptr (m + 0) 0), (3, .ptr (m + 1) 0), (4, .ptr (m + 2) 0), (7, .ptr (m + 3) 0), (9, .ptr (m + 5) 0), (16, .top), (116, .top), (117, .top), (118, .top), (119, .top), (120, .top), (121, .top), (122, .top), (123, .top), (124, .top), (125, .top)]) (fun m i => [some (.box 27 (plC p)), some (.box 34 (rtC r)), some (.box 59 [.sl 0 [] .nil, .sl 0 [] .nil, .sl 0 [] .nil, i64 0]), some (.box 36 (sgC en)), some .dead, some (.box 149 (wkC p (F i) (m + 6) (m + 7))), some (.row 63 3 (F i).asks.length), some (.row 68 2 w.outs.length), some (.row 3 1 (r.path.length + r.over.length)), some .dead, none, none]) (fun i => out) (fun i => i ≤ r.flanks.length) (fun i => r.flanks.length - i) 0 (Nat.zero_le _) ?_ fun m i hm hi => ?_
        · refine le_of_all ?_ ?_ (by first | rfl | (simp only [plC, rtC, sgC, wkC, hF0, hlost, List.length_map]; rfl) | simp only [plC, rtC, sgC, wkC, hF0, hlost, List.length_map]) rfl rfl rfl <;> simp only [patch, sl, plC, rtC, sgC, wkC, hF0, hlost, List.length_map]
        simp only [patch, s_0, s_s]
        have hw2 := addw (n := i) 1 1 rfl (by omega)
        by_cases hltf : i < r.flanks.length
        · have gf := getD_map jnC r.flanks i [] hltf
          have cA := c_ask p (F i) (m + 5) (m + 6) (m + 7) (by omega) r.flanks[i].1 r.flanks[i].2 (-1) (by have := (hFl i).1; omega)
          rw [← hFS i hltf] at cA
          repeat' (first | (with_reducible first | refine Vk fun K hK => ?_ | refine V0 ?_ | refine Vb ?_ | refine Vc ?_ | refine Vr ?_ | refine Vs ?_ | apply And.intro | refine Vq (by kernel_rfl) ?_) | ((with_reducible first | refine gE ?_ | refine gR ?_); simp (maxSteps:=9^7) only [ss, evLit, tab, reduceCtorEq, reduceIte, Nat.reduceEqDiff, Nat.reduceBEq, Int.reduceLE, Int.reduceToNat, Nat.reduceAdd, Nat.reduceLT, Nat.reduceLeDiff, locM hm, rtC, jnC, List.length_map, splice_all, nx_loc hm, hltf, gf, hw2]) | exact Vn | (refine call_two cA (look_loc _ hm 5) (look_loc _ hm 6) (dom_loc _ (by simp)) (dom_loc _ (by simp)) (by simp) (by simp) ?_) | ((with_reducible refine Vg (fun hg => ?_) (fun hg => ?_)) <;> (try simp only [nb] at hg) <;> simp (maxSteps:=9^7) only [ss, evLit, tab, reduceCtorEq, reduceIte, Nat.reduceEqDiff, Nat.reduceBEq, Int.reduceLE, Int.reduceToNat, Nat.reduceAdd, Nat.reduceLT, Nat.reduceLeDiff, hg, locM hm, rtC, jnC, List.length_map, splice_all, nx_loc hm, hltf, gf, hw2]) | ((with_reducible refine Vx ?_); simp only [sb, reduceIte, Nat.reduceEqDiff]) | (refine hK _ ?_; clear hK K) | refine Vt rfl ?_ | refine Vf rfl ?_ | refine Vi rfl (fun hg => ?_) (fun hg => ?_) | clear hK K)
          refine ⟨i + 1, by omega, by omega, ?_⟩
          refine le_move [true, true, true, true, true, true, true, true, true, true, false, false] (fun n_ => ?_) (fun n_ => ?_) <;> simp only [patch, sm, plC, rtC, sgC, wkC, hltf, decide_true, sk]
        · obtain rfl : i = r.flanks.length := by omega
          have k1 := c_clone_int (r.path.map intC) (by simp; omega)
          have k2 := c_clone_int (r.over.map intC) (by simp; omega)
          have ho3 := (hFl r.flanks.length).2
          repeat' (first | (with_reducible first | refine Vk fun K hK => ?_ | refine V0 ?_ | refine Vb ?_ | refine Vc ?_ | refine Vr ?_ | refine Vs ?_ | apply And.intro | refine Vd 28 [] [[],[1],[],[],[1],[],[],[],[],[5],[],[3],[],[],[],[],[5],[2],[],[]] [[],[],[],[],[],[],[],[],[],[],[],[],[],[],[],[],[],[2],[],[]] (by kernel_rfl) (by decide) (by decide) (by kernel_rfl) ?_ | refine Vq (by kernel_rfl) ?_) | ((with_reducible first | refine gE ?_ | refine gR ?_ | refine gD ?_ | refine gF ?_); simp (maxSteps:=9^7) only [ss, evLit, tab, reduceCtorEq, reduceIte, Nat.reduceEqDiff, Nat.reduceBEq, Int.reduceLE, Int.reduceToNat, Nat.reduceAdd, Nat.reduceLT, Nat.reduceLeDiff, locM hm, rtC, wkC, sgC, hltf, splice_all]) | exact Vn | (refine call_pure (k1) ?_) | (refine call_pure (k2) ?_) | ((with_reducible refine Vg (fun hg => ?_) (fun hg => ?_)) <;> (try simp only [nb] at hg) <;> simp (maxSteps:=9^7) only [ss, evLit, tab, reduceCtorEq, reduceIte, Nat.reduceEqDiff, Nat.reduceBEq, Int.reduceLE, Int.reduceToNat, Nat.reduceAdd, Nat.reduceLT, Nat.reduceLeDiff, hg, locM hm, rtC, wkC, sgC, hltf, splice_all]) | ((with_reducible refine Vx ?_); simp only [sb, reduceIte, Nat.reduceEqDiff]) | (refine hK _ ?_; clear hK K) | refine Vt rfl ?_ | refine Vf rfl ?_ | refine Vi rfl (fun hg => ?_) (fun hg => ?_) | clear hK K)
          refine awp_ret ?_
          refine ret_ctt (.inr rfl) rfl rfl rfl (fun _ _ => rfl) ok59 (k := m + 2) (off := 0) rfl (dom_loc _ (by simp)) (look_loc _ hm 2) rfl rfl rfl ?_
          simp only [wyA, wyC, ho3, List.take, patch, sl, ti59]
end Go.Proofs.Ytcfkieacdjcaoaa.Pln
