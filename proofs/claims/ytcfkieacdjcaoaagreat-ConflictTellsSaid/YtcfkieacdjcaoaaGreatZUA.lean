/- The layer of abstract values, joined: UA. -/
import Derived.Test.YtcfkieacdjcaoaaGreatZGA
import Derived.Test.YtcfkieacdjcaoaaGreatZTA
import Derived.KernelRfl
import Derived.Test.YtcfkieacdjcaoaaGreatZPQ
section
namespace Go.Proofs.YtcfkieacdjcaoaaGreat.Pln
set_option linter.unusedVariables false
set_option linter.unusedSimpArgs false
open Go Go.VS Tab
set_option maxHeartbeats 4000000
set_option maxRecDepth 4000
theorem c_uidx_int (l : List (Int)) (fid : FuncId) (caps : List AV) (p : Int → Bool) (hb : hasBody Tryz.prog fid = True) (hl : l.length ≤ 1000000000)
    (hp : ∀ x, x ∈ l → ACall Tryz.prog fid (i64 x :: caps) [] (bool (p x)) []) :
    ACall Tryz.prog 74 [.sl 1 (l.map intC) .sh, .fn (.func fid) caps] [] (i64 (idx p l)) [] := by
  refine acall_of 0 Tryz.func74 rfl fun n out _ _ => ?_
  simp only [Tryz.ntmps74, List.length_cons, List.length_nil, List.length_map, List.length_replicate, rep_map, Nat.reduceAdd, Nat.reduceSub, List.replicate, List.cons_append, List.nil_append]
  refine awp_seq_k fun K hK => awp_ev tab_ok [] ?_
  simp (maxSteps:=9^7) only [ss, evLit, tab, reduceCtorEq, reduceIte, Nat.reduceEqDiff, Nat.reduceBEq, Int.reduceLE, Int.reduceToNat, Nat.reduceAdd, Nat.reduceLT, Nat.reduceLeDiff]
  repeat' (first | (with_reducible refine hK _ ?_; clear hK K) | with_reducible apply And.intro)
  refine awp_seq_k fun KB hKB => ?_
  refine awp_seq_k fun K hK => awp_ev tab_ok [] ?_
  simp (maxSteps:=9^7) only [ss, evLit, tab, reduceCtorEq, reduceIte, Nat.reduceEqDiff, Nat.reduceBEq, Int.reduceLE, Int.reduceToNat, Nat.reduceAdd, Nat.reduceLT, Nat.reduceLeDiff]
  repeat' (first | (with_reducible refine hK _ ?_; clear hK K) | with_reducible apply And.intro)
  refine awp_block ?_
  refine awp_for_g (fun i : Nat => [(8, i64 (i : Int)), (4, .top), (5, .top), (9, .top), (10, .top), (11, .top), (12, .top), (13, .top), (14, .top), (15, .top), (16, .top), (17, .top), (18, .top)]) (fun i => []) (fun i => out) (fun i => i ≤ l.length ∧ (∀ j (hj : j < l.length), j < i → p l[j] = false)) (fun i => l.length - i) 0 ⟨Nat.zero_le _, by intros; omega⟩ ?_ fun i hi => ?_
  · refine le_of_all ?_ ?_ rfl rfl rfl rfl <;> simp only [patch, sl]
  obtain ⟨hi, hq⟩ := hi
  simp only [patch, s_0, s_s]
  refine awp_seq_k fun K hK => awp_ev tab_ok [] ?_
  simp (maxSteps:=9^7) only [ss, evLit, tab, reduceCtorEq, reduceIte, Nat.reduceEqDiff, Nat.reduceBEq, Int.reduceLE, Int.reduceToNat, Nat.reduceAdd, Nat.reduceLT, Nat.reduceLeDiff]
  repeat' (first | (with_reducible refine hK _ ?_; clear hK K) | with_reducible apply And.intro)
  refine awp_seq_k fun KC hKC => ?_
  refine awp_if rfl (fun ht => awp_skip (hKC _ ?_)) (fun hf => awp_exit (id ?_))
  rotate_left
  · simp only [thenA, blockA, if_true]
    refine hKB _ ?_
    clear hKB KB hKC KC
    have h_ib : i = l.length := by have := of_decide_eq_false hf; omega
    subst h_ib
    have e := idx_none (p := p) (l := l) fun i hi => hq i hi hi
    rw [e]
    refine awp_seq_k fun K hK => awp_ev tab_ok [] ?_
    simp (maxSteps:=9^7) only [ss, evLit, tab, reduceCtorEq, reduceIte, Nat.reduceEqDiff, Nat.reduceBEq, Int.reduceLE, Int.reduceToNat, Nat.reduceAdd, Nat.reduceLT, Nat.reduceLeDiff]
    repeat' (first | (with_reducible refine hK _ ?_; clear hK K) | with_reducible apply And.intro)
    refine awp_ret ?_
    exact ret_tmp (.inr rfl) rfl rfl rfl (fun _ _ => rfl) rfl
  clear hKC KC
  have hlt : i < l.length := by have := of_decide_eq_true ht; omega
  refine awp_seq_k fun KC hKC => awp_block ?_
  refine awp_seq_k fun K hK => awp_ev tab_ok [] ?_
  simp (maxSteps:=9^7) only [ss, evLit, tab, reduceCtorEq, reduceIte, Nat.reduceEqDiff, Nat.reduceBEq, Int.reduceLE, Int.reduceToNat, Nat.reduceAdd, Nat.reduceLT, Nat.reduceLeDiff]
  repeat' (first | (with_reducible refine hK _ ?_; clear hK K) | with_reducible apply And.intro)
  refine awp_seq_k fun K hK => awp_ev tab_ok [] ?_
  simp (maxSteps:=9^7) only [ss, evLit, tab, reduceCtorEq, reduceIte, Nat.reduceEqDiff, Nat.reduceBEq, Int.reduceLE, Int.reduceToNat, Nat.reduceAdd, Nat.reduceLT, Nat.reduceLeDiff, hlt, List.length_map, getD_map intC l i [] hlt, intC, hb]
  repeat' (first | (with_reducible refine hK _ ?_; clear hK K) | with_reducible apply And.intro)
  refine call_pure (hp _ (List.getElem_mem hlt)) ?_
  simp (maxSteps:=9^7) only [ss, evLit, tab, reduceCtorEq, reduceIte, Nat.reduceEqDiff, Nat.reduceBEq, Int.reduceLE, Int.reduceToNat, Nat.reduceAdd, Nat.reduceLT, Nat.reduceLeDiff]
  repeat' (first | (with_reducible refine hK _ ?_; clear hK K) | with_reducible apply And.intro)
  refine awp_if rfl (fun ht => ?_) (fun hf => awp_skip ?_)
  · have e := idx_some hlt ht fun j hj => hq j (by omega) hj
    refine awp_seq_k fun K hK => awp_ev tab_ok [] ?_
    simp (maxSteps:=9^7) only [ss, evLit, tab, reduceCtorEq, reduceIte, Nat.reduceEqDiff, Nat.reduceBEq, Int.reduceLE, Int.reduceToNat, Nat.reduceAdd, Nat.reduceLT, Nat.reduceLeDiff]
    repeat' (first | (with_reducible refine hK _ ?_; clear hK K) | with_reducible apply And.intro)
    rw [← e]
    refine awp_ret ?_
    exact ret_tmp (.inr rfl) rfl rfl rfl (fun _ _ => rfl) rfl
  repeat refine And.intro (by omega) ?_
  refine hKC _ ?_
  clear hKC KC
  refine awp_ev tab_ok [] ?_
  simp (maxSteps:=9^7) only [ss, evLit, tab, reduceCtorEq, reduceIte, Nat.reduceEqDiff, Nat.reduceBEq, Int.reduceLE, Int.reduceToNat, Nat.reduceAdd, Nat.reduceLT, Nat.reduceLeDiff, addw (n := i) 1 1 rfl (by omega)]
  refine ⟨i + 1, ⟨by omega, ?_⟩, by omega, ?_⟩
  · intro j hj hji
    by_cases h : j = i
    · subst h; exact hf
    · exact hq j hj (by omega)
  refine le_of_all ?_ ?_ rfl rfl rfl rfl <;> simp only [patch, sl]
theorem c_uany_int (l : List (Int)) (fid : FuncId) (caps : List AV) (p : Int → Bool) (hb : hasBody Tryz.prog fid = True) (hl : l.length ≤ 1000000000)
    (hp : ∀ x, x ∈ l → ACall Tryz.prog fid (i64 x :: caps) [] (bool (p x)) []) :
    ACall Tryz.prog 50 [.sl 1 (l.map intC) .sh, .fn (.func fid) caps] [] (bool (l.any p)) [] := by
  refine acall_of 0 Tryz.func50 rfl fun n out _ _ => ?_
  simp only [Tryz.ntmps50, List.length_cons, List.length_nil, List.length_map, List.length_replicate, rep_map, Nat.reduceAdd, Nat.reduceSub, List.replicate, List.cons_append, List.nil_append]
  repeat' (first | (with_reducible first | refine Vk fun K hK => ?_ | refine V0 ?_ | refine Vs ?_ | apply And.intro) | ((with_reducible first | refine gE ?_ | refine gR ?_); simp (maxSteps:=9^7) only [ss, evLit, tab, reduceCtorEq, reduceIte, Nat.reduceEqDiff, Nat.reduceBEq, Int.reduceLE, Int.reduceToNat, Nat.reduceAdd, Nat.reduceLT, Nat.reduceLeDiff]) | exact Vn | ((with_reducible refine Vz ?_); refine Vo rfl rfl rfl (fun _ _ => rfl) ?_ <;> first | rfl | (rw [← idx_any]; rfl) | skip) | (refine call_pure (c_uidx_int l fid caps p hb hl hp) ?_) | (refine hK _ ?_; clear hK K) | clear hK K)
theorem c_uidx_ask (l : List (Int × Int × Int)) (fid : FuncId) (caps : List AV) (p : Int × Int × Int → Bool) (hb : hasBody Tryz.prog fid = True) (hl : l.length ≤ 1000000000)
    (hp : ∀ x, x ∈ l → ACall Tryz.prog fid (sgA x :: caps) [] (bool (p x)) []) :
    ACall Tryz.prog 75 [.sl 3 (l.map sgC) .sh, .fn (.func fid) caps] [] (i64 (idx p l)) [] := by
  refine acall_of 0 Tryz.func75 rfl fun n out _ _ => ?_
  simp only [Tryz.ntmps75, List.length_cons, List.length_nil, List.length_map, List.length_replicate, rep_map, Nat.reduceAdd, Nat.reduceSub, List.replicate, List.cons_append, List.nil_append]
  refine awp_seq_k fun K hK => awp_ev tab_ok [] ?_
  simp (maxSteps:=9^7) only [ss, evLit, tab, reduceCtorEq, reduceIte, Nat.reduceEqDiff, Nat.reduceBEq, Int.reduceLE, Int.reduceToNat, Nat.reduceAdd, Nat.reduceLT, Nat.reduceLeDiff]
  repeat' (first | (with_reducible refine hK _ ?_; clear hK K) | with_reducible apply And.intro)
  refine awp_seq_k fun KB hKB => ?_
  refine awp_seq_k fun K hK => awp_ev tab_ok [] ?_
  simp (maxSteps:=9^7) only [ss, evLit, tab, reduceCtorEq, reduceIte, Nat.reduceEqDiff, Nat.reduceBEq, Int.reduceLE, Int.reduceToNat, Nat.reduceAdd, Nat.reduceLT, Nat.reduceLeDiff]
  repeat' (first | (with_reducible refine hK _ ?_; clear hK K) | with_reducible apply And.intro)
  refine awp_block ?_
  refine awp_for_g (fun i : Nat => [(8, i64 (i : Int)), (4, .top), (5, .top), (9, .top), (10, .top), (11, .top), (12, .top), (13, .top), (14, .top), (15, .top), (16, .top), (17, .top), (18, .top)]) (fun i => []) (fun i => out) (fun i => i ≤ l.length ∧ (∀ j (hj : j < l.length), j < i → p l[j] = false)) (fun i => l.length - i) 0 ⟨Nat.zero_le _, by intros; omega⟩ ?_ fun i hi => ?_
  · refine le_of_all ?_ ?_ rfl rfl rfl rfl <;> simp only [patch, sl]
  obtain ⟨hi, hq⟩ := hi
  simp only [patch, s_0, s_s]
  refine awp_seq_k fun K hK => awp_ev tab_ok [] ?_
  simp (maxSteps:=9^7) only [ss, evLit, tab, reduceCtorEq, reduceIte, Nat.reduceEqDiff, Nat.reduceBEq, Int.reduceLE, Int.reduceToNat, Nat.reduceAdd, Nat.reduceLT, Nat.reduceLeDiff]
  repeat' (first | (with_reducible refine hK _ ?_; clear hK K) | with_reducible apply And.intro)
  refine awp_seq_k fun KC hKC => ?_
  refine awp_if rfl (fun ht => awp_skip (hKC _ ?_)) (fun hf => awp_exit (id ?_))
  rotate_left
  · simp only [thenA, blockA, if_true]
    refine hKB _ ?_
    clear hKB KB hKC KC
    have h_ib : i = l.length := by have := of_decide_eq_false hf; omega
    subst h_ib
    have e := idx_none (p := p) (l := l) fun i hi => hq i hi hi
    rw [e]
    refine awp_seq_k fun K hK => awp_ev tab_ok [] ?_
    simp (maxSteps:=9^7) only [ss, evLit, tab, reduceCtorEq, reduceIte, Nat.reduceEqDiff, Nat.reduceBEq, Int.reduceLE, Int.reduceToNat, Nat.reduceAdd, Nat.reduceLT, Nat.reduceLeDiff]
    repeat' (first | (with_reducible refine hK _ ?_; clear hK K) | with_reducible apply And.intro)
    refine awp_ret ?_
    exact ret_tmp (.inr rfl) rfl rfl rfl (fun _ _ => rfl) rfl
  clear hKC KC
  have hlt : i < l.length := by have := of_decide_eq_true ht; omega
  refine awp_seq_k fun KC hKC => awp_block ?_
  refine awp_seq_k fun K hK => awp_ev tab_ok [] ?_
  simp (maxSteps:=9^7) only [ss, evLit, tab, reduceCtorEq, reduceIte, Nat.reduceEqDiff, Nat.reduceBEq, Int.reduceLE, Int.reduceToNat, Nat.reduceAdd, Nat.reduceLT, Nat.reduceLeDiff]
  repeat' (first | (with_reducible refine hK _ ?_; clear hK K) | with_reducible apply And.intro)
  refine awp_seq_k fun K hK => awp_ev tab_ok [] ?_
  simp (maxSteps:=9^7) only [ss, evLit, tab, reduceCtorEq, reduceIte, Nat.reduceEqDiff, Nat.reduceBEq, Int.reduceLE, Int.reduceToNat, Nat.reduceAdd, Nat.reduceLT, Nat.reduceLeDiff, hlt, List.length_map, getD_map sgC l i [] hlt, sgC, hb]
  repeat' (first | (with_reducible refine hK _ ?_; clear hK K) | with_reducible apply And.intro)
  refine call_pure (hp _ (List.getElem_mem hlt)) ?_
  simp (maxSteps:=9^7) only [ss, evLit, tab, reduceCtorEq, reduceIte, Nat.reduceEqDiff, Nat.reduceBEq, Int.reduceLE, Int.reduceToNat, Nat.reduceAdd, Nat.reduceLT, Nat.reduceLeDiff]
  repeat' (first | (with_reducible refine hK _ ?_; clear hK K) | with_reducible apply And.intro)
  refine awp_if rfl (fun ht => ?_) (fun hf => awp_skip ?_)
  · have e := idx_some hlt ht fun j hj => hq j (by omega) hj
    refine awp_seq_k fun K hK => awp_ev tab_ok [] ?_
    simp (maxSteps:=9^7) only [ss, evLit, tab, reduceCtorEq, reduceIte, Nat.reduceEqDiff, Nat.reduceBEq, Int.reduceLE, Int.reduceToNat, Nat.reduceAdd, Nat.reduceLT, Nat.reduceLeDiff]
    repeat' (first | (with_reducible refine hK _ ?_; clear hK K) | with_reducible apply And.intro)
    rw [← e]
    refine awp_ret ?_
    exact ret_tmp (.inr rfl) rfl rfl rfl (fun _ _ => rfl) rfl
  repeat refine And.intro (by omega) ?_
  refine hKC _ ?_
  clear hKC KC
  refine awp_ev tab_ok [] ?_
  simp (maxSteps:=9^7) only [ss, evLit, tab, reduceCtorEq, reduceIte, Nat.reduceEqDiff, Nat.reduceBEq, Int.reduceLE, Int.reduceToNat, Nat.reduceAdd, Nat.reduceLT, Nat.reduceLeDiff, addw (n := i) 1 1 rfl (by omega)]
  refine ⟨i + 1, ⟨by omega, ?_⟩, by omega, ?_⟩
  · intro j hj hji
    by_cases h : j = i
    · subst h; exact hf
    · exact hq j hj (by omega)
  refine le_of_all ?_ ?_ rfl rfl rfl rfl <;> simp only [patch, sl]
theorem c_uany_ask (l : List (Int × Int × Int)) (fid : FuncId) (caps : List AV) (p : Int × Int × Int → Bool) (hb : hasBody Tryz.prog fid = True) (hl : l.length ≤ 1000000000)
    (hp : ∀ x, x ∈ l → ACall Tryz.prog fid (sgA x :: caps) [] (bool (p x)) []) :
    ACall Tryz.prog 53 [.sl 3 (l.map sgC) .sh, .fn (.func fid) caps] [] (bool (l.any p)) [] := by
  refine acall_of 0 Tryz.func53 rfl fun n out _ _ => ?_
  simp only [Tryz.ntmps53, List.length_cons, List.length_nil, List.length_map, List.length_replicate, rep_map, Nat.reduceAdd, Nat.reduceSub, List.replicate, List.cons_append, List.nil_append]
  repeat' (first | (with_reducible first | refine Vk fun K hK => ?_ | refine V0 ?_ | refine Vs ?_ | apply And.intro) | ((with_reducible first | refine gE ?_ | refine gR ?_); simp (maxSteps:=9^7) only [ss, evLit, tab, reduceCtorEq, reduceIte, Nat.reduceEqDiff, Nat.reduceBEq, Int.reduceLE, Int.reduceToNat, Nat.reduceAdd, Nat.reduceLT, Nat.reduceLeDiff]) | exact Vn | ((with_reducible refine Vz ?_); refine Vo rfl rfl rfl (fun _ _ => rfl) ?_ <;> first | rfl | (rw [← idx_any]; rfl) | skip) | (refine call_pure (c_uidx_ask l fid caps p hb hl hp) ?_) | (refine hK _ ?_; clear hK K) | clear hK K)
def oddA (x y : Int × Int × Int) : Bool := x.1 == y.1 && x.2.1 != y.2.1
theorem c_odd1 (x y : Int) : ACall Tryz.prog 30 [i64 x, i64 y] [] (bool (x == y)) [] := by
  refine acall_of 0 Tryz.func30 rfl fun n out _ _ => ?_
  simp only [Tryz.ntmps30, List.length_cons, List.length_nil, List.length_map, List.length_replicate, rep_map, Nat.reduceAdd, Nat.reduceSub, List.replicate, List.cons_append, List.nil_append]
  repeat' (first | (with_reducible first | refine Vk fun K hK => ?_ | refine V0 ?_ | refine Vs ?_ | apply And.intro) | ((with_reducible first | refine gE ?_ | refine gR ?_); simp (maxSteps:=9^7) only [ss, evLit, tab, reduceCtorEq, reduceIte, Nat.reduceEqDiff, Nat.reduceBEq, Int.reduceLE, Int.reduceToNat, Nat.reduceAdd, Nat.reduceLT, Nat.reduceLeDiff]) | exact Vn | ((with_reducible refine Vz ?_); refine Vo rfl rfl rfl (fun _ _ => rfl) ?_ <;> first | rfl | skip) | (refine hK _ ?_; clear hK K) | clear hK K)
theorem c_odd2 (x y : Int × Int × Int) : ACall Tryz.prog 32 [sgA x, sgA y] [] (bool (oddA x y)) [] := by
  unfold oddA
  refine acall_of 2 Tryz.func32 rfl fun n out _ _ => ?_
  simp only [Tryz.ntmps32, List.length_cons, List.length_nil, List.length_map, List.length_replicate, rep_map, Nat.reduceAdd, Nat.reduceSub, List.replicate, List.cons_append, List.nil_append]
  repeat' (first | (with_reducible first | refine Vk fun K hK => ?_ | refine V0 ?_ | refine Vs ?_ | apply And.intro) | ((with_reducible first | refine gE ?_ | refine gR ?_); simp (maxSteps:=9^7) only [ss, evLit, tab, reduceCtorEq, reduceIte, Nat.reduceEqDiff, Nat.reduceBEq, Int.reduceLE, Int.reduceToNat, Nat.reduceAdd, Nat.reduceLT, Nat.reduceLeDiff, sgA, sgC, splice_all]) | exact Vn | ((with_reducible refine Vz ?_); refine Vo rfl rfl rfl (fun _ _ => rfl) ?_ <;> first | rfl | (simp only [g_0, g_s]; refine congrArg VS.bool ?_; simp_all; done) | skip) | ((with_reducible refine Vg (fun hg => ?_) (fun hg => ?_)) <;> (try simp only [nb] at hg) <;> simp (maxSteps:=9^7) only [ss, evLit, tab, reduceCtorEq, reduceIte, Nat.reduceEqDiff, Nat.reduceBEq, Int.reduceLE, Int.reduceToNat, Nat.reduceAdd, Nat.reduceLT, Nat.reduceLeDiff, hg, sgA, sgC, splice_all]) | (refine hK _ ?_; clear hK K) | clear hK K)
theorem c_meet2_int (f : FuncId) (g : Int → Int → Bool) (hb : hasBody Tryz.prog f = True) (hf : ∀ x y, ACall Tryz.prog f [i64 x, i64 y] [] (bool (g x y)) []) (x y : Int) : ACall Tryz.prog 52 [i64 y, .ref [.fn (.func f) []], .ref ([i64 x])] [] (bool (g x y)) [] := by
  have h := hf x y
  try simp only [sgA, sgC] at h ⊢
  refine acall_of 0 Tryz.func52 rfl fun n out _ _ => ?_
  simp only [Tryz.ntmps52, List.length_cons, List.length_nil, List.length_map, List.length_replicate, rep_map, Nat.reduceAdd, Nat.reduceSub, List.replicate, List.cons_append, List.nil_append]
  repeat' (first | (with_reducible first | refine Vk fun K hK => ?_ | refine V0 ?_ | refine Vs ?_ | apply And.intro) | ((with_reducible first | refine gE ?_ | refine gR ?_); simp (maxSteps:=9^7) only [ss, evLit, tab, reduceCtorEq, reduceIte, Nat.reduceEqDiff, Nat.reduceBEq, Int.reduceLE, Int.reduceToNat, Nat.reduceAdd, Nat.reduceLT, Nat.reduceLeDiff, sgA, sgC, splice_all, hb]) | exact Vn | ((with_reducible refine Vz ?_); refine Vo rfl rfl rfl (fun _ _ => rfl) ?_ <;> first | rfl | skip) | (refine call_pure (h) ?_) | (refine hK _ ?_; clear hK K) | clear hK K)
theorem c_meet1_int (f : FuncId) (g : Int → Int → Bool) (hb : hasBody Tryz.prog f = True) (hf : ∀ x y, ACall Tryz.prog f [i64 x, i64 y] [] (bool (g x y)) []) (b : List (Int)) (hl : b.length ≤ 100000000) (x : Int) : ACall Tryz.prog 51 [i64 x, .ref [.sl 1 (b.map intC) .sh], .ref [.fn (.func f) []]] [] (bool (b.any (g x))) [] := by
  have h := c_uany_int b 52 [.ref [.fn (.func f) []], .ref ([i64 x])] (g x) (hb0 _ (by decide) (by decide)) (by omega) fun y _ => c_meet2_int f g hb hf x y
  try simp only [sgA, sgC] at h ⊢
  refine acall_of 1 Tryz.func51 rfl fun n out _ _ => ?_
  simp only [Tryz.ntmps51, List.length_cons, List.length_nil, List.length_map, List.length_replicate, rep_map, Nat.reduceAdd, Nat.reduceSub, List.replicate, List.cons_append, List.nil_append]
  refine awp_seq_k fun K hK => awp_ev tab_ok [] ?_
  simp (maxSteps:=9^7) only [ss, evLit, tab, reduceCtorEq, reduceIte, Nat.reduceEqDiff, Nat.reduceBEq, Int.reduceLE, Int.reduceToNat, Nat.reduceAdd, Nat.reduceLT, Nat.reduceLeDiff, sgA, sgC]
  repeat' (first | (with_reducible refine hK _ ?_; clear hK K) | with_reducible apply And.intro)
  refine awp_le (le_freezeAt (i := 0) (t := 3) 1 (.ref ([i64 x])) rfl rfl (.ptr 0)) ?_
  simp only [s_0, s_s, sgC]
  repeat' (first | (with_reducible first | refine Vk fun K hK => ?_ | refine V0 ?_ | refine Vs ?_ | apply And.intro) | ((with_reducible first | refine gE ?_ | refine gR ?_); simp (maxSteps:=9^7) only [ss, evLit, tab, reduceCtorEq, reduceIte, Nat.reduceEqDiff, Nat.reduceBEq, Int.reduceLE, Int.reduceToNat, Nat.reduceAdd, Nat.reduceLT, Nat.reduceLeDiff, sgA, sgC, splice_all]) | exact Vn | ((with_reducible refine Vz ?_); refine Vo rfl rfl rfl (fun _ _ => rfl) ?_ <;> first | rfl | skip) | (refine call_pure (h) ?_) | (refine hK _ ?_; clear hK K) | clear hK K)
theorem c_meet_int (f : FuncId) (g : Int → Int → Bool) (hb : hasBody Tryz.prog f = True) (hf : ∀ x y, ACall Tryz.prog f [i64 x, i64 y] [] (bool (g x y)) []) (a b : List (Int)) (hk : a.length ≤ 100000000) (hl : b.length ≤ 100000000) : ACall Tryz.prog 28 [.sl 1 (a.map intC) .sh, .sl 1 (b.map intC) .sh, .fn (.func f) []] [] (bool (a.any fun x => b.any (g x))) [] := by
  have h := c_uany_int a 51 [.ref [.sl 1 (b.map intC) .sh], .ref [.fn (.func f) []]] (fun x => b.any (g x)) (hb0 _ (by decide) (by decide)) (by omega) fun x _ => c_meet1_int f g hb hf b hl x
  refine acall_of 2 Tryz.func28 rfl fun n out _ _ => ?_
  simp only [Tryz.ntmps28, List.length_cons, List.length_nil, List.length_map, List.length_replicate, rep_map, Nat.reduceAdd, Nat.reduceSub, List.replicate, List.cons_append, List.nil_append]
  refine awp_seq_k fun K hK => awp_ev tab_ok [] ?_
  simp (maxSteps:=9^7) only [ss, evLit, tab, reduceCtorEq, reduceIte, Nat.reduceEqDiff, Nat.reduceBEq, Int.reduceLE, Int.reduceToNat, Nat.reduceAdd, Nat.reduceLT, Nat.reduceLeDiff]
  repeat' (first | (with_reducible refine hK _ ?_; clear hK K) | with_reducible apply And.intro)
  refine awp_le (le_freezeAt (i := 0) (t := 4) 1 (.ref [.sl 1 (b.map intC) .sh]) rfl rfl (.ptr 0)) ?_
  refine awp_le (le_freezeAt (i := 1) (t := 5) 1 (.ref [.fn (.func f) []]) rfl rfl (.ptr 0)) ?_
  simp only [s_0, s_s]
  repeat' (first | (with_reducible first | refine Vk fun K hK => ?_ | refine V0 ?_ | refine Vs ?_ | apply And.intro) | ((with_reducible first | refine gE ?_ | refine gR ?_); simp (maxSteps:=9^7) only [ss, evLit, tab, reduceCtorEq, reduceIte, Nat.reduceEqDiff, Nat.reduceBEq, Int.reduceLE, Int.reduceToNat, Nat.reduceAdd, Nat.reduceLT, Nat.reduceLeDiff, splice_all]) | exact Vn | ((with_reducible refine Vz ?_); refine Vo rfl rfl rfl (fun _ _ => rfl) ?_ <;> first | rfl | skip) | (refine call_pure (h) ?_) | (refine hK _ ?_; clear hK K) | clear hK K)
theorem c_meet2_ask (f : FuncId) (g : Int × Int × Int → Int × Int × Int → Bool) (hb : hasBody Tryz.prog f = True) (hf : ∀ x y, ACall Tryz.prog f [sgA x, sgA y] [] (bool (g x y)) []) (x y : Int × Int × Int) : ACall Tryz.prog 55 [sgA y, .ref [.fn (.func f) []], .ref (sgC x)] [] (bool (g x y)) [] := by
  have h := hf x y
  try simp only [sgA, sgC] at h ⊢
  refine acall_of 1 Tryz.func55 rfl fun n out _ _ => ?_
  simp only [Tryz.ntmps55, List.length_cons, List.length_nil, List.length_map, List.length_replicate, rep_map, Nat.reduceAdd, Nat.reduceSub, List.replicate, List.cons_append, List.nil_append]
  repeat' (first | (with_reducible first | refine Vk fun K hK => ?_ | refine V0 ?_ | refine Vs ?_ | apply And.intro) | ((with_reducible first | refine gE ?_ | refine gR ?_); simp (maxSteps:=9^7) only [ss, evLit, tab, reduceCtorEq, reduceIte, Nat.reduceEqDiff, Nat.reduceBEq, Int.reduceLE, Int.reduceToNat, Nat.reduceAdd, Nat.reduceLT, Nat.reduceLeDiff, sgA, sgC, splice_all, hb]) | exact Vn | ((with_reducible refine Vz ?_); refine Vo rfl rfl rfl (fun _ _ => rfl) ?_ <;> first | rfl | skip) | (refine call_pure (h) ?_) | (refine hK _ ?_; clear hK K) | clear hK K)
theorem c_meet1_ask (f : FuncId) (g : Int × Int × Int → Int × Int × Int → Bool) (hb : hasBody Tryz.prog f = True) (hf : ∀ x y, ACall Tryz.prog f [sgA x, sgA y] [] (bool (g x y)) []) (b : List (Int × Int × Int)) (hl : b.length ≤ 100000000) (x : Int × Int × Int) : ACall Tryz.prog 54 [sgA x, .ref [.sl 3 (b.map sgC) .sh], .ref [.fn (.func f) []]] [] (bool (b.any (g x))) [] := by
  have h := c_uany_ask b 55 [.ref [.fn (.func f) []], .ref (sgC x)] (g x) (hb0 _ (by decide) (by decide)) (by omega) fun y _ => c_meet2_ask f g hb hf x y
  try simp only [sgA, sgC] at h ⊢
  refine acall_of 1 Tryz.func54 rfl fun n out _ _ => ?_
  simp only [Tryz.ntmps54, List.length_cons, List.length_nil, List.length_map, List.length_replicate, rep_map, Nat.reduceAdd, Nat.reduceSub, List.replicate, List.cons_append, List.nil_append]
  refine awp_seq_k fun K hK => awp_ev tab_ok [] ?_
  simp (maxSteps:=9^7) only [ss, evLit, tab, reduceCtorEq, reduceIte, Nat.reduceEqDiff, Nat.reduceBEq, Int.reduceLE, Int.reduceToNat, Nat.reduceAdd, Nat.reduceLT, Nat.reduceLeDiff, sgA, sgC]
  repeat' (first | (with_reducible refine hK _ ?_; clear hK K) | with_reducible apply And.intro)
  refine awp_le (le_freezeAt (i := 0) (t := 3) 1 (.ref (sgC x)) rfl rfl (.ptr 0)) ?_
  simp only [s_0, s_s, sgC]
  repeat' (first | (with_reducible first | refine Vk fun K hK => ?_ | refine V0 ?_ | refine Vs ?_ | apply And.intro) | ((with_reducible first | refine gE ?_ | refine gR ?_); simp (maxSteps:=9^7) only [ss, evLit, tab, reduceCtorEq, reduceIte, Nat.reduceEqDiff, Nat.reduceBEq, Int.reduceLE, Int.reduceToNat, Nat.reduceAdd, Nat.reduceLT, Nat.reduceLeDiff, sgA, sgC, splice_all]) | exact Vn | ((with_reducible refine Vz ?_); refine Vo rfl rfl rfl (fun _ _ => rfl) ?_ <;> first | rfl | skip) | (refine call_pure (h) ?_) | (refine hK _ ?_; clear hK K) | clear hK K)
theorem c_meet_ask (f : FuncId) (g : Int × Int × Int → Int × Int × Int → Bool) (hb : hasBody Tryz.prog f = True) (hf : ∀ x y, ACall Tryz.prog f [sgA x, sgA y] [] (bool (g x y)) []) (a b : List (Int × Int × Int)) (hk : a.length ≤ 100000000) (hl : b.length ≤ 100000000) : ACall Tryz.prog 31 [.sl 3 (a.map sgC) .sh, .sl 3 (b.map sgC) .sh, .fn (.func f) []] [] (bool (a.any fun x => b.any (g x))) [] := by
  have h := c_uany_ask a 54 [.ref [.sl 3 (b.map sgC) .sh], .ref [.fn (.func f) []]] (fun x => b.any (g x)) (hb0 _ (by decide) (by decide)) (by omega) fun x _ => c_meet1_ask f g hb hf b hl x
  refine acall_of 2 Tryz.func31 rfl fun n out _ _ => ?_
  simp only [Tryz.ntmps31, List.length_cons, List.length_nil, List.length_map, List.length_replicate, rep_map, Nat.reduceAdd, Nat.reduceSub, List.replicate, List.cons_append, List.nil_append]
  refine awp_seq_k fun K hK => awp_ev tab_ok [] ?_
  simp (maxSteps:=9^7) only [ss, evLit, tab, reduceCtorEq, reduceIte, Nat.reduceEqDiff, Nat.reduceBEq, Int.reduceLE, Int.reduceToNat, Nat.reduceAdd, Nat.reduceLT, Nat.reduceLeDiff]
  repeat' (first | (with_reducible refine hK _ ?_; clear hK K) | with_reducible apply And.intro)
  refine awp_le (le_freezeAt (i := 0) (t := 4) 1 (.ref [.sl 3 (b.map sgC) .sh]) rfl rfl (.ptr 0)) ?_
  refine awp_le (le_freezeAt (i := 1) (t := 5) 1 (.ref [.fn (.func f) []]) rfl rfl (.ptr 0)) ?_
  simp only [s_0, s_s]
  repeat' (first | (with_reducible first | refine Vk fun K hK => ?_ | refine V0 ?_ | refine Vs ?_ | apply And.intro) | ((with_reducible first | refine gE ?_ | refine gR ?_); simp (maxSteps:=9^7) only [ss, evLit, tab, reduceCtorEq, reduceIte, Nat.reduceEqDiff, Nat.reduceBEq, Int.reduceLE, Int.reduceToNat, Nat.reduceAdd, Nat.reduceLT, Nat.reduceLeDiff, splice_all]) | exact Vn | ((with_reducible refine Vz ?_); refine Vo rfl rfl rfl (fun _ _ => rfl) ?_ <;> first | rfl | skip) | (refine call_pure (h) ?_) | (refine hK _ ?_; clear hK K) | clear hK K)
def allW1 (w : Wy) : List Int := w.path ++ w.over
theorem c_csecs (w : Wy) (h1 : w.path.length ≤ 400000) (h2 : w.over.length ≤ 400000) : ACall Tryz.prog 29 [wyA w] [] (ints (allW1 w)) [] := by
  have cc := fun k => c_concat_ints k (w.path.map intC) (w.over.map intC) .full .sh .sh (by simp; omega)
  have lit : ∀ (σ : AState) (K : AV → List (Nat × Res) → Prop), evLit tab σ K none 128 2 [(0, .sl 1 (w.path.map intC) .sh), (1, .sl 1 (w.over.map intC) .sh)] = K (.sl 1 [[.sl 1 (w.path.map intC) .sh], [.sl 1 (w.over.map intC) .sh]] .full) [] := fun σ K => evLit_two (T := tab) (ti := ti128) (te := ti43) rfl rfl rfl rfl rfl rfl
  have hm : (allW1 w).map intC = w.path.map intC ++ w.over.map intC := by unfold allW1; rw [List.map_append]
  unfold ints
  rw [hm]
  refine acall_of 2 Tryz.func29 rfl fun n out _ _ => ?_
  simp only [Tryz.ntmps29, List.length_cons, List.length_nil, List.length_map, List.length_replicate, rep_map, Nat.reduceAdd, Nat.reduceSub, List.replicate, List.cons_append, List.nil_append]
  repeat' (first | (with_reducible first | refine Vk fun K hK => ?_ | refine V0 ?_ | refine Vs ?_ | apply And.intro) | ((with_reducible first | refine gE ?_ | refine gR ?_); simp (maxSteps:=9^7) only [ss, tab, reduceCtorEq, reduceIte, Nat.reduceEqDiff, Nat.reduceBEq, Int.reduceLE, Int.reduceToNat, Nat.reduceAdd, Nat.reduceLT, Nat.reduceLeDiff, lit, wyA, wyC, splice_all]) | exact Vn | ((with_reducible refine Vz ?_); refine ret_tmp_le (.inr rfl) rfl rfl rfl (fun _ _ => rfl) ?_ rfl <;> first | rfl | (exact AV.le.rfl _) | (simp only [patch, sl, lit, wyA, wyC, splice_all]; done) | rfl | skip) | (refine call_one (cc (n + 1)) (look_loc _ (Nat.le_refl _) 1) (dom_loc _ (by simp)) (by simp) ?_) | (refine hK _ ?_; clear hK K) | clear hK K)
def confW (a b : Wy) : Bool := ((allW1 a).any fun x => (allW1 b).any fun y => x == y) || a.asks.any fun x => b.asks.any (oddA x)
theorem c_conf (a b : Wy) (a1 : a.path.length ≤ 400000) (a2 : a.over.length ≤ 400000) (a3 : a.asks.length ≤ 1000000) (b1 : b.path.length ≤ 400000) (b2 : b.over.length ≤ 400000) (b3 : b.asks.length ≤ 1000000) : ACall Tryz.prog 16 [wyA a, wyA b] [] (bool (confW a b)) [] := by
  have c1 := c_csecs a (by omega) (by omega)
  have c2 := c_csecs b (by omega) (by omega)
  have l1 : (allW1 a).length ≤ 100000000 := by unfold allW1; rw [List.length_append]; omega
  have l2 : (allW1 b).length ≤ 100000000 := by unfold allW1; rw [List.length_append]; omega
  have c3 := c_meet_int 30 (fun x y => x == y) (hb0 _ (by decide) (by decide)) c_odd1 (allW1 a) (allW1 b) l1 l2
  have c4 := c_meet_ask 32 oddA (hb0 _ (by decide) (by decide)) c_odd2 a.asks b.asks (by omega) (by omega)
  unfold confW
  generalize ((allW1 a).any fun x => (allW1 b).any fun y => x == y) = P1 at *
  generalize (a.asks.any fun x => b.asks.any (oddA x)) = P2 at *
  simp only [wyA, wyC, ints] at c1 c2
  refine acall_of 2 Tryz.func16 rfl fun n out _ _ => ?_
  simp only [Tryz.ntmps16, List.length_cons, List.length_nil, List.length_map, List.length_replicate, rep_map, Nat.reduceAdd, Nat.reduceSub, List.replicate, List.cons_append, List.nil_append]
  repeat' (first | (with_reducible first | refine Vk fun K hK => ?_ | refine V0 ?_ | refine Vs ?_ | apply And.intro | refine Vq (by kernel_rfl) ?_) | ((with_reducible first | refine gE ?_ | refine gR ?_); simp (maxSteps:=9^7) only [ss, evLit, tab, reduceCtorEq, reduceIte, Nat.reduceEqDiff, Nat.reduceBEq, Int.reduceLE, Int.reduceToNat, Nat.reduceAdd, Nat.reduceLT, Nat.reduceLeDiff, wyA, wyC, splice_all]) | exact Vn | ((with_reducible refine Vz ?_); refine Vo rfl rfl rfl (fun _ _ => rfl) ?_ <;> first | rfl | (simp only [g_0, g_s]; refine congrArg VS.bool ?_; simp_all; done) | skip) | (refine call_pure (c1) ?_) | (refine call_pure (c2) ?_) | (refine call_pure (c3) ?_) | (refine call_pure (c4) ?_) | ((with_reducible refine Vg (fun hg => ?_) (fun hg => ?_)) <;> (try simp only [nb] at hg) <;> simp (maxSteps:=9^7) only [ss, evLit, tab, reduceCtorEq, reduceIte, Nat.reduceEqDiff, Nat.reduceBEq, Int.reduceLE, Int.reduceToNat, Nat.reduceAdd, Nat.reduceLT, Nat.reduceLeDiff, hg, wyA, wyC, splice_all]) | (refine hK _ ?_; clear hK K) | clear hK K)
theorem fol_tiny {p : Pl} (hs : Sm p) {r : Rt} (hr : r ∈ p.rts) : (folW p r).path.length ≤ 20 ∧ (folW p r).over.length ≤ 20 ∧ (folW p r).asks.length ≤ 60 := by
  obtain ⟨b1, b2, b3⟩ := hs.rt r hr
  refine ⟨?_, ?_, (fol_small hs hr).1⟩
  · unfold folW; split
    · exact Nat.zero_le _
    · exact b1
  · unfold folW; split
    · exact Nat.zero_le _
    · exact b2
theorem ofW_tiny {p : Pl} (hs : Sm p) (id : Int) : (ofW p id).path.length ≤ 20 ∧ (ofW p id).over.length ≤ 20 ∧ (ofW p id).asks.length ≤ 60 := by
  unfold ofW
  by_cases hE : rtE p id = 0
  · rw [if_pos hE]
    exact fol_tiny hs (rtE_zero hE).2
  · rw [if_neg hE]
    exact ⟨Nat.zero_le _, Nat.zero_le _, Nat.zero_le _⟩
def twoE (p : Pl) (a b : Int) : Int := if soundE p ≠ 0 then soundE p else if ofE p a ≠ 0 then ofE p a else if ofE p b ≠ 0 then ofE p b else if a = b then 2 else 0
def twoB (p : Pl) (a b : Int) : Bool := if twoE p a b = 0 then confW (ofW p a) (ofW p b) else false
theorem c_two (p : Pl) (hs : Sm p) (a b : Int) : ACall Tryz.prog 6 [plA p, i64 a, i64 b] [] (.tup [bool (twoB p a b), i64 (twoE p a b)]) [] := by
  have c1 := c_soundC p hs
  have c2 := c_of p hs a
  have c3 := c_of p hs b
  obtain ⟨a1, a2, a3⟩ := ofW_tiny hs a
  obtain ⟨b1, b2, b3⟩ := ofW_tiny hs b
  have c4 := c_conf (ofW p a) (ofW p b) (by omega) (by omega) (by omega) (by omega) (by omega) (by omega)
  unfold twoB twoE
  generalize soundE p = E1 at *
  generalize ofE p a = E2 at *
  generalize ofE p b = E3 at *
  generalize confW (ofW p a) (ofW p b) = B at *
  generalize ofW p a = A at *
  generalize ofW p b = C at *
  simp only [wyA, wyC] at c2 c3 c4
  refine acall_of 3 Tryz.func6 rfl fun n out _ _ => ?_
  simp only [Tryz.ntmps6, List.length_cons, List.length_nil, List.length_map, List.length_replicate, rep_map, Nat.reduceAdd, Nat.reduceSub, List.replicate, List.cons_append, List.nil_append]
  repeat' (first | (with_reducible first | refine Vk fun K hK => ?_ | refine V0 ?_ | refine Vb ?_ | refine Vc ?_ | refine Vr ?_ | refine Vs ?_ | apply And.intro) | ((with_reducible first | refine gE ?_ | refine gR ?_); simp (maxSteps:=9^7) only [ss, evLit, tab, reduceCtorEq, reduceIte, Nat.reduceEqDiff, Nat.reduceBEq, Int.reduceLE, Int.reduceToNat, Nat.reduceAdd, Nat.reduceLT, Nat.reduceLeDiff, plA, plC, wyC, splice_all]) | exact Vn | ((with_reducible refine Vz ?_); refine Vp rfl rfl rfl (fun _ _ => rfl) ?_ ?_ <;> first | rfl | (simp_all; done) | skip) | (refine call_pure (c1) ?_) | (refine call_pure (c2) ?_) | (refine call_pure (c3) ?_) | (refine call_pure (c4) ?_) | (refine hK _ ?_; clear hK K) | refine Vt rfl ?_ | refine Vf rfl ?_ | refine Vi rfl (fun hg => ?_) (fun hg => ?_) | clear hK K)
end Go.Proofs.YtcfkieacdjcaoaaGreat.Pln
end
section
namespace Go.Proofs.YtcfkieacdjcaoaaGreat.Pln
set_option linter.unusedVariables false
set_option linter.unusedSimpArgs false
open Go Go.VS Tab
set_option maxHeartbeats 8000000
set_option maxRecDepth 4000
def tabIn (p : Pl) (a : Rt) (l : List Rt) : List (Int × Int) := (l.filter fun b => twoE p a.id b.id == 0 && twoB p a.id b.id).map fun b => (a.id, b.id)
def tabPre (p : Pl) (i : Nat) : List (Int × Int) := ((List.range i).map fun q => tabIn p (p.rts.getD q noRt) (p.rts.drop (q + 1))).flatten
def tabL (p : Pl) : List (Int × Int) := if soundE p = 0 then tabPre p p.rts.length else []
theorem tabIn_nil (p : Pl) (a : Rt) : tabIn p a [] = [] := rfl
theorem tabIn_succ (p : Pl) (a : Rt) (l : List Rt) (k : Nat) (h : k < l.length) : tabIn p a (l.take (k + 1)) = tabIn p a (l.take k) ++ if (twoE p a.id l[k].id == 0 && twoB p a.id l[k].id) = true then [(a.id, l[k].id)] else [] := by
  unfold tabIn
  rw [List.take_succ_eq_append_getElem h, List.filter_append, List.map_append]
  congr 1
  split
  · rename_i hb; simp [List.filter_cons, hb]
  · rename_i hb; simp [List.filter_cons, hb]
theorem tabIn_len (p : Pl) (a : Rt) (l : List Rt) : (tabIn p a l).length ≤ l.length := by
  unfold tabIn; rw [List.length_map]; exact List.length_filter_le _ _
theorem tabPre_succ (p : Pl) (i : Nat) (h : i < p.rts.length) : tabPre p (i + 1) = tabPre p i ++ tabIn p p.rts[i] (p.rts.drop (i + 1)) := by
  unfold tabPre
  rw [List.range_succ, List.map_append, List.flatten_append]
  have e : p.rts.getD i noRt = p.rts[i] := by simp [List.getD_eq_getElem?_getD, h]
  simp only [List.map_cons, List.map_nil, List.flatten_cons, List.flatten_nil, List.append_nil, e]
theorem tabPre_len (p : Pl) : ∀ i, i ≤ p.rts.length → (tabPre p i).length ≤ i * p.rts.length
  | 0, _ => by simp [tabPre]
  | i + 1, h => by
    rw [tabPre_succ p i (by omega), List.length_append]
    have h1 := tabPre_len p i (by omega)
    have h2 := tabIn_len p p.rts[i] (p.rts.drop (i + 1))
    rw [List.length_drop] at h2
    rw [Nat.succ_mul]
    omega
theorem af_ii (z z' : AV) (a b : Int) : afill (fun i => some (i, 1)) [z, z'] [(0, i64 a), (1, i64 b)] = some [i64 a, i64 b] := rfl
theorem c_table (p : Pl) (hs : Sm p) : ACall Tryz.prog 8 [plA p] [] (.tup [.sl 2 ((tabL p).map jnC) .sh, i64 (soundE p)]) [] := by
  have c1 := c_soundC p hs
  have hrl := hs.rts
  by_cases hE : soundE p = 0
  · have c2 := fun a b => c_two p hs a b
    obtain ⟨RL, hRL⟩ : ∃ RL, RL = tabL p := ⟨_, rfl⟩
    have hTL : RL = tabPre p p.rts.length := by rw [hRL]; unfold tabL; rw [if_pos hE]
    rw [← hRL, hE]
    rw [hE] at c1
    have hPl := tabPre_len p
    have hPs := tabPre_succ p
    have hP0 : tabPre p 0 = [] := rfl
    generalize tabPre p = PRE at *
    refine acall_of 4 Tryz.func8 rfl fun n out _ _ => ?_
    simp only [Tryz.ntmps8, List.length_cons, List.length_nil, List.length_map, List.length_replicate, rep_map, Nat.reduceAdd, Nat.reduceSub, List.replicate, List.cons_append, List.nil_append]
    repeat' (first | (with_reducible first | refine Vk fun K hK => ?_ | refine V0 ?_ | refine Vb ?_ | refine Vc ?_ | refine Vr ?_ | refine Vs ?_ | apply And.intro) | ((with_reducible first | refine gE ?_ | refine gR ?_); simp (maxSteps:=9^7) only [ss, evLit, tab, reduceCtorEq, reduceIte, Nat.reduceEqDiff, Nat.reduceBEq, Int.reduceLE, Int.reduceToNat, Nat.reduceAdd, Nat.reduceLT, Nat.reduceLeDiff, plA, plC, Int.reduceBNe, List.length_map]) | exact Vn | ((with_reducible refine Vz ?_); refine Vp rfl rfl rfl (fun _ _ => rfl) ?_ ?_ <;> first | rfl | skip) | (refine call_pure (c1) ?_) | ((with_reducible refine Vg (fun hg => ?_) (fun hg => ?_)) <;> (try simp only [nb] at hg) <;> simp (maxSteps:=9^7) only [ss, evLit, tab, reduceCtorEq, reduceIte, Nat.reduceEqDiff, Nat.reduceBEq, Int.reduceLE, Int.reduceToNat, Nat.reduceAdd, Nat.reduceLT, Nat.reduceLeDiff, hg, plA, plC, Int.reduceBNe, List.length_map]) | ((with_reducible refine Vx ?_); simp only [sb, reduceIte, Nat.reduceEqDiff]) | (refine hK _ ?_; clear hK K) | refine Vt rfl ?_ | refine Vf rfl ?_ | refine Vi rfl (fun hg => ?_) (fun hg => ?_) | clear hK K)
    refine awp_le (le_row (i := 1) 41 2 rfl) ?_
    simp only [s_0, s_s]
    refine awp_block ?_
    refine awp_for_mv (fun m (i : Nat) => [(20, i64 (i : Int)), (1, .ptr (m + 0) 0), (5, .sl 2 ((PRE i).map jnC) (.own (m + 1))), (6, .top), (7, .top), (9, .top), (10, .top), (11, .top), (21, .top), (22, .top), (23, .top), (24, .top), (25, .top), (26, .top), (27, .top), (28, .top), (29, .top), (30, .top), (31, .top), (32, .top), (33, .top), (34, .top), (35, .top), (36, .top), (37, .top), (38, .top), (39, .top), (40, .top), (41, .top), (42, .top), (43, .top), (44, .top), (45, .top), (46, .top), (47, .top), (48, .top), (49, .top), (50, .top), (51, .top), (52, .top), (53, .top), (54, .top), (55, .top), (56, .top), (57, .top), (58, .top)]) (fun m i => [some (.box 27 (plC p)), some (.row 41 2 (PRE i).length), none, none]) (fun i => out) (fun i => i ≤ p.rts.length) (fun i => p.rts.length - i) 0 (Nat.zero_le _) ?_ fun m i hm hi => ?_
    · refine le_of_all ?_ ?_ (by first | rfl | (simp only [plC, hP0, List.map_nil, List.length_map, List.length_nil]; rfl) | simp only [plC, hP0, List.map_nil, List.length_map, List.length_nil]) rfl rfl rfl <;> simp only [patch, sl, plC, hP0, List.map_nil, List.length_map, List.length_nil]
    simp only [patch, s_0, s_s]
    have hw := addw (n := i) 1 1 rfl (by omega)
    by_cases hlt : i < p.rts.length
    · have gi := getD_map rtC p.rts i [] hlt
      have hlt1 : i + 1 ≤ p.rts.length := hlt
      have hPi := hPl i (by omega)
      have hPx : (PRE i).length ≤ 1600 := Nat.le_trans hPi (Nat.le_trans (Nat.mul_le_mul (show i ≤ 40 by omega) hrl) (by decide))
      obtain ⟨L, hL⟩ : ∃ L, L = p.rts.drop (i + 1) := ⟨_, rfl⟩
      have hLl : L.length = p.rts.length - (i + 1) := by rw [hL, List.length_drop]
      have hdr : ((p.rts.map rtC).drop (i + 1)).take (p.rts.length - (i + 1)) = L.map rtC := by
        rw [← List.map_drop, ← hL, List.take_of_length_le (by rw [List.length_map]; omega)]
      have hPn := hPs i hlt
      rw [← hL] at hPn
      obtain ⟨X, hX⟩ : ∃ X : Nat → List (Int × Int), X = fun k => PRE i ++ tabIn p p.rts[i] (L.take k) := ⟨_, rfl⟩
      have hX0 : X 0 = PRE i := by rw [hX]; simp [tabIn_nil]
      have hXn : X L.length = PRE (i + 1) := by rw [hX, hPn]; simp
      have hXs : ∀ k (h : k < L.length), X (k + 1) = X k ++ if (twoE p p.rts[i].id L[k].id == 0 && twoB p p.rts[i].id L[k].id) = true then [(p.rts[i].id, L[k].id)] else [] := fun k h => by
        rw [hX]; simp only [tabIn_succ p p.rts[i] L k h, List.append_assoc]
      have hXl : ∀ k, (X k).length ≤ 2000 := fun k => by
        rw [hX]
        have := tabIn_len p p.rts[i] (L.take k)
        rw [List.length_take] at this
        simp only [List.length_append]; omega
      clear hX hPs hPl hPi
      have hlti := hlt
      repeat' (first | (with_reducible first | refine Vk fun K hK => ?_ | refine V0 ?_ | refine Vb ?_ | refine Vc ?_ | refine Vr ?_ | refine Vs ?_ | apply And.intro) | ((with_reducible first | refine gE ?_ | refine gR ?_); simp (maxSteps:=9^7) only [ss, evLit, tab, reduceCtorEq, reduceIte, Nat.reduceEqDiff, Nat.reduceBEq, Int.reduceLE, Int.reduceToNat, Nat.reduceAdd, Nat.reduceLT, Nat.reduceLeDiff, locM hm, plC, rtC, List.length_map, hlt, hlt1, gi, splice_all, hw, loOf, hiOf, hdr]) | exact Vn | ((with_reducible refine Vz ?_); refine Vp rfl rfl rfl (fun _ _ => rfl) ?_ ?_ <;> first | rfl | skip) | ((with_reducible refine Vg (fun hg => ?_) (fun hg => ?_)) <;> (try simp only [nb] at hg) <;> simp (maxSteps:=9^7) only [ss, evLit, tab, reduceCtorEq, reduceIte, Nat.reduceEqDiff, Nat.reduceBEq, Int.reduceLE, Int.reduceToNat, Nat.reduceAdd, Nat.reduceLT, Nat.reduceLeDiff, hg, locM hm, plC, rtC, List.length_map, hlt, hlt1, gi, splice_all, hw, loOf, hiOf, hdr]) | ((with_reducible refine Vx ?_); simp only [sb, reduceIte, Nat.reduceEqDiff]) | (refine hK _ ?_; clear hK K) | refine Vt rfl ?_ | refine Vf rfl ?_ | refine Vi rfl (fun hg => ?_) (fun hg => ?_) | clear hK K)
      refine awp_block ?_
      refine awp_for_mv (fun m (k : Nat) => [(31, i64 (k : Int)), (1, .ptr (m + 0) 0), (7, .ptr (m + 2) 0), (5, .sl 2 ((X k).map jnC) (.own (m + 1))), (9, .top), (10, .top), (11, .top), (32, .top), (33, .top), (34, .top), (35, .top), (36, .top), (37, .top), (38, .top), (39, .top), (40, .top), (41, .top), (42, .top), (43, .top), (44, .top), (45, .top), (46, .top), (47, .top), (48, .top), (49, .top), (50, .top), (51, .top), (52, .top), (53, .top), (54, .top), (55, .top), (56, .top), (57, .top)]) (fun m k => [some (.box 27 (plC p)), some (.row 41 2 (X k).length), some (.box 46 (rtC p.rts[i])), none]) (fun k => out) (fun k => k ≤ L.length) (fun k => L.length - k) 0 (Nat.zero_le _) ?_ fun m k hm hk => ?_
      · refine le_of_all ?_ ?_ (by first | rfl | (simp only [plC, rtC, hX0, List.length_map]; rfl) | simp only [plC, rtC, hX0, List.length_map]) rfl rfl rfl <;> simp only [patch, sl, plC, rtC, hX0, List.length_map]
      simp only [patch, s_0, s_s]
      have hw2 := addw (n := k) 1 1 rfl (by omega)
      by_cases hlt : k < L.length
      · have gk := getD_map rtC L k [] hlt
        have cT := c2 p.rts[i].id L[k].id
        have hXk := hXs k hlt
        have hXb := hXl k
        have y1 : ((X k).length + 1) * 16 ≤ 140737488355328 := by omega
        have y2 : (X k).length ≤ 9223372036854775806 := by omega
        have lit : ∀ (σ : AState) (K : AV → List (Nat × Res) → Prop), evLit tab σ K none 35 1 [(0, .agg [i64 p.rts[i].id, i64 L[k].id])] = K (.sl 2 [[i64 p.rts[i].id, i64 L[k].id]] .full) [] := fun σ K => evLit_one (T := tab) (ti := ti35) (te := ti41) rfl rfl rfl (by decide) (by decide) rfl rfl
        generalize twoE p p.rts[i].id L[k].id = TE at *
        generalize twoB p p.rts[i].id L[k].id = TB at *
        clear c2 hXs hXl
        simp only [plA, plC] at cT
        cases b1 : (TE == 0) with
        | true =>
          cases TB with
          | true =>
            rw [b1, Bool.and_self, if_pos rfl] at hXk
            repeat' (first | (with_reducible first | refine Vk fun K hK => ?_ | refine V0 ?_ | refine Vb ?_ | refine Vc ?_ | refine Vr ?_ | refine Vs ?_ | apply And.intro) | ((with_reducible first | refine gE ?_ | refine gR ?_); simp (maxSteps:=9^7) only [ss, tab, reduceCtorEq, reduceIte, Nat.reduceEqDiff, Nat.reduceBEq, Int.reduceLE, Int.reduceToNat, Nat.reduceAdd, Nat.reduceLT, Nat.reduceLeDiff, lit, af_ii, locM hm, plC, rtC, List.length_map, hlt, gk, splice_all, hw2, b1, y1, y2]) | exact Vn | ((with_reducible refine Vz ?_); refine Vp rfl rfl rfl (fun _ _ => rfl) ?_ ?_ <;> first | rfl | skip) | (refine call_pure (cT) ?_) | ((with_reducible refine Vg (fun hg => ?_) (fun hg => ?_)) <;> (try simp only [nb] at hg) <;> simp (maxSteps:=9^7) only [ss, tab, reduceCtorEq, reduceIte, Nat.reduceEqDiff, Nat.reduceBEq, Int.reduceLE, Int.reduceToNat, Nat.reduceAdd, Nat.reduceLT, Nat.reduceLeDiff, hg, lit, af_ii, locM hm, plC, rtC, List.length_map, hlt, gk, splice_all, hw2, b1, y1, y2]) | ((with_reducible refine Vx ?_); simp only [sb, reduceIte, Nat.reduceEqDiff]) | (refine hK _ ?_; clear hK K) | refine Vt rfl ?_ | refine Vf rfl ?_ | refine Vi rfl (fun hg => ?_) (fun hg => ?_) | clear hK K)
            refine ⟨k + 1, by omega, by omega, ?_⟩
            rw [hXk, List.map_append, List.length_append]
            refine le_move [true, true, true, false] (fun n_ => ?_) (fun n_ => ?_) <;> simp only [patch, sm, plC, rtC, hlt, decide_true, jnC, List.map_cons, List.map_nil, List.length_cons, List.length_nil, Nat.zero_add]
          | false =>
            rw [Bool.and_false, if_neg (by decide), List.append_nil] at hXk
            repeat' (first | (with_reducible first | refine Vk fun K hK => ?_ | refine V0 ?_ | refine Vb ?_ | refine Vc ?_ | refine Vr ?_ | refine Vs ?_ | apply And.intro) | ((with_reducible first | refine gE ?_ | refine gR ?_); simp (maxSteps:=9^7) only [ss, tab, reduceCtorEq, reduceIte, Nat.reduceEqDiff, Nat.reduceBEq, Int.reduceLE, Int.reduceToNat, Nat.reduceAdd, Nat.reduceLT, Nat.reduceLeDiff, lit, locM hm, plC, rtC, List.length_map, hlt, gk, splice_all, hw2, b1]) | exact Vn | ((with_reducible refine Vz ?_); refine Vp rfl rfl rfl (fun _ _ => rfl) ?_ ?_ <;> first | rfl | skip) | (refine call_pure (cT) ?_) | ((with_reducible refine Vg (fun hg => ?_) (fun hg => ?_)) <;> (try simp only [nb] at hg) <;> simp (maxSteps:=9^7) only [ss, tab, reduceCtorEq, reduceIte, Nat.reduceEqDiff, Nat.reduceBEq, Int.reduceLE, Int.reduceToNat, Nat.reduceAdd, Nat.reduceLT, Nat.reduceLeDiff, hg, lit, locM hm, plC, rtC, List.length_map, hlt, gk, splice_all, hw2, b1]) | ((with_reducible refine Vx ?_); simp only [sb, reduceIte, Nat.reduceEqDiff]) | (refine hK _ ?_; clear hK K) | refine Vt rfl ?_ | refine Vf rfl ?_ | refine Vi rfl (fun hg => ?_) (fun hg => ?_) | clear hK K)
            refine ⟨k + 1, by omega, by omega, ?_⟩
            rw [hXk]
            refine le_move [true, true, true, false] (fun n_ => ?_) (fun n_ => ?_) <;> simp only [patch, sm, plC, rtC, hlt, decide_true]
        | false =>
          rw [b1, Bool.false_and, if_neg (by decide), List.append_nil] at hXk
          repeat' (first | (with_reducible first | refine Vk fun K hK => ?_ | refine V0 ?_ | refine Vb ?_ | refine Vc ?_ | refine Vr ?_ | refine Vs ?_ | apply And.intro) | ((with_reducible first | refine gE ?_ | refine gR ?_); simp (maxSteps:=9^7) only [ss, tab, reduceCtorEq, reduceIte, Nat.reduceEqDiff, Nat.reduceBEq, Int.reduceLE, Int.reduceToNat, Nat.reduceAdd, Nat.reduceLT, Nat.reduceLeDiff, lit, locM hm, plC, rtC, List.length_map, hlt, gk, splice_all, hw2, b1]) | exact Vn | ((with_reducible refine Vz ?_); refine Vp rfl rfl rfl (fun _ _ => rfl) ?_ ?_ <;> first | rfl | skip) | (refine call_pure (cT) ?_) | ((with_reducible refine Vg (fun hg => ?_) (fun hg => ?_)) <;> (try simp only [nb] at hg) <;> simp (maxSteps:=9^7) only [ss, tab, reduceCtorEq, reduceIte, Nat.reduceEqDiff, Nat.reduceBEq, Int.reduceLE, Int.reduceToNat, Nat.reduceAdd, Nat.reduceLT, Nat.reduceLeDiff, hg, lit, locM hm, plC, rtC, List.length_map, hlt, gk, splice_all, hw2, b1]) | ((with_reducible refine Vx ?_); simp only [sb, reduceIte, Nat.reduceEqDiff]) | (refine hK _ ?_; clear hK K) | refine Vt rfl ?_ | refine Vf rfl ?_ | refine Vi rfl (fun hg => ?_) (fun hg => ?_) | clear hK K)
          refine ⟨k + 1, by omega, by omega, ?_⟩
          rw [hXk]
          refine le_move [true, true, true, false] (fun n_ => ?_) (fun n_ => ?_) <;> simp only [patch, sm, plC, rtC, hlt, decide_true]
      · obtain rfl : k = L.length := by omega
        rw [hXn]
        repeat' (first | (with_reducible first | refine Vk fun K hK => ?_ | refine V0 ?_ | refine Vb ?_ | refine Vc ?_ | refine Vr ?_ | refine Vs ?_ | apply And.intro) | ((with_reducible first | refine gE ?_ | refine gR ?_); simp (maxSteps:=9^7) only [ss, evLit, tab, reduceCtorEq, reduceIte, Nat.reduceEqDiff, Nat.reduceBEq, Int.reduceLE, Int.reduceToNat, Nat.reduceAdd, Nat.reduceLT, Nat.reduceLeDiff, locM hm, List.length_map, hlt, hw]) | exact Vn | ((with_reducible refine Vz ?_); refine Vp rfl rfl rfl (fun _ _ => rfl) ?_ ?_ <;> first | rfl | skip) | ((with_reducible refine Vg (fun hg => ?_) (fun hg => ?_)) <;> (try simp only [nb] at hg) <;> simp (maxSteps:=9^7) only [ss, evLit, tab, reduceCtorEq, reduceIte, Nat.reduceEqDiff, Nat.reduceBEq, Int.reduceLE, Int.reduceToNat, Nat.reduceAdd, Nat.reduceLT, Nat.reduceLeDiff, hg, locM hm, List.length_map, hlt, hw]) | ((with_reducible refine Vx ?_); simp only [sb, reduceIte, Nat.reduceEqDiff]) | (refine hK _ ?_; clear hK K) | refine Vt rfl ?_ | refine Vf rfl ?_ | refine Vi rfl (fun hg => ?_) (fun hg => ?_) | clear hK K)
        refine ⟨i + 1, by omega, by omega, ?_⟩
        refine le_move [true, true, false, false] (fun n_ => ?_) (fun n_ => ?_) <;> simp only [patch, sm, plC, hlti, decide_true]
    · obtain rfl : i = p.rts.length := by omega
      rw [← hTL]
      repeat' (first | (with_reducible first | refine Vk fun K hK => ?_ | refine V0 ?_ | refine Vb ?_ | refine Vc ?_ | refine Vr ?_ | refine Vs ?_ | apply And.intro) | ((with_reducible first | refine gE ?_ | refine gR ?_); simp (maxSteps:=9^7) only [ss, evLit, tab, reduceCtorEq, reduceIte, Nat.reduceEqDiff, Nat.reduceBEq, Int.reduceLE, Int.reduceToNat, Nat.reduceAdd, Nat.reduceLT, Nat.reduceLeDiff, locM hm, List.length_map, hlt]) | exact Vn | ((with_reducible refine Vz ?_); refine ret_tmps_le (.inr rfl) rfl rfl rfl (fun _ _ => rfl) rfl rfl ?_ ?_ <;> first | rfl | (exact AV.le.rfl _) | (simp only [patch, sl, locM hm, List.length_map, hlt]; done) | rfl | skip) | ((with_reducible refine Vg (fun hg => ?_) (fun hg => ?_)) <;> (try simp only [nb] at hg) <;> simp (maxSteps:=9^7) only [ss, evLit, tab, reduceCtorEq, reduceIte, Nat.reduceEqDiff, Nat.reduceBEq, Int.reduceLE, Int.reduceToNat, Nat.reduceAdd, Nat.reduceLT, Nat.reduceLeDiff, hg, locM hm, List.length_map, hlt]) | ((with_reducible refine Vx ?_); simp only [sb, reduceIte, Nat.reduceEqDiff]) | (refine hK _ ?_; clear hK K) | refine Vt rfl ?_ | refine Vf rfl ?_ | refine Vi rfl (fun hg => ?_) (fun hg => ?_) | clear hK K)
  · have e1 : tabL p = [] := by unfold tabL; rw [if_neg hE]
    have hE' : (soundE p != 0) = true := by simpa using hE
    rw [e1]
    refine acall_of 4 Tryz.func8 rfl fun n out _ _ => ?_
    simp only [Tryz.ntmps8, List.length_cons, List.length_nil, List.length_map, List.length_replicate, rep_map, Nat.reduceAdd, Nat.reduceSub, List.replicate, List.cons_append, List.nil_append]
    repeat' (first | (with_reducible first | refine Vk fun K hK => ?_ | refine V0 ?_ | refine Vb ?_ | refine Vc ?_ | refine Vr ?_ | refine Vs ?_ | apply And.intro) | ((with_reducible first | refine gE ?_ | refine gR ?_); simp (maxSteps:=9^7) only [ss, evLit, tab, reduceCtorEq, reduceIte, Nat.reduceEqDiff, Nat.reduceBEq, Int.reduceLE, Int.reduceToNat, Nat.reduceAdd, Nat.reduceLT, Nat.reduceLeDiff, plA, plC, hE', List.map_nil]) | exact Vn | ((with_reducible refine Vz ?_); refine ret_tmps_le (.inr rfl) rfl rfl rfl (fun _ _ => rfl) rfl rfl ?_ ?_ <;> first | rfl | (exact AV.le.rfl _) | (simp only [patch, sl, plA, plC, hE', List.map_nil]; done) | rfl | skip) | (refine call_pure (c1) ?_) | ((with_reducible refine Vg (fun hg => ?_) (fun hg => ?_)) <;> (try simp only [nb] at hg) <;> simp (maxSteps:=9^7) only [ss, evLit, tab, reduceCtorEq, reduceIte, Nat.reduceEqDiff, Nat.reduceBEq, Int.reduceLE, Int.reduceToNat, Nat.reduceAdd, Nat.reduceLT, Nat.reduceLeDiff, hg, plA, plC, hE', List.map_nil]) | ((with_reducible refine Vx ?_); simp only [sb, reduceIte, Nat.reduceEqDiff]) | (refine hK _ ?_; clear hK K) | refine Vt rfl ?_ | refine Vf rfl ?_ | refine Vi rfl (fun hg => ?_) (fun hg => ?_) | clear hK K)
end Go.Proofs.YtcfkieacdjcaoaaGreat.Pln
end
section
namespace Go.Proofs.YtcfkieacdjcaoaaGreat.Pln
set_option linter.unusedVariables false
set_option linter.unusedSimpArgs false
open Go Go.VS Tab
set_option maxHeartbeats 4000000
theorem rts_rise {p : Pl} (h : mayP p = true) : ∀ i (hi : i < p.rts.length) j (hj : j < i), (p.rts[j]'(by omega)).id < p.rts[i].id := by
  obtain ⟨_, _, _, _, h5, _, _⟩ := may_parts h
  intro i hi j hj
  have := allP_iff.1 h5 i (by simpa using hi)
  simp only [rises, Bool.and_eq_true, List.all_eq_true, decide_eq_true_eq, List.getElem_map] at this
  refine this.2 _ ?_
  have hj' : j < (p.rts.map Rt.id).length := by simp; omega
  have := mem_take_of (l := p.rts.map Rt.id) hj hj'
  simpa using this
theorem getR_of {p : Pl} (h : mayP p = true) {r : Rt} (hr : r ∈ p.rts) : getR p.rts r.id = some r := by
  obtain ⟨i, hi, rfl⟩ := List.getElem_of_mem hr
  unfold getR
  refine find_first (f := fun x => x.id == p.rts[i].id) hi (by simp) fun j hj hji => ?_
  have := rts_rise h i hi j hji
  simp; omega
theorem sound_zero {p : Pl} (h : soundE p = 0) : mayP p = true ∧ ∀ r, r ∈ p.rts → folE p r = 0 ∧ soundR p r = true := by
  unfold soundE at h
  by_cases hc : allE p = 0 ∧ p.rts.all (soundR p) = true
  · obtain ⟨h1, h2⟩ := allE_zero hc.1
    exact ⟨h1, fun r hr => ⟨h2 r hr, List.all_eq_true.1 hc.2 r hr⟩⟩
  · rw [if_neg hc] at h; exact absurd h (by decide)
end Go.Proofs.YtcfkieacdjcaoaaGreat.Pln
end
section
namespace Go.Proofs.YtcfkieacdjcaoaaGreat.Pln
set_option linter.unusedVariables false
set_option linter.unusedSimpArgs false
open Go Go.VS Tab
set_option maxHeartbeats 8000000
set_option maxRecDepth 4000
def tabX (p : Pl) (i k : Nat) : List (Int × Int) := tabPre p i ++ tabIn p (p.rts.getD i noRt) ((p.rts.drop (i + 1)).take k)
theorem tabX_zero (p : Pl) (i : Nat) : tabX p i 0 = tabPre p i := by unfold tabX; simp [tabIn_nil]
theorem getD_rt {p : Pl} {i : Nat} (h : i < p.rts.length) : p.rts.getD i noRt = p.rts[i] := by simp [List.getD_eq_getElem?_getD, h]
theorem tabX_end {p : Pl} {i : Nat} (h : i < p.rts.length) : tabX p i (p.rts.length - (i + 1)) = tabPre p (i + 1) := by
  rw [tabPre_succ p i h]
  unfold tabX
  rw [getD_rt h, List.take_of_length_le (by rw [List.length_drop]; exact Nat.le_refl _)]
theorem tabX_succ {p : Pl} {i k : Nat} (h : i < p.rts.length) (hk : i + 1 + k < p.rts.length) : tabX p i (k + 1) = tabX p i k ++ if (twoE p p.rts[i].id p.rts[i + 1 + k].id == 0 && twoB p p.rts[i].id p.rts[i + 1 + k].id) = true then [(p.rts[i].id, p.rts[i + 1 + k].id)] else [] := by
  unfold tabX
  rw [getD_rt h, tabIn_succ p p.rts[i] (p.rts.drop (i + 1)) k (by rw [List.length_drop]; omega), List.append_assoc]
  simp only [List.getElem_drop]
end Go.Proofs.YtcfkieacdjcaoaaGreat.Pln
end
