/-
  A plan's text.
-/
import Derived.Test.YtgdhnngpfieloaaZGA
import Derived.Test.YtgdhnngpfieloaaZKD
import Derived.Test.YtgdhnngpfieloaaZPJ
import Derived.Test.YtgdhnngpfieloaaZW5
namespace Go.Proofs.Ytgdhnngpfieloaa.Pln
set_option linter.unusedVariables false
set_option linter.unusedSimpArgs false
open Go Go.VS Tab
set_option maxHeartbeats 8000000
set_option maxRecDepth 4000
theorem acall_drop {P : Program} {f : FuncId} {args : List AV} {r : Nat → AV} {r' : AV} {q : Nat → Res} (h : ∀ k, ACall P f args [(k, none)] (r k) [(k, q k)]) (hr : ∀ k, AV.le (r k) r') : ACall P f args [] r' [] := fun M N vs hI hR hn hN hu => by
  obtain ⟨K, hK⟩ := hI.fin
  refine (h (max N K) M (max N K + 1) vs hI hR ⟨hK _ (by omega), trivial⟩ (fun k hk => hN k (by omega)) ⟨by omega, trivial⟩).mono fun e w' ⟨v, he, M', h1, h2, h3, h4, h5⟩ => ⟨v, he, M', h1, h2, h3, fun k hk => ?_, h5.le (hr _)⟩
  rw [h4 k (by omega)]
  simp only [upd, upd1]
  rw [if_neg (by omega)]
theorem c_writtenK (k : Nat) (p : Pl) (hs : Sm p) (hb : (encP p).length ≤ 1000000) : ACall Try.prog 24 [plA p] [(k, none)] (.sl 1 (bytesAV (encP p)) (.own k)) [(k, .row 5 1 (encP p).length)] := by
  unfold encP at hb ⊢
  rw [List.length_append, List.length_append, List.length_append, List.length_append, List.length_append] at hb
  have q1 := hs.secs
  have q2 := hs.pts
  have q3 := hs.sgs
  have q4 := hs.rts
  have hB2 : hasBody Try.prog 59 = True := hb0 _ (by decide) (by decide)
  have hB3 : hasBody Try.prog 61 = True := hb0 _ (by decide) (by decide)
  have hB4 : hasBody Try.prog 63 = True := hb0 _ (by decide) (by decide)
  have hB5 : hasBody Try.prog 65 = True := hb0 _ (by decide) (by decide)
  obtain ⟨C1, h1⟩ : ∃ C, C = [] ++ (putZ p.ver ++ putZ p.par) := ⟨_, rfl⟩
  obtain ⟨C2, h2⟩ : ∃ C, C = C1 ++ encL encS p.secs := ⟨_, rfl⟩
  obtain ⟨C3, h3⟩ : ∃ C, C = C2 ++ encL encJ p.pts := ⟨_, rfl⟩
  obtain ⟨C4, h4⟩ : ∃ C, C = C3 ++ encL encG p.sgs := ⟨_, rfl⟩
  have k1 : C1.length = (putZ p.ver).length + (putZ p.par).length := by rw [h1]; simp [List.length_append]
  have k2 : C2.length = C1.length + (encL encS p.secs).length := by rw [h2, List.length_append]
  have k3 : C3.length = C2.length + (encL encJ p.pts).length := by rw [h3, List.length_append]
  have k4 : C4.length = C3.length + (encL encG p.sgs).length := by rw [h4, List.length_append]
  have e : putZ p.ver ++ (putZ p.par ++ (encL encS p.secs ++ (encL encJ p.pts ++ (encL encG p.sgs ++ encL encR p.rts)))) = C4 ++ encL encR p.rts := by rw [h4, h3, h2, h1]; simp [List.append_assoc]
  have c1 := fun n : Nat => c_tput2 (n + 1) (n + 3) (by omega) [] p.ver p.par (by simp only [List.length_append, List.length_nil]; omega)
  have c2 := fun n : Nat => c_list_s (n + 1) (n + 3) (by omega) 59 [.ptr (n + 1) 0] hB2 p.secs encS C1 (by omega) (by omega) fun x hx B hB => c_putS (n + 1) (n + 3) (by omega) x B hB (by have := hs.ends x hx; omega)
  have c3 := fun n : Nat => c_list_p (n + 1) (n + 3) (by omega) 61 [.ptr (n + 1) 0] hB3 p.pts encJ C2 (by omega) (by omega) fun x _ B hB => c_putP (n + 1) (n + 3) (by omega) x B hB
  have c4 := fun n : Nat => c_list_g (n + 1) (n + 3) (by omega) 63 [.ptr (n + 1) 0] hB4 p.sgs encG C3 (by omega) (by omega) fun x _ B hB => c_putG (n + 1) (n + 3) (by omega) x B hB
  have c5 := fun n : Nat => c_list_r (n + 1) (n + 3) (n + 2) (by omega) (by omega) (by omega) (.box 109 [.fn (.func 56) [.ptr (n + 1) 0]]) (by simp) 65 [.ptr (n + 1) 0, .ptr (n + 2) 0] hB5 p.rts encR C4 (by omega) (by omega) fun x hx B hB => c_putR (n + 1) (n + 3) (n + 2) (by omega) (by omega) (by omega) x B hB (by have := hs.rt x hx; omega) (by have := hs.rt x hx; omega) (by have := hs.rt x hx; omega)
  rw [← h1] at c1
  rw [← h2] at c2
  rw [← h3] at c3
  rw [← h4] at c4
  rw [e]
  clear h1 h2 h3 h4 k1 k2 k3 k4 hb e hB2 hB3 hB4 hB5
  refine acall_of 4 Try.func24 rfl fun n out _ _ => ?_
  simp only [Try.ntmps24, List.length_cons, List.length_nil, List.length_map, List.length_replicate, rep_map, Nat.reduceAdd, Nat.reduceSub, List.replicate, List.cons_append, List.nil_append]
  rename_i hneeds hgv
  obtain ⟨hk, _⟩ := hneeds
  obtain ⟨hkn, _⟩ := hgv
  refine awp_seq_k fun K hK => awp_ev tab_ok [] ?_
  simp (maxSteps:=9^7) only [ss, evLit, tab, reduceCtorEq, reduceIte, Nat.reduceEqDiff, Nat.reduceBEq, Int.reduceLE, Int.reduceToNat, Nat.reduceAdd, Nat.reduceLT, Nat.reduceLeDiff, plA, plC]
  repeat' (first | (with_reducible refine hK _ ?_; clear hK K) | with_reducible apply And.intro)
  refine awp_seq_k fun K hK => awp_ev tab_ok [] ?_
  simp (maxSteps:=9^7) only [ss, evLit, tab, reduceCtorEq, reduceIte, Nat.reduceEqDiff, Nat.reduceBEq, Int.reduceLE, Int.reduceToNat, Nat.reduceAdd, Nat.reduceLT, Nat.reduceLeDiff]
  repeat' (first | (with_reducible refine hK _ ?_; clear hK K) | with_reducible apply And.intro)
  refine awp_seq_k fun K hK => awp_ev tab_ok [] ?_
  simp (maxSteps:=9^7) only [ss, evLit, tab, reduceCtorEq, reduceIte, Nat.reduceEqDiff, Nat.reduceBEq, Int.reduceLE, Int.reduceToNat, Nat.reduceAdd, Nat.reduceLT, Nat.reduceLeDiff]
  repeat' (first | (with_reducible refine hK _ ?_; clear hK K) | with_reducible apply And.intro)
  refine awp_le (le_row (i := 3) 5 1 rfl) ?_
  simp only [s_0, s_s]
  refine awp_patch [] [some (.box 27 [i64 p.ver, i64 p.par, .sl 3 (p.secs.map secC) .sh, .sl 2 (p.pts.map jnC) .sh, .sl 3 (p.sgs.map sgC) .sh, .sl 7 (p.rts.map rtC) .sh]), some (.box 62 [.sl 1 [] (.own (n + 3))]), some (.box 109 [.fn (.func 56) [.ptr (n + 1) 0]]), some (.row 5 1 0)] ?_ ?_
  · refine le_of_all ?_ ?_ rfl rfl rfl rfl <;> simp only [patch, sl]
  simp only [patch, s_0, s_s]
  repeat' (first | (with_reducible first | refine Vk fun K hK => ?_ | refine V0 ?_ | refine Vs ?_ | apply And.intro) | ((with_reducible first | refine gE ?_ | refine gR ?_); simp (maxSteps:=9^7) only [ss, tab, reduceCtorEq, reduceIte, Nat.reduceEqDiff, Nat.reduceBEq, Int.reduceLE, Int.reduceToNat, Nat.reduceAdd, Nat.reduceLT, Nat.reduceLeDiff, lit2, splice_all, nx_loc (Nat.le_refl n)]) | exact Vn | ((with_reducible refine Vz ?_); refine Vo rfl rfl rfl (fun _ _ => rfl) ?_ <;> first | rfl | skip) | (refine call_two (c1 n) (look_loc _ (Nat.le_refl _) 1) (look_loc _ (Nat.le_refl _) 3) (dom_loc _ (by simp)) (dom_loc _ (by simp)) (by simp) (by simp) ?_) | (refine call_two (c2 n) (look_loc _ (Nat.le_refl _) 1) (look_loc _ (Nat.le_refl _) 3) (dom_loc _ (by simp)) (dom_loc _ (by simp)) (by simp) (by simp) ?_) | (refine call_two (c3 n) (look_loc _ (Nat.le_refl _) 1) (look_loc _ (Nat.le_refl _) 3) (dom_loc _ (by simp)) (dom_loc _ (by simp)) (by simp) (by simp) ?_) | (refine call_two (c4 n) (look_loc _ (Nat.le_refl _) 1) (look_loc _ (Nat.le_refl _) 3) (dom_loc _ (by simp)) (dom_loc _ (by simp)) (by simp) (by simp) ?_) | (refine call_32 (c5 n) (look_loc _ (Nat.le_refl _) 1) (look_loc _ (Nat.le_refl _) 3) (look_loc _ (Nat.le_refl _) 2) (dom_loc _ (by simp)) (dom_loc _ (by simp)) (dom_loc _ (by simp)) (by simp) (by simp) (by simp) ?_) | (refine hK _ ?_; clear hK K) | clear hK K)
  refine awp_le (le_toOut1 (i := 3) (k := k) rfl (by exact hkn) (by exact hk)) ?_
  simp only [List.map_cons, List.map_nil, Option.map_some, Option.map_none, Res.ren1, AV.ren1, Nat.add_left_cancel_iff, Nat.reduceEqDiff, Nat.one_ne_zero, reduceIte, zombie, s_0, s_s]
  refine awp_ret ?_
  exact ret_tmp (.inr rfl) rfl rfl rfl (fun _ _ => rfl) rfl
theorem c_written (p : Pl) (hs : Sm p) (hb : (encP p).length ≤ 1000000) : ACall Try.prog 24 [plA p] [] (.sl 1 (bytesAV (encP p)) .sh) [] :=
  acall_drop (fun k => c_writtenK k p hs hb) fun k => .sh _ _ _
end Go.Proofs.Ytgdhnngpfieloaa.Pln
