/-
 A plan's text.
-/
import Derived.Test.YtgdhnngpfieloaaGreatZGA
import Derived.Test.YtgdhnngpfieloaaGreatZKD
import Derived.Test.YtgdhnngpfieloaaGreatZPJ
import Derived.Test.YtgdhnngpfieloaaGreatZW5
namespace Go.Proofs.YtgdhnngpfieloaaGreat.Pln
set_option linter.unusedVariables false
set_option linter.unusedSimpArgs false
open Go Go.VS Tab
set_option maxHeartbeats 8000000
set_option maxRecDepth 4000
theorem Lc {P : Program} {f : FuncId} {args : List AV} {r : Nat → AV} {r' : AV} {q : Nat → Res} (h : ∀ k, Xr P f args [(k, none)] (r k) [(k, q k)]) (hr : ∀ k, AV.le (r k) r') : Xr P f args [] r' [] := fun M N vs hI hR hn hN hu => by
 obtain ⟨K, hK⟩ := hI.fin
 refine (h (max N K) M (max N K + 1) vs hI hR ⟨hK _ (by omega), trivial⟩ (fun k hk => hN k (by omega)) ⟨by omega, trivial⟩).mono fun e w' ⟨v, he, M', h1, h2, h3, h4, h5⟩ => ⟨v, he, M', h1, h2, h3, fun k hk => ?_, h5.le (hr _)⟩
 rw [h4 k (by omega)]
 simp only [upd, Xw]
 rw [if_neg (by omega)]
theorem Pj (k : Nat) (p : Pl) (hs : Sm p) (hb : (Wg p).length ≤ 1000000) : Xr Tryz.prog 22 [plA p] [(k, none)] (.sl 1 (Xo (Wg p)) (.own k)) [(k, .row 5 1 (Wg p).length)] := by
 unfold Wg at hb ⊢
 rw [List.length_append, List.length_append, List.length_append, List.length_append, List.length_append] at hb
 have q1 := hs.secs
 have q2 := hs.pts
 have q3 := hs.sgs
 have q4 := hs.rts
 have hB2 : Xd Tryz.prog 62 = True := hb0 _ (by decide) (by decide)
 have hB3 : Xd Tryz.prog 64 = True := hb0 _ (by decide) (by decide)
 have hB4 : Xd Tryz.prog 66 = True := hb0 _ (by decide) (by decide)
 have hB5 : Xd Tryz.prog 68 = True := hb0 _ (by decide) (by decide)
 obtain ⟨C1, h1⟩ : ∃ C, C = [] ++ (Y2 p.ver ++ Y2 p.par) := ⟨_, rfl⟩
 obtain ⟨C2, h2⟩ : ∃ C, C = C1 ++ Zz D4 p.secs := ⟨_, rfl⟩
 obtain ⟨C3, h3⟩ : ∃ C, C = C2 ++ Zz Ug p.pts := ⟨_, rfl⟩
 obtain ⟨C4, h4⟩ : ∃ C, C = C3 ++ Zz Ee p.sgs := ⟨_, rfl⟩
 have k1 : C1.length = (Y2 p.ver).length + (Y2 p.par).length := by rw [h1]; simp [List.length_append]
 have k2 : C2.length = C1.length + (Zz D4 p.secs).length := by rw [h2, List.length_append]
 have k3 : C3.length = C2.length + (Zz Ug p.pts).length := by rw [h3, List.length_append]
 have k4 : C4.length = C3.length + (Zz Ee p.sgs).length := by rw [h4, List.length_append]
 have e : Y2 p.ver ++ (Y2 p.par ++ (Zz D4 p.secs ++ (Zz Ug p.pts ++ (Zz Ee p.sgs ++ Zz Ef p.rts)))) = C4 ++ Zz Ef p.rts := by rw [h4, h3, h2, h1]; simp [List.append_assoc]
 have c1 := fun n : Nat => Mq (n + 1) (n + 3) (by omega) [] p.ver p.par (by simp only [List.length_append, List.length_nil]; omega)
 have c2 := fun n : Nat => Ae (n + 1) (n + 3) (by omega) 62 [.ptr (n + 1) 0] hB2 p.secs D4 C1 (by omega) (by omega) fun x hx B hB => X5m (n + 1) (n + 3) (by omega) x B hB (by have := hs.ends x hx; omega)
 have c3 := fun n : Nat => Af (n + 1) (n + 3) (by omega) 64 [.ptr (n + 1) 0] hB3 p.pts Ug C2 (by omega) (by omega) fun x _ B hB => X5j (n + 1) (n + 3) (by omega) x B hB
 have c4 := fun n : Nat => Ag (n + 1) (n + 3) (by omega) 66 [.ptr (n + 1) 0] hB4 p.sgs Ee C3 (by omega) (by omega) fun x _ B hB => X5l (n + 1) (n + 3) (by omega) x B hB
 have c5 := fun n : Nat => Ai (n + 1) (n + 3) (n + 2) (by omega) (by omega) (by omega) (.box 109 [.fn (.func 59) [.ptr (n + 1) 0]]) (by simp) 68 [.ptr (n + 1) 0, .ptr (n + 2) 0] hB5 p.rts Ef C4 (by omega) (by omega) fun x hx B hB => X5n (n + 1) (n + 3) (n + 2) (by omega) (by omega) (by omega) x B hB (by have := hs.rt x hx; omega) (by have := hs.rt x hx; omega) (by have := hs.rt x hx; omega)
 rw [← h1] at c1
 rw [← h2] at c2
 rw [← h3] at c3
 rw [← h4] at c4
 rw [e]
 clear h1 h2 h3 h4 k1 k2 k3 k4 hb e hB2 hB3 hB4 hB5
 refine Xc 4 Tryz.func22 rfl fun n out _ _ => ?_
 simp only [Tryz.ntmps22, List.length_cons, List.length_nil, List.length_map, List.length_replicate, Xf, Nat.reduceAdd, Nat.reduceSub, List.replicate, List.cons_append, List.nil_append]
 rename_i hneeds hgv
 obtain ⟨hk, _⟩ := hneeds
 obtain ⟨hkn, _⟩ := hgv
 refine X9 fun K hK => Xn Xj [] ?_
 simp (maxSteps:=9^7) only [ss, X1, tab, simprocAttr, -List.reduceReplicate, plA, plC]
 (refine hK _ ?_; clear hK K)
 refine X9 fun K hK => Xn Xj [] ?_
 simp (maxSteps:=9^7) only [ss, X1, tab, simprocAttr, -List.reduceReplicate]
 (refine hK _ ?_; clear hK K)
 refine X9 fun K hK => Xn Xj [] ?_
 simp (maxSteps:=9^7) only [ss, X1, tab, simprocAttr, -List.reduceReplicate]
 (refine hK _ ?_; clear hK K)
 refine Yy (Q9 (i := 3) 5 1 rfl) ?_
 simp only [s_0, s_s]
 refine Lb [] [some (.box 28 [i64 p.ver, i64 p.par, .sl 3 (p.secs.map Y6) .sh, .sl 2 (p.pts.map jnC) .sh, .sl 3 (p.sgs.map sgC) .sh, .sl 7 (p.rts.map rtC) .sh]), some (.box 65 [.sl 1 [] (.own (n + 3))]), some (.box 109 [.fn (.func 59) [.ptr (n + 1) 0]]), some (.row 5 1 0)] ?_ ?_
 ·refine X2 ?_ ?_ rfl rfl rfl rfl <;> simp only [X4, sl]
 simp only [X4, s_0, s_s]
 repeat' (first | (with_reducible first | refine Vk fun K hK => ?_ | refine V0 ?_) | ((with_reducible first | refine gE ?_ | refine gR ?_); simp (maxSteps:=9^7) only [ss, tab, simprocAttr, -List.reduceReplicate, B6, X0, W0 (Nat.le_refl n)]) | (refine Xk (c1 n) (X6 _ (Nat.le_refl _) 1) (X6 _ (Nat.le_refl _) 3) (Xb _ (by simp)) (Xb _ (by simp)) (by simp) (by simp) ?_) | (refine Xk (c2 n) (X6 _ (Nat.le_refl _) 1) (X6 _ (Nat.le_refl _) 3) (Xb _ (by simp)) (Xb _ (by simp)) (by simp) (by simp) ?_) | (refine Xk (c3 n) (X6 _ (Nat.le_refl _) 1) (X6 _ (Nat.le_refl _) 3) (Xb _ (by simp)) (Xb _ (by simp)) (by simp) (by simp) ?_) | (refine Xk (c4 n) (X6 _ (Nat.le_refl _) 1) (X6 _ (Nat.le_refl _) 3) (Xb _ (by simp)) (Xb _ (by simp)) (by simp) (by simp) ?_) | (refine Gu (c5 n) (X6 _ (Nat.le_refl _) 1) (X6 _ (Nat.le_refl _) 3) (X6 _ (Nat.le_refl _) 2) (Xb _ (by simp)) (Xb _ (by simp)) (Xb _ (by simp)) (by simp) (by simp) (by simp) ?_) | (refine hK _ ?_; clear hK K))
 refine Yy (Ja (i := 3) (k := k) rfl (by exact hkn) (by exact hk)) ?_
 simp only [List.map_cons, List.map_nil, Option.map_some, Option.map_none, Res.ren1, AV.ren1, Nat.add_left_cancel_iff, Nat.reduceEqDiff, Nat.one_ne_zero, reduceIte, Wy, s_0, s_s]
 refine Yd ?_
 exact Qv (.inr rfl) rfl rfl rfl (fun _ _ => rfl) rfl
theorem G5 (p : Pl) (hs : Sm p) (hb : (Wg p).length ≤ 1000000) : Xr Tryz.prog 22 [plA p] [] (.sl 1 (Xo (Wg p)) .sh) [] :=
 Lc (fun k => Pj k p hs hb) fun k => .sh _ _ _
end Go.Proofs.YtgdhnngpfieloaaGreat.Pln
