/-
 What each call answers of a disk, in boxes, whether it is refused or not.
-/
import Derived.Test.YtjgbbjooeibppaaZGA
import Derived.Test.YtjgbbjooeibppaaZF3
namespace Go.Proofs.Ytjgbbjooeibppaa
set_option linter.unusedVariables false
set_option linter.unusedSimpArgs false
open Go Go.VS Tab
set_option maxHeartbeats 4000000
set_option maxRecDepth 4000
theorem Xnd (k B : Nat) (d : Dsk) (hkK : k < B ∨ B + (Xh9 d).length ≤ k) (hd : Small d) : Xr Try.prog 16 [A2 d] ((k, none) :: Xev B (Xh9 d)) (.agg (Xjr B d)) ((k, .row 76 2 d.waits.length) :: Xhj B (Xh9 d)) :=
 Xld (Xky k B d hkK hd) (by simp only [Xjr, E1, sl])
theorem Xms (B : Nat) (d : Dsk) (at' : Int) (b : List UInt8) (hd : Small d) (hb : b.length ≤ 1000000) : Xr Try.prog 17 [A2 d, i64 at', bs b] (Xev B (Xh9 (Xhr d at' b))) (.tup [.agg (Xjr B (Xhr d at' b)), i64 (Xbb d at' b)]) (Xhj B (Xh9 (Xhr d at' b))) := by
 by_cases hE : Xbb d at' b = 0
 ·have e : Xhr d at' b = Xjh d at' b := by unfold Xhr; rw [if_pos hE]
  rw [e, hE]
  exact Xmp B d at' b hd hE
 ·have e : Xhr d at' b = Xhm := by unfold Xhr; rw [if_neg hE]
  have c := Xdu d at' b hd hb
  rw [e] at c ⊢
  exact c
theorem Xne (B : Nat) (d : Dsk) (h1 : d.sectors.length ≤ 1000) (h2 : d.waits.length ≤ 1000) : Xr Try.prog 18 [A2 d] (Xev B (Xh9 (Xic d))) (.tup [.agg (Xjr B (Xic d)), i64 (if may d then 0 else 8)]) (Xhj B (Xh9 (Xic d))) := by
 by_cases hm : may d = true
 ·have e : Xic d = Xhe Xhc d := by unfold Xic; rw [hm]; rfl
  have cc := Xjg d h1 h2
  rw [hm, if_pos rfl] at cc
  have cm := Xk7 B d 64 [] Xhc hm (hb0 _ (by decide) (by decide)) fun i hi => ⟨Nat.le_refl _, Xk2 _⟩
  rw [e, hm, if_pos rfl]
  simp only [A2, Xha, Xjr] at cc cm
  refine Xc 2 Try.func18 rfl fun n out _ _ => ?_
  simp only [Try.ntmps18, List.length_cons, List.length_nil, List.length_map, List.length_replicate, Xf, Nat.reduceAdd, Nat.reduceSub, List.replicate, List.cons_append, List.nil_append]
  rename_i hkf hkg
  repeat' (first | (with_reducible first | refine Vk fun K hK => ?_ | refine V0 ?_ | refine Vs ?_ | apply And.intro) | ((with_reducible first | refine gE ?_ | refine gR ?_); simp (maxSteps:=9^7) only [ss, X1, tab, simprocAttr, -List.reduceReplicate, A2, Xha, Xg7 hkg, beq_self_eq_true]) | exact Vn | ((with_reducible refine Vz ?_); (first | refine Xp (.inr rfl) rfl rfl rfl (fun _ _ => rfl) ok43 (k := n + 1) (off := 0) rfl (Xb _ (by simp)) (X6 _ (Nat.le_refl _) 1) rfl rfl ?_ | refine Xp (.inr rfl) rfl rfl rfl (fun _ _ => rfl) ok43 (k := m + 1) (off := 0) rfl (Xb _ (by simp)) (X6 _ hm 1) rfl rfl ?_) <;> first | rfl | exact AV.le.rfl _ | (simp only [E1, sl, ti43, List.map_nil, A2, Xha, Xg7 hkg, Int.reduceBEq, beq_self_eq_true]; done) | rfl | skip) | (refine Pl (cc) ?_) | (refine Xg1 cm hkg hkf ?_) | (refine hK _ ?_; clear hK K) | refine Vt rfl ?_ | refine Vf rfl ?_ | refine Vi rfl (fun hg => ?_) (fun hg => ?_) | clear hK K)
  refine Yd ?_
  refine Xp (.inr rfl) rfl rfl rfl (fun j _ => by rw [K3]) ok43 (k := n + 1) (off := 0) rfl (Xb _ (by simp)) (X6 _ (Nat.le_refl _) 1) rfl rfl ?_
  simp only [Xjr, E1, sl]
 ·have e : Xic d = Xhm := by unfold Xic; rw [if_neg hm]
  have c := Xno d h1 h2
  rw [e] at c ⊢
  exact c
theorem Xmt (B : Nat) (d : Dsk) (kp : List Int) (h1 : d.sectors.length ≤ 1000) (h2 : d.waits.length ≤ 1000) (h3 : kp.length ≤ 1000000) :
  Xr Try.prog 19 [A2 d, .sl 1 (kp.map Ym) .sh] (Xev B (Xh9 (Xhq d kp))) (.tup [.agg (Xjr B (Xhq d kp)), i64 (Xhs d kp)]) (Xhj B (Xh9 (Xhq d kp))) := by
 by_cases hE : Xhs d kp = 0
 ·have e : Xhq d kp = Xhe (fun i => (kp.getD i 0).toNat) d := by unfold Xhq; rw [if_pos hE]
  obtain ⟨hm, hl, ha⟩ : may d = true ∧ kp.length = d.waits.length ∧ (kp.all fun x => decide (0 ≤ x) && decide (x < 129)) = true := by
   unfold Xhs at hE
   cases h : may d with
   | false => rw [h] at hE; simp at hE
   | true =>
    rw [h, if_pos rfl] at hE
    by_cases hl : kp.length = d.waits.length
    ·rw [if_pos hl] at hE
     by_cases ha : (kp.all fun x => decide (0 ≤ x) && decide (x < 129)) = true
     ·exact ⟨rfl, hl, ha⟩
     ·rw [if_neg ha] at hE; exact absurd hE (by decide)
    ·rw [if_neg hl] at hE; exact absurd hE (by decide)
  have cc := Xjg d h1 h2
  rw [hm, if_pos rfl] at cc
  have g : ((kp.length : Int) != (d.waits.length : Int)) = false := by simp; omega
  have key : (kp.any fun x => !(decide (0 ≤ x) && decide (x < 129))) = !(kp.all fun x => decide (0 ≤ x) && decide (x < 129)) := by simp [List.any_eq_not_all_not]
  have ck := Xhl Ym i64 kp 66 [] (fun x => !(decide (0 ≤ x) && decide (x < 129))) (hb0 _ (by decide) (by decide)) (by omega) Xj7 fun x _ => Xl3 x
  rw [key, ha] at ck
  have cm := Xk7 B d 67 [.ref [.sl 1 (kp.map Ym) .sh]] (fun i => (kp.getD i 0).toNat) hm (hb0 _ (by decide) (by decide)) fun i hi => by
   have hi' : i < kp.length := by omega
   have hg : kp.getD i 0 = kp[i] := by simp [List.getD_eq_getElem?_getD, hi']
   have h5 := List.all_eq_true.1 ha _ (List.getElem_mem hi')
   simp only [Bool.and_eq_true, decide_eq_true_eq] at h5
   simp only [hg]
   refine ⟨by omega, ?_⟩
   have h6 := Xl4 kp i hi'
   rw [show ((kp[i].toNat : Nat) : Int) = kp[i] by omega]
   exact h6
  rw [e, hE]
  simp only [A2, Xha, Xjr] at cc cm
  refine Xc 3 Try.func19 rfl fun n out _ _ => ?_
  simp only [Try.ntmps19, List.length_cons, List.length_nil, List.length_map, List.length_replicate, Xf, Nat.reduceAdd, Nat.reduceSub, List.replicate, List.cons_append, List.nil_append]
  rename_i hkf hkg
  refine X9 fun K hK => Xn Xj [] ?_
  simp (maxSteps:=9^7) only [ss, X1, tab, simprocAttr, -List.reduceReplicate, A2, Xha]
  repeat' (first | (with_reducible refine hK _ ?_; clear hK K) | with_reducible apply And.intro)
  refine X9 fun KB hKB => ?_
  refine X9 fun K hK => Xn Xj [] ?_
  simp (maxSteps:=9^7) only [ss, X1, tab, simprocAttr, -List.reduceReplicate]
  repeat' (first | (with_reducible refine hK _ ?_; clear hK K) | with_reducible apply And.intro)
  refine Pl cc ?_
  simp (maxSteps:=9^7) only [ss, X1, tab, simprocAttr, -List.reduceReplicate]
  repeat' (first | (with_reducible refine hK _ ?_; clear hK K) | with_reducible apply And.intro)
  refine X9 fun K hK => Xn Xj [] ?_
  simp (maxSteps:=9^7) only [ss, X1, tab, simprocAttr, -List.reduceReplicate]
  repeat' (first | (with_reducible refine hK _ ?_; clear hK K) | with_reducible apply And.intro)
  refine Uy rfl (Z1 (hKB _ ?_))
  clear hKB KB
  refine X9 fun KB hKB => ?_
  refine X9 fun K hK => Xn Xj [] ?_
  simp (maxSteps:=9^7) only [ss, X1, tab, simprocAttr, -List.reduceReplicate, List.length_map, g]
  repeat' (first | (with_reducible refine hK _ ?_; clear hK K) | with_reducible apply And.intro)
  refine Uy rfl (Z1 (hKB _ ?_))
  clear hKB KB
  refine X9 fun KB hKB => ?_
  refine X9 fun K hK => Xn Xj [] ?_
  simp (maxSteps:=9^7) only [ss, X1, tab, simprocAttr, -List.reduceReplicate]
  repeat' (first | (with_reducible refine hK _ ?_; clear hK K) | with_reducible apply And.intro)
  refine Pl ck ?_
  simp (maxSteps:=9^7) only [ss, X1, tab, simprocAttr, -List.reduceReplicate, Bool.not_true]
  repeat' (first | (with_reducible refine hK _ ?_; clear hK K) | with_reducible apply And.intro)
  refine Uy rfl (Z1 (hKB _ ?_))
  clear hKB KB
  refine Yy (Zi (i := 1) (t := 3) (e := 31) (cs := [.sl 1 (kp.map Ym) .sh]) 1 (.ref [.sl 1 (kp.map Ym) .sh]) rfl rfl (Fz.ptr 0)) ?_
  simp only [s_0, s_s]
  refine X9 fun K hK => Xn Xj [] ?_
  simp (maxSteps:=9^7) only [ss, X1, tab, simprocAttr, -List.reduceReplicate]
  repeat' (first | (with_reducible refine hK _ ?_; clear hK K) | with_reducible apply And.intro)
  refine Xg1 cm hkg hkf ?_
  simp (maxSteps:=9^7) only [ss, X1, tab, simprocAttr, -List.reduceReplicate, A2, Xha, Xg7 hkg]
  repeat' (first | (with_reducible refine hK _ ?_; clear hK K) | with_reducible apply And.intro)
  refine Yd ?_
  refine Xp (.inr rfl) rfl rfl rfl (fun j _ => by rw [K3]) ok43 (k := n + 2) (off := 0) rfl (Xb _ (by simp)) (X6 _ (Nat.le_refl _) 2) rfl rfl ?_
  simp only [Xjr, E1, sl]
 ·have e : Xhq d kp = Xhm := by unfold Xhq; rw [if_neg hE]
  have c := Xn4 d kp h1 h2 h3
  rw [e] at c ⊢
  exact c
theorem Xmu (B : Nat) (d : Dsk) (hd : Small d) (a b : Int) (x : UInt8) : Xr Try.prog 20 [A2 d, i64 a, i64 b, b8 x] (Xev B (Xh9 (Xhg d a b x))) (.tup [.agg (Xjr B (Xhg d a b x)), i64 (Xio d a b)]) (Xhj B (Xh9 (Xhg d a b x))) := by
 by_cases hE : Xio d a b = 0
 ·have hds := hd.s
  have hdw := hd.w
  obtain ⟨hm, ⟨ha1, ha2⟩, hb1, hb2⟩ := Xjx.1 hE
  obtain ⟨z, rfl⟩ := Int.eq_ofNat_of_zero_le ha1
  obtain ⟨y, rfl⟩ := Int.eq_ofNat_of_zero_le hb1
  obtain ⟨h32, hw, hs, _⟩ := (Xho d).1 hm
  have hz : z < d.sectors.length := by omega
  have hl : (d.sectors[z]).length = 128 := hs _ (List.getElem_mem hz)
  have hy : y < (d.sectors[z]).length := by omega
  obtain ⟨r, hr⟩ : ∃ r, r = d.sectors[z] := ⟨_, rfl⟩
  have gz : d.sectors[z]? = some r := by rw [hr]; exact List.getElem?_eq_getElem hz
  rw [← hr] at hl hy
  have eD : Xhg d z y x = ⟨d.sectors.set z (Xie r y x), d.waits⟩ := by
   unfold Xhg Xlk
   rw [if_pos hE]
   simp [List.getD_eq_getElem?_getD, hz, hr]
  have tl : (Xie r y x).length = 128 := by rw [Xip, hl]
  have eF : Xh9 (Xhg d z y x) = (Xh9 d).set z (some (.box 5 ((Xie r y x).map b8))) := by
   rw [eD, ← Xir (by omega)]
   show Xj5 (d.sectors.set z _) ++ Xkq d.waits = (Xj5 d.sectors ++ Xkq d.waits).set z _
   rw [List.set_append_left _ _ (by rw [Xhk]; exact hz), Xj5, Xj5, List.map_set]
  have eS : Xhn B (Xhg d z y x) = Xhn B d := by
   rw [eD]
   show (d.sectors.set z _).mapIdx (fun i x => Xgh (B + i) x) = d.sectors.mapIdx (fun i x => Xgh (B + i) x)
   apply List.ext_getElem?
   intro i
   rw [List.getElem?_mapIdx, List.getElem?_mapIdx]
   by_cases e : i = z
   ·subst e
    rw [List.getElem?_set_self hz, gz, Option.map_some, Option.map_some, Xgh, Xgh, tl, hl]
   ·rw [List.getElem?_set_ne (by omega)]
  have eW : Xhh B (Xhg d z y x) = Xhh B d := by
   rw [eD]
   show d.waits.mapIdx (fun i x => wrB (B + (d.sectors.set z _).length + i) x) = _
   rw [List.length_set]; rfl
  have gF : (Xh9 d)[z]? = some (some (.box 5 (r.map b8))) := by
   rw [Xh9, List.getElem?_append_left (by rw [Xhk]; exact hz), Xj5, List.getElem?_map, gz, ← Xir (by omega)]; rfl
  have hne : ∀ (g : List (Option Res)), g.length = 0 → g = [] := fun g h => List.eq_nil_of_length_eq_zero h
  rw [hE]
  have q1 : (decide (0 ≤ (z : Int)) && decide ((z : Int) < 32)) = true := by simp; omega
  have q2 : (decide (0 ≤ (y : Int)) && decide ((y : Int) < 128)) = true := by simp; omega
  have cb1 := Xht z 32
  have cb2 := Xht y 128
  have ca1 := Xiw d true (by omega) (by omega)
  rw [q1] at cb1
  rw [q2] at cb2
  rw [hm] at ca1
  simp only [if_true, A2, Xha] at ca1
  have gS : (Xhn B d).getD z [] = [.bsl (B + z) 0 128 false] := by
   rw [List.getD_eq_getElem?_getD, Xhn, List.getElem?_mapIdx, gz, Option.map_some, Xgh, hl]; rfl
  have gl : (Xhn B d).length = d.sectors.length := by simp [Xhn]
  have gp := X0z 1 b8 r y 0 hy
  have gs := F7 b8 r y (r.getD y 0 ^^^ x) hy
  have gt : r.set y (r.getD y 0 ^^^ x) = Xie r y x := rfl
  rw [gt] at gs
  have grl : (r.map b8).length = 128 := by rw [List.length_map, hl]
  have hnn : Xev B (Xh9 (Xhg d z y x)) = Xev B (Xh9 d) := by
   rw [eF]
   exact Xk3 gF
  rw [hnn]
  have hlD := Xk6 d
  refine Xc 3 Try.func20 rfl fun n out _ _ => ?_
  simp only [Try.ntmps20, List.length_cons, List.length_nil, List.length_map, List.length_replicate, Xf, Nat.reduceAdd, Nat.reduceSub, List.replicate, List.cons_append, List.nil_append]
  rename_i hkf hkg0
  have hkg : Mc n (Xhj B (Xh9 d)) := Ht.2 fun p hp => by
   obtain ⟨j, g1, g2⟩ := A3.1 hp
   rw [g2]
   have g3 : ∃ q, (Xh9 (Xhg d z y x))[j]? = some (some q) := by
    rw [eF]
    by_cases e : j = z
    ·subst e; exact ⟨_, List.getElem?_set_self (List.getElem?_eq_some_iff.1 gF).1⟩
    ·exact ⟨p.2, by rw [List.getElem?_set_ne (by omega)]; exact g1⟩
   obtain ⟨q, hq⟩ := g3
   exact K2 hkg0 hq
  have hBz : B + z < n := K2 hkg gF
  have hltB := Xih hkg (Xhv d)
  have ct := Xky (n + 2) B d (by have := hltB ((Xh9 d).length - 1); omega) hd
  simp only [A2, Xha] at ct
  have oZ : ofL out B (Xh9 d) (B + z) = some (.box 5 (r.map b8)) := C4 gF
  have oE : Xw (ofL out B (Xh9 d)) (B + z) (.box 5 ((Xie r y x).map b8)) = upd out (Xhj B (Xh9 (Xhg d z y x))) := by
   rw [K3, eF, A5 (List.getElem?_eq_some_iff.1 gF).1]
  repeat' (first | (with_reducible first | refine Vk fun K hK => ?_ | refine V0 ?_ | refine Vs ?_ | apply And.intro | refine Vq (by kernel_rfl) ?_) | ((with_reducible first | refine gE ?_ | refine gR ?_); simp (maxSteps:=9^7) only [ss, X1, tab, simprocAttr, -List.reduceReplicate, A2, Xha, beq_self_eq_true]) | exact Vn | ((with_reducible refine Vz ?_); (first | refine Xp (.inr rfl) rfl rfl rfl (fun _ _ => rfl) ok43 (k := n + 1) (off := 0) rfl (Xb _ (by simp)) (X6 _ (Nat.le_refl _) 1) rfl rfl ?_ | refine Xp (.inr rfl) rfl rfl rfl (fun _ _ => rfl) ok43 (k := m + 1) (off := 0) rfl (Xb _ (by simp)) (X6 _ hm 1) rfl rfl ?_) <;> first | rfl | exact AV.le.rfl _ | (simp only [E1, sl, ti43, List.map_nil, A2, Xha, Int.reduceBEq, beq_self_eq_true]; done) | rfl | skip) | (refine Pl (cb1) ?_) | (refine Pl (cb2) ?_) | (refine Pl (ca1) ?_) | (refine Xhu ct (X6 _ (Nat.le_refl _) 2) (Xb _ (by simp)) hkg hkf ?_) | ((with_reducible refine Vg (fun hg => ?_) (fun hg => ?_)) <;> (try simp only [nb] at hg) <;> simp (maxSteps:=9^7) only [ss, X1, tab, simprocAttr, -List.reduceReplicate, hg, A2, Xha, beq_self_eq_true]) | (refine hK _ ?_; clear hK K) | refine Vt rfl ?_ | refine Vf rfl ?_ | refine Vi rfl (fun hg => ?_) (fun hg => ?_) | clear hK K)
  generalize Xh9 (Xhg d z y x) = FS9 at *
  simp (maxSteps:=9^7) only [ss, X1, tab, simprocAttr, -List.reduceReplicate, W0 (Nat.le_refl n), Xg7 hkg]
  repeat' (first | (with_reducible refine hK _ ?_; clear hK K) | with_reducible apply And.intro)
  generalize ofL out B (Xh9 d) = O at *
  generalize r.map b8 = G at *
  generalize (Xie r y x).map b8 = G' at *
  repeat' (first | (with_reducible first | refine Vk fun K hK => ?_ | refine V0 ?_ | refine Vs ?_ | apply And.intro | refine Vq (by kernel_rfl) ?_) | ((with_reducible first | refine gE ?_ | refine gR ?_); simp (maxSteps:=9^7) only [ss, X1, tab, simprocAttr, -List.reduceReplicate, gS, gl, hz, Y9, X8 hBz, X7 hBz, Xa hBz, oZ, gp, Xc6, gs, grl, oE]) | exact Vn | ((with_reducible refine Vz ?_); (first | refine Xp (.inr rfl) rfl rfl rfl (fun _ _ => rfl) ok43 (k := n + 1) (off := 0) rfl (Xb _ (by simp)) (X6 _ (Nat.le_refl _) 1) rfl rfl ?_ | refine Xp (.inr rfl) rfl rfl rfl (fun _ _ => rfl) ok43 (k := m + 1) (off := 0) rfl (Xb _ (by simp)) (X6 _ hm 1) rfl rfl ?_) <;> first | rfl | exact AV.le.rfl _ | (simp only [E1, sl, ti43, List.map_nil, gS, gl, hz, Y9, X8 hBz, X7 hBz, Xa hBz, oZ, gp, Xc6, gs, grl, oE]; done) | rfl | skip) | ((with_reducible refine Vg (fun hg => ?_) (fun hg => ?_)) <;> (try simp only [nb] at hg) <;> simp (maxSteps:=9^7) only [ss, X1, tab, simprocAttr, -List.reduceReplicate, hg, gS, gl, hz, Y9, X8 hBz, X7 hBz, Xa hBz, oZ, gp, Xc6, gs, grl, oE]) | (refine hK _ ?_; clear hK K) | refine Vt rfl ?_ | refine Vf rfl ?_ | refine Vi rfl (fun hg => ?_) (fun hg => ?_) | clear hK K)
  ·omega
  ·omega
  ·omega
  show AV.le (.tup [.agg [.sl 1 (Xhn B d) .sh, .sl 2 (Xhh B d) (.own (n + 2))], i64 0]) _
  simp only [Xjr, eS, eW, E1, sl]
 ·have e : Xhg d a b x = Xhm := by unfold Xhg; rw [if_neg hE]
  have c := Xn9 d hd a b x
  rw [e] at c ⊢
  exact c
theorem X2u (B z : Nat) (d : Dsk) (h1 : d.sectors.length ≤ 1000) (h2 : d.waits.length ≤ 1000) (hE : Xau d (z : Int) = 0) : Xr Try.prog 21 [A2 d, i64 (z : Int)] (Xev B (Xh9 (Xhe Xhc d))) (.tup [.bsl (B + z) 0 128 false, i64 0]) (Xhj B (Xh9 (Xhe Xhc d))) := by
 obtain ⟨hm, ha1, ha2⟩ := Xju.1 hE
 have h32 := ((Xho d).1 hm).1
 have cb := Xht z 32
 have q1 : (decide (0 ≤ (z : Int)) && decide ((z : Int) < 32)) = true := by simp; omega
 rw [q1] at cb
 have ca := Xiw d true h1 h2
 rw [hm] at ca
 simp only [if_true, A2, Xha] at ca
 have hl := Xh8 Xhc d d.waits.length
 have hz : z < (A0 Xhc d d.waits.length).length := by omega
 have hrow := Xhb hm (fun i hi => Nat.le_refl _) d.waits.length _ (List.getElem_mem hz)
 have cm := Xk7 B d 64 [] Xhc hm (hb0 _ (by decide) (by decide)) fun i hi => ⟨Nat.le_refl _, Xk2 _⟩
 have gS : (Xhn B (Xhe Xhc d)).getD z [] = [.bsl (B + z) 0 128 false] := by
  rw [List.getD_eq_getElem?_getD, Xhn, List.getElem?_mapIdx]
  show (Option.map _ (A0 Xhc d d.waits.length)[z]?).getD [] = _
  rw [List.getElem?_eq_getElem hz, Option.map_some, Xgh, hrow]; rfl
 have gl : (Xhn B (Xhe Xhc d)).length = (A0 Xhc d d.waits.length).length := by simp [Xhn, Xhe]
 simp only [A2, Xha, Xjr] at cm
 have hz32 : z < 32 := by omega
 rw [← hl, ] at h32
 rw [h32] at gl
 generalize Xhn B (Xhe Xhc d) = S at *
 generalize Xhh B (Xhe Xhc d) = W at *
 generalize Xh9 (Xhe Xhc d) = F at *
 refine Xc 1 Try.func21 rfl fun n out _ _ => ?_
 simp only [Try.ntmps21, List.length_cons, List.length_nil, List.length_map, List.length_replicate, Xf, Nat.reduceAdd, Nat.reduceSub, List.replicate, List.cons_append, List.nil_append]
 rename_i hkf hkg
 repeat' (first | (with_reducible first | refine Vk fun K hK => ?_ | refine V0 ?_ | refine Vs ?_ | apply And.intro | refine Vd 1 [] [[0],[],[],[],[]] [[],[],[],[],[]] (by kernel_rfl) (by decide) (by decide) (by kernel_rfl) ?_ | refine Vq (by kernel_rfl) ?_) | ((with_reducible first | refine gE ?_ | refine gR ?_ | refine gD ?_ | refine gF ?_); simp (maxSteps:=9^7) only [ss, X1, tab, simprocAttr, -List.reduceReplicate, A2, Xha, gS, gl, hz32, Xg7 hkg, K3]) | exact Vn | ((with_reducible refine Vz ?_); refine Vp rfl rfl rfl (fun _ _ => rfl) ?_ ?_ <;> first | rfl | skip) | (refine Pl (cb) ?_) | (refine Pl (ca) ?_) | (refine Xg1 cm hkg hkf ?_) | (refine hK _ ?_; clear hK K) | refine Vt rfl ?_ | refine Vf rfl ?_ | refine Vi rfl (fun hg => ?_) (fun hg => ?_) | clear hK K)
 refine Yd ?_
 exact X0r (.inr rfl) rfl rfl rfl (fun j _ => by rw [K3]) rfl rfl
end Go.Proofs.Ytjgbbjooeibppaa
