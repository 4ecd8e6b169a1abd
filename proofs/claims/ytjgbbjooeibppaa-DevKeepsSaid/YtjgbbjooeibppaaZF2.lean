/-
 Disks copied, written and turned, what is answered in boxes that may be written.
-/
import Derived.Test.YtjgbbjooeibppaaZGA
import Derived.Test.YtjgbbjooeibppaaZF1
import Derived.Test.YtjgbbjooeibppaaZD29
namespace Go.Proofs.Ytjgbbjooeibppaa
set_option linter.unusedVariables false
set_option linter.unusedSimpArgs false
open Go Go.VS Tab
set_option maxHeartbeats 4000000
set_option maxRecDepth 4000
def Xh9 (d : Dsk) : List (Option Res) := Xj5 d.sectors ++ Xkq d.waits
def Xhn (K : Nat) (d : Dsk) : List (List AV) := d.sectors.mapIdx fun i x => Xgh (K + i) x
def Xhh (K : Nat) (d : Dsk) : List (List AV) := d.waits.mapIdx fun i x => wrB (K + d.sectors.length + i) x
def Xjr (K : Nat) (d : Dsk) : List AV := [.sl 1 (Xhn K d) .sh, .sl 2 (Xhh K d) .sh]
theorem Xk6 (d : Dsk) : (Xh9 d).length = d.sectors.length + d.waits.length := by simp [Xh9, Xj5, Xkq]
theorem Xhv (d : Dsk) : ∀ x, x ∈ Xh9 d → x ≠ none := fun x hx => by
 simp only [Xh9, Xj5, Xkq, List.mem_append, List.mem_map] at hx
 rcases hx with ⟨_, _, rfl⟩ | ⟨_, _, rfl⟩ <;> simp
theorem Xlm (d : Dsk) (a : Int) (b : List UInt8) : Xh9 (Xjh d a b) = Xh9 d ++ [some (Xi2 b)] := by
 simp [Xh9, Xjh, Xkq]
theorem Xky (k B : Nat) (d : Dsk) (hkK : k < B ∨ B + (Xh9 d).length ≤ k) (hd : Small d) : Xr Try.prog 16 [A2 d] ((k, none) :: Xev B (Xh9 d)) (.agg [.sl 1 (Xhn B d) .sh, .sl 2 (Xhh B d) (.own k)]) ((k, .row 76 2 d.waits.length) :: Xhj B (Xh9 d)) := by
 have hds := hd.s
 have hdw := hd.w
 have hB : Xd Try.prog 57 = True := hb0 _ (by decide) (by decide)
 have hT : Xd Try.prog 59 = True := hb0 _ (by decide) (by decide)
 refine Xc 4 Try.func16 rfl fun n out _ _ => ?_
 simp only [Try.ntmps16, List.length_cons, List.length_nil, List.length_map, List.length_replicate, Xf, Nat.reduceAdd, Nat.reduceSub, List.replicate, List.cons_append, List.nil_append]
 rename_i hneeds hgv
 obtain ⟨hk0, hkf⟩ := hneeds
 obtain ⟨hkn, hkg⟩ := hgv
 have hlt := Xih hkg (Xhv d)
 rw [Xk6] at hlt hkK
 have hk1 : n + 2 < B ∨ B + d.sectors.length ≤ n + 2 := by have := hlt (d.sectors.length - 1); omega
 have hk2 : n + 3 < B + d.sectors.length ∨ B + d.sectors.length + d.waits.length ≤ n + 3 := by have := hlt (d.sectors.length + d.waits.length - 1); omega
 have hoA : Xj1 n [(B, d.sectors.length), (B + d.sectors.length, d.waits.length)] := Xmf hlt
 rw [Xh9, Xj9, Xhk, Xji] at hkf
 rw [Xh9, Xja, Xhk, Xiq] at hkg
 have c1 := Xkj (n + 2) B d.sectors 57 hk1 hB (by omega) fun x hx k => Xk4 k x (by have := hd.sb x hx; omega)
 have c2 := Xll (n + 3) (B + d.sectors.length) d.waits 59 hk2 hT (by omega) fun x hx k => Xle k x (by have := hd.wb x hx; omega)
 have e1 : (d.sectors.mapIdx fun i x => Xgh (B + i) x) = Xhn B d := rfl
 have e2 : (d.waits.mapIdx fun i x => wrB (B + d.sectors.length + i) x) = Xhh B d := rfl
 rw [e1] at c1
 rw [e2] at c2
 refine X9 fun K hK => Xn Xj [] ?_
 simp (maxSteps:=9^7) only [ss, X1, tab, simprocAttr, -List.reduceReplicate, A2, Xha]
 repeat' (first | (with_reducible refine hK _ ?_; clear hK K) | with_reducible apply And.intro)
 refine X9 fun K hK => Xib Xj [] [(B, d.sectors.length), (B + d.sectors.length, d.waits.length)] [[], [0], [2, 100], [], [0], [3, 101], [], [1]] [[], [], [2, 100], [], [], [3, 101], [], [1]] hoA follows (by kernel_rfl) (by decide) (by decide) (by kernel_rfl) ?_
 simp (maxSteps:=9^7) only [ss, X1, tab, simprocAttr, -List.reduceReplicate, sf, hB, hT]
 repeat' (first | (with_reducible refine hK _ ?_; clear hK K) | with_reducible apply And.intro)
 refine Xhu c1 (X6 _ (Nat.le_refl _) 2) (Xb _ (by simp)) hkg.1 (Xix hkf.1 (x := 100) (by decide) (by decide) (by rw [Xhk]; rfl)) ?_
 refine Xjp (z := 100) (by decide) (by decide) (by decide) (by decide) (by rw [Xhk]; rfl) (Nat.le_refl _) hkg.1 ?_
 rw [Xg7 hkg.1]
 simp (maxSteps:=9^7) only [ss, X1, tab, simprocAttr, -List.reduceReplicate, sf, hB, hT]
 refine Xhu c2 (X6 _ (Nat.le_refl _) 3) (Xb _ (by simp)) hkg.2 (Xix (Xm9 hkf.2 (.inr (by rw [Xhk]; exact Nat.le_refl _))) (x := 101) (by decide) (by decide) (by rw [Xjb]; rfl)) ?_
 refine Xjp (z := 101) (by decide) (by decide) (by decide) (by decide) (by rw [Xjb]; rfl) (Nat.le_refl _) hkg.2 ?_
 rw [Xg7 hkg.2]
 simp (maxSteps:=9^7) only [ss, X1, tab, simprocAttr, -List.reduceReplicate, sf]
 repeat' (first | (with_reducible refine hK _ ?_; clear hK K) | with_reducible apply And.intro)
 have hk : ofL (ofL out B (Xj5 d.sectors)) (B + d.sectors.length) (Xkq d.waits) k = none := by
  rw [Xge (by rw [Xjb]; omega), Xge (by rw [Xhk]; omega)]; exact hk0
 have hou : Xw (ofL (ofL out B (Xj5 d.sectors)) (B + d.sectors.length) (Xkq d.waits)) k (.row 76 2 d.waits.length) = upd out ((k, .row 76 2 d.waits.length) :: Xhj B (Xh9 d)) := by
  rw [Zc, K3, Xh9, ← Xnb, Xhk, Xj8 (by rw [Xhk]; omega), Xj8 (by rw [Xjb]; omega)]
 refine Yy (Ja (i := 3) (k := k) rfl (by exact hkn) (by exact hk)) ?_
 simp only [List.map_cons, List.map_nil, Option.map_some, Option.map_none, Res.ren1, AV.ren1, Nat.add_left_cancel_iff, Nat.reduceEqDiff, Nat.one_ne_zero, reduceIte, Wy, s_0, s_s]
 rw [hou]
 refine Yd ?_
 exact Xu (.inr rfl) rfl rfl rfl (fun _ _ => rfl) ok43 (k := n + 1) (off := 0) rfl (Xb _ (by simp)) (X6 _ (Nat.le_refl _) 1) rfl (by simp only [E1, sl])
theorem Xmp (B : Nat) (d : Dsk) (at' : Int) (b : List UInt8) (hd : Small d) (hE : Xbb d at' b = 0) : Xr Try.prog 17 [A2 d, i64 at', bs b] (Xev B (Xh9 (Xjh d at' b))) (.tup [.agg (Xjr B (Xjh d at' b)), i64 0]) (Xhj B (Xh9 (Xjh d at' b))) := by
 have hds := hd.s
 have hdw := hd.w
 obtain ⟨hm, hat, hb, hw⟩ : may d = true ∧ (decide (0 ≤ at') && decide (at' < 32)) = true ∧ b.length = 128 ∧ d.waits.length ≠ 256 := by
  unfold Xbb at hE
  cases h1 : may d <;> cases h2 : (decide (0 ≤ at') && decide (at' < 32)) <;> rw [h1, h2] at hE <;> simp at hE ⊢
  by_cases h3 : b.length = 128
  ·by_cases h4 : d.waits.length = 256
   ·simp [h3, h4] at hE
   ·exact ⟨h3, h4⟩
  ·simp [h3] at hE
 have cb1 := Xht at' 32
 rw [hat] at cb1
 have ca := Xiw d true hd.s hd.w
 rw [hm] at ca
 simp only [if_true, A2, Xha] at ca
 have g1 : ((b.length : Int) != 128) = false := by simp; omega
 have g2 : ((d.waits.length : Int) == 256) = false := by simp; omega
 have cw := fun k : Nat => Xle k (Wr.mk at' b) (by show b.length ≤ _; omega)
 simp only [wrA, wrC] at cw
 obtain ⟨W, hW⟩ : ∃ W, W = Xhh B d := ⟨_, rfl⟩
 have hWl : W.length = d.waits.length := by rw [hW]; simp [Xhh]
 have eW : Xhh B (Xjh d at' b) = W ++ [wrB (B + (Xh9 d).length) ⟨at', b⟩] := by
  rw [hW, Xk6]
  show (d.waits ++ [Wr.mk at' b]).mapIdx (fun i x => wrB (B + d.sectors.length + i) x) = _
  rw [List.mapIdx_append]
  show _ ++ [wrB (B + d.sectors.length + (0 + d.waits.length)) ⟨at', b⟩] = _
  rw [Nat.zero_add, Nat.add_assoc]
  rfl
 have eS : Xhn B (Xjh d at' b) = Xhn B d := rfl
 rw [Xlm, Xj9, Xja]
 refine Xc 3 Try.func17 rfl fun n out _ _ => ?_
 simp only [Try.ntmps17, List.length_cons, List.length_nil, List.length_map, List.length_replicate, Xf, Nat.reduceAdd, Nat.reduceSub, List.replicate, List.cons_append, List.nil_append]
 rename_i hneeds hgv
 rw [Xji] at hneeds
 rw [Xiq] at hgv
 obtain ⟨hkf, hk1⟩ := hneeds
 obtain ⟨hkg, hk2⟩ := hgv
 have hKn : B + (Xh9 d).length < n := hk2.1
 have hKN : out (B + (Xh9 d).length) = none := hk1.1
 have hltK := Xih hkg (Xhv d)
 have ct := Xky (n + 2) B d (by have := hltK ((Xh9 d).length - 1); omega) hd
 simp only [A2, Xha] at ct
 obtain ⟨Z, hZ⟩ : ∃ Z, Z = B + (Xh9 d).length := ⟨_, rfl⟩
 rw [← hZ] at hKn hKN eW ⊢
 have hoA : Xj1 n [(Z, 1)] := Xkp fun j hj => by omega
 repeat' (first | (with_reducible first | refine Vk fun K hK => ?_ | refine V0 ?_ | refine Vs ?_ | apply And.intro | refine Vq (by kernel_rfl) ?_) | ((with_reducible first | refine gE ?_ | refine gR ?_); simp (maxSteps:=9^7) only [ss, X1, tab, simprocAttr, -List.reduceReplicate, A2, Xha, Sm, List.length_map, g1, g2]) | exact Vn | ((with_reducible refine Vz ?_); (first | refine Xp (.inr rfl) rfl rfl rfl (fun _ _ => rfl) ok43 (k := n + 1) (off := 0) rfl (Xb _ (by simp)) (X6 _ (Nat.le_refl _) 1) rfl rfl ?_ | refine Xp (.inr rfl) rfl rfl rfl (fun _ _ => rfl) ok43 (k := m + 1) (off := 0) rfl (Xb _ (by simp)) (X6 _ hm 1) rfl rfl ?_) <;> first | rfl | exact AV.le.rfl _ | (simp only [E1, sl, ti43, List.map_nil, A2, Xha, Sm, List.length_map, g1, g2, Int.reduceBNe, Int.reduceBEq]; done) | rfl | skip) | (refine Pl (cb1) ?_) | (refine Pl (ca) ?_) | (refine Xhu ct (X6 _ (Nat.le_refl _) 2) (Xb _ (by simp)) hkg hkf ?_) | (refine hK _ ?_; clear hK K) | refine Vt rfl ?_ | refine Vf rfl ?_ | refine Vi rfl (fun hg => ?_) (fun hg => ?_) | clear hK K)
 simp (maxSteps:=9^7) only [ss, X1, tab, simprocAttr, -List.reduceReplicate, W0 (Nat.le_refl n), Xg7 hkg]
 repeat' (first | (with_reducible refine hK _ ?_; clear hK K) | with_reducible apply And.intro)
 have oZ : ofL out B (Xh9 d) Z = none := by rw [Xge (by omega)]; exact hKN
 have hou : Xw (ofL out B (Xh9 d)) Z (Xi2 b) = upd out (Xhj B (Xh9 d) ++ Xhj Z [some (Xi2 b)]) := by
  rw [← K3, Xi6]; rfl
 generalize ofL out B (Xh9 d) = O at *
 have lit : ∀ (σ : AState) (K' : AV → List (Nat × Res) → Prop) (k : Nat), X1 tab σ K' none 41 1 [(0, .agg (wrB k ⟨at', b⟩))] = K' (.sl 2 [wrB k ⟨at', b⟩] .full) [] := fun σ K' k => Yk (T := tab) (ti := ti41) (te := ti76) rfl rfl rfl (by decide) (by decide) rfl rfl
 have hT : Xd Try.prog 59 = True := hb0 _ (by decide) (by decide)
 refine X9 fun K hK => Xib Xj [] [(Z, 1)] [[], [1], [], [], [], [100], [], [2], [], [1]] [[], [], [], [], [], [100], [], [2], [], [1]] hoA follows (by kernel_rfl) (by decide) (by decide) (by kernel_rfl) ?_
 simp (maxSteps:=9^7) only [ss, X1, tab, simprocAttr, -List.reduceReplicate, sf, -X1, hT]
 repeat' (first | (with_reducible refine hK _ ?_; clear hK K) | with_reducible apply And.intro)
 refine Sb (cw Z) (by rw [X8 hKn, Xlg (x := 100) (by decide) (by decide) rfl (by dsimp only; omega)]; exact oZ) (by rw [X7 hKn]; trivial) (by simp) ?_
 refine Xmb (z := 100) (by decide) (by decide) rfl ?_
 rw [← hW]
 generalize Xi2 b = Q at *
 simp (maxSteps:=9^7) only [ss, tab, simprocAttr, -List.reduceReplicate, sf, Xa hKn, lit, hWl, show d.waits.length + 1 ≤ 140737488355328 by omega, show d.waits.length + 1 ≤ 9223372036854775807 by omega]
 repeat' (first | (with_reducible refine hK _ ?_; clear hK K) | with_reducible apply And.intro)
 ·omega
 refine Yd ?_
 refine Xp (.inr rfl) rfl rfl rfl (fun j _ => by rw [hou]) ok43 (k := n + 1) (off := 0) rfl (Xb _ (by simp)) (X6 _ (Nat.le_refl _) 1) rfl rfl ?_
 simp only [Xjr, eS, eW, E1, sl]
theorem Xk7 (B : Nat) (d : Dsk) (fid : FuncId) (caps : List AV) (kp : Nat → Nat) (hd : may d = true) (hb : Xd Try.prog fid = True)
  (hk : ∀ i, i < d.waits.length → kp i ≤ 128 ∧ Xr Try.prog fid (i64 (i : Int) :: caps) [] (i64 ((kp i : Nat) : Int)) []) :
  Xr Try.prog 63 [A2 d, .fn (.func fid) caps] (Xev B (Xh9 (Xhe kp d))) (.agg (Xjr B (Xhe kp d))) (Xhj B (Xh9 (Xhe kp d))) := by
 obtain ⟨hd1, hd2, hd3, hd4⟩ := (Xho d).1 hd
 have hC : Xd Try.prog 57 = True := hb0 _ (by decide) (by decide)
 have eD : Xh9 (Xhe kp d) = Xj5 (A0 kp d d.waits.length) := by simp [Xh9, Xhe, Xkq]
 rw [eD]
 refine Ph 7 Try.func63 rfl fun n out _ _ => ?_
 simp only [Try.ntmps63, List.length_cons, List.length_nil, List.length_map, List.length_replicate, Xf, Nat.reduceAdd, Nat.reduceSub, List.replicate, List.cons_append, List.nil_append]
 rename_i hkf hkg
 refine V4 fun K hK => AWp.zero (Xn Xj [] ?_)
 simp (maxSteps:=9^7) only [ss, X1, tab, simprocAttr, -List.reduceReplicate, A2, Xha]
 repeat' (first | (with_reducible refine hK _ ?_; clear hK K) | with_reducible apply And.intro)
 refine V4 fun K hK => AWp.zero (Xn Xj [] ?_)
 simp (maxSteps:=9^7) only [ss, X1, tab, simprocAttr, -List.reduceReplicate]
 repeat' (first | (with_reducible refine hK _ ?_; clear hK K) | with_reducible apply And.intro)
 refine Sb (Xkf (n + 2) d.sectors _ [] bs Y6 (hb0 _ (by decide) (by decide)) (by omega) (by omega) (fun _ => rfl) (fun _ => rfl) fun l hl => Xds l (by have := hd3 l hl; omega)) (X6 _ (Nat.le_refl _) 2) (Xb _ (by simp)) (by simp) ?_
 simp (maxSteps:=9^7) only [ss, X1, tab, simprocAttr, -List.reduceReplicate]
 repeat' (first | (with_reducible refine hK _ ?_; clear hK K) | with_reducible apply And.intro)
 refine Jl (Zi (i := 3) (t := 5) (e := 40) (cs := [.bsl (n + 2) 0 d.sectors.length false]) 1 (.ref [.bsl (n + 2) 0 d.sectors.length false]) rfl rfl (Fz.ptr 0)) ?_
 simp only [s_0, s_s]
 refine V4 fun KB hKB => ?_
 refine V4 fun K hK => AWp.zero (Xn Xj [] ?_)
 simp (maxSteps:=9^7) only [ss, X1, tab, simprocAttr, -List.reduceReplicate]
 repeat' (first | (with_reducible refine hK _ ?_; clear hK K) | with_reducible apply And.intro)
 refine Pl (Xla d fid caps) ?_
 simp (maxSteps:=9^7) only [ss, X1, tab, simprocAttr, -List.reduceReplicate]
 repeat' (first | (with_reducible refine hK _ ?_; clear hK K) | with_reducible apply And.intro)
 rw [Xlb]
 refine Fp (Fq (r := .tup []) (gf := 105) (caps := [.ref (Xha d), .ref [.fn (.func fid) caps]]) 4 5 Try.func105 (by kernel_rfl) (by kernel_rfl) rfl (by decide) rfl rfl ?_)
 intro D lp rec F hF h1 h2 h3 h4 h5
 refine ⟨_, _, Xkg lp (n + 5) (n + 2) (by omega) (.pin lp (.loop rec) F) (by simp) (fun i => .box 44 ((A0 kp d i).map bs)) (by simp) d (by omega) fid caps kp hb (fun i hi => ?_) (fun i hi => B0 (fr := F) (fr1 := (((F.set 14 (i64 (d.waits[i]).at')).set 15 (bs ((d.waits[i]).data.take (kp i)))).set 6 (i64 (d.waits[i]).at')).set 7 (bs ((d.waits[i]).data.take (kp i)))) (ps := [14, 15]) 0 h1 h2 h3 h4 h5 rfl (by simp) (by simp) ?_ ?_), ?_, ?_, ?_, ?_, ?_⟩
 ·have hw := hd4 _ (List.getElem_mem hi)
  exact ⟨by have := (hk i hi).1; omega, (hk i hi).2⟩
 ·intro n' out'
  subst hF
  simp only [List.zip_cons_cons, List.zip_nil_left, List.zip_nil_right, setAll, s_0, s_s]
  refine X9 fun K hK => Xn Xj [] ?_
  simp (maxSteps:=9^7) only [ss, X1, tab, simprocAttr, -List.reduceReplicate]
  repeat' (first | (with_reducible refine hK _ ?_; clear hK K) | with_reducible apply And.intro)
  refine Xn Xj [] ?_
  simp (maxSteps:=9^7) only [ss, X1, tab, simprocAttr, -List.reduceReplicate]
 ·intro n' out' hh hg
  obtain ⟨hkk, _⟩ := hh
  obtain ⟨hkn, _⟩ := hg
  obtain ⟨w1, w2, w3⟩ := hd4 _ (List.getElem_mem hi)
  have hsl := Xh8 kp d i
  have hrow := Xhb hd (fun i hi => (hk i hi).1) i
  obtain ⟨z, hz⟩ : ∃ z : Nat, (d.waits[i]).at' = (z : Int) := ⟨(d.waits[i]).at'.toNat, by omega⟩
  have hz32 : z < 32 := by omega
  have hz3 : (z : Int) < (d.sectors.length : Int) := by omega
  have hzl : z < (A0 kp d i).length := by omega
  have hg1 : (A0 kp d i).getD z [] = (A0 kp d i)[z] := by simp [List.getD_eq_getElem?_getD, hzl]
  have hrl : ((A0 kp d i).getD z []).length = 128 := by rw [hg1]; exact hrow _ (List.getElem_mem hzl)
  have hkp := (hk i hi).1
  refine Xe ?_
  subst hF
  simp only [List.replicate, s_0, s_s]
  refine Xc0 Xj [] 9 [0, 2, 5] follows (by kernel_rfl) (by kernel_rfl) ?_
  simp (maxSteps:=9^7) only [ss, X1, tab, simprocAttr, -List.reduceReplicate, X8 hkn, X7 hkn, hkk, hz, hz3, X0z 1 bs (A0 kp d i) z [] hzl]
  refine Pl (Xn1 _ _ .sh (by rw [hrl, List.length_take]; omega) (by omega)) ?_
  have hst : Yf ((A0 kp d i).map bs) z [bs (laid ((A0 kp d i).getD z []) ((d.waits[i]).data.take (kp i)))] = (A0 kp d (i + 1)).map bs := by
   rw [F7 bs _ _ _ hzl, A0, dif_pos hi, lay, hz]; rfl
  have hml : ((A0 kp d i).map bs).length = (A0 kp d i).length := by simp
  simp (maxSteps:=9^7) only [ss, X1, tab, simprocAttr, -List.reduceReplicate, X8 hkn, X7 hkn, Xdy hkn, hkk, hz3, List.length_map, show z + 1 ≤ (A0 kp d i).length by omega, hst]
  exact fun _ _ => rfl
 ·subst hF
  simp only [holds, s_0, s_s, X2a, List.getElem?_cons_zero, List.getElem?_cons_succ, Option.join_some, and_true, true_and]
  rfl
 ·exact ⟨Xb _ (by simp), trivial⟩
 ·intro x hx
  simp only [List.mem_cons, List.not_mem_nil, or_false] at hx
  rcases hx with rfl | rfl
  ·exact Xb _ (by simp)
  ·exact Xb _ (by simp)
 ·intro x hx
  simp only [List.mem_cons, List.not_mem_nil, or_false] at hx
  subst hx
  show n + 2 ≠ n + 5
  omega
 simp only [Qd, Z4, s_0, s_s, Xeb]
 refine hKB _ ?_
 clear hKB KB
 refine AWp.zero ?_
 have hcl : ((A0 kp d d.waits.length).map bs).length = d.sectors.length := by rw [List.length_map, Xh8]
 refine Yy (Zi (i := 2) (t := 5) (e := 44) (cs := (A0 kp d d.waits.length).map bs) 1 (.ref [.sl 1 ((A0 kp d d.waits.length).map Y6) .sh]) rfl rfl (Fz.ref _ _ rfl fun i c c' hc hc' => ?_)) ?_
 ·match i with
  | 0 =>
   simp only [List.getElem?_cons_zero, Option.some.injEq] at hc hc'
   subst hc; subst hc'
   have := Fz.bsl (k := n + 2) (sz := 1) (cs := (A0 kp d d.waits.length).map bs) 0 d.sectors.length false ⟨by omega, by omega⟩
   rw [List.drop_zero, ← Xh8 kp d d.waits.length, Xkh] at this
   rw [← Xh8 kp d d.waits.length]; exact this
  | i + 1 => simp at hc
 simp only [s_0, s_s]
 have hlt := Xih hkg (fun x hx => by simp only [Xj5, List.mem_map] at hx; obtain ⟨_, _, rfl⟩ := hx; simp)
 have ce := Xkj (n + 6) B (A0 kp d d.waits.length) 57 (by rw [Xhk] at hlt; have := hlt ((A0 kp d d.waits.length).length - 1); omega) hC (by rw [Xh8]; omega) fun l hl k => Xk4 k l (by rw [Xhb hd (fun i hi => (hk i hi).1) _ l hl]; omega)
 refine X9 fun K hK => Xn Xj [] ?_
 simp (maxSteps:=9^7) only [ss, X1, tab, simprocAttr, -List.reduceReplicate]
 repeat' (first | (with_reducible refine hK _ ?_; clear hK K) | with_reducible apply And.intro)
 refine Xhu ce (X6 _ (Nat.le_refl _) 6) (Xb _ (by simp)) hkg hkf ?_
 simp (maxSteps:=9^7) only [ss, X1, tab, simprocAttr, -List.reduceReplicate, W0 (Nat.le_refl n), Xg7 hkg]
 repeat' (first | (with_reducible refine hK _ ?_; clear hK K) | with_reducible apply And.intro)
 refine Yd ?_
 exact ⟨4, D, rfl, rfl, Xu (.inr rfl) rfl rfl rfl (fun j _ => by rw [K3]) ok43 (k := n + 1) (off := 0) rfl (Xb _ (by simp)) (X6 _ (Nat.le_refl _) 1) rfl (by simp only [Xjr, Xhn, Xhh, Xhe, List.mapIdx_nil, E1, sl])⟩
end Go.Proofs.Ytjgbbjooeibppaa
