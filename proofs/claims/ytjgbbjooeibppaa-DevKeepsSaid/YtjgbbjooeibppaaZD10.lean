/-
 Sectors seen; writes settled; what a loss of power leaves; a disk of noughts.
-/
import Derived.Test.YtjgbbjooeibppaaZGA
import Derived.Test.YtjgbbjooeibppaaZD9
namespace Go.Proofs.Ytjgbbjooeibppaa
set_option linter.unusedVariables false
set_option linter.unusedSimpArgs false
open Go Go.VS Tab
set_option maxHeartbeats 1000000
set_option maxRecDepth 4000
def Xhc : Nat → Nat := fun _ => 128
def Xau (d : Dsk) (at' : Int) : Int := if may d then (if decide (0 ≤ at') && decide (at' < 32) then 0 else 2) else 8
def Xkr (d : Dsk) (at' : Int) : List UInt8 := if Xau d at' = 0 then (A0 Xhc d d.waits.length).getD at'.toNat [] else []
theorem Xju {d : Dsk} {at' : Int} : Xau d at' = 0 ↔ may d = true ∧ 0 ≤ at' ∧ at' < 32 := by
 unfold Xau
 cases may d <;> simp
theorem Xea (d : Dsk) (at' : Int) (h1 : d.sectors.length ≤ 1000) (h2 : d.waits.length ≤ 1000) : Xr Try.prog 21 [A2 d, i64 at'] [] (.tup [bs (Xkr d at'), i64 (Xau d at')]) [] := by
 refine Xc 1 Try.func21 rfl fun n out _ _ => ?_
 simp only [Try.ntmps21, List.length_cons, List.length_nil, List.length_map, List.length_replicate, Xf, Nat.reduceAdd, Nat.reduceSub, List.replicate, List.cons_append, List.nil_append]
 refine X9 fun K hK => Xn Xj [] ?_
 simp (maxSteps:=9^7) only [ss, X1, tab, simprocAttr, -List.reduceReplicate, A2, Xha]
 repeat' (first | (with_reducible refine hK _ ?_; clear hK K) | with_reducible apply And.intro)
 refine X9 fun KB hKB => ?_
 refine X9 fun K hK => Ny Xj [] [[0], [], [], [], []] [[], [], [], [], []] follows (by kernel_rfl) (by decide) (by decide) (by kernel_rfl) ?_
 simp (maxSteps:=9^7) only [ss, X1, tab, simprocAttr, -List.reduceReplicate]
 repeat' (first | (with_reducible refine hK _ ?_; clear hK K) | with_reducible apply And.intro)
 refine Pl (Xht at' 32) ?_
 simp (maxSteps:=9^7) only [ss, X1, tab, simprocAttr, -List.reduceReplicate]
 refine Pl (Xiw d _ h1 h2) ?_
 simp (maxSteps:=9^7) only [ss, X1, tab, simprocAttr, -List.reduceReplicate]
 repeat' (first | (with_reducible refine hK _ ?_; clear hK K) | with_reducible apply And.intro)
 by_cases h0 : Xau d at' ≠ 0
 ·have e0 : (Xau d at' != 0) = true := by simpa using h0
  have e1 : Xkr d at' = [] := by unfold Xkr; rw [if_neg h0]
  unfold Xau at e0
  refine X9 fun K hK => Xn Xj [] ?_
  simp (maxSteps:=9^7) only [ss, X1, tab, simprocAttr, -List.reduceReplicate, e0]
  repeat' (first | (with_reducible refine hK _ ?_; clear hK K) | with_reducible apply And.intro)
  refine Wm rfl ?_
  refine X9 fun K hK => Xn Xj [] ?_
  simp (maxSteps:=9^7) only [ss, X1, tab, simprocAttr, -List.reduceReplicate]
  repeat' (first | (with_reducible refine hK _ ?_; clear hK K) | with_reducible apply And.intro)
  refine Yd ?_
  rw [e1]
  exact Za (.inr rfl) rfl rfl rfl (fun _ _ => rfl) rfl rfl ((Py _ _).2 trivial) (.rfl _)
 have h0' : Xau d at' = 0 := by omega
 have e1 : Xkr d at' = (A0 Xhc d d.waits.length).getD at'.toNat [] := by unfold Xkr; rw [if_pos h0']
 obtain ⟨hm, ha1, ha2⟩ := Xju.1 h0'
 have h0'' := h0'
 unfold Xau at h0''
 refine X9 fun K hK => Xn Xj [] ?_
 simp (maxSteps:=9^7) only [ss, X1, tab, simprocAttr, -List.reduceReplicate, h0'']
 repeat' (first | (with_reducible refine hK _ ?_; clear hK K) | with_reducible apply And.intro)
 refine Uy rfl (Z1 (hKB _ ?_))
 clear hKB KB
 have hl := Xh8 Xhc d d.waits.length
 have h32 := ((Xho d).1 hm).1
 obtain ⟨z, hz⟩ : ∃ z : Nat, at' = (z : Int) := ⟨at'.toNat, by omega⟩
 subst hz
 have hz32 : z < (A0 Xhc d d.waits.length).length := by omega
 have hg : (A0 Xhc d d.waits.length).getD z [] = (A0 Xhc d d.waits.length)[z] := by simp [List.getD_eq_getElem?_getD, hz32]
 refine X9 fun K hK => Xn Xj [] ?_
 simp (maxSteps:=9^7) only [ss, X1, tab, simprocAttr, -List.reduceReplicate]
 repeat' (first | (with_reducible refine hK _ ?_; clear hK K) | with_reducible apply And.intro)
 refine Pl (Xkx d _ [] Xhc hm (hb0 _ (by decide) (by decide)) fun i hi => ⟨Nat.le_refl _, Xk2 _⟩) ?_
 simp (maxSteps:=9^7) only [ss, X1, tab, simprocAttr, -List.reduceReplicate, Xhe, A2, Xha, hz32, List.length_map, Xg Y6 (A0 Xhc d d.waits.length) z [] hz32, Y6]
 repeat' (first | (with_reducible refine hK _ ?_; clear hK K) | with_reducible apply And.intro)
 refine Yd ?_
 rw [e1, h0', Int.toNat_natCast, hg]
 exact Za (.inr rfl) rfl rfl rfl (fun _ _ => rfl) rfl rfl (.rfl _) (.rfl _)
def Xic (d : Dsk) : Dsk := if may d then Xhe Xhc d else Xhm
theorem Xno (d : Dsk) (h1 : d.sectors.length ≤ 1000) (h2 : d.waits.length ≤ 1000) : Xr Try.prog 18 [A2 d] [] (.tup [A2 (Xic d), i64 (if may d then 0 else 8)]) [] := by
 refine Xc 2 Try.func18 rfl fun n out _ _ => ?_
 simp only [Try.ntmps18, List.length_cons, List.length_nil, List.length_map, List.length_replicate, Xf, Nat.reduceAdd, Nat.reduceSub, List.replicate, List.cons_append, List.nil_append]
 refine X9 fun K hK => Xn Xj [] ?_
 simp (maxSteps:=9^7) only [ss, X1, tab, simprocAttr, -List.reduceReplicate, A2, Xha]
 repeat' (first | (with_reducible refine hK _ ?_; clear hK K) | with_reducible apply And.intro)
 refine X9 fun KB hKB => ?_
 refine X9 fun K hK => Xn Xj [] ?_
 simp (maxSteps:=9^7) only [ss, X1, tab, simprocAttr, -List.reduceReplicate]
 repeat' (first | (with_reducible refine hK _ ?_; clear hK K) | with_reducible apply And.intro)
 refine Pl (Xjg d h1 h2) ?_
 simp (maxSteps:=9^7) only [ss, X1, tab, simprocAttr, -List.reduceReplicate]
 repeat' (first | (with_reducible refine hK _ ?_; clear hK K) | with_reducible apply And.intro)
 by_cases hm : may d = true
 ·have e : Xic d = Xhe Xhc d := by unfold Xic; rw [hm]; rfl
  refine X9 fun K hK => Xn Xj [] ?_
  simp (maxSteps:=9^7) only [ss, X1, tab, simprocAttr, -List.reduceReplicate, hm]
  repeat' (first | (with_reducible refine hK _ ?_; clear hK K) | with_reducible apply And.intro)
  refine Wm rfl ?_
  refine Xn Xj [] ?_
  simp (maxSteps:=9^7) only [ss, X1, tab, simprocAttr, -List.reduceReplicate]
  refine Pl (Xkx d _ [] Xhc hm (hb0 _ (by decide) (by decide)) fun i hi => ⟨Nat.le_refl _, Xk2 _⟩) ?_
  simp (maxSteps:=9^7) only [ss, X1, tab, simprocAttr, -List.reduceReplicate, A2, Xha]
  refine hKB _ ?_
  refine Yd ?_
  refine Xp (.inr rfl) rfl rfl rfl (fun _ _ => rfl) ok43 (k := n + 1) (off := 0) rfl (Xb _ (by simp)) (X6 _ (Nat.le_refl _) 1) rfl rfl ?_
  rw [e, if_pos hm]
  simp only [A2, Xha, E1, sl]
 ·have e : Xic d = Xhm := by unfold Xic; rw [if_neg hm]
  refine X9 fun K hK => Xn Xj [] ?_
  simp (maxSteps:=9^7) only [ss, X1, tab, simprocAttr, -List.reduceReplicate, Bool.false_eq_true, hm]
  repeat' (first | (with_reducible refine hK _ ?_; clear hK K) | with_reducible apply And.intro)
  refine Uy rfl (Z1 (hKB _ ?_))
  refine Yd ?_
  refine Xp (.inr rfl) rfl rfl rfl (fun _ _ => rfl) ok43 (k := n + 1) (off := 0) rfl (Xb _ (by simp)) (X6 _ (Nat.le_refl _) 1) rfl rfl ?_
  rw [e, if_neg hm]
  simp only [A2, Xha, Xhm, List.map_nil, E1, sl]
theorem Xl3 (x : Int) : Xr Try.prog 66 [i64 x] [] (bool (!(decide (0 ≤ x) && decide (x < 129)))) [] := by
 refine Xc 0 Try.func66 rfl fun n out _ _ => ?_
 simp only [Try.ntmps66, List.length_cons, List.length_nil, List.length_map, List.length_replicate, Xf, Nat.reduceAdd, Nat.reduceSub, List.replicate, List.cons_append, List.nil_append]
 refine X9 fun K hK => Xn Xj [] ?_
 simp (maxSteps:=9^7) only [ss, X1, tab, simprocAttr, -List.reduceReplicate]
 repeat' (first | (with_reducible refine hK _ ?_; clear hK K) | with_reducible apply And.intro)
 refine X9 fun K hK => Xn Xj [] ?_
 simp (maxSteps:=9^7) only [ss, X1, tab, simprocAttr, -List.reduceReplicate]
 repeat' (first | (with_reducible refine hK _ ?_; clear hK K) | with_reducible apply And.intro)
 refine Pl (Xht x 129) ?_
 simp (maxSteps:=9^7) only [ss, X1, tab, simprocAttr, -List.reduceReplicate]
 repeat' (first | (with_reducible refine hK _ ?_; clear hK K) | with_reducible apply And.intro)
 refine Yd ?_
 exact Qv (.inr rfl) rfl rfl rfl (fun _ _ => rfl) rfl
theorem Xl4 (kp : List Int) (i : Nat) (h : i < kp.length) : Xr Try.prog 67 [i64 (i : Int), .ref [.sl 1 (kp.map Ym) .sh]] [] (i64 kp[i]) [] := by
 refine Xc 0 Try.func67 rfl fun n out _ _ => ?_
 simp only [Try.ntmps67, List.length_cons, List.length_nil, List.length_map, List.length_replicate, Xf, Nat.reduceAdd, Nat.reduceSub, List.replicate, List.cons_append, List.nil_append]
 refine X9 fun K hK => Xn Xj [] ?_
 simp (maxSteps:=9^7) only [ss, X1, tab, simprocAttr, -List.reduceReplicate]
 repeat' (first | (with_reducible refine hK _ ?_; clear hK K) | with_reducible apply And.intro)
 refine X9 fun K hK => Xn Xj [] ?_
 simp (maxSteps:=9^7) only [ss, X1, tab, simprocAttr, -List.reduceReplicate, h, List.length_map, Xg Ym kp i [] h, Ym]
 repeat' (first | (with_reducible refine hK _ ?_; clear hK K) | with_reducible apply And.intro)
 refine Yd ?_
 exact Qv (.inr rfl) rfl rfl rfl (fun _ _ => rfl) rfl
def Xhs (d : Dsk) (kp : List Int) : Int := if may d then (if kp.length = d.waits.length then (if kp.all fun x => decide (0 ≤ x) && decide (x < 129) then 0 else 2) else 4) else 8
def Xhq (d : Dsk) (kp : List Int) : Dsk := if Xhs d kp = 0 then Xhe (fun i => (kp.getD i 0).toNat) d else Xhm
theorem Xn4 (d : Dsk) (kp : List Int) (h1 : d.sectors.length ≤ 1000) (h2 : d.waits.length ≤ 1000) (h3 : kp.length ≤ 1000000) :
  Xr Try.prog 19 [A2 d, .sl 1 (kp.map Ym) .sh] [] (.tup [A2 (Xhq d kp), i64 (Xhs d kp)]) [] := by
 refine Xc 3 Try.func19 rfl fun n out _ _ => ?_
 simp only [Try.ntmps19, List.length_cons, List.length_nil, List.length_map, List.length_replicate, Xf, Nat.reduceAdd, Nat.reduceSub, List.replicate, List.cons_append, List.nil_append]
 refine X9 fun K hK => Xn Xj [] ?_
 simp (maxSteps:=9^7) only [ss, X1, tab, simprocAttr, -List.reduceReplicate, A2, Xha]
 repeat' (first | (with_reducible refine hK _ ?_; clear hK K) | with_reducible apply And.intro)
 have bad : ∀ e : Int, e ≠ 0 → Xhs d kp = e → AV.le (.tup [.agg [.sl 0 [] .nil, .sl 0 [] .nil], i64 e]) (.tup [A2 (Xhq d kp), i64 (Xhs d kp)]) := fun e h h' => by
  have h2 : Xhq d kp = Xhm := by unfold Xhq; rw [h', if_neg h]
  rw [h2, h']
  simp only [A2, Xha, Xhm, List.map_nil, E1, sl]
 refine X9 fun KB hKB => ?_
 refine X9 fun K hK => Xn Xj [] ?_
 simp (maxSteps:=9^7) only [ss, X1, tab, simprocAttr, -List.reduceReplicate]
 repeat' (first | (with_reducible refine hK _ ?_; clear hK K) | with_reducible apply And.intro)
 refine Pl (Xjg d h1 h2) ?_
 simp (maxSteps:=9^7) only [ss, X1, tab, simprocAttr, -List.reduceReplicate]
 repeat' (first | (with_reducible refine hK _ ?_; clear hK K) | with_reducible apply And.intro)
 by_cases hm : ¬ may d = true
 ·refine X9 fun K hK => Xn Xj [] ?_
  simp (maxSteps:=9^7) only [ss, X1, tab, simprocAttr, -List.reduceReplicate, Bool.false_eq_true, hm]
  repeat' (first | (with_reducible refine hK _ ?_; clear hK K) | with_reducible apply And.intro)
  refine Wm rfl (Yd ?_)
  refine Xp (.inr rfl) rfl rfl rfl (fun _ _ => rfl) ok43 (k := n + 2) (off := 0) rfl (Xb _ (by simp)) (X6 _ (Nat.le_refl _) 2) rfl rfl (bad 8 (by decide) (by simp [Xhs, hm]))
 have hm : may d = true := by simpa using hm
 refine X9 fun K hK => Xn Xj [] ?_
 simp (maxSteps:=9^7) only [ss, X1, tab, simprocAttr, -List.reduceReplicate, hm]
 repeat' (first | (with_reducible refine hK _ ?_; clear hK K) | with_reducible apply And.intro)
 refine Uy rfl (Z1 (hKB _ ?_))
 clear hKB KB
 by_cases hl : kp.length ≠ d.waits.length
 ·have g : ((kp.length : Int) != (d.waits.length : Int)) = true := by simp; omega
  refine X9 fun KB hKB => ?_
  refine X9 fun K hK => Xn Xj [] ?_
  simp (maxSteps:=9^7) only [ss, X1, tab, simprocAttr, -List.reduceReplicate, List.length_map, g]
  repeat' (first | (with_reducible refine hK _ ?_; clear hK K) | with_reducible apply And.intro)
  refine Wm rfl ?_
  refine X9 fun K hK => Xn Xj [] ?_
  simp (maxSteps:=9^7) only [ss, X1, tab, simprocAttr, -List.reduceReplicate]
  repeat' (first | (with_reducible refine hK _ ?_; clear hK K) | with_reducible apply And.intro)
  refine Yd ?_
  refine Xp (.inr rfl) rfl rfl rfl (fun _ _ => rfl) ok43 (k := n + 2) (off := 0) rfl (Xb _ (by simp)) (X6 _ (Nat.le_refl _) 2) rfl rfl (bad 4 (by decide) (by simp [Xhs, hm, hl]))
 have hl : kp.length = d.waits.length := by omega
 have g : ((kp.length : Int) != (d.waits.length : Int)) = false := by simp; omega
 refine X9 fun KB hKB => ?_
 refine X9 fun K hK => Xn Xj [] ?_
 simp (maxSteps:=9^7) only [ss, X1, tab, simprocAttr, -List.reduceReplicate, List.length_map, g]
 repeat' (first | (with_reducible refine hK _ ?_; clear hK K) | with_reducible apply And.intro)
 refine Uy rfl (Z1 (hKB _ ?_))
 clear hKB KB
 refine X9 fun KB hKB => ?_
 refine X9 fun K hK => Xn Xj [] ?_
 simp (maxSteps:=9^7) only [ss, X1, tab, simprocAttr, -List.reduceReplicate]
 repeat' (first | (with_reducible refine hK _ ?_; clear hK K) | with_reducible apply And.intro)
 refine Pl (Xhl Ym i64 kp _ [] (fun x => !(decide (0 ≤ x) && decide (x < 129))) (hb0 _ (by decide) (by decide)) (by omega) Xj7 fun x _ => Xl3 x) ?_
 have key : (kp.any fun x => !(decide (0 ≤ x) && decide (x < 129))) = !(kp.all fun x => decide (0 ≤ x) && decide (x < 129)) := by simp [List.any_eq_not_all_not]
 rw [key]
 simp (maxSteps:=9^7) only [ss, X1, tab, simprocAttr, -List.reduceReplicate]
 repeat' (first | (with_reducible refine hK _ ?_; clear hK K) | with_reducible apply And.intro)
 by_cases ha : (kp.all fun x => decide (0 ≤ x) && decide (x < 129)) = false
 ·rw [ha]
  refine Wm rfl ?_
  refine X9 fun K hK => Xn Xj [] ?_
  simp (maxSteps:=9^7) only [ss, X1, tab, simprocAttr, -List.reduceReplicate]
  repeat' (first | (with_reducible refine hK _ ?_; clear hK K) | with_reducible apply And.intro)
  refine Yd ?_
  refine Xp (.inr rfl) rfl rfl rfl (fun _ _ => rfl) ok43 (k := n + 2) (off := 0) rfl (Xb _ (by simp)) (X6 _ (Nat.le_refl _) 2) rfl rfl (bad 2 (by decide) (by simp only [Xhs, hm, hl, ha, if_true, if_false, Bool.false_eq_true]))
 have ha : (kp.all fun x => decide (0 ≤ x) && decide (x < 129)) = true := by simpa using ha
 rw [ha]
 refine Uy rfl (Z1 (hKB _ ?_))
 clear hKB KB
 have e : Xhs d kp = 0 := by simp only [Xhs, hm, hl, ha, if_true]
 have e' : Xhq d kp = Xhe (fun i => (kp.getD i 0).toNat) d := by unfold Xhq; rw [if_pos e]
 refine Yy (Zi (i := 1) (t := 3) (e := 31) (cs := [.sl 1 (kp.map Ym) .sh]) 1 (.ref [.sl 1 (kp.map Ym) .sh]) rfl rfl (Fz.ptr 0)) ?_
 simp only [s_0, s_s]
 refine X9 fun K hK => Xn Xj [] ?_
 simp (maxSteps:=9^7) only [ss, X1, tab, simprocAttr, -List.reduceReplicate]
 repeat' (first | (with_reducible refine hK _ ?_; clear hK K) | with_reducible apply And.intro)
 refine Pl (Xkx d _ [.ref [.sl 1 (kp.map Ym) .sh]] (fun i => (kp.getD i 0).toNat) hm (hb0 _ (by decide) (by decide)) fun i hi => ?_) ?_
 ·have hi' : i < kp.length := by omega
  have hg : kp.getD i 0 = kp[i] := by simp [List.getD_eq_getElem?_getD, hi']
  have h5 := List.all_eq_true.1 ha _ (List.getElem_mem hi')
  simp only [Bool.and_eq_true, decide_eq_true_eq] at h5
  simp only [hg]
  refine ⟨by omega, ?_⟩
  have h6 := Xl4 kp i hi'
  rw [show ((kp[i].toNat : Nat) : Int) = kp[i] by omega]
  exact h6
 simp (maxSteps:=9^7) only [ss, X1, tab, simprocAttr, -List.reduceReplicate, A2, Xha]
 repeat' (first | (with_reducible refine hK _ ?_; clear hK K) | with_reducible apply And.intro)
 refine Yd ?_
 refine Xp (.inr rfl) rfl rfl rfl (fun _ _ => rfl) ok43 (k := n + 2) (off := 0) rfl (Xb _ (by simp)) (X6 _ (Nat.le_refl _) 2) rfl rfl ?_
 rw [e, e']
 simp only [A2, Xha, E1, sl]
end Go.Proofs.Ytjgbbjooeibppaa
