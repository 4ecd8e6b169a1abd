/- The layer of abstract values, joined: HC. -/
import Derived.Test.YtgdhnngpfieloaaGreatZGA
import Derived.Test.YtgdhnngpfieloaaGreatZHB
import Derived.WalkKit
import Derived.Lib.Walk
import Derived.Lib.SliceRun
import Derived.Lib.AppendZerosOnto
section
namespace Go.Proofs.YtgdhnngpfieloaaGreat.Hm
set_option linter.unusedVariables false
set_option linter.unusedSimpArgs false
open Go Go.VS Tab Sha Go.RowKit Go.Lib
set_option maxHeartbeats 2000000
set_option maxRecDepth 100000
theorem Xb8 (n : Nat) (w : World) (h0 : 0 < n) (hbig : n * 1 ≤ 140737488355328) (i0 : TypeInfo) (z : Value) (hi0 : Tryz.prog.info? 5 = some i0) (hz0 : i0.zero = some z) (hs0 : 0 < i0.size) (hb0 : i0.bytes = 1) :
  Calls Tryz.prog 77 #[.slice none 0 0, .int .i64 n] w fun e w' =>
   e = .returned (.slice (some ⟨w.heap.size, 0, none⟩) 0 (grownCap w n 0 5)) ∧
   w' = w.drew.alloc (.cells (#[] ++ Builtin.zeroCells z.cells n ++ Builtin.zeroCells z.cells (grownCap w n 0 5 - n)) 5) := by
 have h1 : ¬ ((n : Int) < 0) := by omega
 have h3 : wrap64 ((n : Int) - 0) = (n : Int) := by unfold wrap64; omega
 have h4 : (n : Int) > 0 := by omega
 have hrz : ∀ ty, (Builtin.append_ #[22, 3] ty #[.slice none 0 0, .int .i64 (n : Int)]).run Tryz.prog w =
   .ok (.slice (some ⟨w.heap.size, 0, none⟩) n (grownCap w n 0 5)) (w.drew.alloc (.cells (#[] ++ Builtin.zeroCells z.cells n ++ Builtin.zeroCells z.cells (grownCap w n 0 5 - n)) 5)) := fun ty => by
  have h := Lib.run_append_grow_zeros w 22 3 ty 5 i0 z .i64 .i64 Tryz.underlying22 Tryz.underlying3 hi0 hz0 none 0 0 [] (run_firstCells_none w.drew i0.size 0 0 0) n h0 hs0 (by omega) (by omega)
   (by rw [hb0]; omega) (growslice_fits (by omega) (by rw [hb0]; omega))
  rw [Nat.zero_add] at h
  exact h
 have hGn : n ≤ grownCap w n 0 5 := VS.Vu w _ _ _
 have hG63 : grownCap w n 0 5 ≤ 9223372036854775807 := by
  have := grownCap_le_maxLen w n 0 5 (by unfold maxLen; omega)
  unfold maxLen at this
  omega
 generalize grownCap w n 0 5 = G at hrz hGn hG63 ⊢
 go_enter Tryz.func77, Tryz.ntmps77
 go_wp2_with (at_builtin; refine Lib.wpList_append_run _ rfl _ _ _ _ rfl _ _ rfl rfl _ _ (hrz _) ?_)
 all_goals (go_ret; exact ⟨rfl, rfl⟩)
theorem Xbs (k n : Nat) (hbig : n * 1 ≤ 140737488355328) :
  Xr Tryz.prog 77 [.sl 0 [] .nil, i64 (n : Int)] [(k, none)] (.sl 1 [] (.own k)) [(k, .row 5 1 0)] := by
 by_cases h0 : n = 0
 ·subst h0
  refine Xc 0 Tryz.func77 rfl fun n out _ _ => ?_
  simp only [Tryz.ntmps77, List.length_cons, List.length_nil, List.length_map, List.length_replicate, Xf, Nat.reduceAdd, Nat.reduceSub, List.replicate, List.cons_append, List.nil_append]
  rename_i hneeds hgv
  obtain ⟨hk, _⟩ := hneeds
  obtain ⟨hkn, _⟩ := hgv
  refine Yy (X3x (k := k) 5 1 (by rw [X7 hkn]; trivial) (by rw [X8 hkn]; exact hk)) ?_
  rw [X79 hkn]
  refine X9 fun K hK => Xn Xj [] ?_
  simp (maxSteps:=9^7) only [ss, X1, tab, reduceCtorEq, reduceIte, Nat.reduceEqDiff, Nat.reduceBEq, Int.reduceLE, Int.reduceToNat, Nat.reduceAdd, Nat.reduceLT, Nat.reduceLeDiff]
  (refine hK _ ?_; clear hK K)
  refine X9 fun KA hKA => ?_
  refine X9 fun K hK => Xn Xj [] ?_
  simp (maxSteps:=9^7) only [ss, X1, tab, reduceCtorEq, reduceIte, Nat.reduceEqDiff, Nat.reduceBEq, Int.reduceLE, Int.reduceToNat, Nat.reduceAdd, Nat.reduceLT, Nat.reduceLeDiff, nc]
  (refine hK _ ?_; clear hK K)
  refine Uy rfl (Z1 (hKA _ ?_))
  clear hKA KA
  refine X9 fun KA hKA => ?_
  refine X9 fun K hK => Xn Xj [] ?_
  simp (maxSteps:=9^7) only [ss, X1, tab, reduceCtorEq, reduceIte, Nat.reduceEqDiff, Nat.reduceBEq, Int.reduceLE, Int.reduceToNat, Nat.reduceAdd, Nat.reduceLT, Nat.reduceLeDiff, nc, Int.sub_zero, wrap_i64 (x := 0) (by decide) (by decide)]
  (refine hK _ ?_; clear hK K)
  refine X9 fun K hK => Xn Xj [] ?_
  simp (maxSteps:=9^7) only [ss, X1, tab, reduceCtorEq, reduceIte, Nat.reduceEqDiff, Nat.reduceBEq, Int.reduceLE, Int.reduceToNat, Nat.reduceAdd, Nat.reduceLT, Nat.reduceLeDiff, Int.lt_irrefl, decide_false]
  (refine hK _ ?_; clear hK K)
  refine Uy rfl (Z1 (hKA _ ?_))
  clear hKA KA
  refine X9 fun K hK => Xn Xj [] ?_
  simp (maxSteps:=9^7) only [ss, X1, tab, reduceCtorEq, reduceIte, Nat.reduceEqDiff, Nat.reduceBEq, Int.reduceLE, Int.reduceToNat, Nat.reduceAdd, Nat.reduceLT, Nat.reduceLeDiff]
  (refine hK _ ?_; clear hK K)
  refine Yd ?_
  exact Xv (.inr rfl) rfl rfl rfl (fun _ _ => rfl) (.nil _ _ _ (by intro h; cases h)) rfl
 ·intro M N vs hI hR hn hN hu
  obtain ⟨hl, hr⟩ := hR
  obtain ⟨v0, v1, rfl⟩ : ∃ v0 v1, vs = #[v0, v1] := by
   match vs, hl with
   | ⟨[a, b]⟩, _ => exact ⟨a, b, rfl⟩
  have r0 := hr 0 _ _ rfl rfl
  have r1 := hr 1 _ _ rfl rfl
  obtain rfl : v0 = .slice none 0 0 := by
   cases r0 with
   | nil _ _ a h1 h2 => rw [h2 rfl]
   | slice _ _ _ a cap hs hcap hsz hst hc hmd => exact hmd.elim
  have e1 := Yw r1
  subst e1
  obtain ⟨i0, z, hi0, hi1, hi2, hi3, hi4⟩ := ok5.info
  refine (Xb8 n M.w (by omega) hbig i0 z hi0 hi3 (by rw [hi1]; decide) hi2).mono fun e w' hw => ?_
  obtain ⟨rfl, rfl⟩ := hw
  have hcap := VS.Vu M.w n 0 5
  generalize grownCap M.w n 0 5 = cap at hcap ⊢
  have e0 := Ext.withW (M := M) (w' := M.w.drew) rfl
  have hI0 : Inv (M.withW M.w.drew) := hI.withW rfl rfl rfl rfl
  have hk : Wk (M.withW M.w.drew) k 5 1 0 := .inl hn.1
  have hz1 : z.cells.size = 1 := by
   have := ok5.len
   rw [← hi4] at this
   simpa using this
  have hzs : ∀ m, (Builtin.zeroCells z.cells m).size = m * 1 := fun m => by simp [Builtin.zeroCells, hz1]
  have hzl : ∀ v, v ∈ z.cells.toList → leaf v := fun v hv => by
   rw [hi4] at hv
   exact Uw (List.all_eq_true.1 ok5.leafs v hv)
  refine ⟨_, rfl, (M.withW M.w.drew).moveRow k 5 1 (#[] ++ Builtin.zeroCells z.cells n ++ Builtin.zeroCells z.cells (cap - n)) 0 cap, rfl, e0.trans (Ext.moveRow hI0 hk _ _), hI0.moveRow hk (by simp [hzs]; omega) (Nat.zero_le _) (fun i v h => ?_), fun j _ => rfl, ?_⟩
  ·rw [Array.getElem?_append] at h
   split at h
   ·rw [Array.empty_append] at h; exact Qk hzl (by rw [hz1]; decide) _ _ _ h
   ·exact Qk hzl (by rw [hz1]; decide) _ _ _ h
  ·have hβ : ((M.withW M.w.drew).moveRow k 5 1 (#[] ++ Builtin.zeroCells z.cells n ++ Builtin.zeroCells z.cells (cap - n)) 0 cap).β k = M.w.heap.size := by simp [Mem.moveRow, Mem.withW]
   exact .slice 1 [] (.own k) ⟨M.w.heap.size, 0, none⟩ cap rfl (Nat.zero_le _) (fun row h => by simp at h) (fun o ho => by simp at ho) (fun i j row c v h => by simp at h)
    ⟨5, 0, by simp [Mem.moveRow, Xw], Nat.le_refl _, fun _ => .inr ⟨rfl, hβ.symm, by simp [Mem.moveRow]⟩⟩
theorem Xbg (k : Nat) (a b : List (List AV)) (m0 m1 m2 : Md) (hb : a.length + b.length ≤ 1000000) :
  Xr Tryz.prog 25 [.sl 1 [[.sl 1 a m1], [.sl 1 b m2]] m0] [(k, none)] (.sl 1 (a ++ b) (.own k)) [(k, .row 5 1 (a.length + b.length))] := by
 refine Xc 0 Tryz.func25 rfl fun n out _ _ => ?_
 simp only [Tryz.ntmps25, List.length_cons, List.length_nil, List.length_map, List.length_replicate, Xf, Nat.reduceAdd, Nat.reduceSub, List.replicate, List.cons_append, List.nil_append]
 rename_i hneeds hg
 obtain ⟨hk, _⟩ := hneeds
 obtain ⟨hkn, _⟩ := hg
 obtain ⟨els, hels⟩ : ∃ els, els = [[AV.sl 1 a m1], [AV.sl 1 b m2]] := ⟨_, rfl⟩
 rw [← hels]
 have hl2 : els.length = 2 := by rw [hels]; rfl
 obtain ⟨cat, hcat⟩ : ∃ cat : Nat → List (List AV), cat = fun c => (([a, b] : List (List (List AV))).take c).flatten := ⟨_, rfl⟩
 have elem : ∀ c, c < 2 → ∃ l md, els.getD c [] = [.sl 1 l md] ∧ cat (c + 1) = cat c ++ l := fun c hc => by
  rw [hels, hcat]
  match c, hc with
  | 0, _ => exact ⟨a, m1, rfl, by simp⟩
  | 1, _ => exact ⟨b, m2, rfl, by simp⟩
 have cat0 : cat 0 = [] := by rw [hcat]; rfl
 have cat2 : cat 2 = a ++ b := by rw [hcat]; simp
 have catl : ∀ c, c ≤ 2 → (cat c).length ≤ a.length + b.length := fun c hc => by
  rw [hcat]
  match c, hc with
  | 0, _ => simp
  | 1, _ => simp
  | 2, _ => simp
 refine X9 fun K hK => Xn Xj [] ?_
 simp (maxSteps:=9^7) only [ss, X1, tab, reduceCtorEq, reduceIte, Nat.reduceEqDiff, Nat.reduceBEq, Int.reduceLE, Int.reduceToNat, Nat.reduceAdd, Nat.reduceLT, Nat.reduceLeDiff]
 (refine hK _ ?_; clear hK K)
 refine X9 fun K hK => Xn Xj [] ?_
 simp (maxSteps:=9^7) only [ss, X1, tab, reduceCtorEq, reduceIte, Nat.reduceEqDiff, Nat.reduceBEq, Int.reduceLE, Int.reduceToNat, Nat.reduceAdd, Nat.reduceLT, Nat.reduceLeDiff]
 (refine hK _ ?_; clear hK K)
 refine X9 fun KB hKB => ?_
 refine X9 fun K hK => Xn Xj [] ?_
 simp (maxSteps:=9^7) only [ss, X1, tab, reduceCtorEq, reduceIte, Nat.reduceEqDiff, Nat.reduceBEq, Int.reduceLE, Int.reduceToNat, Nat.reduceAdd, Nat.reduceLT, Nat.reduceLeDiff, hl2]
 (refine hK _ ?_; clear hK K)
 refine Xe ?_
 refine Xz (fun c : Nat => [(11, i64 (c : Int)), (3, i64 (((cat c).length : Nat) : Int)), (5, .top), (12, .top), (13, .top), (14, .top), (15, .top), (16, .top), (17, .top), (18, .top), (19, .top), (20, .top), (21, .top), (22, .top)]) (fun c => []) (fun c => out) (fun c => c ≤ 2) (fun c => 2 - c) 0 (Nat.zero_le _) ?_ fun c hc => ?_
 ·refine X2 ?_ ?_ (by first | rfl | (simp only [cat0, List.length_nil]; rfl) | simp only [cat0, List.length_nil]) rfl rfl rfl <;> simp only [X4, sl, cat0, List.length_nil]
 simp only [X4, s_0, s_s]
 refine X9 fun K hK => Xn Xj [] ?_
 simp (maxSteps:=9^7) only [ss, X1, tab, reduceCtorEq, reduceIte, Nat.reduceEqDiff, Nat.reduceBEq, Int.reduceLE, Int.reduceToNat, Nat.reduceAdd, Nat.reduceLT, Nat.reduceLeDiff, cat0, List.length_nil]
 (refine hK _ ?_; clear hK K)
 refine X9 fun KC hKC => ?_
 refine Uz rfl (fun ht => Z1 (hKC _ ?_)) (fun hf => Qi (id ?_))
 rotate_left
 ·simp only [Qd, Z4, if_true]
  refine hKB _ ?_
  clear hKB KB hKC KC
  have hc2 : c = 2 := by have := of_decide_eq_false hf; omega
  subst hc2
  rw [cat2]
  have hlab : (a ++ b).length = a.length + b.length := List.length_append
  rw [hlab]
  refine X9 fun K hK => Xn Xj [] ?_
  simp (maxSteps:=9^7) only [ss, X1, tab, reduceCtorEq, reduceIte, Nat.reduceEqDiff, Nat.reduceBEq, Int.reduceLE, Int.reduceToNat, Nat.reduceAdd, Nat.reduceLT, Nat.reduceLeDiff]
  skip
  refine Sb (Xbs k _ (by omega)) (by rw [X8 hkn]; exact hk) (by rw [X7 hkn]; trivial) (by simp) ?_
  simp (maxSteps:=9^7) only [ss, X1, tab, reduceCtorEq, reduceIte, Nat.reduceEqDiff, Nat.reduceBEq, Int.reduceLE, Int.reduceToNat, Nat.reduceAdd, Nat.reduceLT, Nat.reduceLeDiff, X8 hkn, X7 hkn, Cz hkn]
  (refine hK _ ?_; clear hK K)
  refine X9 fun KB hKB => ?_
  refine X9 fun K hK => Xn Xj [] ?_
  simp (maxSteps:=9^7) only [ss, X1, tab, reduceCtorEq, reduceIte, Nat.reduceEqDiff, Nat.reduceBEq, Int.reduceLE, Int.reduceToNat, Nat.reduceAdd, Nat.reduceLT, Nat.reduceLeDiff, hl2]
  (refine hK _ ?_; clear hK K)
  refine Xe ?_
  refine Xz (fun c : Nat => [(27, i64 (c : Int)), (6, .sl 1 (cat c) (.own k)), (8, .top), (28, .top), (29, .top), (30, .top), (31, .top), (32, .top), (33, .top), (34, .top)]) (fun c => []) (fun c => Xw out k (.row 5 1 (cat c).length)) (fun c => c ≤ 2) (fun c => 2 - c) 0 (Nat.zero_le _) ?_ fun c hc => ?_
  ·refine X2 ?_ ?_ (by first | rfl | (simp only [cat0, List.length_nil]; rfl) | simp only [cat0, List.length_nil]) rfl rfl rfl <;> simp only [X4, sl, cat0, List.length_nil]
  simp only [X4, s_0, s_s]
  refine X9 fun K hK => Xn Xj [] ?_
  simp (maxSteps:=9^7) only [ss, X1, tab, reduceCtorEq, reduceIte, Nat.reduceEqDiff, Nat.reduceBEq, Int.reduceLE, Int.reduceToNat, Nat.reduceAdd, Nat.reduceLT, Nat.reduceLeDiff, cat0, List.length_nil]
  (refine hK _ ?_; clear hK K)
  refine X9 fun KC hKC => ?_
  refine Uz rfl (fun ht => Z1 (hKC _ ?_)) (fun hf => Qi (id ?_))
  rotate_left
  ·simp only [Qd, Z4, if_true]
   refine hKB _ ?_
   clear hKB KB hKC KC
   have hc2 : c = 2 := by have := of_decide_eq_false hf; omega
   subst hc2
   rw [cat2, hlab]
   refine X9 fun K hK => Xn Xj [] ?_
   simp (maxSteps:=9^7) only [ss, X1, tab, reduceCtorEq, reduceIte, Nat.reduceEqDiff, Nat.reduceBEq, Int.reduceLE, Int.reduceToNat, Nat.reduceAdd, Nat.reduceLT, Nat.reduceLeDiff]
   (refine hK _ ?_; clear hK K)
   refine Yd ?_
   exact Qv (.inr rfl) rfl rfl rfl (fun _ _ => rfl) rfl
  clear hKC KC
  have hc2 : c < 2 := by have := of_decide_eq_true ht; omega
  have hc3 : (c : Int) < 2 := by omega
  obtain ⟨l, md, hel, hct⟩ := elem c hc2
  have hcl := catl (c + 1) (by omega)
  have hcl2 : (cat c).length + l.length = (cat (c + 1)).length := by rw [hct, List.length_append]
  have e3 : (cat (c + 1)).length ≤ 140737488355328 := by omega
  have e4 : (cat (c + 1)).length ≤ 9223372036854775807 := by omega
  refine X9 fun KC hKC => Xe ?_
  refine X9 fun K hK => Xn Xj [] ?_
  simp (maxSteps:=9^7) only [ss, X1, tab, reduceCtorEq, reduceIte, Nat.reduceEqDiff, Nat.reduceBEq, Int.reduceLE, Int.reduceToNat, Nat.reduceAdd, Nat.reduceLT, Nat.reduceLeDiff, hl2, hel, hc2, hc3, nc]
  (refine hK _ ?_; clear hK K)
  refine Xn Xj [] ?_
  simp (maxSteps:=9^7) only [ss, X1, tab, reduceCtorEq, reduceIte, Nat.reduceEqDiff, Nat.reduceBEq, Int.reduceLE, Int.reduceToNat, Nat.reduceAdd, Nat.reduceLT, Nat.reduceLeDiff, hcl2, e3, e4, X8 hkn, X7 hkn, Cz hkn, Xt, Jp]
  repeat refine And.intro (by omega) ?_
  refine hKC _ ?_
  clear hKC KC
  refine Xn Xj [] ?_
  simp (maxSteps:=9^7) only [ss, X1, tab, reduceCtorEq, reduceIte, Nat.reduceEqDiff, Nat.reduceBEq, Int.reduceLE, Int.reduceToNat, Nat.reduceAdd, Nat.reduceLT, Nat.reduceLeDiff, Yl (n := c) 1 1 rfl (by omega)]
  refine ⟨c + 1, by omega, by omega, ?_⟩
  rw [hct]
  refine X2 ?_ ?_ rfl rfl rfl rfl <;> simp only [X4, sl]
 clear hKC KC
 have hc2 : c < 2 := by have := of_decide_eq_true ht; omega
 have hc3 : (c : Int) < 2 := by omega
 obtain ⟨l, md, hel, hct⟩ := elem c hc2
 have hcl := catl (c + 1) (by omega)
 have hcl2 : (cat (c + 1)).length = (cat c).length + l.length := by rw [hct, List.length_append]
 have q1 : IntKind.i64.wrap (((cat c).length : Int) + (l.length : Int)) = (((cat (c + 1)).length : Nat) : Int) := by rw [wrap_i64] <;> omega
 have q2 : decide ((((cat (c + 1)).length : Nat) : Int) < 0) = false := decide_eq_false (by omega)
 refine X9 fun KC hKC => Xe ?_
 refine X9 fun K hK => Xn Xj [] ?_
 simp (maxSteps:=9^7) only [ss, X1, tab, reduceCtorEq, reduceIte, Nat.reduceEqDiff, Nat.reduceBEq, Int.reduceLE, Int.reduceToNat, Nat.reduceAdd, Nat.reduceLT, Nat.reduceLeDiff, hl2, hel, hc2, hc3, nc]
 (refine hK _ ?_; clear hK K)
 refine X9 fun K hK => Xn Xj [] ?_
 simp (maxSteps:=9^7) only [ss, X1, tab, reduceCtorEq, reduceIte, Nat.reduceEqDiff, Nat.reduceBEq, Int.reduceLE, Int.reduceToNat, Nat.reduceAdd, Nat.reduceLT, Nat.reduceLeDiff, q1]
 (refine hK _ ?_; clear hK K)
 refine X9 fun K hK => Xn Xj [] ?_
 simp (maxSteps:=9^7) only [ss, X1, tab, reduceCtorEq, reduceIte, Nat.reduceEqDiff, Nat.reduceBEq, Int.reduceLE, Int.reduceToNat, Nat.reduceAdd, Nat.reduceLT, Nat.reduceLeDiff, q2]
 (refine hK _ ?_; clear hK K)
 refine Uy rfl (Z1 (id ?_))
 simp only [Z4, Qd]
 refine hKC _ ?_
 clear hKC KC
 refine Xn Xj [] ?_
 simp (maxSteps:=9^7) only [ss, X1, tab, reduceCtorEq, reduceIte, Nat.reduceEqDiff, Nat.reduceBEq, Int.reduceLE, Int.reduceToNat, Nat.reduceAdd, Nat.reduceLT, Nat.reduceLeDiff, Yl (n := c) 1 1 rfl (by omega)]
 refine ⟨c + 1, by omega, by omega, ?_⟩
 refine X2 ?_ ?_ rfl rfl rfl rfl <;> simp only [X4, sl]
end Go.Proofs.YtgdhnngpfieloaaGreat.Hm
end
section
namespace Go.Proofs.YtgdhnngpfieloaaGreat.Hm
set_option linter.unusedVariables false
set_option linter.unusedSimpArgs false
open Go Go.VS Tab Sha
set_option maxHeartbeats 2000000
set_option maxRecDepth 4000
def Xa3 (key : List UInt8) (x : UInt8) : List UInt8 := key.map (· ^^^ x)
def Xax (key : List UInt8) : List UInt8 := key ++ List.replicate (64 - key.length) 0
def Xa5 (key b : List UInt8) : List UInt8 := Xb7 (Xa3 (Xax key) 54 ++ b)
def Xaa (key b : List UInt8) : List UInt8 := Xb7 (Xa3 (Xax key) 92 ++ Xa5 key b)
def mk (key : List UInt8) (x : UInt8) (c : Nat) : List UInt8 := (key.take c).map (· ^^^ x) ++ key.drop c
theorem Xcl (key : List UInt8) (x : UInt8) (c : Nat) : (mk key x c).length = key.length := by simp [mk]; omega
theorem Xe4 (key : List UInt8) (x : UInt8) (c : Nat) (h : c < key.length) : (mk key x c).getD c 0 = key.getD c 0 := by
 rw [mk, List.getD_eq_getElem?_getD, List.getElem?_append_right (by simp; omega), List.getElem?_drop]
 simp [List.getD_eq_getElem?_getD]
 congr 2; omega
theorem Xe5 (key : List UInt8) (x : UInt8) (c : Nat) (h : c < key.length) : (mk key x c).set c (key.getD c 0 ^^^ x) = mk key x (c + 1) := by
 rw [mk, mk, List.set_append, if_neg (by simp; omega), List.take_succ_eq_append_getElem h, List.map_append, List.drop_eq_getElem_cons h]
 have e : c - ((key.take c).map (· ^^^ x)).length = 0 := by simp; omega
 rw [e, List.set_cons_zero, List.getD_eq_getElem?_getD, List.getElem?_eq_getElem h]
 simp
theorem Xe6 (key : List UInt8) (x : UInt8) : mk key x key.length = Xa3 key x := by simp [mk, Xa3]
theorem Xdf (key : List UInt8) (x : UInt8) (b : List UInt8) (md : Md) (hk : key.length = 64) (hb : b.length ≤ 800000) :
  Xr Tryz.prog 23 [b8 x, .sl 1 (Xo b) md, .ref (key.map b8)] [] (.agg ((Xb7 (Xa3 key x ++ b)).map b8)) [] := by
 refine Xc 3 Tryz.func23 rfl fun n out _ _ => ?_
 simp only [Tryz.ntmps23, List.length_cons, List.length_nil, List.length_map, List.length_replicate, Xf, Nat.reduceAdd, Nat.reduceSub, List.replicate, List.cons_append, List.nil_append]
 refine X9 fun K hK => Xn Xj [] ?_
 simp (maxSteps:=9^7) only [ss, X1, tab, reduceCtorEq, reduceIte, Nat.reduceEqDiff, Nat.reduceBEq, Int.reduceLE, Int.reduceToNat, Nat.reduceAdd, Nat.reduceLT, Nat.reduceLeDiff]
 (refine hK _ ?_; clear hK K)
 refine X9 fun K hK => Xn Xj [] ?_
 simp (maxSteps:=9^7) only [ss, X1, tab, reduceCtorEq, reduceIte, Nat.reduceEqDiff, Nat.reduceBEq, Int.reduceLE, Int.reduceToNat, Nat.reduceAdd, Nat.reduceLT, Nat.reduceLeDiff, E6, hk, X0]
 (refine hK _ ?_; clear hK K)
 refine X9 fun KB hKB => ?_
 refine X9 fun K hK => Xn Xj [] ?_
 simp (maxSteps:=9^7) only [ss, X1, tab, reduceCtorEq, reduceIte, Nat.reduceEqDiff, Nat.reduceBEq, Int.reduceLE, Int.reduceToNat, Nat.reduceAdd, Nat.reduceLT, Nat.reduceLeDiff]
 (refine hK _ ?_; clear hK K)
 refine Xe ?_
 have ez : key.map b8 = (mk key x 0).map b8 := by simp [mk]
 refine X9z (fun c : Nat => [(9, i64 (c : Int)), (7, .top), (10, .top), (11, .top), (12, .top), (13, .top), (14, .top), (15, .top), (16, .top), (17, .top), (18, .top)]) (fun c => [some (.box 47 (List.replicate 32 (.val (.int .u8 0)))), some (.box 67 ((mk key x c).map b8)), none]) (fun c => c ≤ 64) (fun c => 64 - c) 0 (by omega) ?_ fun c hc => ?_
 ·rw [← ez]
  refine X2 ?_ ?_ rfl rfl rfl rfl <;> simp only [X4, sl]
 simp only [X4, s_0, s_s]
 refine X9 fun K hK => Xn Xj [] ?_
 simp (maxSteps:=9^7) only [ss, X1, tab, reduceCtorEq, reduceIte, Nat.reduceEqDiff, Nat.reduceBEq, Int.reduceLE, Int.reduceToNat, Nat.reduceAdd, Nat.reduceLT, Nat.reduceLeDiff, Int.reduceLT]
 (refine hK _ ?_; clear hK K)
 refine I0 (Uz rfl (fun ht => Z1 (id ?_)) (fun hf => Qi (id ?_)))
 rotate_left
 ·simp only [Qd, Z4, if_true]
  refine hKB _ ?_
  clear hKB KB
  have hc2 : c = 64 := by have := of_decide_eq_false hf; omega
  subst hc2
  have em : mk key x 64 = Xa3 key x := by rw [← hk]; exact Xe6 key x
  rw [em]
  have hml : (Xa3 key x).length = 64 := by simp [Xa3, hk]
  refine Yy (Xa9 (i := 1) 1 (e := 67) (cs := (Xa3 key x).map b8) rfl (by simp)) ?_
  simp only [List.map_cons, List.map_nil, AV.frz, Xcu, Xcv, s_0, s_s, Nat.add_left_cancel_iff, reduceCtorEq, if_true, if_false, Nat.reduceEqDiff, reduceIte, List.drop_zero]
  have hb64 : (Xo (Xa3 key x)).length = 64 := by rw [X5]; exact hml
  have hml2 : 64 ≤ (Xa3 key x).length := Nat.le_of_eq hml.symm
  refine X9 fun K hK => Xn Xj [] ?_
  simp (maxSteps:=9^7) only [ss, tab, reduceCtorEq, reduceIte, Nat.reduceEqDiff, Nat.reduceBEq, Int.reduceLE, Int.reduceToNat, Nat.reduceAdd, Nat.reduceLT, Nat.reduceLeDiff, P6, Nh, Nat.sub_zero, Xa1 _ hml, List.take_of_length_le (Nat.le_of_eq hb64), hml2]
  skip
  refine Xal 1 [[.sl 1 (Xo (Xa3 key x)) .sh], [.sl 1 (Xo b) md]] rfl ?_
  simp (maxSteps:=9^7) only [ss, X1, tab, reduceCtorEq, reduceIte, Nat.reduceEqDiff, Nat.reduceBEq, Int.reduceLE, Int.reduceToNat, Nat.reduceAdd, Nat.reduceLT, Nat.reduceLeDiff]
  have hs := Vc (Xa3 key x ++ b)
  refine Sb (Xbg (n + 2) (Xo (Xa3 key x)) (Xo b) .full .sh md (by simp only [X5]; omega)) (X6 _ (Nat.le_refl _) 2) (Xb _ (by simp)) (by simp) ?_
  simp (maxSteps:=9^7) only [ss, X1, tab, reduceCtorEq, reduceIte, Nat.reduceEqDiff, Nat.reduceBEq, Int.reduceLE, Int.reduceToNat, Nat.reduceAdd, Nat.reduceLT, Nat.reduceLeDiff, L6]
  refine X3 (Xdb (Xee (Xa3 key x ++ b) (by rw [List.length_append]; omega)) ⟨.sh _ _ _, trivial⟩) ?_
  simp (maxSteps:=9^7) only [ss, X1, tab, reduceCtorEq, reduceIte, Nat.reduceEqDiff, Nat.reduceBEq, Int.reduceLE, Int.reduceToNat, Nat.reduceAdd, Nat.reduceLT, Nat.reduceLeDiff, X0, hs]
  (refine hK _ ?_; clear hK K)
  refine Yd ?_
  exact X1b (.inr rfl) rfl rfl rfl (fun _ _ => rfl) ok47 (k := n + 0) (off := 0) rfl (Xb _ (by simp)) (X6 _ (Nat.le_refl _) 0) (E6 (by simp [hs]))
 have hc2 : c < 64 := by have := of_decide_eq_true ht; omega
 have hc3 : (c : Int) < 64 := by omega
 have hc4 : c ≤ 63 := by omega
 have hml := Xcl key x c
 rw [hk] at hml
 refine X9 fun KC hKC => Xe ?_
 refine X9 fun K hK => Xn Xj [] ?_
 simp (maxSteps:=9^7) only [ss, X1, tab, reduceCtorEq, reduceIte, Nat.reduceEqDiff, Nat.reduceBEq, Int.reduceLE, Int.reduceToNat, Nat.reduceAdd, Nat.reduceLT, Nat.reduceLeDiff]
 (refine hK _ ?_; clear hK K)
 refine Xn Xj [] ?_
 simp (maxSteps:=9^7) only [ss, X1, tab, reduceCtorEq, reduceIte, Nat.reduceEqDiff, Nat.reduceBEq, Int.reduceLE, Int.reduceToNat, Nat.reduceAdd, Nat.reduceLT, Nat.reduceLeDiff, hc3, hc2, hc4, nc, hml, X0z 1 b8 (mk key x c) c 0 (by omega), Xc6]
 refine hKC _ ?_
 clear hKC KC
 have q1 : Yf ((mk key x c).map b8) c [b8 ((mk key x c).getD c 0 ^^^ x)] = (mk key x (c + 1)).map b8 := by
  rw [F7 b8 _ _ _ (by omega), Xe4 key x c (by omega), Xe5 key x c (by omega)]
 rw [q1]
 refine Xn Xj [] ?_
 simp (maxSteps:=9^7) only [ss, X1, tab, reduceCtorEq, reduceIte, Nat.reduceEqDiff, Nat.reduceBEq, Int.reduceLE, Int.reduceToNat, Nat.reduceAdd, Nat.reduceLT, Nat.reduceLeDiff, Yl (n := c) 1 1 rfl (by omega)]
 refine ⟨c + 1, by omega, by omega, ?_⟩
 refine X2 ?_ ?_ rfl rfl rfl rfl <;> simp only [X4, sl]
theorem Xae (key : List UInt8) (h : key.length ≤ 64) : (Xax key).length = 64 := by simp [Xax]; omega
theorem Xak (key : List UInt8) (x : UInt8) : (Xa3 key x).length = key.length := by simp [Xa3]
def Xdg : List UInt8 := List.replicate 32 0
def Xe7 (key b : List UInt8) : AV := if key.length ≤ 64 then .tup [.agg ((Xaa key b).map b8), i64 0] else .tup [.agg (Xdg.map b8), i64 3]
theorem Xca (key : List UInt8) (h : key.length ≤ 64) : Yf (List.replicate 64 (AV.val (.int .u8 0))) 0 ((Xo key).take 64).flatten = (Xax key).map b8 := by
 have e : (Xo key).take 64 = Xo key := List.take_of_length_le (by rw [X5]; exact h)
 rw [e, Xa7]
 simp only [Yf, List.take_zero, List.nil_append, Nat.zero_add, List.length_map, List.drop_replicate, Xax, List.map_append, List.map_replicate]
 rfl
theorem Xe8 (key b : List UInt8) (m1 m2 : Md) (hb : b.length ≤ 800000) :
  Xr Tryz.prog 12 [.sl 1 (Xo key) m1, .sl 1 (Xo b) m2] [] (Xe7 key b) [] := by
 refine Xc 3 Tryz.func12 rfl fun n out _ _ => ?_
 simp only [Tryz.ntmps12, List.length_cons, List.length_nil, List.length_map, List.length_replicate, Xf, Nat.reduceAdd, Nat.reduceSub, List.replicate, List.cons_append, List.nil_append]
 refine X9 fun K hK => Xn Xj [] ?_
 simp (maxSteps:=9^7) only [ss, X1, tab, reduceCtorEq, reduceIte, Nat.reduceEqDiff, Nat.reduceBEq, Int.reduceLE, Int.reduceToNat, Nat.reduceAdd, Nat.reduceLT, Nat.reduceLeDiff]
 (refine hK _ ?_; clear hK K)
 refine X9 fun KB hKB => ?_
 by_cases hk : key.length ≤ 64
 ·have g2 : decide ((key.length : Int) > 64) = false := decide_eq_false (by omega)
  refine X9 fun K hK => Xn Xj [] ?_
  simp (maxSteps:=9^7) only [ss, X1, tab, reduceCtorEq, reduceIte, Nat.reduceEqDiff, Nat.reduceBEq, Int.reduceLE, Int.reduceToNat, Nat.reduceAdd, Nat.reduceLT, Nat.reduceLeDiff, X5, g2]
  (refine hK _ ?_; clear hK K)
  refine Uy rfl (Z1 (hKB _ ?_))
  clear hKB KB
  refine X9 fun K hK => Xn Xj [] ?_
  simp (maxSteps:=9^7) only [ss, X1, tab, reduceCtorEq, reduceIte, Nat.reduceEqDiff, Nat.reduceBEq, Int.reduceLE, Int.reduceToNat, Nat.reduceAdd, Nat.reduceLT, Nat.reduceLeDiff]
  (refine hK _ ?_; clear hK K)
  refine X9 fun K hK => Xn Xj [] ?_
  simp (maxSteps:=9^7) only [ss, X1, tab, reduceCtorEq, reduceIte, Nat.reduceEqDiff, Nat.reduceBEq, Int.reduceLE, Int.reduceToNat, Nat.reduceAdd, Nat.reduceLT, Nat.reduceLeDiff, P6, Nh, Nat.sub_zero, X5]
  repeat' (first | (with_reducible refine hK _ ?_; clear hK K) | with_reducible apply And.intro)
  ·exact Nat.min_le_right _ _
  rw [Xca key hk]
  have hpl := Xae key hk
  refine Yy (Xa9 (i := 1) 1 (e := 67) (cs := (Xax key).map b8) rfl (by simp [hpl])) ?_
  simp only [List.map_cons, List.map_nil, AV.frz, Xcu, Xcv, s_0, s_s, Nat.add_left_cancel_iff, reduceCtorEq, if_true, if_false, Nat.reduceEqDiff, reduceIte, List.drop_zero]
  refine X9 fun K hK => Xn Xj [] ?_
  simp (maxSteps:=9^7) only [ss, X1, tab, reduceCtorEq, reduceIte, Nat.reduceEqDiff, Nat.reduceBEq, Int.reduceLE, Int.reduceToNat, Nat.reduceAdd, Nat.reduceLT, Nat.reduceLeDiff]
  (refine hK _ ?_; clear hK K)
  refine X9 fun K hK => Xn Xj [] ?_
  simp (maxSteps:=9^7) only [ss, X1, tab, reduceCtorEq, reduceIte, Nat.reduceEqDiff, Nat.reduceBEq, Int.reduceLE, Int.reduceToNat, Nat.reduceAdd, Nat.reduceLT, Nat.reduceLeDiff]
  skip
  refine X3 (Xdf (Xax key) 54 b m2 hpl hb) ?_
  have hi32 : (Xa5 key b).length = 32 := Vc _
  have hid : Xb7 (Xa3 (Xax key) 54 ++ b) = Xa5 key b := rfl
  rw [hid]
  simp (maxSteps:=9^7) only [ss, X1, tab, reduceCtorEq, reduceIte, Nat.reduceEqDiff, Nat.reduceBEq, Int.reduceLE, Int.reduceToNat, Nat.reduceAdd, Nat.reduceLT, Nat.reduceLeDiff, X0, hi32]
  (refine hK _ ?_; clear hK K)
  refine Yy (Xa9 (i := 2) 1 (e := 47) (cs := (Xa5 key b).map b8) rfl (by simp)) ?_
  simp only [List.map_cons, List.map_nil, AV.frz, Xcu, Xcv, s_0, s_s, Nat.add_left_cancel_iff, reduceCtorEq, if_true, if_false, Nat.reduceEqDiff, reduceIte, List.drop_zero]
  have hib : (Xo (Xa5 key b)).length = 32 := by rw [X5]; exact hi32
  have hi33 : 32 ≤ (Xa5 key b).length := Nat.le_of_eq hi32.symm
  refine X9 fun K hK => Xn Xj [] ?_
  simp (maxSteps:=9^7) only [ss, X1, tab, reduceCtorEq, reduceIte, Nat.reduceEqDiff, Nat.reduceBEq, Int.reduceLE, Int.reduceToNat, Nat.reduceAdd, Nat.reduceLT, Nat.reduceLeDiff, P6, Nh, Nat.sub_zero, Xa1 _ hi32, List.take_of_length_le (Nat.le_of_eq hib), hi33]
  skip
  refine X3 (Xdf (Xax key) 92 (Xa5 key b) .sh hpl (by omega)) ?_
  have htd : Xb7 (Xa3 (Xax key) 92 ++ Xa5 key b) = Xaa key b := rfl
  rw [htd]
  have ht32 : (Xaa key b).length = 32 := Vc _
  simp (maxSteps:=9^7) only [ss, X1, tab, reduceCtorEq, reduceIte, Nat.reduceEqDiff, Nat.reduceBEq, Int.reduceLE, Int.reduceToNat, Nat.reduceAdd, Nat.reduceLT, Nat.reduceLeDiff, X0, ht32]
  (refine hK _ ?_; clear hK K)
  refine Yd ?_
  have e : Xe7 key b = .tup [.agg ((Xaa key b).map b8), i64 0] := if_pos hk
  rw [e]
  exact Tu (.inr rfl) rfl rfl rfl (fun _ _ => rfl) ok47 (k := n + 0) (off := 0) rfl (Xb _ (by simp)) (X6 _ (Nat.le_refl _) 0) (E6 (by simp [ht32])) rfl
 have g2 : decide ((key.length : Int) > 64) = true := decide_eq_true (by omega)
 refine X9 fun K hK => Xn Xj [] ?_
 simp (maxSteps:=9^7) only [ss, X1, tab, reduceCtorEq, reduceIte, Nat.reduceEqDiff, Nat.reduceBEq, Int.reduceLE, Int.reduceToNat, Nat.reduceAdd, Nat.reduceLT, Nat.reduceLeDiff, X5, g2]
 (refine hK _ ?_; clear hK K)
 refine Wm rfl ?_
 refine X9 fun K hK => Xn Xj [] ?_
 simp (maxSteps:=9^7) only [ss, X1, tab, reduceCtorEq, reduceIte, Nat.reduceEqDiff, Nat.reduceBEq, Int.reduceLE, Int.reduceToNat, Nat.reduceAdd, Nat.reduceLT, Nat.reduceLeDiff, X0]
 (refine hK _ ?_; clear hK K)
 refine Yd ?_
 have e : Xe7 key b = .tup [.agg (Xdg.map b8), i64 3] := if_neg hk
 rw [e]
 exact Tu (.inr rfl) rfl rfl rfl (fun _ _ => rfl) ok47 (k := n + 0) (off := 0) rfl (Xb _ (by simp)) (X6 _ (Nat.le_refl _) 0) rfl rfl
def odd (x y : List UInt8) : Nat → UInt8
 | 0 => 0
 | c + 1 => odd x y c ||| (x.getD c 0 ^^^ y.getD c 0)
theorem Xc3 (x y : List UInt8) : ∀ c, odd x y c = 0 ↔ ∀ i, i < c → x.getD i 0 = y.getD i 0
 | 0 => by simp [odd]
 | c + 1 => by
  rw [odd, UInt8.or_eq_zero_iff, UInt8.xor_eq_zero_iff, Xc3 x y c]
  constructor
  ·rintro ⟨h1, h2⟩ i hi
   rcases Nat.lt_or_ge i c with h | h
   ·exact h1 i h
   ·have : i = c := by omega
    subst this; exact h2
  ·intro h
   exact ⟨fun i hi => h i (by omega), h c (by omega)⟩
theorem Xd5 (x y : List UInt8) (hx : x.length = 32) (hy : y.length = 32) : (((odd x y 32).toNat : Int) == 0) = (x == y) := by
 rw [Bool.eq_iff_iff, beq_iff_eq, beq_iff_eq]
 have h0 : (((odd x y 32).toNat : Int) = 0) ↔ odd x y 32 = 0 := by
  constructor
  ·intro h; exact UInt8.toNat_inj.1 (by show _ = 0; omega)
  ·intro h; rw [h]; rfl
 rw [h0, Xc3]
 constructor
 ·intro h
  refine List.ext_getElem (by rw [hx, hy]) fun i h1 h2 => ?_
  have := h i (by omega)
  rw [List.getD_eq_getElem?_getD, List.getD_eq_getElem?_getD, List.getElem?_eq_getElem h1, List.getElem?_eq_getElem h2] at this
  exact this
 ·rintro rfl i _; rfl
theorem Xe9 (x y : List UInt8) (hx : x.length = 32) (hy : y.length = 32) : Xr Tryz.prog 15 [.agg (x.map b8), .agg (y.map b8)] [] (.val (.bool (x == y))) [] := by
 refine Xc 2 Tryz.func15 rfl fun n out _ _ => ?_
 simp only [Tryz.ntmps15, List.length_cons, List.length_nil, List.length_map, List.length_replicate, Xf, Nat.reduceAdd, Nat.reduceSub, List.replicate, List.cons_append, List.nil_append]
 refine X9 fun K hK => Xn Xj [] ?_
 simp (maxSteps:=9^7) only [ss, X1, tab, reduceCtorEq, reduceIte, Nat.reduceEqDiff, Nat.reduceBEq, Int.reduceLE, Int.reduceToNat, Nat.reduceAdd, Nat.reduceLT, Nat.reduceLeDiff]
 (refine hK _ ?_; clear hK K)
 refine X9 fun K hK => Xn Xj [] ?_
 simp (maxSteps:=9^7) only [ss, X1, tab, reduceCtorEq, reduceIte, Nat.reduceEqDiff, Nat.reduceBEq, Int.reduceLE, Int.reduceToNat, Nat.reduceAdd, Nat.reduceLT, Nat.reduceLeDiff]
 (refine hK _ ?_; clear hK K)
 refine X9 fun KB hKB => ?_
 refine X9 fun K hK => Xn Xj [] ?_
 simp (maxSteps:=9^7) only [ss, X1, tab, reduceCtorEq, reduceIte, Nat.reduceEqDiff, Nat.reduceBEq, Int.reduceLE, Int.reduceToNat, Nat.reduceAdd, Nat.reduceLT, Nat.reduceLeDiff, E6, hx]
 (refine hK _ ?_; clear hK K)
 refine Xe ?_
 refine Xb6 (fun c : Nat => [(5, b8 (odd x y c)), (9, i64 (c : Int)), (6, .top), (7, .top), (10, .top), (11, .top), (12, .top), (13, .top), (14, .top), (15, .top), (16, .top), (17, .top), (18, .top), (19, .top), (20, .top)]) (fun c => c ≤ 32) (fun c => 32 - c) 0 (by omega) ?_ fun c hc => ?_
 ·simp only [X4, s_0, s_s, X18, X4a, Co, Fe, Py, J1, true_and, and_true]
  exact ⟨.rfl _, .rfl _⟩
 simp only [X4, s_0, s_s]
 refine X9 fun K hK => Xn Xj [] ?_
 simp (maxSteps:=9^7) only [ss, X1, tab, reduceCtorEq, reduceIte, Nat.reduceEqDiff, Nat.reduceBEq, Int.reduceLE, Int.reduceToNat, Nat.reduceAdd, Nat.reduceLT, Nat.reduceLeDiff, Int.reduceLT]
 (refine hK _ ?_; clear hK K)
 refine I0 (Uz rfl (fun ht => Z1 (id ?_)) (fun hf => Qi (id ?_)))
 rotate_left
 ·simp only [Qd, Z4, if_true]
  refine hKB _ ?_
  clear hKB KB
  have hc2 : c = 32 := by have := of_decide_eq_false hf; omega
  subst hc2
  refine X9 fun K hK => Xn Xj [] ?_
  simp (maxSteps:=9^7) only [ss, X1, tab, reduceCtorEq, reduceIte, Nat.reduceEqDiff, Nat.reduceBEq, Int.reduceLE, Int.reduceToNat, Nat.reduceAdd, Nat.reduceLT, Nat.reduceLeDiff, Xd5 x y hx hy]
  (refine hK _ ?_; clear hK K)
  refine Yd ?_
  exact Qv (.inr rfl) rfl rfl rfl (fun _ _ => rfl) rfl
 have hc2 : c < 32 := by have := of_decide_eq_true ht; omega
 have hc3 : (c : Int) < 32 := by omega
 refine X9 fun KC hKC => Xe ?_
 refine X9 fun K hK => Xn Xj [] ?_
 simp (maxSteps:=9^7) only [ss, X1, tab, reduceCtorEq, reduceIte, Nat.reduceEqDiff, Nat.reduceBEq, Int.reduceLE, Int.reduceToNat, Nat.reduceAdd, Nat.reduceLT, Nat.reduceLeDiff, hx, hc2, hc3, nc, X0z 1 b8 x c 0 (by omega)]
 (refine hK _ ?_; clear hK K)
 refine Xn Xj [] ?_
 simp (maxSteps:=9^7) only [ss, X1, tab, reduceCtorEq, reduceIte, Nat.reduceEqDiff, Nat.reduceBEq, Int.reduceLE, Int.reduceToNat, Nat.reduceAdd, Nat.reduceLT, Nat.reduceLeDiff, hy, hc2, hc3, nc, X0z 1 b8 y c 0 (by omega), Xc6, Xeh]
 refine hKC _ ?_
 clear hKC KC
 refine Xn Xj [] ?_
 simp (maxSteps:=9^7) only [ss, X1, tab, reduceCtorEq, reduceIte, Nat.reduceEqDiff, Nat.reduceBEq, Int.reduceLE, Int.reduceToNat, Nat.reduceAdd, Nat.reduceLT, Nat.reduceLeDiff, Yl (n := c) 1 1 rfl (by omega)]
 refine ⟨c + 1, by omega, by omega, ?_⟩
 refine X2 ?_ ?_ rfl rfl rfl rfl <;> simp only [X4, sl]
 exact .rfl _
end Go.Proofs.YtgdhnngpfieloaaGreat.Hm
end
