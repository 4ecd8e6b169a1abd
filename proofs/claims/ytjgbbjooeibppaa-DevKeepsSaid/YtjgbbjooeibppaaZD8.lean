/-
 Disks copied; writes put behind.
-/
import Derived.Test.YtjgbbjooeibppaaZGA
import Derived.Test.YtjgbbjooeibppaaZD7
namespace Go.Proofs.Ytjgbbjooeibppaa
set_option linter.unusedVariables false
set_option linter.unusedSimpArgs false
open Go Go.VS Tab
set_option maxHeartbeats 1000000
set_option maxRecDepth 4000
structure Small (d : Dsk) : Prop where
 s : d.sectors.length ≤ 1000
 w : d.waits.length ≤ 1000
 sb : ∀ b, b ∈ d.sectors → b.length ≤ 1000000
 wb : ∀ w, w ∈ d.waits → w.data.length ≤ 1000000
theorem Xnq (k : Nat) (d : Dsk) (hd : Small d) : Xr Try.prog 16 [A2 d] [(k, none)] (.agg [.sl 1 (d.sectors.map Y6) .sh, .sl 2 (d.waits.map wrC) (.own k)]) [(k, .row 76 2 d.waits.length)] := by
 refine Xc 4 Try.func16 rfl fun n out _ _ => ?_
 simp only [Try.ntmps16, List.length_cons, List.length_nil, List.length_map, List.length_replicate, Xf, Nat.reduceAdd, Nat.reduceSub, List.replicate, List.cons_append, List.nil_append]
 rename_i hneeds hgv
 obtain ⟨hk, _⟩ := hneeds
 obtain ⟨hkn, _⟩ := hgv
 refine X9 fun K hK => Xn Xj [] ?_
 simp (maxSteps:=9^7) only [ss, X1, tab, simprocAttr, -List.reduceReplicate, A2, Xha]
 repeat' (first | (with_reducible refine hK _ ?_; clear hK K) | with_reducible apply And.intro)
 refine X9 fun K hK => Ny Xj [] [[], [0], [2], [], [0], [3], [], [1]] [[], [], [2], [], [], [3], [], [1]] follows (by kernel_rfl) (by decide) (by decide) (by kernel_rfl) ?_
 simp (maxSteps:=9^7) only [ss, X1, tab, simprocAttr, -List.reduceReplicate]
 repeat' (first | (with_reducible refine hK _ ?_; clear hK K) | with_reducible apply And.intro)
 refine Sb (Xl9 (n + 2) d.sectors _ [] bs Y6 (hb0 _ (by decide) (by decide)) (by have := hd.s; omega) (fun _ => rfl) (fun _ => rfl) fun l hl => Xds l (by have := hd.sb l hl; omega)) (X6 _ (Nat.le_refl _) 2) (Xb _ (by simp)) (by simp) ?_
 simp (maxSteps:=9^7) only [ss, X1, tab, simprocAttr, -List.reduceReplicate]
 refine Sb (Xkc (n + 3) d.waits _ [] wrA wrC (hb0 _ (by decide) (by decide)) (by have := hd.w; omega) (fun _ => rfl) (fun _ => rfl) fun w hw => Xkw w (by have := hd.wb w hw; omega)) (X6 _ (Nat.le_refl _) 3) (Xb _ (by simp)) (by simp) ?_
 simp (maxSteps:=9^7) only [ss, X1, tab, simprocAttr, -List.reduceReplicate]
 repeat' (first | (with_reducible refine hK _ ?_; clear hK K) | with_reducible apply And.intro)
 refine Yy (Ja (i := 3) (k := k) rfl (by exact hkn) (by exact hk)) ?_
 simp only [List.map_cons, List.map_nil, Option.map_some, Option.map_none, Res.ren1, AV.ren1, Nat.add_left_cancel_iff, Nat.reduceEqDiff, Nat.one_ne_zero, reduceIte, Wy, s_0, s_s]
 refine Yd ?_
 exact Xu (.inr rfl) rfl rfl rfl (fun _ _ => rfl) ok43 (k := n + 1) (off := 0) rfl (Xb _ (by simp)) (X6 _ (Nat.le_refl _) 1) rfl (by simp only [E1, sl])
def Xhm : Dsk := ⟨[], []⟩
def Xjh (d : Dsk) (at' : Int) (b : List UInt8) : Dsk := ⟨d.sectors, d.waits ++ [⟨at', b⟩]⟩
def Xbb (d : Dsk) (at' : Int) (b : List UInt8) : Int := if may d then (if decide (0 ≤ at') && decide (at' < 32) then (if b.length = 128 then (if d.waits.length = 256 then 9 else 0) else 3) else 2) else 8
def Xhr (d : Dsk) (at' : Int) (b : List UInt8) : Dsk := if Xbb d at' b = 0 then Xjh d at' b else Xhm
theorem Xdu (d : Dsk) (at' : Int) (b : List UInt8) (hd : Small d) (hb : b.length ≤ 1000000) : Xr Try.prog 17 [A2 d, i64 at', bs b] [] (.tup [A2 (Xhr d at' b), i64 (Xbb d at' b)]) [] := by
 refine Xc 3 Try.func17 rfl fun n out _ _ => ?_
 simp only [Try.ntmps17, List.length_cons, List.length_nil, List.length_map, List.length_replicate, Xf, Nat.reduceAdd, Nat.reduceSub, List.replicate, List.cons_append, List.nil_append]
 refine X9 fun K hK => Xn Xj [] ?_
 simp (maxSteps:=9^7) only [ss, X1, tab, simprocAttr, -List.reduceReplicate, A2, Xha]
 repeat' (first | (with_reducible refine hK _ ?_; clear hK K) | with_reducible apply And.intro)
 obtain ⟨a, ha⟩ : ∃ a, a = (if may d then (if decide (0 ≤ at') && decide (at' < 32) then (0 : Int) else 2) else 8) := ⟨_, rfl⟩
 refine X9 fun KB hKB => ?_
 refine X9 fun K hK => Ny Xj [] [[0], [], [], [], []] [[], [], [], [], []] follows (by kernel_rfl) (by decide) (by decide) (by kernel_rfl) ?_
 simp (maxSteps:=9^7) only [ss, X1, tab, simprocAttr, -List.reduceReplicate]
 repeat' (first | (with_reducible refine hK _ ?_; clear hK K) | with_reducible apply And.intro)
 refine Pl (Xht at' 32) ?_
 simp (maxSteps:=9^7) only [ss, X1, tab, simprocAttr, -List.reduceReplicate]
 refine Pl (Xiw d _ hd.s hd.w) ?_
 simp (maxSteps:=9^7) only [ss, X1, tab, simprocAttr, -List.reduceReplicate]
 repeat' (first | (with_reducible refine hK _ ?_; clear hK K) | with_reducible apply And.intro)
 rw [← ha]
 have full : ∀ e : Int, e ≠ 0 → Xbb d at' b = e → AV.le (.tup [.agg [.sl 0 [] .nil, .sl 0 [] .nil], i64 e]) (.tup [A2 (Xhr d at' b), i64 (Xbb d at' b)]) := fun e h h' => by
  have h2 : Xhr d at' b = Xhm := by unfold Xhr; rw [h', if_neg h]
  rw [h2, h']
  simp only [A2, Xha, Xhm, List.map_nil, E1, sl]
 by_cases h0 : a ≠ 0
 ·have e0 : (a != 0) = true := by simpa using h0
  have e1 : Xbb d at' b = a := by
   rw [ha] at h0 ⊢
   unfold Xbb
   cases hm : may d <;> cases hat : (decide (0 ≤ at') && decide (at' < 32)) <;> rw [hm, hat] at h0 <;> simp at h0 ⊢
  refine X9 fun K hK => Xn Xj [] ?_
  simp (maxSteps:=9^7) only [ss, X1, tab, simprocAttr, -List.reduceReplicate, e0]
  repeat' (first | (with_reducible refine hK _ ?_; clear hK K) | with_reducible apply And.intro)
  refine Wm rfl (Yd ?_)
  refine Xp (.inr rfl) rfl rfl rfl (fun _ _ => rfl) ok43 (k := n + 1) (off := 0) rfl (Xb _ (by simp)) (X6 _ (Nat.le_refl _) 1) rfl rfl (full a h0 e1)
 have h0' : a = 0 := by omega
 have hm : may d = true := by
  cases hm : may d with
  | true => rfl
  | false => rw [hm] at ha; simp at ha; omega
 have hat : (decide (0 ≤ at') && decide (at' < 32)) = true := by
  cases hat : (decide (0 ≤ at') && decide (at' < 32)) with
  | true => rfl
  | false => rw [hm, hat] at ha; simp at ha; omega
 subst h0'
 refine X9 fun K hK => Xn Xj [] ?_
 simp (maxSteps:=9^7) only [ss, X1, tab, simprocAttr, -List.reduceReplicate]
 repeat' (first | (with_reducible refine hK _ ?_; clear hK K) | with_reducible apply And.intro)
 refine Uy rfl (Z1 (hKB _ ?_))
 clear hKB KB
 by_cases hb : b.length ≠ 128
 ·have g : ((b.length : Int) != 128) = true := by simp; omega
  refine X9 fun KB hKB => ?_
  refine X9 fun K hK => Xn Xj [] ?_
  simp (maxSteps:=9^7) only [ss, X1, tab, simprocAttr, -List.reduceReplicate, Sm, g]
  repeat' (first | (with_reducible refine hK _ ?_; clear hK K) | with_reducible apply And.intro)
  refine Wm rfl ?_
  refine X9 fun K hK => Xn Xj [] ?_
  simp (maxSteps:=9^7) only [ss, X1, tab, simprocAttr, -List.reduceReplicate]
  repeat' (first | (with_reducible refine hK _ ?_; clear hK K) | with_reducible apply And.intro)
  refine Yd ?_
  refine Xp (.inr rfl) rfl rfl rfl (fun _ _ => rfl) ok43 (k := n + 1) (off := 0) rfl (Xb _ (by simp)) (X6 _ (Nat.le_refl _) 1) rfl rfl (full 3 (by decide) (by simp only [Xbb, hm, hat, if_true, hb, if_false]))
 have hb' : b.length = 128 := by omega
 have g : ((b.length : Int) != 128) = false := by simp; omega
 refine X9 fun KB hKB => ?_
 refine X9 fun K hK => Xn Xj [] ?_
 simp (maxSteps:=9^7) only [ss, X1, tab, simprocAttr, -List.reduceReplicate, Sm, g]
 repeat' (first | (with_reducible refine hK _ ?_; clear hK K) | with_reducible apply And.intro)
 refine Uy rfl (Z1 (hKB _ ?_))
 clear hKB KB
 by_cases hw : d.waits.length = 256
 ·have g : ((d.waits.length : Int) == 256) = true := by simp; omega
  refine X9 fun KB hKB => ?_
  refine X9 fun K hK => Xn Xj [] ?_
  simp (maxSteps:=9^7) only [ss, X1, tab, simprocAttr, -List.reduceReplicate, List.length_map, g]
  repeat' (first | (with_reducible refine hK _ ?_; clear hK K) | with_reducible apply And.intro)
  refine Wm rfl ?_
  refine X9 fun K hK => Xn Xj [] ?_
  simp (maxSteps:=9^7) only [ss, X1, tab, simprocAttr, -List.reduceReplicate]
  repeat' (first | (with_reducible refine hK _ ?_; clear hK K) | with_reducible apply And.intro)
  refine Yd ?_
  refine Xp (.inr rfl) rfl rfl rfl (fun _ _ => rfl) ok43 (k := n + 1) (off := 0) rfl (Xb _ (by simp)) (X6 _ (Nat.le_refl _) 1) rfl rfl (full 9 (by decide) (by simp only [Xbb, hm, hat, if_true, hb', hw]))
 have g : ((d.waits.length : Int) == 256) = false := by simp; omega
 refine X9 fun KB hKB => ?_
 refine X9 fun K hK => Xn Xj [] ?_
 simp (maxSteps:=9^7) only [ss, X1, tab, simprocAttr, -List.reduceReplicate, List.length_map, g]
 repeat' (first | (with_reducible refine hK _ ?_; clear hK K) | with_reducible apply And.intro)
 refine Uy rfl (Z1 (hKB _ ?_))
 clear hKB KB
 have e0 : Xbb d at' b = 0 := by simp only [Xbb, hm, hat, if_true, hb', hw, if_false]
 have e1 : Xhr d at' b = Xjh d at' b := by unfold Xhr; rw [e0, if_pos rfl]
 rw [e0, e1]
 refine X9 fun K hK => Xn Xj [] ?_
 simp (maxSteps:=9^7) only [ss, X1, tab, simprocAttr, -List.reduceReplicate]
 repeat' (first | (with_reducible refine hK _ ?_; clear hK K) | with_reducible apply And.intro)
 refine Sb (Xnq (n + 2) d hd) (X6 _ (Nat.le_refl _) 2) (Xb _ (by simp)) (by simp) ?_
 simp (maxSteps:=9^7) only [ss, X1, tab, simprocAttr, -List.reduceReplicate]
 repeat' (first | (with_reducible refine hK _ ?_; clear hK K) | with_reducible apply And.intro)
 have lit : ∀ (σ : AState) (K : AV → List (Nat × Res) → Prop), X1 tab σ K none 41 1 [(0, wrA ⟨at', b⟩)] = K (.sl 2 [wrC ⟨at', b⟩] .full) [] := fun σ K => Yk (T := tab) (ti := ti41) (te := ti76) rfl rfl rfl (by decide) (by decide) rfl rfl
 refine X9 fun K hK => Ny Xj [] [[], [1], [], [], [], [], [], [2], [], [1]] [[], [], [], [], [], [], [], [2], [], [1]] follows (by kernel_rfl) (by decide) (by decide) (by kernel_rfl) ?_
 simp (maxSteps:=9^7) only [ss, tab, simprocAttr, -List.reduceReplicate]
 repeat' (first | (with_reducible refine hK _ ?_; clear hK K) | with_reducible apply And.intro)
 refine Pl (Xkw ⟨at', b⟩ (by show b.length ≤ _; omega)) ?_
 simp (maxSteps:=9^7) only [ss, tab, simprocAttr, -List.reduceReplicate, lit, List.length_map, show d.waits.length + 1 ≤ 140737488355328 by have := hd.w; omega, show d.waits.length + 1 ≤ 9223372036854775807 by have := hd.w; omega]
 refine ⟨by have := hd.w; omega, ?_⟩
 repeat' (first | (with_reducible refine hK _ ?_; clear hK K) | with_reducible apply And.intro)
 refine Yd ?_
 refine Xp (.inr rfl) rfl rfl rfl (fun _ _ => rfl) ok43 (k := n + 1) (off := 0) rfl (Xb _ (by simp)) (X6 _ (Nat.le_refl _) 1) rfl rfl ?_
 simp only [A2, Xha, Xjh, List.map_append, List.map_cons, List.map_nil, E1, sl]
end Go.Proofs.Ytjgbbjooeibppaa
