/- The layer of abstract values, joined: KD. -/
import Derived.Test.YtgdhnngpfieloaaGreatZGA
import Derived.Test.YtgdhnngpfieloaaGreatZKC
import Derived.Test.YtgdhnngpfieloaaGreatZW0
section
namespace Go.Proofs.YtgdhnngpfieloaaGreat.Pln
set_option linter.unusedVariables false
set_option linter.unusedSimpArgs false
open Go Go.VS Tab
set_option maxHeartbeats 8000000
set_option maxRecDepth 4000
abbrev txB (A : List UInt8) (ko : Nat) : Res := .box 65 [.sl 1 (Xo A) (.own ko)]
abbrev txR (A : List UInt8) : Res := .row 5 1 A.length
def txO (out : Nat → Option Res) (kb ko : Nat) (A : List UInt8) : Nat → Option Res := Xw (Xw out kb (txB A ko)) ko (txR A)
theorem Kh {out : Nat → Option Res} {kb ko : Nat} (h : kb ≠ ko) (A : List UInt8) : txO out kb ko A kb = some (txB A ko) := by unfold txO; rw [Zp _ _ h, Xt]
theorem Lf {out : Nat → Option Res} {kb ko : Nat} (A : List UInt8) : txO out kb ko A ko = some (txR A) := by unfold txO; rw [Xt]
theorem X7z {out : Nat → Option Res} {kb ko : Nat} (h : kb ≠ ko) (A : List UInt8) (q : Res) : Xw (txO out kb ko A) ko q kb = some (txB A ko) := by rw [Zp _ _ h, Kh h]
theorem X5h {out : Nat → Option Res} {kb ko k : Nat} (h : k ≠ kb) (h' : k ≠ ko) (A : List UInt8) : txO out kb ko A k = out k := by unfold txO; rw [Zp _ _ h', Zp _ _ h]
theorem Dd {out : Nat → Option Res} {kb ko : Nat} {A : List UInt8} (h1 : out kb = some (txB A ko)) (h2 : out ko = some (txR A)) : txO out kb ko A = out := by unfold txO; rw [Qb h1, Qb h2]
theorem V7 (out : Nat → Option Res) (kb ko : Nat) (A : List UInt8) : upd out [(kb, txB A ko), (ko, txR A)] = txO out kb ko A := by rw [Zc, Zc, Wz]; rfl
theorem V9 (out : Nat → Option Res) (kb ko : Nat) (A B : List UInt8) : Xw (Xw (txO out kb ko A) kb (txB B ko)) ko (txR B) = txO out kb ko B := by
 unfold txO; funext j; simp only [Xw]
 by_cases h1 : j = ko
 ·rw [if_pos h1, if_pos h1]
 ·by_cases h2 : j = kb
  ·rw [if_neg h1, if_pos h2, if_neg h1, if_pos h2]
  ·rw [if_neg h1, if_neg h2, if_neg h1, if_neg h2, if_neg h1, if_neg h2]
theorem Ad {out : Nat → Option Res} {kb ko : Nat} (h : kb ≠ ko) (A B : List UInt8) : Xw (Xw (txO out kb ko A) ko (txR B)) kb (txB B ko) = txO out kb ko B := by
 unfold txO; funext j; simp only [Xw]
 by_cases h1 : j = ko
 ·have h2 : ¬ j = kb := fun e => h (e.symm.trans h1)
  rw [if_neg h2, if_pos h1, if_pos h1]
 ·by_cases h2 : j = kb
  ·rw [if_pos h2, if_neg h1, if_pos h2]
  ·rw [if_neg h2, if_neg h1, if_neg h1, if_neg h2, if_neg h1, if_neg h2]
theorem X2s {out : Nat → Option Res} {kb ko : Nat} (h : kb ≠ ko) (A B : List UInt8) : Xw (Xw (txO out kb ko A) ko (.row 5 1 (A.length + B.length))) kb (.box 65 [.sl 1 (Xo A ++ Xo B) (.own ko)]) = txO out kb ko (A ++ B) := by
 rw [L6, ← List.length_append]; exact Ad h A (A ++ B)
theorem Y3 {α β : Type} (f : α → List β) (l : List α) (i : Nat) (h : i < l.length) : (l.take (i + 1)).flatMap f = (l.take i).flatMap f ++ f l[i] := by
 rw [List.take_succ_eq_append_getElem h, List.flatMap_append]; simp
theorem Z0 {α β : Type} (f : α → List β) (l : List α) (i : Nat) : ((l.take i).flatMap f).length ≤ (l.flatMap f).length := by
 conv => rhs; rw [← List.take_append_drop i l, List.flatMap_append, List.length_append]
 omega
theorem Gs (kb ko : Nat) (hne : kb ≠ ko) (A : List UInt8) (l : List Int) (md : Md) (hb : A.length + (l.flatMap Y2).length ≤ 1000000) (hl : l.length ≤ 1000000) :
  Xr Tryz.prog 60 [.ptr kb 0, .sl 1 (l.map Ym) md] [(kb, some (txB A ko)), (ko, some (txR A))] (.tup []) [(kb, txB (A ++ l.flatMap Y2) ko), (ko, txR (A ++ l.flatMap Y2))] := by
 refine Xc 0 Tryz.func60 rfl fun n out _ _ => ?_
 simp only [Tryz.ntmps60, List.length_cons, List.length_nil, List.length_map, List.length_replicate, Xf, Nat.reduceAdd, Nat.reduceSub, List.replicate, List.cons_append, List.nil_append]
 rename_i hneeds hgv
 obtain ⟨hk, hko, _⟩ := hneeds
 obtain ⟨hkn, hkon, _⟩ := hgv
 have e0 : txO out kb ko (A ++ (l.take 0).flatMap Y2) = out := by
  rw [List.take_zero, List.flatMap_nil, List.append_nil]; exact Dd hk hko
 refine X9 fun K hK => Xn Xj [] ?_
 simp (maxSteps:=9^7) only [ss, X1, tab, simprocAttr, -List.reduceReplicate]
 (refine hK _ ?_; clear hK K)
 refine Xe ?_
 refine Xz (fun i : Nat => [(10, i64 (i : Int)), (5, .top), (6, .top), (7, .top), (11, .top), (12, .top), (13, .top), (14, .top), (15, .top), (16, .top), (17, .top), (18, .top), (19, .top), (20, .top), (21, .top), (22, .top), (23, .top), (24, .top), (25, .top), (26, .top)]) (fun i => []) (fun i => txO out kb ko (A ++ (l.take i).flatMap Y2)) (fun i => i ≤ l.length) (fun i => l.length - i) 0 (Nat.zero_le _) ?_ fun i hi => ?_
 ·refine X2 ?_ ?_ (by first | rfl | (simp only [e0, List.length_map]; rfl) | simp only [e0, List.length_map]) rfl rfl rfl <;> simp only [X4, sl, e0, List.length_map]
 simp only [X4, s_0, s_s]
 have hw := Yl (n := i) 1 1 rfl (by omega)
 by_cases hlt : i < l.length
 ·have gi := Xg Ym l i [] hlt
  have hfl := Z0 Y2 l (i + 1)
  rw [Y3 Y2 l i hlt, List.length_append] at hfl
  obtain ⟨B, hB⟩ : ∃ B, B = A ++ (l.take i).flatMap Y2 := ⟨_, rfl⟩
  have hB' : A ++ (l.take (i + 1)).flatMap Y2 = B ++ Y2 l[i] := by rw [Y3 Y2 l i hlt, hB, List.append_assoc]
  have b1 : B.length + (Y2 l[i]).length ≤ 1000000 := by rw [hB, List.length_append]; omega
  have b2 : B.length + (Y2 l[i]).length ≤ 140737488355328 := by omega
  have b3 : B.length + (Y2 l[i]).length ≤ 9223372036854775807 := by omega
  rw [← hB]
  repeat' (first | (with_reducible first | refine Vk fun K hK => ?_ | refine V0 ?_ | refine Vb ?_ | refine Vs ?_) | ((with_reducible first | refine gE ?_ | refine gR ?_); simp (maxSteps:=9^7) only [ss, X1, tab, simprocAttr, -List.reduceReplicate, X8 hkn, X7 hkn, X8 hkon, X7 hkon, Xa hkn, Xa hkon, Kh hne, Lf, X7z hne, X2s hne, gi, Ym, hlt, List.length_map, X0, b2, b3, X5, hw]) | (refine X3 (Gr l[i]) ?_) | (refine hK _ ?_; clear hK K) | refine Vt rfl ?_)
  refine ⟨i + 1, by omega, by omega, ?_⟩
  rw [hB']
  refine X2 ?_ ?_ rfl rfl rfl rfl <;> simp only [X4, sl, List.length_map, hlt, decide_true]
 ·obtain rfl : i = l.length := by omega
  repeat' (first | (with_reducible first | refine Vk fun K hK => ?_ | refine V0 ?_) | ((with_reducible refine gE ?_); simp (maxSteps:=9^7) only [ss, X1, tab, simprocAttr, -List.reduceReplicate, hlt, List.length_map]) | ((with_reducible refine Vx ?_); simp only [sb, reduceIte, Nat.reduceEqDiff]) | (refine hK _ ?_; clear hK K) | refine Vf rfl ?_ | clear hK K)
  rw [List.take_length]
  exact Xy (.inl rfl) rfl rfl rfl (fun j _ => by rw [V7])
theorem W1 (kb ko : Nat) (hne : kb ≠ ko) (A : List UInt8) (a : Int) (hb : A.length + (Y2 a).length ≤ 1000000) :
  Xr Tryz.prog 60 [.ptr kb 0, .sl 1 [[i64 a]] .full] [(kb, some (txB A ko)), (ko, some (txR A))] (.tup []) [(kb, txB (A ++ Y2 a) ko), (ko, txR (A ++ Y2 a))] := by
 have h := Gs kb ko hne A [a] .full (by simpa using hb) (by simp)
 rw [show [a].flatMap Y2 = Y2 a by simp] at h
 exact h
theorem Mq (kb ko : Nat) (hne : kb ≠ ko) (A : List UInt8) (a b : Int) (hb : A.length + (Y2 a ++ Y2 b).length ≤ 1000000) :
  Xr Tryz.prog 60 [.ptr kb 0, .sl 1 [[i64 a], [i64 b]] .full] [(kb, some (txB A ko)), (ko, some (txR A))] (.tup []) [(kb, txB (A ++ (Y2 a ++ Y2 b)) ko), (ko, txR (A ++ (Y2 a ++ Y2 b)))] := by
 have h := Gs kb ko hne A [a, b] .full (by simpa using hb) (by simp)
 rw [show [a, b].flatMap Y2 = Y2 a ++ Y2 b by simp] at h
 exact h
theorem Gt (kb ko : Nat) (hne : kb ≠ ko) (A : List UInt8) (a b c : Int) (hb : A.length + (Y2 a ++ (Y2 b ++ Y2 c)).length ≤ 1000000) :
  Xr Tryz.prog 60 [.ptr kb 0, .sl 1 [[i64 a], [i64 b], [i64 c]] .full] [(kb, some (txB A ko)), (ko, some (txR A))] (.tup []) [(kb, txB (A ++ (Y2 a ++ (Y2 b ++ Y2 c))) ko), (ko, txR (A ++ (Y2 a ++ (Y2 b ++ Y2 c))))] := by
 have h := Gs kb ko hne A [a, b, c] .full (by simpa using hb) (by simp)
 rw [show [a, b, c].flatMap Y2 = Y2 a ++ (Y2 b ++ Y2 c) by simp] at h
 exact h
theorem Mr (a : Int) (σ : AState) (K : AV → List (Nat × Res) → Prop) : X1 tab σ K none 41 1 [(0, i64 a)] = K (.sl 1 [[i64 a]] .full) [] := Yk (T := tab) (ti := ti41) (te := ti3) rfl rfl rfl (by decide) (by decide) rfl rfl
theorem B6 (a b : Int) (σ : AState) (K : AV → List (Nat × Res) → Prop) : X1 tab σ K none 41 2 [(0, i64 a), (1, i64 b)] = K (.sl 1 [[i64 a], [i64 b]] .full) [] := Te (T := tab) (ti := ti41) (te := ti3) rfl rfl rfl rfl rfl rfl
end Go.Proofs.YtgdhnngpfieloaaGreat.Pln
end
section
namespace Go.Proofs.YtgdhnngpfieloaaGreat.Pln
set_option linter.unusedVariables false
set_option linter.unusedSimpArgs false
open Go Go.VS Tab
set_option maxHeartbeats 8000000
set_option maxRecDepth 4000
theorem Gu {P : Program} {σ : AState} {K : AV → List (Nat × Res) → Prop} {f : FuncId} {args : List AV} {k j i : Nat} {q u v : Option Res} {q' u' : Res} {r : AV} (h : Xr P f args [(k, q), (j, u), (i, v)] r [(k, q'), (j, u')]) (h1 : σ.look k = q) (h2 : σ.look j = u) (h3 : σ.look i = v)
  (d1 : σ.dom k) (d2 : σ.dom j) (d3 : σ.dom i) (n1 : q ≠ some .dead) (n2 : u ≠ some .dead) (n3 : v ≠ some .dead) (hK : K r [(k, q'), (j, u')]) : M8 P σ K f args :=
 ⟨_, r, _, h, ⟨h1, h2, h3, trivial⟩, ⟨d1, d2, trivial⟩, (fun x hx => by simp at hx; rcases hx with rfl | rfl | rfl; exact ⟨d1, n1⟩; exact ⟨d2, n2⟩; exact ⟨d3, n3⟩), hK⟩
theorem Ae (kb ko : Nat) (hne : kb ≠ ko) (gf : FuncId) (caps : List AV) (hB : Xd Tryz.prog gf = True) (l : List (Sec)) (enc : Sec → List UInt8) (A : List UInt8) (hl : l.length ≤ 1000000) (hb : A.length + (Zz enc l).length ≤ 1000000)
  (hp : ∀ x, x ∈ l → ∀ B : List UInt8, B.length + (enc x).length ≤ 1000000 → Xr Tryz.prog gf (Qh x :: caps) [(kb, some (txB B ko)), (ko, some (txR B))] (.tup []) [(kb, txB (B ++ enc x) ko), (ko, txR (B ++ enc x))]) :
  Xr Tryz.prog 61 [.ptr kb 0, .sl 3 (l.map Y6) .sh, .fn (.func gf) caps] [(kb, some (txB A ko)), (ko, some (txR A))] (.tup []) [(kb, txB (A ++ Zz enc l) ko), (ko, txR (A ++ Zz enc l))] := by
 unfold Zz at hb ⊢
 rw [List.length_append] at hb
 obtain ⟨C, hC⟩ : ∃ C, C = A ++ Y2 (l.length : Int) := ⟨_, rfl⟩
 have hCl : C.length = A.length + (Y2 (l.length : Int)).length := by rw [hC, List.length_append]
 rw [← List.append_assoc, ← hC]
 have ct := W1 kb ko hne A (l.length : Int) (by omega)
 rw [← hC] at ct
 refine Xc 1 Tryz.func61 rfl fun n out _ _ => ?_
 simp only [Tryz.ntmps61, List.length_cons, List.length_nil, List.length_map, List.length_replicate, Xf, Nat.reduceAdd, Nat.reduceSub, List.replicate, List.cons_append, List.nil_append]
 rename_i hneeds hgv
 obtain ⟨hk, hko, _⟩ := hneeds
 obtain ⟨hkn, hkon, _⟩ := hgv
 repeat' (first | (with_reducible first | refine Vk fun K hK => ?_ | refine V0 ?_) | ((with_reducible first | refine gE ?_ | refine gR ?_); simp (maxSteps:=9^7) only [ss, tab, simprocAttr, -List.reduceReplicate, Mr, List.length_map, X8 hkn, X8 hkon, X7 hkn, X7 hkon, Xa hkn, Xa hkon]) | (refine Xk ct (by rw [X8 hkn]; exact hk) (by rw [X8 hkon]; exact hko) (by rw [X7 hkn]; trivial) (by rw [X7 hkon]; trivial) (by simp) (by simp) ?_) | (refine hK _ ?_; clear hK K))
 have e0 : txO out kb ko (C ++ (l.take 0).flatMap enc) = Xw (Xw out kb (txB C ko)) ko (txR C) := by rw [List.take_zero, List.flatMap_nil, List.append_nil]; rfl
 refine Xe ?_
 refine Xl (fun m (i : Nat) => [(15, i64 (i : Int)), (7, .top), (16, .top), (17, .top), (18, .top), (19, .top), (20, .top), (21, .top), (22, .top)]) (fun m i => [none]) (fun i => txO out kb ko (C ++ (l.take i).flatMap enc)) (fun i => i ≤ l.length) (fun i => l.length - i) 0 (Nat.zero_le _) ?_ fun m i hm hi => ?_
 ·refine X2 ?_ ?_ (by first | rfl | (simp only [e0, List.length_map]; rfl) | simp only [e0, List.length_map]) rfl rfl rfl <;> simp only [X4, sl, e0, List.length_map]
 simp only [X4, s_0, s_s]
 have hw := Yl (n := i) 1 1 rfl (by omega)
 by_cases hlt : i < l.length
 ·have gi := Xg Y6 l i [] hlt
  have hfl := Z0 enc l (i + 1)
  rw [Y3 enc l i hlt, List.length_append] at hfl
  obtain ⟨B, hB'⟩ : ∃ B, B = C ++ (l.take i).flatMap enc := ⟨_, rfl⟩
  have hB2 : C ++ (l.take (i + 1)).flatMap enc = B ++ enc l[i] := by rw [Y3 enc l i hlt, hB', List.append_assoc]
  have b1 : B.length + (enc l[i]).length ≤ 1000000 := by rw [hB', List.length_append]; omega
  have cp := hp l[i] (List.getElem_mem hlt) B b1
  rw [← hB']
  repeat' (first | (with_reducible first | refine Vk fun K hK => ?_ | refine V0 ?_ | refine Vb ?_ | refine Vs ?_) | ((with_reducible first | refine gE ?_ | refine gR ?_); simp (maxSteps:=9^7) only [ss, X1, tab, simprocAttr, -List.reduceReplicate, Xi hm, hB, gi, Y6, hlt, List.length_map, X8 hkn, X8 hkon, X7 hkn, X7 hkon, Xa hkn, Xa hkon, V9, X0, hw]) | (refine Xk cp (by rw [X8 hkn]; exact Kh hne B) (by rw [X8 hkon]; exact Lf B) (by rw [X7 hkn]; trivial) (by rw [X7 hkon]; trivial) (by simp) (by simp) ?_) | (refine hK _ ?_; clear hK K) | refine Vt rfl ?_)
  refine ⟨i + 1, by omega, by omega, ?_⟩
  rw [hB2]
  refine Xx [false] (fun n_ => ?_) (fun n_ => ?_) <;> simp only [X4, sm]
 ·obtain rfl : i = l.length := by omega
  repeat' (first | (with_reducible first | refine Vk fun K hK => ?_ | refine V0 ?_) | ((with_reducible refine gE ?_); simp (maxSteps:=9^7) only [ss, X1, tab, simprocAttr, -List.reduceReplicate, hlt, List.length_map]) | ((with_reducible refine Vx ?_); simp only [sb, reduceIte, Nat.reduceEqDiff]) | (refine hK _ ?_; clear hK K) | refine Vf rfl ?_ | clear hK K)
  rw [List.take_length]
  exact Xy (.inl rfl) rfl rfl rfl (fun j _ => by rw [V7])
theorem Af (kb ko : Nat) (hne : kb ≠ ko) (gf : FuncId) (caps : List AV) (hB : Xd Tryz.prog gf = True) (l : List (Int × Int)) (enc : Int × Int → List UInt8) (A : List UInt8) (hl : l.length ≤ 1000000) (hb : A.length + (Zz enc l).length ≤ 1000000)
  (hp : ∀ x, x ∈ l → ∀ B : List UInt8, B.length + (enc x).length ≤ 1000000 → Xr Tryz.prog gf (jnA x :: caps) [(kb, some (txB B ko)), (ko, some (txR B))] (.tup []) [(kb, txB (B ++ enc x) ko), (ko, txR (B ++ enc x))]) :
  Xr Tryz.prog 63 [.ptr kb 0, .sl 2 (l.map jnC) .sh, .fn (.func gf) caps] [(kb, some (txB A ko)), (ko, some (txR A))] (.tup []) [(kb, txB (A ++ Zz enc l) ko), (ko, txR (A ++ Zz enc l))] := by
 unfold Zz at hb ⊢
 rw [List.length_append] at hb
 obtain ⟨C, hC⟩ : ∃ C, C = A ++ Y2 (l.length : Int) := ⟨_, rfl⟩
 have hCl : C.length = A.length + (Y2 (l.length : Int)).length := by rw [hC, List.length_append]
 rw [← List.append_assoc, ← hC]
 have ct := W1 kb ko hne A (l.length : Int) (by omega)
 rw [← hC] at ct
 refine Xc 1 Tryz.func63 rfl fun n out _ _ => ?_
 simp only [Tryz.ntmps63, List.length_cons, List.length_nil, List.length_map, List.length_replicate, Xf, Nat.reduceAdd, Nat.reduceSub, List.replicate, List.cons_append, List.nil_append]
 rename_i hneeds hgv
 obtain ⟨hk, hko, _⟩ := hneeds
 obtain ⟨hkn, hkon, _⟩ := hgv
 repeat' (first | (with_reducible first | refine Vk fun K hK => ?_ | refine V0 ?_) | ((with_reducible first | refine gE ?_ | refine gR ?_); simp (maxSteps:=9^7) only [ss, tab, simprocAttr, -List.reduceReplicate, Mr, List.length_map, X8 hkn, X8 hkon, X7 hkn, X7 hkon, Xa hkn, Xa hkon]) | (refine Xk ct (by rw [X8 hkn]; exact hk) (by rw [X8 hkon]; exact hko) (by rw [X7 hkn]; trivial) (by rw [X7 hkon]; trivial) (by simp) (by simp) ?_) | (refine hK _ ?_; clear hK K))
 have e0 : txO out kb ko (C ++ (l.take 0).flatMap enc) = Xw (Xw out kb (txB C ko)) ko (txR C) := by rw [List.take_zero, List.flatMap_nil, List.append_nil]; rfl
 refine Xe ?_
 refine Xl (fun m (i : Nat) => [(15, i64 (i : Int)), (7, .top), (16, .top), (17, .top), (18, .top), (19, .top), (20, .top), (21, .top), (22, .top)]) (fun m i => [none]) (fun i => txO out kb ko (C ++ (l.take i).flatMap enc)) (fun i => i ≤ l.length) (fun i => l.length - i) 0 (Nat.zero_le _) ?_ fun m i hm hi => ?_
 ·refine X2 ?_ ?_ (by first | rfl | (simp only [e0, List.length_map]; rfl) | simp only [e0, List.length_map]) rfl rfl rfl <;> simp only [X4, sl, e0, List.length_map]
 simp only [X4, s_0, s_s]
 have hw := Yl (n := i) 1 1 rfl (by omega)
 by_cases hlt : i < l.length
 ·have gi := Xg jnC l i [] hlt
  have hfl := Z0 enc l (i + 1)
  rw [Y3 enc l i hlt, List.length_append] at hfl
  obtain ⟨B, hB'⟩ : ∃ B, B = C ++ (l.take i).flatMap enc := ⟨_, rfl⟩
  have hB2 : C ++ (l.take (i + 1)).flatMap enc = B ++ enc l[i] := by rw [Y3 enc l i hlt, hB', List.append_assoc]
  have b1 : B.length + (enc l[i]).length ≤ 1000000 := by rw [hB', List.length_append]; omega
  have cp := hp l[i] (List.getElem_mem hlt) B b1
  rw [← hB']
  repeat' (first | (with_reducible first | refine Vk fun K hK => ?_ | refine V0 ?_ | refine Vb ?_ | refine Vs ?_) | ((with_reducible first | refine gE ?_ | refine gR ?_); simp (maxSteps:=9^7) only [ss, X1, tab, simprocAttr, -List.reduceReplicate, Xi hm, hB, gi, jnC, hlt, List.length_map, X8 hkn, X8 hkon, X7 hkn, X7 hkon, Xa hkn, Xa hkon, V9, X0, hw]) | (refine Xk cp (by rw [X8 hkn]; exact Kh hne B) (by rw [X8 hkon]; exact Lf B) (by rw [X7 hkn]; trivial) (by rw [X7 hkon]; trivial) (by simp) (by simp) ?_) | (refine hK _ ?_; clear hK K) | refine Vt rfl ?_)
  refine ⟨i + 1, by omega, by omega, ?_⟩
  rw [hB2]
  refine Xx [false] (fun n_ => ?_) (fun n_ => ?_) <;> simp only [X4, sm]
 ·obtain rfl : i = l.length := by omega
  repeat' (first | (with_reducible first | refine Vk fun K hK => ?_ | refine V0 ?_) | ((with_reducible refine gE ?_); simp (maxSteps:=9^7) only [ss, X1, tab, simprocAttr, -List.reduceReplicate, hlt, List.length_map]) | ((with_reducible refine Vx ?_); simp only [sb, reduceIte, Nat.reduceEqDiff]) | (refine hK _ ?_; clear hK K) | refine Vf rfl ?_ | clear hK K)
  rw [List.take_length]
  exact Xy (.inl rfl) rfl rfl rfl (fun j _ => by rw [V7])
theorem Ag (kb ko : Nat) (hne : kb ≠ ko) (gf : FuncId) (caps : List AV) (hB : Xd Tryz.prog gf = True) (l : List (Int × Int × Int)) (enc : Int × Int × Int → List UInt8) (A : List UInt8) (hl : l.length ≤ 1000000) (hb : A.length + (Zz enc l).length ≤ 1000000)
  (hp : ∀ x, x ∈ l → ∀ B : List UInt8, B.length + (enc x).length ≤ 1000000 → Xr Tryz.prog gf (sgA x :: caps) [(kb, some (txB B ko)), (ko, some (txR B))] (.tup []) [(kb, txB (B ++ enc x) ko), (ko, txR (B ++ enc x))]) :
  Xr Tryz.prog 65 [.ptr kb 0, .sl 3 (l.map sgC) .sh, .fn (.func gf) caps] [(kb, some (txB A ko)), (ko, some (txR A))] (.tup []) [(kb, txB (A ++ Zz enc l) ko), (ko, txR (A ++ Zz enc l))] := by
 unfold Zz at hb ⊢
 rw [List.length_append] at hb
 obtain ⟨C, hC⟩ : ∃ C, C = A ++ Y2 (l.length : Int) := ⟨_, rfl⟩
 have hCl : C.length = A.length + (Y2 (l.length : Int)).length := by rw [hC, List.length_append]
 rw [← List.append_assoc, ← hC]
 have ct := W1 kb ko hne A (l.length : Int) (by omega)
 rw [← hC] at ct
 refine Xc 1 Tryz.func65 rfl fun n out _ _ => ?_
 simp only [Tryz.ntmps65, List.length_cons, List.length_nil, List.length_map, List.length_replicate, Xf, Nat.reduceAdd, Nat.reduceSub, List.replicate, List.cons_append, List.nil_append]
 rename_i hneeds hgv
 obtain ⟨hk, hko, _⟩ := hneeds
 obtain ⟨hkn, hkon, _⟩ := hgv
 repeat' (first | (with_reducible first | refine Vk fun K hK => ?_ | refine V0 ?_) | ((with_reducible first | refine gE ?_ | refine gR ?_); simp (maxSteps:=9^7) only [ss, tab, simprocAttr, -List.reduceReplicate, Mr, List.length_map, X8 hkn, X8 hkon, X7 hkn, X7 hkon, Xa hkn, Xa hkon]) | (refine Xk ct (by rw [X8 hkn]; exact hk) (by rw [X8 hkon]; exact hko) (by rw [X7 hkn]; trivial) (by rw [X7 hkon]; trivial) (by simp) (by simp) ?_) | (refine hK _ ?_; clear hK K))
 have e0 : txO out kb ko (C ++ (l.take 0).flatMap enc) = Xw (Xw out kb (txB C ko)) ko (txR C) := by rw [List.take_zero, List.flatMap_nil, List.append_nil]; rfl
 refine Xe ?_
 refine Xl (fun m (i : Nat) => [(15, i64 (i : Int)), (7, .top), (16, .top), (17, .top), (18, .top), (19, .top), (20, .top), (21, .top), (22, .top)]) (fun m i => [none]) (fun i => txO out kb ko (C ++ (l.take i).flatMap enc)) (fun i => i ≤ l.length) (fun i => l.length - i) 0 (Nat.zero_le _) ?_ fun m i hm hi => ?_
 ·refine X2 ?_ ?_ (by first | rfl | (simp only [e0, List.length_map]; rfl) | simp only [e0, List.length_map]) rfl rfl rfl <;> simp only [X4, sl, e0, List.length_map]
 simp only [X4, s_0, s_s]
 have hw := Yl (n := i) 1 1 rfl (by omega)
 by_cases hlt : i < l.length
 ·have gi := Xg sgC l i [] hlt
  have hfl := Z0 enc l (i + 1)
  rw [Y3 enc l i hlt, List.length_append] at hfl
  obtain ⟨B, hB'⟩ : ∃ B, B = C ++ (l.take i).flatMap enc := ⟨_, rfl⟩
  have hB2 : C ++ (l.take (i + 1)).flatMap enc = B ++ enc l[i] := by rw [Y3 enc l i hlt, hB', List.append_assoc]
  have b1 : B.length + (enc l[i]).length ≤ 1000000 := by rw [hB', List.length_append]; omega
  have cp := hp l[i] (List.getElem_mem hlt) B b1
  rw [← hB']
  repeat' (first | (with_reducible first | refine Vk fun K hK => ?_ | refine V0 ?_ | refine Vb ?_ | refine Vs ?_) | ((with_reducible first | refine gE ?_ | refine gR ?_); simp (maxSteps:=9^7) only [ss, X1, tab, simprocAttr, -List.reduceReplicate, Xi hm, hB, gi, sgC, hlt, List.length_map, X8 hkn, X8 hkon, X7 hkn, X7 hkon, Xa hkn, Xa hkon, V9, X0, hw]) | (refine Xk cp (by rw [X8 hkn]; exact Kh hne B) (by rw [X8 hkon]; exact Lf B) (by rw [X7 hkn]; trivial) (by rw [X7 hkon]; trivial) (by simp) (by simp) ?_) | (refine hK _ ?_; clear hK K) | refine Vt rfl ?_)
  refine ⟨i + 1, by omega, by omega, ?_⟩
  rw [hB2]
  refine Xx [false] (fun n_ => ?_) (fun n_ => ?_) <;> simp only [X4, sm]
 ·obtain rfl : i = l.length := by omega
  repeat' (first | (with_reducible first | refine Vk fun K hK => ?_ | refine V0 ?_) | ((with_reducible refine gE ?_); simp (maxSteps:=9^7) only [ss, X1, tab, simprocAttr, -List.reduceReplicate, hlt, List.length_map]) | ((with_reducible refine Vx ?_); simp only [sb, reduceIte, Nat.reduceEqDiff]) | (refine hK _ ?_; clear hK K) | refine Vf rfl ?_ | clear hK K)
  rw [List.take_length]
  exact Xy (.inl rfl) rfl rfl rfl (fun j _ => by rw [V7])
theorem Ah (kb ko : Nat) (hne : kb ≠ ko) (gf : FuncId) (caps : List AV) (hB : Xd Tryz.prog gf = True) (l : List (Int × Int)) (enc : Int × Int → List UInt8) (A : List UInt8) (hl : l.length ≤ 1000000) (hb : A.length + (Zz enc l).length ≤ 1000000)
  (hp : ∀ x, x ∈ l → ∀ B : List UInt8, B.length + (enc x).length ≤ 1000000 → Xr Tryz.prog gf (jnA x :: caps) [(kb, some (txB B ko)), (ko, some (txR B))] (.tup []) [(kb, txB (B ++ enc x) ko), (ko, txR (B ++ enc x))]) :
  Xr Tryz.prog 70 [.ptr kb 0, .sl 2 (l.map jnC) .sh, .fn (.func gf) caps] [(kb, some (txB A ko)), (ko, some (txR A))] (.tup []) [(kb, txB (A ++ Zz enc l) ko), (ko, txR (A ++ Zz enc l))] := by
 unfold Zz at hb ⊢
 rw [List.length_append] at hb
 obtain ⟨C, hC⟩ : ∃ C, C = A ++ Y2 (l.length : Int) := ⟨_, rfl⟩
 have hCl : C.length = A.length + (Y2 (l.length : Int)).length := by rw [hC, List.length_append]
 rw [← List.append_assoc, ← hC]
 have ct := W1 kb ko hne A (l.length : Int) (by omega)
 rw [← hC] at ct
 refine Xc 1 Tryz.func70 rfl fun n out _ _ => ?_
 simp only [Tryz.ntmps70, List.length_cons, List.length_nil, List.length_map, List.length_replicate, Xf, Nat.reduceAdd, Nat.reduceSub, List.replicate, List.cons_append, List.nil_append]
 rename_i hneeds hgv
 obtain ⟨hk, hko, _⟩ := hneeds
 obtain ⟨hkn, hkon, _⟩ := hgv
 repeat' (first | (with_reducible first | refine Vk fun K hK => ?_ | refine V0 ?_) | ((with_reducible first | refine gE ?_ | refine gR ?_); simp (maxSteps:=9^7) only [ss, tab, simprocAttr, -List.reduceReplicate, Mr, List.length_map, X8 hkn, X8 hkon, X7 hkn, X7 hkon, Xa hkn, Xa hkon]) | (refine Xk ct (by rw [X8 hkn]; exact hk) (by rw [X8 hkon]; exact hko) (by rw [X7 hkn]; trivial) (by rw [X7 hkon]; trivial) (by simp) (by simp) ?_) | (refine hK _ ?_; clear hK K))
 have e0 : txO out kb ko (C ++ (l.take 0).flatMap enc) = Xw (Xw out kb (txB C ko)) ko (txR C) := by rw [List.take_zero, List.flatMap_nil, List.append_nil]; rfl
 refine Xe ?_
 refine Xl (fun m (i : Nat) => [(15, i64 (i : Int)), (7, .top), (16, .top), (17, .top), (18, .top), (19, .top), (20, .top), (21, .top), (22, .top)]) (fun m i => [none]) (fun i => txO out kb ko (C ++ (l.take i).flatMap enc)) (fun i => i ≤ l.length) (fun i => l.length - i) 0 (Nat.zero_le _) ?_ fun m i hm hi => ?_
 ·refine X2 ?_ ?_ (by first | rfl | (simp only [e0, List.length_map]; rfl) | simp only [e0, List.length_map]) rfl rfl rfl <;> simp only [X4, sl, e0, List.length_map]
 simp only [X4, s_0, s_s]
 have hw := Yl (n := i) 1 1 rfl (by omega)
 by_cases hlt : i < l.length
 ·have gi := Xg jnC l i [] hlt
  have hfl := Z0 enc l (i + 1)
  rw [Y3 enc l i hlt, List.length_append] at hfl
  obtain ⟨B, hB'⟩ : ∃ B, B = C ++ (l.take i).flatMap enc := ⟨_, rfl⟩
  have hB2 : C ++ (l.take (i + 1)).flatMap enc = B ++ enc l[i] := by rw [Y3 enc l i hlt, hB', List.append_assoc]
  have b1 : B.length + (enc l[i]).length ≤ 1000000 := by rw [hB', List.length_append]; omega
  have cp := hp l[i] (List.getElem_mem hlt) B b1
  rw [← hB']
  repeat' (first | (with_reducible first | refine Vk fun K hK => ?_ | refine V0 ?_ | refine Vb ?_ | refine Vs ?_) | ((with_reducible first | refine gE ?_ | refine gR ?_); simp (maxSteps:=9^7) only [ss, X1, tab, simprocAttr, -List.reduceReplicate, Xi hm, hB, gi, jnC, hlt, List.length_map, X8 hkn, X8 hkon, X7 hkn, X7 hkon, Xa hkn, Xa hkon, V9, X0, hw]) | (refine Xk cp (by rw [X8 hkn]; exact Kh hne B) (by rw [X8 hkon]; exact Lf B) (by rw [X7 hkn]; trivial) (by rw [X7 hkon]; trivial) (by simp) (by simp) ?_) | (refine hK _ ?_; clear hK K) | refine Vt rfl ?_)
  refine ⟨i + 1, by omega, by omega, ?_⟩
  rw [hB2]
  refine Xx [false] (fun n_ => ?_) (fun n_ => ?_) <;> simp only [X4, sm]
 ·obtain rfl : i = l.length := by omega
  repeat' (first | (with_reducible first | refine Vk fun K hK => ?_ | refine V0 ?_) | ((with_reducible refine gE ?_); simp (maxSteps:=9^7) only [ss, X1, tab, simprocAttr, -List.reduceReplicate, hlt, List.length_map]) | ((with_reducible refine Vx ?_); simp only [sb, reduceIte, Nat.reduceEqDiff]) | (refine hK _ ?_; clear hK K) | refine Vf rfl ?_ | clear hK K)
  rw [List.take_length]
  exact Xy (.inl rfl) rfl rfl rfl (fun j _ => by rw [V7])
theorem De (kb ko : Nat) (hne : kb ≠ ko) (gf : FuncId) (caps : List AV) (hB : Xd Tryz.prog gf = True) (l : List (Int)) (enc : Int → List UInt8) (A : List UInt8) (hl : l.length ≤ 1000000) (hb : A.length + (Zz enc l).length ≤ 1000000)
  (hp : ∀ x, x ∈ l → ∀ B : List UInt8, B.length + (enc x).length ≤ 1000000 → Xr Tryz.prog gf (i64 x :: caps) [(kb, some (txB B ko)), (ko, some (txR B))] (.tup []) [(kb, txB (B ++ enc x) ko), (ko, txR (B ++ enc x))]) :
  Xr Tryz.prog 69 [.ptr kb 0, .sl 1 (l.map Ym) .sh, .fn (.func gf) caps] [(kb, some (txB A ko)), (ko, some (txR A))] (.tup []) [(kb, txB (A ++ Zz enc l) ko), (ko, txR (A ++ Zz enc l))] := by
 unfold Zz at hb ⊢
 rw [List.length_append] at hb
 obtain ⟨C, hC⟩ : ∃ C, C = A ++ Y2 (l.length : Int) := ⟨_, rfl⟩
 have hCl : C.length = A.length + (Y2 (l.length : Int)).length := by rw [hC, List.length_append]
 rw [← List.append_assoc, ← hC]
 have ct := W1 kb ko hne A (l.length : Int) (by omega)
 rw [← hC] at ct
 refine Xc 0 Tryz.func69 rfl fun n out _ _ => ?_
 simp only [Tryz.ntmps69, List.length_cons, List.length_nil, List.length_map, List.length_replicate, Xf, Nat.reduceAdd, Nat.reduceSub, List.replicate, List.cons_append, List.nil_append]
 rename_i hneeds hgv
 obtain ⟨hk, hko, _⟩ := hneeds
 obtain ⟨hkn, hkon, _⟩ := hgv
 repeat' (first | (with_reducible first | refine Vk fun K hK => ?_ | refine V0 ?_) | ((with_reducible first | refine gE ?_ | refine gR ?_); simp (maxSteps:=9^7) only [ss, tab, simprocAttr, -List.reduceReplicate, Mr, List.length_map, X8 hkn, X8 hkon, X7 hkn, X7 hkon, Xa hkn, Xa hkon]) | (refine Xk ct (by rw [X8 hkn]; exact hk) (by rw [X8 hkon]; exact hko) (by rw [X7 hkn]; trivial) (by rw [X7 hkon]; trivial) (by simp) (by simp) ?_) | (refine hK _ ?_; clear hK K))
 have e0 : txO out kb ko (C ++ (l.take 0).flatMap enc) = Xw (Xw out kb (txB C ko)) ko (txR C) := by rw [List.take_zero, List.flatMap_nil, List.append_nil]; rfl
 refine Xe ?_
 refine Xz (fun i : Nat => [(15, i64 (i : Int)), (7, .top), (16, .top), (17, .top), (18, .top), (19, .top), (20, .top), (21, .top), (22, .top)]) (fun i => []) (fun i => txO out kb ko (C ++ (l.take i).flatMap enc)) (fun i => i ≤ l.length) (fun i => l.length - i) 0 (Nat.zero_le _) ?_ fun i hi => ?_
 ·refine X2 ?_ ?_ (by first | rfl | (simp only [e0, List.length_map]; rfl) | simp only [e0, List.length_map]) rfl rfl rfl <;> simp only [X4, sl, e0, List.length_map]
 simp only [X4, s_0, s_s]
 have hw := Yl (n := i) 1 1 rfl (by omega)
 by_cases hlt : i < l.length
 ·have gi := Xg Ym l i [] hlt
  have hfl := Z0 enc l (i + 1)
  rw [Y3 enc l i hlt, List.length_append] at hfl
  obtain ⟨B, hB'⟩ : ∃ B, B = C ++ (l.take i).flatMap enc := ⟨_, rfl⟩
  have hB2 : C ++ (l.take (i + 1)).flatMap enc = B ++ enc l[i] := by rw [Y3 enc l i hlt, hB', List.append_assoc]
  have b1 : B.length + (enc l[i]).length ≤ 1000000 := by rw [hB', List.length_append]; omega
  have cp := hp l[i] (List.getElem_mem hlt) B b1
  rw [← hB']
  repeat' (first | (with_reducible first | refine Vk fun K hK => ?_ | refine V0 ?_ | refine Vb ?_ | refine Vs ?_) | ((with_reducible first | refine gE ?_ | refine gR ?_); simp (maxSteps:=9^7) only [ss, X1, tab, simprocAttr, -List.reduceReplicate, hB, gi, Ym, hlt, List.length_map, X8 hkn, X8 hkon, X7 hkn, X7 hkon, Xa hkn, Xa hkon, V9, X0, hw]) | (refine Xk cp (by rw [X8 hkn]; exact Kh hne B) (by rw [X8 hkon]; exact Lf B) (by rw [X7 hkn]; trivial) (by rw [X7 hkon]; trivial) (by simp) (by simp) ?_) | (refine hK _ ?_; clear hK K) | refine Vt rfl ?_)
  refine ⟨i + 1, by omega, by omega, ?_⟩
  rw [hB2]
  refine X2 ?_ ?_ rfl rfl rfl rfl <;> simp only [X4, sl, List.length_map, hlt, decide_true]
 ·obtain rfl : i = l.length := by omega
  repeat' (first | (with_reducible first | refine Vk fun K hK => ?_ | refine V0 ?_) | ((with_reducible refine gE ?_); simp (maxSteps:=9^7) only [ss, X1, tab, simprocAttr, -List.reduceReplicate, hlt, List.length_map]) | ((with_reducible refine Vx ?_); simp only [sb, reduceIte, Nat.reduceEqDiff]) | (refine hK _ ?_; clear hK K) | refine Vf rfl ?_ | clear hK K)
  rw [List.take_length]
  exact Xy (.inl rfl) rfl rfl rfl (fun j _ => by rw [V7])
theorem Ai (kb ko kn : Nat) (hne : kb ≠ ko) (n1 : kn ≠ kb) (n2 : kn ≠ ko) (R : Res) (hR : R ≠ .dead) (gf : FuncId) (caps : List AV) (hB : Xd Tryz.prog gf = True) (l : List (Rt)) (enc : Rt → List UInt8) (A : List UInt8) (hl : l.length ≤ 1000000) (hb : A.length + (Zz enc l).length ≤ 1000000)
  (hp : ∀ x, x ∈ l → ∀ B : List UInt8, B.length + (enc x).length ≤ 1000000 → Xr Tryz.prog gf (rtA x :: caps) [(kb, some (txB B ko)), (ko, some (txR B)), (kn, some R)] (.tup []) [(kb, txB (B ++ enc x) ko), (ko, txR (B ++ enc x))]) :
  Xr Tryz.prog 67 [.ptr kb 0, .sl 7 (l.map rtC) .sh, .fn (.func gf) caps] [(kb, some (txB A ko)), (ko, some (txR A)), (kn, some R)] (.tup []) [(kb, txB (A ++ Zz enc l) ko), (ko, txR (A ++ Zz enc l))] := by
 unfold Zz at hb ⊢
 rw [List.length_append] at hb
 obtain ⟨C, hC⟩ : ∃ C, C = A ++ Y2 (l.length : Int) := ⟨_, rfl⟩
 have hCl : C.length = A.length + (Y2 (l.length : Int)).length := by rw [hC, List.length_append]
 rw [← List.append_assoc, ← hC]
 have ct := W1 kb ko hne A (l.length : Int) (by omega)
 rw [← hC] at ct
 refine Kz 1 Tryz.func67 rfl fun n out _ _ _ => ?_
 simp only [Tryz.ntmps67, List.length_cons, List.length_nil, List.length_map, List.length_replicate, Xf, Nat.reduceAdd, Nat.reduceSub, List.replicate, List.cons_append, List.nil_append]
 rename_i hneeds hgv hz
 obtain ⟨hk, hko, hkr, _⟩ := hneeds
 have hknn : kn < n := by
  rcases Nat.lt_or_ge kn n with h | h
  ·exact h
  ·rw [hz kn h] at hkr; cases hkr
 obtain ⟨hkn, hkon, _⟩ := hgv
 repeat' (first | (with_reducible first | refine Vk fun K hK => ?_ | refine V0 ?_) | ((with_reducible first | refine gE ?_ | refine gR ?_); simp (maxSteps:=9^7) only [ss, tab, simprocAttr, -List.reduceReplicate, Mr, List.length_map, X8 hkn, X8 hkon, X7 hkn, X7 hkon, Xa hkn, Xa hkon]) | (refine Xk ct (by rw [X8 hkn]; exact hk) (by rw [X8 hkon]; exact hko) (by rw [X7 hkn]; trivial) (by rw [X7 hkon]; trivial) (by simp) (by simp) ?_) | (refine hK _ ?_; clear hK K))
 have e0 : txO out kb ko (C ++ (l.take 0).flatMap enc) = Xw (Xw out kb (txB C ko)) ko (txR C) := by rw [List.take_zero, List.flatMap_nil, List.append_nil]; rfl
 refine Xe ?_
 refine Xl (fun m (i : Nat) => [(15, i64 (i : Int)), (7, .top), (16, .top), (17, .top), (18, .top), (19, .top), (20, .top), (21, .top), (22, .top)]) (fun m i => [none]) (fun i => txO out kb ko (C ++ (l.take i).flatMap enc)) (fun i => i ≤ l.length) (fun i => l.length - i) 0 (Nat.zero_le _) ?_ fun m i hm hi => ?_
 ·refine X2 ?_ ?_ (by first | rfl | (simp only [e0, List.length_map]; rfl) | simp only [e0, List.length_map]) rfl rfl rfl <;> simp only [X4, sl, e0, List.length_map]
 simp only [X4, s_0, s_s]
 have hw := Yl (n := i) 1 1 rfl (by omega)
 by_cases hlt : i < l.length
 ·have gi := Xg rtC l i [] hlt
  have hfl := Z0 enc l (i + 1)
  rw [Y3 enc l i hlt, List.length_append] at hfl
  obtain ⟨B, hB'⟩ : ∃ B, B = C ++ (l.take i).flatMap enc := ⟨_, rfl⟩
  have hB2 : C ++ (l.take (i + 1)).flatMap enc = B ++ enc l[i] := by rw [Y3 enc l i hlt, hB', List.append_assoc]
  have b1 : B.length + (enc l[i]).length ≤ 1000000 := by rw [hB', List.length_append]; omega
  have cp := hp l[i] (List.getElem_mem hlt) B b1
  rw [← hB']
  repeat' (first | (with_reducible first | refine Vk fun K hK => ?_ | refine V0 ?_ | refine Vb ?_ | refine Vs ?_) | ((with_reducible first | refine gE ?_ | refine gR ?_); simp (maxSteps:=9^7) only [ss, X1, tab, simprocAttr, -List.reduceReplicate, Xi hm, hB, gi, rtC, hlt, List.length_map, X8 hkn, X8 hkon, X7 hkn, X7 hkon, Xa hkn, Xa hkon, V9, X0, hw]) | (refine Gu cp (by rw [X8 hkn]; exact Kh hne B) (by rw [X8 hkon]; exact Lf B) (by rw [X8 hknn, X5h n1 n2]; exact hkr) (by rw [X7 hkn]; trivial) (by rw [X7 hkon]; trivial) (by rw [X7 hknn]; trivial) (by simp) (by simp) (by simpa using hR) ?_) | (refine hK _ ?_; clear hK K) | refine Vt rfl ?_)
  refine ⟨i + 1, by omega, by omega, ?_⟩
  rw [hB2]
  refine Xx [false] (fun n_ => ?_) (fun n_ => ?_) <;> simp only [X4, sm]
 ·obtain rfl : i = l.length := by omega
  repeat' (first | (with_reducible first | refine Vk fun K hK => ?_ | refine V0 ?_) | ((with_reducible refine gE ?_); simp (maxSteps:=9^7) only [ss, X1, tab, simprocAttr, -List.reduceReplicate, hlt, List.length_map]) | ((with_reducible refine Vx ?_); simp only [sb, reduceIte, Nat.reduceEqDiff]) | (refine hK _ ?_; clear hK K) | refine Vf rfl ?_ | clear hK K)
  rw [List.take_length]
  exact Xy (.inl rfl) rfl rfl rfl (fun j _ => by rw [V7])
end Go.Proofs.YtgdhnngpfieloaaGreat.Pln
end
section
namespace Go.Proofs.YtgdhnngpfieloaaGreat.Pln
set_option linter.unusedVariables false
set_option linter.unusedSimpArgs false
open Go Go.VS Tab
set_option maxHeartbeats 8000000
set_option maxRecDepth 4000
theorem Bj {T : TypeId → Option TI} {σ : AState} {K : AV → List (Nat × Res) → Prop} {t e : TypeId} {ti te : TI} (ht : T t = some ti) (hd : ti.desc = .slice e) (he : T e = some te) (h1 : te.size = 1) {x y z a b c : AV} (hp : x.parts = some [a]) (hq : y.parts = some [b]) (hr' : z.parts = some [c]) :
  X1 T σ K none t 3 [(0, x), (1, y), (2, z)] = K (.sl 1 [[a], [b], [c]] .full) [] := by
 have hz : (Y7 te.zero 3).length = 3 := by simp [Y7]
 obtain ⟨z0, z1, z2, hz2⟩ : ∃ z0 z1 z2, Y7 te.zero 3 = [z0, z1, z2] := ⟨_, _, _, rfl⟩
 have hr : U4 (fun i => some (i * te.size, te.size)) (Y7 te.zero (3 * te.size)) [(0, x), (1, y), (2, z)] = some [a, b, c] := by
  rw [h1, show 3 * 1 = 3 from rfl, hz2]
  simp [U4, hp, hq, hr', Yf]
 simp only [X1, ht, hd, he, hr]
 simp [h1, Yh]
theorem X5i (a b c : Int) (σ : AState) (K : AV → List (Nat × Res) → Prop) : X1 tab σ K none 41 3 [(0, i64 a), (1, i64 b), (2, i64 c)] = K (.sl 1 [[i64 a], [i64 b], [i64 c]] .full) [] := Bj (T := tab) (ti := ti41) (te := ti3) rfl rfl rfl rfl rfl rfl rfl
theorem Lg {P : Program} {n : Nat} {fn : Func} {out : Nat → Option Res} {gives : List (Nat × Res)} {σ : AState} (hr : fn.results = #[]) (hd : σ.df = []) (h0 : σ.n0 = n) (ho : σ.out = upd out gives) : Zq P n fn out gives (.tup []) .normal σ :=
 Xy (.inl rfl) hr hd h0 (fun k _ => by rw [ho])
theorem X1y (kb ko : Nat) (hne : kb ≠ ko) (a : Int) (A : List UInt8) (hb : A.length + (Y2 a).length ≤ 1000000) :
  Xr Tryz.prog 59 [i64 a, .ptr kb 0] [(kb, some (txB A ko)), (ko, some (txR A))] (.tup []) [(kb, txB (A ++ Y2 a) ko), (ko, txR (A ++ Y2 a))] := by
 have ct := W1 kb ko hne A a hb
 refine Xc 0 Tryz.func59 rfl fun n out _ _ => ?_
 simp only [Tryz.ntmps59, List.length_cons, List.length_nil, List.length_map, List.length_replicate, Xf, Nat.reduceAdd, Nat.reduceSub, List.replicate, List.cons_append, List.nil_append]
 rename_i hneeds hgv
 obtain ⟨hk, hko, _⟩ := hneeds
 obtain ⟨hkn, hkon, _⟩ := hgv
 repeat' (first | (with_reducible refine V0 ?_) | ((with_reducible first | refine gE ?_ | refine gR ?_); simp (maxSteps:=9^7) only [ss, tab, simprocAttr, -List.reduceReplicate, Mr, X8 hkn, X8 hkon, X7 hkn, X7 hkon, Xa hkn, Xa hkon]) | (refine Xk ct (by rw [X8 hkn]; exact hk) (by rw [X8 hkon]; exact hko) (by rw [X7 hkn]; trivial) (by rw [X7 hkon]; trivial) (by simp) (by simp) ?_))
 exact Lg rfl rfl rfl rfl
theorem X5j (kb ko : Nat) (hne : kb ≠ ko) (x : Int × Int) (A : List UInt8) (hb : A.length + (Ug x).length ≤ 1000000) :
  Xr Tryz.prog 64 [jnA x, .ptr kb 0] [(kb, some (txB A ko)), (ko, some (txR A))] (.tup []) [(kb, txB (A ++ Ug x) ko), (ko, txR (A ++ Ug x))] := by
 have ct := Mq kb ko hne A x.1 x.2 hb
 refine Xc 1 Tryz.func64 rfl fun n out _ _ => ?_
 simp only [Tryz.ntmps64, List.length_cons, List.length_nil, List.length_map, List.length_replicate, Xf, Nat.reduceAdd, Nat.reduceSub, List.replicate, List.cons_append, List.nil_append]
 rename_i hneeds hgv
 obtain ⟨hk, hko, _⟩ := hneeds
 obtain ⟨hkn, hkon, _⟩ := hgv
 repeat' (first | (with_reducible first | refine Vk fun K hK => ?_ | refine V0 ?_) | ((with_reducible first | refine gE ?_ | refine gR ?_); simp (maxSteps:=9^7) only [ss, tab, simprocAttr, -List.reduceReplicate, B6, jnA, jnC, X0, X8 hkn, X8 hkon, X7 hkn, X7 hkon, Xa hkn, Xa hkon]) | (refine Xk ct (by rw [X8 hkn]; exact hk) (by rw [X8 hkon]; exact hko) (by rw [X7 hkn]; trivial) (by rw [X7 hkon]; trivial) (by simp) (by simp) ?_) | (refine hK _ ?_; clear hK K))
 exact Lg rfl rfl rfl rfl
theorem X5k (kb ko : Nat) (hne : kb ≠ ko) (x : Int × Int) (A : List UInt8) (hb : A.length + (Ug x).length ≤ 1000000) :
  Xr Tryz.prog 71 [jnA x, .ptr kb 0] [(kb, some (txB A ko)), (ko, some (txR A))] (.tup []) [(kb, txB (A ++ Ug x) ko), (ko, txR (A ++ Ug x))] := by
 have ct := Mq kb ko hne A x.1 x.2 hb
 refine Xc 1 Tryz.func71 rfl fun n out _ _ => ?_
 simp only [Tryz.ntmps71, List.length_cons, List.length_nil, List.length_map, List.length_replicate, Xf, Nat.reduceAdd, Nat.reduceSub, List.replicate, List.cons_append, List.nil_append]
 rename_i hneeds hgv
 obtain ⟨hk, hko, _⟩ := hneeds
 obtain ⟨hkn, hkon, _⟩ := hgv
 repeat' (first | (with_reducible first | refine Vk fun K hK => ?_ | refine V0 ?_) | ((with_reducible first | refine gE ?_ | refine gR ?_); simp (maxSteps:=9^7) only [ss, tab, simprocAttr, -List.reduceReplicate, B6, jnA, jnC, X0, X8 hkn, X8 hkon, X7 hkn, X7 hkon, Xa hkn, Xa hkon]) | (refine Xk ct (by rw [X8 hkn]; exact hk) (by rw [X8 hkon]; exact hko) (by rw [X7 hkn]; trivial) (by rw [X7 hkon]; trivial) (by simp) (by simp) ?_) | (refine hK _ ?_; clear hK K))
 exact Lg rfl rfl rfl rfl
theorem X5l (kb ko : Nat) (hne : kb ≠ ko) (x : Int × Int × Int) (A : List UInt8) (hb : A.length + (Ee x).length ≤ 1000000) :
  Xr Tryz.prog 66 [sgA x, .ptr kb 0] [(kb, some (txB A ko)), (ko, some (txR A))] (.tup []) [(kb, txB (A ++ Ee x) ko), (ko, txR (A ++ Ee x))] := by
 have ct := Gt kb ko hne A x.1 x.2.1 x.2.2 hb
 refine Xc 1 Tryz.func66 rfl fun n out _ _ => ?_
 simp only [Tryz.ntmps66, List.length_cons, List.length_nil, List.length_map, List.length_replicate, Xf, Nat.reduceAdd, Nat.reduceSub, List.replicate, List.cons_append, List.nil_append]
 rename_i hneeds hgv
 obtain ⟨hk, hko, _⟩ := hneeds
 obtain ⟨hkn, hkon, _⟩ := hgv
 repeat' (first | (with_reducible first | refine Vk fun K hK => ?_ | refine V0 ?_) | ((with_reducible first | refine gE ?_ | refine gR ?_); simp (maxSteps:=9^7) only [ss, tab, simprocAttr, -List.reduceReplicate, X5i, sgA, sgC, X0, X8 hkn, X8 hkon, X7 hkn, X7 hkon, Xa hkn, Xa hkon]) | (refine Xk ct (by rw [X8 hkn]; exact hk) (by rw [X8 hkon]; exact hko) (by rw [X7 hkn]; trivial) (by rw [X7 hkon]; trivial) (by simp) (by simp) ?_) | (refine hK _ ?_; clear hK K))
 exact Lg rfl rfl rfl rfl
theorem X5m (kb ko : Nat) (hne : kb ≠ ko) (s : Sec) (A : List UInt8) (hb : A.length + (D4 s).length ≤ 1000000) (hl : s.ends.length ≤ 1000000) :
  Xr Tryz.prog 62 [Qh s, .ptr kb 0] [(kb, some (txB A ko)), (ko, some (txR A))] (.tup []) [(kb, txB (A ++ D4 s) ko), (ko, txR (A ++ D4 s))] := by
 unfold D4 at hb ⊢
 rw [List.length_append, List.length_append] at hb
 have ct := Mq kb ko hne A s.id s.pt (by rw [List.length_append]; omega)
 obtain ⟨C, hC⟩ : ∃ C, C = A ++ (Y2 s.id ++ Y2 s.pt) := ⟨_, rfl⟩
 have hCl : C.length = A.length + ((Y2 s.id).length + (Y2 s.pt).length) := by rw [hC, List.length_append, List.length_append]
 rw [← hC] at ct
 have hC2 : A ++ (Y2 s.id ++ (Y2 s.pt ++ s.ends.flatMap Ug)) = C ++ s.ends.flatMap Ug := by rw [hC, List.append_assoc, List.append_assoc]
 rw [hC2]
 refine Xc 2 Tryz.func62 rfl fun n out _ _ => ?_
 simp only [Tryz.ntmps62, List.length_cons, List.length_nil, List.length_map, List.length_replicate, Xf, Nat.reduceAdd, Nat.reduceSub, List.replicate, List.cons_append, List.nil_append]
 rename_i hneeds hgv
 obtain ⟨hk, hko, _⟩ := hneeds
 obtain ⟨hkn, hkon, _⟩ := hgv
 repeat' (first | (with_reducible first | refine Vk fun K hK => ?_ | refine V0 ?_) | ((with_reducible first | refine gE ?_ | refine gR ?_); simp (maxSteps:=9^7) only [ss, tab, simprocAttr, -List.reduceReplicate, B6, Qh, Y6, X0, List.length_map, X8 hkn, X8 hkon, X7 hkn, X7 hkon, Xa hkn, Xa hkon]) | (refine Xk ct (by rw [X8 hkn]; exact hk) (by rw [X8 hkon]; exact hko) (by rw [X7 hkn]; trivial) (by rw [X7 hkon]; trivial) (by simp) (by simp) ?_) | (refine hK _ ?_; clear hK K))
 have e0 : txO out kb ko (C ++ (s.ends.take 0).flatMap Ug) = Xw (Xw out kb (txB C ko)) ko (txR C) := by rw [List.take_zero, List.flatMap_nil, List.append_nil]; rfl
 refine Xe ?_
 refine Xl (fun m (i : Nat) => [(14, i64 (i : Int)), (2, .ptr (m + 0) 0), (5, .ptr (m + 0) 0), (7, .ptr (m + 0) 1), (11, .ptr (m + 0) 2), (4, .top), (15, .top), (16, .top), (17, .top), (18, .top), (19, .top), (20, .top), (21, .top), (22, .top), (23, .top), (24, .top)]) (fun m i => [some (.box 63 (Y6 s)), none]) (fun i => txO out kb ko (C ++ (s.ends.take i).flatMap Ug)) (fun i => i ≤ s.ends.length) (fun i => s.ends.length - i) 0 (Nat.zero_le _) ?_ fun m i hm hi => ?_
 ·refine X2 ?_ ?_ (by first | rfl | (simp only [e0, List.length_map, Y6]; rfl) | simp only [e0, List.length_map, Y6]) rfl rfl rfl <;> simp only [X4, sl, e0, List.length_map, Y6]
 simp only [X4, s_0, s_s]
 have hw := Yl (n := i) 1 1 rfl (by omega)
 by_cases hlt : i < s.ends.length
 ·have gi := Xg jnC s.ends i [] hlt
  have hfl := Z0 Ug s.ends (i + 1)
  rw [Y3 Ug s.ends i hlt, List.length_append] at hfl
  obtain ⟨B, hB'⟩ : ∃ B, B = C ++ (s.ends.take i).flatMap Ug := ⟨_, rfl⟩
  have hB2 : C ++ (s.ends.take (i + 1)).flatMap Ug = B ++ Ug s.ends[i] := by rw [Y3 Ug s.ends i hlt, hB', List.append_assoc]
  have b1 : B.length + (Ug s.ends[i]).length ≤ 1000000 := by rw [hB', List.length_append]; omega
  have cp := Mq kb ko hne B s.ends[i].1 s.ends[i].2 b1
  rw [← hB']
  repeat' (first | (with_reducible first | refine Vk fun K hK => ?_ | refine V0 ?_ | refine Vb ?_ | refine Vs ?_) | ((with_reducible first | refine gE ?_ | refine gR ?_); simp (maxSteps:=9^7) only [ss, tab, simprocAttr, -List.reduceReplicate, B6, Xi hm, gi, jnC, hlt, List.length_map, X8 hkn, X8 hkon, X7 hkn, X7 hkon, Xa hkn, Xa hkon, V9, X0, hw]) | (refine Xk cp (by rw [X8 hkn]; exact Kh hne B) (by rw [X8 hkon]; exact Lf B) (by rw [X7 hkn]; trivial) (by rw [X7 hkon]; trivial) (by simp) (by simp) ?_) | (refine hK _ ?_; clear hK K) | refine Vt rfl ?_)
  refine ⟨i + 1, by omega, by omega, ?_⟩
  rw [hB2]
  unfold Ug
  refine Xx [true, false] (fun n_ => ?_) (fun n_ => ?_) <;> simp only [X4, sm, Y6]
 ·obtain rfl : i = s.ends.length := by omega
  repeat' (first | (with_reducible first | refine Vk fun K hK => ?_ | refine V0 ?_) | ((with_reducible refine gE ?_); simp (maxSteps:=9^7) only [ss, X1, tab, simprocAttr, -List.reduceReplicate, hlt, List.length_map]) | ((with_reducible refine Vx ?_); simp only [sb, reduceIte, Nat.reduceEqDiff]) | (refine hK _ ?_; clear hK K) | refine Vf rfl ?_ | clear hK K)
  rw [List.take_length]
  exact Lg rfl rfl rfl (V7 _ _ _ _).symm
theorem X5n (kb ko kn : Nat) (hne : kb ≠ ko) (n1 : kn ≠ kb) (n2 : kn ≠ ko) (r : Rt) (A : List UInt8) (hb : A.length + (Ef r).length ≤ 1000000) (l1 : r.path.length ≤ 1000000) (l2 : r.over.length ≤ 1000000) (l3 : r.flanks.length ≤ 1000000) :
  Xr Tryz.prog 68 [rtA r, .ptr kb 0, .ptr kn 0] [(kb, some (txB A ko)), (ko, some (txR A)), (kn, some (.box 109 [.fn (.func 59) [.ptr kb 0]]))] (.tup []) [(kb, txB (A ++ Ef r) ko), (ko, txR (A ++ Ef r))] := by
 unfold Ef at hb ⊢
 rw [List.length_append, List.length_append, List.length_append, List.length_append, List.length_append, List.length_append] at hb
 have hB0 : Xd Tryz.prog 59 = True := hb0 _ (by decide) (by decide)
 have hBf : Xd Tryz.prog 71 = True := hb0 _ (by decide) (by decide)
 obtain ⟨C1, h1⟩ : ∃ C, C = A ++ (Y2 r.id ++ (Y2 r.entry ++ Y2 r.ex)) := ⟨_, rfl⟩
 obtain ⟨C2, h2⟩ : ∃ C, C = C1 ++ Zz Y2 r.path := ⟨_, rfl⟩
 obtain ⟨C3, h3⟩ : ∃ C, C = C2 ++ Zz Y2 r.over := ⟨_, rfl⟩
 obtain ⟨C4, h4⟩ : ∃ C, C = C3 ++ Zz Ug r.flanks := ⟨_, rfl⟩
 have k1 : C1.length = A.length + ((Y2 r.id).length + ((Y2 r.entry).length + (Y2 r.ex).length)) := by rw [h1]; simp [List.length_append]
 have k2 : C2.length = C1.length + (Zz Y2 r.path).length := by rw [h2, List.length_append]
 have k3 : C3.length = C2.length + (Zz Y2 r.over).length := by rw [h3, List.length_append]
 have k4 : C4.length = C3.length + (Zz Ug r.flanks).length := by rw [h4, List.length_append]
 have e : A ++ (Y2 r.id ++ (Y2 r.entry ++ (Y2 r.ex ++ (Zz Y2 r.path ++ (Zz Y2 r.over ++ (Zz Ug r.flanks ++ Y2 r.timer)))))) = C4 ++ Y2 r.timer := by rw [h4, h3, h2, h1]; simp [List.append_assoc]
 have c1 := Gt kb ko hne A r.id r.entry r.ex (by simp only [List.length_append]; omega)
 have c2 := De kb ko hne 59 [.ptr kb 0] hB0 r.path Y2 C1 l1 (by omega) fun x _ B hB => X1y kb ko hne x B hB
 have c3 := De kb ko hne 59 [.ptr kb 0] hB0 r.over Y2 C2 l2 (by omega) fun x _ B hB => X1y kb ko hne x B hB
 have c4 := Ah kb ko hne 71 [.ptr kb 0] hBf r.flanks Ug C3 l3 (by omega) fun x _ B hB => X5k kb ko hne x B hB
 have c5 := W1 kb ko hne C4 r.timer (by omega)
 rw [← h1] at c1
 rw [← h2] at c2
 rw [← h3] at c3
 rw [← h4] at c4
 rw [e]
 clear h1 h2 h3 h4 k1 k2 k3 k4 hb e hB0 hBf
 refine Kz 1 Tryz.func68 rfl fun n out _ _ _ => ?_
 simp only [Tryz.ntmps68, List.length_cons, List.length_nil, List.length_map, List.length_replicate, Xf, Nat.reduceAdd, Nat.reduceSub, List.replicate, List.cons_append, List.nil_append]
 rename_i hneeds hgv hz
 obtain ⟨hk, hko, hkr, _⟩ := hneeds
 obtain ⟨hkn, hkon, _⟩ := hgv
 have hknn : kn < n := by
  rcases Nat.lt_or_ge kn n with h | h
  ·exact h
  ·rw [hz kn h] at hkr; cases hkr
 rw [← Dd hk hko]
 have hkr' : ∀ B, txO out kb ko B kn = some (.box 109 [.fn (.func 59) [.ptr kb 0]]) := fun B => by rw [X5h n1 n2]; exact hkr
 repeat' (first | (with_reducible first | refine Vk fun K hK => ?_ | refine V0 ?_) | ((with_reducible first | refine gE ?_ | refine gR ?_); simp (maxSteps:=9^7) only [ss, tab, simprocAttr, -List.reduceReplicate, Mr, X5i, rtA, rtC, hkr', X8 hknn, X7 hknn, X8 hkn, X8 hkon, X7 hkn, X7 hkon, Xa hkn, Xa hkon, V9, X0]) | (refine Xk c1 (by rw [X8 hkn]; exact Kh hne _) (by rw [X8 hkon]; exact Lf _) (by rw [X7 hkn]; trivial) (by rw [X7 hkon]; trivial) (by simp) (by simp) ?_) | (refine Xk c2 (by rw [X8 hkn]; exact Kh hne _) (by rw [X8 hkon]; exact Lf _) (by rw [X7 hkn]; trivial) (by rw [X7 hkon]; trivial) (by simp) (by simp) ?_) | (refine Xk c3 (by rw [X8 hkn]; exact Kh hne _) (by rw [X8 hkon]; exact Lf _) (by rw [X7 hkn]; trivial) (by rw [X7 hkon]; trivial) (by simp) (by simp) ?_) | (refine Xk c4 (by rw [X8 hkn]; exact Kh hne _) (by rw [X8 hkon]; exact Lf _) (by rw [X7 hkn]; trivial) (by rw [X7 hkon]; trivial) (by simp) (by simp) ?_) | (refine Xk c5 (by rw [X8 hkn]; exact Kh hne _) (by rw [X8 hkon]; exact Lf _) (by rw [X7 hkn]; trivial) (by rw [X7 hkon]; trivial) (by simp) (by simp) ?_) | (refine hK _ ?_; clear hK K))
 exact Lg rfl rfl rfl (by rw [V7]; exact (V9 _ _ _ _ _).symm)
end Go.Proofs.YtgdhnngpfieloaaGreat.Pln
end
