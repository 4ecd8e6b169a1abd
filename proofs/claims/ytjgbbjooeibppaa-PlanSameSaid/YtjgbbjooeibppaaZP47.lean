/-
 A plan copied into boxes by the program.
-/
import Derived.Test.YtjgbbjooeibppaaZGA
import Derived.Test.YtjgbbjooeibppaaZP44
import Derived.Test.YtjgbbjooeibppaaZP46
import Derived.Test.YtjgbbjooeibppaaZVsDraw
namespace Go.Proofs.Ytjgbbjooeibppaa.Pln
set_option linter.unusedVariables false
set_option linter.unusedSimpArgs false
open Go Go.VS Tab
set_option maxHeartbeats 8000000
set_option maxRecDepth 4000
theorem Xgv {k : Nat} (o : Nat → Option Res) : Qe [100] 0 [k] o k = o k := by simp [Qe]
theorem Xgl (k : Nat) (r : Rt) (h : r.path.length ≤ 20 ∧ r.over.length ≤ 20 ∧ r.flanks.length ≤ 20) : Xr Try.prog 37 [rtA r] [(k, none)] (.agg (rtX k r)) [(k, bxD 3 (r.path.map Ym))] := by
 have c1 := Xes k (r.path.map Ym) (by simp; omega)
 rw [List.length_map] at c1
 have c2 := Xez (r.over.map Ym) (by simp; omega)
 have c3 := Xfc (r.flanks.map jnC) (by simp; omega)
 generalize bxD 3 (r.path.map Ym) = q at *
 refine Xc 2 Try.func37 rfl fun n out _ _ => ?_
 simp only [Try.ntmps37, List.length_cons, List.length_nil, List.length_map, List.length_replicate, Xf, Nat.reduceAdd, Nat.reduceSub, List.replicate, List.cons_append, List.nil_append]
 rename_i hneeds hgv
 obtain ⟨hk, _⟩ := hneeds
 obtain ⟨hkn, _⟩ := hgv
 have hoN : [k].Nodup := by simp
 have hoL : ∀ j, j ∈ [k] → j < n := fun j hj => by simp at hj; subst hj; exact hkn
 refine X9 fun K hK => Xn Xj [] ?_
 simp (maxSteps:=9^7) only [ss, X1, tab, simprocAttr, -List.reduceReplicate, rtA, rtC]
 repeat' (first | (with_reducible refine hK _ ?_; clear hK K) | with_reducible apply And.intro)
 refine X9 fun K hK => Z2 Xj [] [k] [[], [0], [100], [], [0], [], [], [0], [], [], [0], [], [0], [], [0]] [[], [], [100], [], [], [], [], [], [], [], [0], [], [0], [], [0]] hoN hoL follows (by kernel_rfl) (by decide) (by decide) (by kernel_rfl) ?_
 simp (maxSteps:=9^7) only [ss, X1, tab, simprocAttr, -List.reduceReplicate, so, rtA, rtC]
 repeat' (first | (with_reducible refine hK _ ?_; clear hK K) | with_reducible apply And.intro)
 refine Sb c1 (by rw [X8 hkn, Xgv]; exact hk) (by rw [X7 hkn]; trivial) (by simp) ?_
 simp (maxSteps:=9^7) only [ss, X1, tab, simprocAttr, -List.reduceReplicate, so, rtC, X3z (show ([100] : List Nat).contains 100 = true from rfl), Xa hkn]
 repeat' (first | (with_reducible refine hK _ ?_; clear hK K) | with_reducible apply And.intro)
 refine X3 c2 ?_
 simp (maxSteps:=9^7) only [ss, X1, tab, simprocAttr, -List.reduceReplicate, so, rtC, Xa hkn]
 repeat' (first | (with_reducible refine hK _ ?_; clear hK K) | with_reducible apply And.intro)
 refine X3 c3 ?_
 simp (maxSteps:=9^7) only [ss, X1, tab, simprocAttr, -List.reduceReplicate, so, rtC, Xa hkn]
 repeat' (first | (with_reducible refine hK _ ?_; clear hK K) | with_reducible apply And.intro)
 refine X9 fun K hK => Xn Xj [] ?_
 simp (maxSteps:=9^7) only [ss, X1, tab, simprocAttr, -List.reduceReplicate, rtC, X0]
 repeat' (first | (with_reducible refine hK _ ?_; clear hK K) | with_reducible apply And.intro)
 refine Yd (Xu (.inr rfl) rfl rfl rfl (fun j _ => by rfl) ok34 (k := n + 1) (off := 0) rfl (Xb _ (by simp)) (X6 _ (Nat.le_refl _) 1) rfl ?_)
 exact AV.le.rfl _
theorem Xeo (s : Nat → Option Res) (k : Nat) (r : Res) (j : Nat) : Xw s k r j = if j = k then some r else s j := rfl
theorem Xg4 (B : Nat) (p : Pl) (hs : Sm p) : Xr Try.prog 7 [plA p] (Xev B (B2 B p p.secs.length p.rts.length)) (.agg (tC B p)) (B3 B (B2 B p p.secs.length p.rts.length)) := by
 have q1 := hs.secs
 have q2 := hs.pts
 have q3 := hs.sgs
 have q4 := hs.rts
 have c1 := Xfa (p.pts.map jnC) (by simp; omega)
 have c2 := Xfb (p.sgs.map sgC) (by simp; omega)
 have c3 := Xer B (p.secs.map Y6) (by simp; omega)
 have c4 := Xf1 (B + 1) (p.rts.map rtC) (by simp; omega)
 rw [List.length_map] at c3 c4
 refine Xc 4 Try.func7 rfl fun n out _ _ => ?_
 simp only [Try.ntmps7, List.length_cons, List.length_nil, List.length_map, List.length_replicate, Xf, Nat.reduceAdd, Nat.reduceSub, List.replicate, List.cons_append, List.nil_append]
 rename_i hneeds hgv
 have hBn : B < n := Xgt hgv
 have hB1n : B + 1 < n := Xgu hgv
 have hB : out B = none := M5 hneeds (j := 0) (r := bxD 37 _) rfl
 have hB1 : out (B + 1) = none := M5 hneeds (j := 1) (r := bxD 34 _) rfl
 have hoN : [B, B + 1].Nodup := by simp
 have hoL : ∀ j, j ∈ [B, B + 1] → j < n := fun j hj => by
  simp only [List.mem_cons, List.not_mem_nil, or_false] at hj
  rcases hj with rfl | rfl
  ·exact hBn
  ·exact hB1n
 have out0 : Xw (Xw out B (bxD 37 (p.secs.map Y6))) (B + 1) (bxD 34 (p.rts.map rtC)) = ofL out B (B2 B p 0 0) := by
  rw [← B1 (Xgh (B + 2)) Y6 p.secs, ← B1 (rtB (B + 2 + p.secs.length)) rtC p.rts, ← K3]
  show _ = upd (Xw (Xw out B _) (B + 1) _) (B3 (B + 1 + 1) (sE 0 p ++ sT 0 p))
  rw [K3, Xfh]
  intro x hx
  rw [sE, sT, B1 _ (fun _ => none), B1 _ (fun _ => none), List.mem_append, List.mem_map, List.mem_map] at hx
  rcases hx with ⟨_, _, h⟩ | ⟨_, _, h⟩ <;> exact h.symm
 refine X9 fun K hK => Xn Xj [] ?_
 simp (maxSteps:=9^7) only [ss, X1, tab, simprocAttr, -List.reduceReplicate, plA, plC]
 repeat' (first | (with_reducible refine hK _ ?_; clear hK K) | with_reducible apply And.intro)
 refine X9 fun K hK => Ny Xj [] [[], [0], [], [], [0], [], [], [0], [], [0]] [[], [], [], [], [], [], [], [0], [], [0]] follows (by kernel_rfl) (by decide) (by decide) (by kernel_rfl) ?_
 simp (maxSteps:=9^7) only [ss, X1, tab, simprocAttr, -List.reduceReplicate, plC, plA]
 repeat' (first | (with_reducible refine hK _ ?_; clear hK K) | with_reducible apply And.intro)
 refine X3 c1 ?_
 simp (maxSteps:=9^7) only [ss, X1, tab, simprocAttr, -List.reduceReplicate, plC]
 repeat' (first | (with_reducible refine hK _ ?_; clear hK K) | with_reducible apply And.intro)
 refine X3 c2 ?_
 simp (maxSteps:=9^7) only [ss, X1, tab, simprocAttr, -List.reduceReplicate, plC]
 repeat' (first | (with_reducible refine hK _ ?_; clear hK K) | with_reducible apply And.intro)
 refine X9 fun K hK => Z2 Xj [] [B, B + 1] [[], [0], [100], [], [0], [101], [], [0], [], [0]] [[], [], [100], [], [], [101], [], [0], [], [0]] hoN hoL follows (by kernel_rfl) (by decide) (by decide) (by kernel_rfl) ?_
 simp (maxSteps:=9^7) only [ss, X1, tab, simprocAttr, -List.reduceReplicate, so, plC]
 repeat' (first | (with_reducible refine hK _ ?_; clear hK K) | with_reducible apply And.intro)
 refine Sb c3 (by rw [X8 hBn]; simp only [Qe, if_true, show ([100] : List Nat).contains (100 + 0) = true from rfl]; exact hB) (by rw [X7 hBn]; trivial) (by simp) ?_
 simp (maxSteps:=9^7) only [ss, X1, tab, simprocAttr, -List.reduceReplicate, so, plC, X3z (show ([100] : List Nat).contains 100 = true from rfl), Xa hBn]
 repeat' (first | (with_reducible refine hK _ ?_; clear hK K) | with_reducible apply And.intro)
 refine Sb c4 (by rw [X8 hB1n]; simp only [Qe, show (B + 1 = B) = False from eq_false (by omega), if_true, if_false, show ([101] : List Nat).contains (100 + (0 + 1)) = true from rfl, Xeo]; exact hB1) (by rw [X7 hB1n]; trivial) (by simp) ?_
 simp (maxSteps:=9^7) only [ss, X1, tab, simprocAttr, -List.reduceReplicate, so, plC, X40 (show ([101] : List Nat).contains 101 = true from rfl), Xa hB1n, out0]
 repeat' (first | (with_reducible refine hK _ ?_; clear hK K) | with_reducible apply And.intro)
 refine X9 fun KA hKA => ?_
 refine X9 fun K hK => Xn Xj [] ?_
 simp (maxSteps:=9^7) only [ss, X1, tab, simprocAttr, -List.reduceReplicate, plC]
 repeat' (first | (with_reducible refine hK _ ?_; clear hK K) | with_reducible apply And.intro)
 refine Xe ?_
 refine Xl (fun m (i : Nat) => [(26, i64 (i : Int)), (1, .ptr (m + 0) 0), (2, .ptr (m + 1) 0), (3, .top), (4, .top), (27, .top), (28, .top), (29, .top), (30, .top), (31, .top), (32, .top), (33, .top), (34, .top), (35, .top), (36, .top), (37, .top), (38, .top), (39, .top)]) (fun m i => [some (.box 27 (tC B p)), some (.box 27 [i64 0, i64 0, .sl 0 [] .nil, .sl 0 [] .nil, .sl 0 [] .nil, .sl 0 [] .nil]), none, none]) (fun i => ofL out B (B2 B p i 0)) (fun i => i ≤ p.secs.length) (fun i => p.secs.length - i) 0 (Nat.zero_le _) ?_ fun m i hm hi => ?_
 ·refine X2 ?_ ?_ (by first | rfl | (simp only [tC]; rfl) | simp only [tC]) rfl rfl rfl <;> simp only [X4, sl, tC]
 simp only [X4, s_0, s_s]
 have hw := Yl (n := i) 1 1 rfl (by omega)
 by_cases hlt : i < p.secs.length
 ·obtain ⟨s, hsE⟩ : ∃ s, s = p.secs[i] := ⟨_, rfl⟩
  have gs : p.secs[i]? = some s := by rw [hsE]; exact List.getElem?_eq_getElem hlt
  have hse := hs.ends s (List.mem_of_getElem? gs)
  have z3 : szL 3 (sS B i p) := Dm (fun _ _ => rfl) (fun _ _ => rfl)
  have gi : (sS B i p)[i]? = some (Y6 s) := Rf gs (Nat.le_refl _)
  have gp : pick true 3 ((sS B i p).flatten.drop (i * 3)) = some (.agg (Y6 s)) := Xfj z3 gi
  have gw : Yf (sS B i p).flatten (i * 3 + 2) [.bsl (B + 2 + i) 0 s.ends.length false] = (sS B (i + 1) p).flatten := by
   rw [D0 z3 gi (j := 2) (c := .sl 2 (s.ends.map jnC) .sh) rfl]
   exact congrArg List.flatten (P0 gs)
  have gl : (sS B i p).flatten.length = p.secs.length * 3 := by rw [G1 z3, V8]
  have hEl : i < (sE i p).length := by rw [V8]; exact hlt
  have hBi : B + 2 + i < n := Xgr hgv (r := bxD 39 (s.ends.map jnC)) (Rd gs hlt)
  have oB : ofL out B (B2 B p i 0) B = some (.box 37 (sS B i p).flatten) := Xh4 (by rw [V8]; omega)
  have oN : ofL out B (B2 B p i 0) (B + 2 + i) = none := by
   have h1 : (B2 B p i 0)[2 + i]? = some none := by rw [B2, Xfo hEl]; exact Rf gs (Nat.le_refl _)
   have h2 : (B2 B p p.secs.length p.rts.length)[2 + i]? = some (Xgw s) := by rw [B2, Xfo (by rw [V8]; exact hlt)]; exact Rd gs hlt
   rw [Nat.add_assoc, Xf6 h1]
   exact M5 hneeds h2
  have oS : Xw (Xw (ofL out B (B2 B p i 0)) (B + 2 + i) (bxD 39 (s.ends.map jnC))) B (.box 37 (sS B (i + 1) p).flatten) = ofL out B (B2 B p (i + 1) 0) := by
   rw [B2, Xfs hEl, Xgi (by rw [V8]; omega)]
   exact congrArg (fun E => ofL out B (Ve _ _ E _)) (P0 gs)
  have cj := Xf2 (B + 2 + i) (s.ends.map jnC) (by simp; omega)
  rw [List.length_map] at cj
  generalize ofL out B (B2 B p i 0) = O at *
  obtain ⟨O', hO'⟩ : ∃ O', O' = ofL out B (B2 B p (i + 1) 0) := ⟨_, rfl⟩
  rw [← hO'] at oS
  generalize bxD 39 (s.ends.map jnC) = q at *
  generalize (sS B i p).flatten = F at *
  generalize (sS B (i + 1) p).flatten = F' at *
  have ne1 : (B + 2 + i = B) = False := eq_false (by omega)
  have ne2 : (B = B + 2 + i) = False := eq_false (by omega)
  have hoN : [B, B + 2 + i].Nodup := by simp; omega
  have hoL : ∀ j, j ∈ [B, B + 2 + i] → j < n := fun j hj => by
   simp only [List.mem_cons, List.not_mem_nil, or_false] at hj
   rcases hj with rfl | rfl
   ·exact hBn
   ·exact hBi
  refine X9 fun K hK => Xn Xj [] ?_
  simp (maxSteps:=9^7) only [ss, X1, tab, simprocAttr, -List.reduceReplicate, Xi hm, hlt, decide_true]
  repeat' (first | (with_reducible refine hK _ ?_; clear hK K) | with_reducible apply And.intro)
  refine X9 fun KC hKC => Wm rfl (Z1 (hKC _ ?_))
  clear hKC KC
  refine X9 fun KD hKD => Xe ?_
  refine X9 fun K hK => Xn Xj [] ?_
  simp (maxSteps:=9^7) only [ss, X1, tab, simprocAttr, -List.reduceReplicate, Xi hm, tC, Y6, X8 hBn, X7 hBn, oB, gp, X0]
  repeat' (first | (with_reducible refine hK _ ?_; clear hK K) | with_reducible apply And.intro)
  ·omega
  refine Z2 Xj [] [B, B + 2 + i] [[], [0], [], [], [2], [101], [], [], [100]] [[], [], [], [], [], [101], [], [], [100]] hoN hoL follows (by kernel_rfl) (by decide) (by decide) (by kernel_rfl) ?_
  simp (maxSteps:=9^7) only [ss, X1, tab, simprocAttr, -List.reduceReplicate, so, Xi hm, tC, Y6, X8 hBn, X7 hBn, oB]
  refine Sb cj (by rw [X8 hBi]; simp only [Qe, ne1, if_true, if_false, show ([101] : List Nat).contains (100 + (0 + 1)) = true from rfl]; exact oN) (by rw [X7 hBi]; trivial) (by simp) ?_
  have oB2 : Qe [100] 0 [B, B + 2 + i] (Xw O (B + 2 + i) q) B = some (.box 37 F) := by
   simp only [Qe, if_true, show ([100] : List Nat).contains (100 + 0) = true from rfl, Xeo, ne2, if_false]; exact oB
  have gle : i * 3 + 2 + 1 ≤ F.length := by omega
  simp (maxSteps:=9^7) only [ss, X1, tab, simprocAttr, -List.reduceReplicate, so, Xi hm, tC, Y6, X3z (show ([100] : List Nat).contains 100 = true from rfl), X40 (show ([101] : List Nat).contains 101 = true from rfl), Xa hBi, Xa hBn, X8 hBn, X7 hBn, oB2, gw, gle, oS]
  repeat' (first | (with_reducible refine hK _ ?_; clear hK K) | with_reducible apply And.intro)
  ·omega
  refine hKD _ ?_
  clear hKD KD
  repeat' (first | (with_reducible first | refine Vk fun K hK => ?_ | refine V0 ?_ | refine Vb ?_ | refine Vc ?_ | refine Vr ?_ | refine Vs ?_ | apply And.intro | refine Vq (by kernel_rfl) ?_) | ((with_reducible first | refine gE ?_ | refine gR ?_); simp (maxSteps:=9^7) only [ss, X1, tab, simprocAttr, -List.reduceReplicate, Xi hm, hw]) | exact Vn | ((with_reducible refine Vz ?_); (first | refine Xu (.inr rfl) rfl rfl rfl (fun _ _ => rfl) ok27 (k := n + 1) (off := 0) rfl (Xb _ (by simp)) (X6 _ (Nat.le_refl _) 1) rfl ?_ | refine Xu (.inr rfl) rfl rfl rfl (fun _ _ => rfl) ok27 (k := m + 1) (off := 0) rfl (Xb _ (by simp)) (X6 _ hm 1) rfl ?_) <;> first | rfl | exact AV.le.rfl _ | (simp only [X4, sl, ti27, List.map_nil, Xi hm, hw]; done) | rfl | skip) | ((with_reducible refine Vx ?_); simp only [sb, reduceIte, Nat.reduceEqDiff]) | (refine hK _ ?_; clear hK K) | refine Vt rfl ?_ | refine Vf rfl ?_ | refine Vi rfl (fun hg => ?_) (fun hg => ?_) | clear hK K)
  refine ⟨i + 1, by omega, by omega, ?_⟩
  rw [hO']
  refine Xx [true, true, false, false] (fun n_ => ?_) (fun n_ => ?_) <;> simp only [X4, sm, tC]
 obtain rfl : i = p.secs.length := by omega
 clear hw
 refine X9 fun K hK => Xn Xj [] ?_
 simp (maxSteps:=9^7) only [ss, X1, tab, simprocAttr, -List.reduceReplicate, Xi hm, hlt, decide_false]
 repeat' (first | (with_reducible refine hK _ ?_; clear hK K) | with_reducible apply And.intro)
 refine X9 fun KC hKC => Uy rfl (Qi ?_)
 simp only [Qd, Z4, if_true, if_false, reduceIte, Nat.reduceEqDiff]
 refine hKA _ ?_
 clear hKA KA hKC KC
 refine X9 fun KA hKA => ?_
 refine X9 fun K hK => Xn Xj [] ?_
 simp (maxSteps:=9^7) only [ss, X1, tab, simprocAttr, -List.reduceReplicate, Xi hm, tC]
 repeat' (first | (with_reducible refine hK _ ?_; clear hK K) | with_reducible apply And.intro)
 refine Xe ?_
 refine Xl (fun m (i : Nat) => [(43, i64 (i : Int)), (1, .ptr (m + 0) 0), (2, .ptr (m + 1) 0), (5, .top), (6, .top), (44, .top), (45, .top), (46, .top), (47, .top), (48, .top), (49, .top), (50, .top), (51, .top), (52, .top), (53, .top), (54, .top)]) (fun m i => [some (.box 27 (tC B p)), some (.box 27 [i64 0, i64 0, .sl 0 [] .nil, .sl 0 [] .nil, .sl 0 [] .nil, .sl 0 [] .nil]), none, none]) (fun i => ofL out B (B2 B p p.secs.length i)) (fun i => i ≤ p.rts.length) (fun i => p.rts.length - i) 0 (Nat.zero_le _) ?_ fun m i hm hi => ?_
 ·refine X2 ?_ ?_ (by first | rfl | (simp only [tC]; rfl) | simp only [tC]) rfl rfl rfl <;> simp only [X4, sl, tC]
 simp only [X4, s_0, s_s]
 have hw := Yl (n := i) 1 1 rfl (by omega)
 by_cases hlt2 : i < p.rts.length
 ·obtain ⟨r, hrE⟩ : ∃ r, r = p.rts[i] := ⟨_, rfl⟩
  have gs : p.rts[i]? = some r := by rw [hrE]; exact List.getElem?_eq_getElem hlt2
  have z7 : szL 7 (sR B i p) := Dm (fun _ _ => rfl) (fun _ _ => rfl)
  have gi : (sR B i p)[i]? = some (rtC r) := Rf gs (Nat.le_refl _)
  have gp : pick true 7 ((sR B i p).flatten.drop (i * 7)) = some (.agg (rtC r)) := Xfj z7 gi
  have gw : Yf (sR B i p).flatten (i * 7) (rtX (B + 2 + p.secs.length + i) r) = (sR B (i + 1) p).flatten := by
   rw [Xfk z7 gi rfl]
   exact congrArg List.flatten (P0 gs)
  have gl : (sR B i p).flatten.length = p.rts.length * 7 := by rw [G1 z7, V8]
  have hEl : (sE p.secs.length p).length = p.secs.length := V8 _ _ _ _
  have hTl : i < (sT i p).length := by rw [V8]; exact hlt2
  have hBi : B + 2 + p.secs.length + i < n := Xgs hEl hgv (r := bxD 3 (r.path.map Ym)) (Rd gs hlt2)
  have oB : ofL out B (B2 B p p.secs.length i) (B + 1) = some (.box 34 (sR B i p).flatten) := Xgz (by rw [V8]; omega)
  have oN : ofL out B (B2 B p p.secs.length i) (B + 2 + p.secs.length + i) = none := by
   have h1 : (B2 B p p.secs.length i)[2 + (sE p.secs.length p).length + i]? = some none := by rw [B2, Xfp]; exact Rf gs (Nat.le_refl _)
   have h2 : (B2 B p p.secs.length p.rts.length)[2 + (sE p.secs.length p).length + i]? = some (Xg2 r) := by rw [B2, Xfp]; exact Rd gs hlt2
   rw [show B + 2 + p.secs.length + i = B + (2 + (sE p.secs.length p).length + i) from by rw [hEl]; omega, Xf6 h1]
   exact M5 hneeds h2
  have oS : Xw (Xw (ofL out B (B2 B p p.secs.length i)) (B + 2 + p.secs.length + i) (bxD 3 (r.path.map Ym))) (B + 1) (.box 34 (sR B (i + 1) p).flatten) = ofL out B (B2 B p p.secs.length (i + 1)) := by
   rw [B2, Xft hEl hTl, Xfq (by rw [V8]; omega)]
   exact congrArg (fun T => ofL out B (Ve _ _ _ T)) (P0 gs)
  have cj := Xgl (B + 2 + p.secs.length + i) r (hs.rt r (List.mem_of_getElem? gs))
  have l7 : (rtX (B + 2 + p.secs.length + i) r).length = 7 := rfl
  obtain ⟨O', hO'⟩ : ∃ O', O' = ofL out B (B2 B p p.secs.length (i + 1)) := ⟨_, rfl⟩
  rw [← hO'] at oS
  generalize ofL out B (B2 B p p.secs.length i) = O at *
  generalize bxD 3 (r.path.map Ym) = q at *
  generalize (sR B i p).flatten = F at *
  generalize (sR B (i + 1) p).flatten = F' at *
  generalize rtX (B + 2 + p.secs.length + i) r = X at *
  have ne1 : (B + 2 + p.secs.length + i = B + 1) = False := eq_false (by omega)
  have ne2 : (B + 1 = B + 2 + p.secs.length + i) = False := eq_false (by omega)
  have hoN : [B + 1, B + 2 + p.secs.length + i].Nodup := by simp; omega
  have hoL : ∀ j, j ∈ [B + 1, B + 2 + p.secs.length + i] → j < n := fun j hj => by
   simp only [List.mem_cons, List.not_mem_nil, or_false] at hj
   rcases hj with rfl | rfl
   ·exact hB1n
   ·exact hBi
  refine X9 fun K hK => Xn Xj [] ?_
  simp (maxSteps:=9^7) only [ss, X1, tab, simprocAttr, -List.reduceReplicate, Xi hm, hlt2, decide_true]
  repeat' (first | (with_reducible refine hK _ ?_; clear hK K) | with_reducible apply And.intro)
  refine X9 fun KC hKC => Wm rfl (Z1 (hKC _ ?_))
  clear hKC KC
  refine X9 fun KD hKD => Xe ?_
  refine X9 fun K hK => Xn Xj [] ?_
  simp (maxSteps:=9^7) only [ss, X1, tab, simprocAttr, -List.reduceReplicate, Xi hm, tC, rtC, X8 hB1n, X7 hB1n, oB, gp, X0]
  repeat' (first | (with_reducible refine hK _ ?_; clear hK K) | with_reducible apply And.intro)
  ·omega
  refine Z2 Xj [] [B + 1, B + 2 + p.secs.length + i] [[], [0], [], [2], [101], [], [100]] [[], [], [], [], [101], [], [100]] hoN hoL follows (by kernel_rfl) (by decide) (by decide) (by kernel_rfl) ?_
  simp (maxSteps:=9^7) only [ss, X1, tab, simprocAttr, -List.reduceReplicate, so, Xi hm, tC, rtC, X8 hB1n, X7 hB1n, oB]
  refine Sb cj (by rw [X8 hBi]; simp only [Qe, ne1, if_true, if_false, show ([101] : List Nat).contains (100 + (0 + 1)) = true from rfl]; exact oN) (by rw [X7 hBi]; trivial) (by simp) ?_
  have oB2 : Qe [100] 0 [B + 1, B + 2 + p.secs.length + i] (Xw O (B + 2 + p.secs.length + i) q) (B + 1) = some (.box 34 F) := by
   simp only [Qe, if_true, show ([100] : List Nat).contains (100 + 0) = true from rfl, Xeo, ne2, if_false]; exact oB
  have gle : i * 7 + 7 ≤ F.length := by omega
  simp (maxSteps:=9^7) only [ss, X1, tab, simprocAttr, -List.reduceReplicate, so, Xi hm, tC, rtC, X3z (show ([100] : List Nat).contains 100 = true from rfl), X40 (show ([101] : List Nat).contains 101 = true from rfl), Xa hBi, Xa hB1n, X8 hB1n, X7 hB1n, oB2, gw, gle, l7, oS]
  repeat' (first | (with_reducible refine hK _ ?_; clear hK K) | with_reducible apply And.intro)
  ·omega
  refine hKD _ ?_
  clear hKD KD
  repeat' (first | (with_reducible first | refine Vk fun K hK => ?_ | refine V0 ?_ | refine Vb ?_ | refine Vc ?_ | refine Vr ?_ | refine Vs ?_ | apply And.intro | refine Vq (by kernel_rfl) ?_) | ((with_reducible first | refine gE ?_ | refine gR ?_); simp (maxSteps:=9^7) only [ss, X1, tab, simprocAttr, -List.reduceReplicate, Xi hm, hw]) | exact Vn | ((with_reducible refine Vz ?_); (first | refine Xu (.inr rfl) rfl rfl rfl (fun _ _ => rfl) ok27 (k := n + 1) (off := 0) rfl (Xb _ (by simp)) (X6 _ (Nat.le_refl _) 1) rfl ?_ | refine Xu (.inr rfl) rfl rfl rfl (fun _ _ => rfl) ok27 (k := m + 1) (off := 0) rfl (Xb _ (by simp)) (X6 _ hm 1) rfl ?_) <;> first | rfl | exact AV.le.rfl _ | (simp only [X4, sl, ti27, List.map_nil, Xi hm, hw]; done) | rfl | skip) | ((with_reducible refine Vx ?_); simp only [sb, reduceIte, Nat.reduceEqDiff]) | (refine hK _ ?_; clear hK K) | refine Vt rfl ?_ | refine Vf rfl ?_ | refine Vi rfl (fun hg => ?_) (fun hg => ?_) | clear hK K)
  refine ⟨i + 1, by omega, by omega, ?_⟩
  rw [hO']
  refine Xx [true, true, false, false] (fun n_ => ?_) (fun n_ => ?_) <;> simp only [X4, sm, tC]
 obtain rfl : i = p.rts.length := by omega
 refine X9 fun K hK => Xn Xj [] ?_
 simp (maxSteps:=9^7) only [ss, X1, tab, simprocAttr, -List.reduceReplicate, Xi hm, hlt2, decide_false]
 repeat' (first | (with_reducible refine hK _ ?_; clear hK K) | with_reducible apply And.intro)
 refine X9 fun KC hKC => Uy rfl (Qi ?_)
 simp only [Qd, Z4, if_true, if_false, reduceIte, Nat.reduceEqDiff]
 refine hKA _ ?_
 clear hKA KA hKC KC
 repeat' (first | (with_reducible first | refine Vk fun K hK => ?_ | refine V0 ?_ | refine Vb ?_ | refine Vc ?_ | refine Vr ?_ | refine Vs ?_ | apply And.intro | refine Vq (by kernel_rfl) ?_) | ((with_reducible first | refine gE ?_ | refine gR ?_); simp (maxSteps:=9^7) only [ss, X1, tab, simprocAttr, -List.reduceReplicate, Xi hm, tC, X0]) | exact Vn | ((with_reducible refine Vz ?_); (first | refine Xu (.inr rfl) rfl rfl rfl (fun _ _ => rfl) ok27 (k := n + 1) (off := 0) rfl (Xb _ (by simp)) (X6 _ (Nat.le_refl _) 1) rfl ?_ | refine Xu (.inr rfl) rfl rfl rfl (fun _ _ => rfl) ok27 (k := m + 1) (off := 0) rfl (Xb _ (by simp)) (X6 _ hm 1) rfl ?_) <;> first | rfl | exact AV.le.rfl _ | (simp only [X4, sl, ti27, List.map_nil, Xi hm, tC, X0]; done) | rfl | skip) | ((with_reducible refine Vx ?_); simp only [sb, reduceIte, Nat.reduceEqDiff]) | (refine hK _ ?_; clear hK K) | refine Vt rfl ?_ | refine Vf rfl ?_ | refine Vi rfl (fun hg => ?_) (fun hg => ?_) | clear hK K)
 refine Yd (Xu (.inr rfl) rfl rfl rfl (fun j _ => by rw [K3]) ok27 (k := m + 1) (off := 0) rfl (Xb _ (by simp)) (X6 _ hm 1) rfl ?_)
 exact AV.le.rfl _
end Go.Proofs.Ytjgbbjooeibppaa.Pln
