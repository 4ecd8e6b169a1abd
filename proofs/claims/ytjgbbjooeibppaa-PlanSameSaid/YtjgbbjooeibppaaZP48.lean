/-
 The law PlanSame.
-/
import Derived.Test.YtjgbbjooeibppaaZGA
import Derived.Test.YtjgbbjooeibppaaZP47
import Derived.Test.YtjgbbjooeibppaaZW12
import Derived.Test.YtjgbbjooeibppaaZPQ
namespace Go.Proofs.Ytjgbbjooeibppaa.Pln
set_option linter.unusedVariables false
set_option linter.unusedSimpArgs false
open Go Go.VS Tab
set_option maxHeartbeats 8000000
set_option maxRecDepth 4000
def Xgx (x : Int) : Int := IntKind.i64.wrap (x + 1)
def Xh2 (j : Int × Int) : Int × Int := (Xgx j.1, j.2)
def rtI (B j : Nat) (r : Rt) : List AV := rtX (B + j) { r with timer := Xgx r.timer }
def Xh7 (s : Sec) : Option Res := some (bxD 39 ((s.ends.map Xh2).map jnC))
def Xh3 (r : Rt) : Option Res := some (bxD 3 ((r.path.map Xgx).map Ym))
abbrev iR (B b : Nat) (p : Pl) : List (List AV) := stg b (rtI (B + 2 + p.secs.length)) (rtB (B + 2 + p.secs.length)) p.rts
abbrev iE (a : Nat) (p : Pl) : List (Option Res) := stg a (fun _ => Xh7) (fun _ => Xgw) p.secs
abbrev iT (b : Nat) (p : Pl) : List (Option Res) := stg b (fun _ => Xh3) (fun _ => Xg2) p.rts
def E3 (B : Nat) (p : Pl) (a b : Nat) : List (Option Res) := Ve (sS B p.secs.length p) (iR B b p) (iE a p) (iT b p)
theorem Xfu (B : Nat) (p : Pl) : B2 B p p.secs.length p.rts.length = E3 B p 0 0 := by
 unfold B2 E3
 congr 1
 ·rw [sR, iR, A6 (Nat.le_refl _), E2]
 ·rw [sE, iE, A6 (Nat.le_refl _), E2]
 ·rw [sT, iT, A6 (Nat.le_refl _), E2]
theorem Xgm {s : Nat → Option Res} {K : Nat} {l l' : List (Option Res)} (hl : l.length = l'.length) (ha : ∀ x, x ∈ l' → x ≠ none) (h : holds s (Xev K l')) : holds s (Xev K l) :=
 Q5.2 fun x hx => by
  obtain ⟨h0, j, r, h1, h2⟩ := C3.1 hx
  have hj : j < l'.length := by rw [← hl]; exact (List.getElem?_eq_some_iff.1 h1).1
  have e := List.getElem?_eq_getElem hj
  cases hq : l'[j] with
  | none => exact (ha _ (List.getElem_mem hj) hq).elim
  | some q => rw [h0, h2]; exact M5 h (e.trans (by rw [hq]))
theorem Xg5 {N K : Nat} {l l' : List (Option Res)} (hl : l.length = l'.length) (ha : ∀ x, x ∈ l' → x ≠ none) (h : Mc N (B3 K l')) : Mc N (B3 K l) :=
 Ht.2 fun x hx => by
  obtain ⟨j, h1, h2⟩ := A3.1 hx
  have hj : j < l'.length := by rw [← hl]; exact (List.getElem?_eq_some_iff.1 h1).1
  have e := List.getElem?_eq_getElem hj
  cases hq : l'[j] with
  | none => exact (ha _ (List.getElem_mem hj) hq).elim
  | some q => rw [h2]; exact K2 h (e.trans (by rw [hq]))
theorem Xeu (B : Nat) (p : Pl) (a b : Nat) : ∀ x, x ∈ E3 B p a b → x ≠ none := fun x hx => by
 have key : ∀ {α : Type} {d : Nat} {f g : Nat → α → Option Res} {l : List α}, (∀ i y, f i y ≠ none) → (∀ i y, g i y ≠ none) → ∀ x, x ∈ stg d f g l → x ≠ none := fun {α d f g l} hf hg x hx => by
  obtain ⟨i, hi⟩ := List.getElem?_of_mem hx
  rw [C2] at hi
  cases hy : l[i]? with
  | none => rw [hy] at hi; cases hi
  | some y =>
   rw [hy, Option.map_some] at hi
   injection hi with hi
   rw [← hi]
   split
   ·exact hf i y
   ·exact hg i y
 unfold E3 Ve at hx
 simp only [List.mem_cons, List.mem_append] at hx
 rcases hx with rfl | rfl | hx | hx
 ·intro h; cases h
 ·intro h; cases h
 ·exact key (fun _ _ h => by cases h) (fun _ _ h => by cases h) x hx
 ·exact key (fun _ _ h => by cases h) (fun _ _ h => by cases h) x hx
theorem Xep (B : Nat) (p : Pl) (a b : Nat) : (E3 B p a b).length = 2 + p.secs.length + p.rts.length := by
 rw [E3, Xfr, V8, V8]
theorem Xf8 {α : Type} {l : List α} {i : Nat} {x : α} (h : l[i]? = some x) : l.set i x = l := by
 apply List.ext_getElem?
 intro j
 have hl := (List.getElem?_eq_some_iff.1 h).1
 by_cases e : j = i
 ·subst e; rw [List.getElem?_set_self hl, h]
 ·rw [List.getElem?_set_ne (by omega)]
theorem Xg9 {α : Type} (f : Nat → α → α) (l : List α) : stg 0 f (fun _ x => x) l = l := by
 rw [B1]; exact List.map_id' _
theorem Xfv {α β : Type} (f : α → β) (g : Nat → α → β) (l : List α) : stg l.length (fun _ => f) g l = l.map f := by
 rw [A6 (Nat.le_refl _)]; apply List.ext_getElem?; intro i; simp
theorem Xgn (l : List Int) : (l.map Ym).flatten = l.map i64 := by
 induction l with
 | nil => rfl
 | cons x xs ih => exact congrArg (i64 x :: ·) ih
theorem Xgo (l : List Int) (j s : Nat) (x : Int) (h : l[j]? = some x) : pick false s (List.drop j (l.map i64)) = some (i64 x) := by
 obtain ⟨hl, he⟩ := List.getElem?_eq_some_iff.1 h
 rw [List.drop_eq_getElem_cons (by simpa using hl), List.getElem_map, he]; rfl
abbrev Xew (k : Nat) (l : List Int) : List Int := stg k (fun _ => Xgx) (fun _ x => x) l
abbrev Xf3 (k i : Nat) (r : Rt) (p : Pl) : List (Option Res) := (iT i p).set i (some (bxD 3 ((Xew k r.path).map Ym)))
abbrev Xex (k : Nat) (l : List (Int × Int)) : List (Int × Int) := stg k (fun _ => Xh2) (fun _ x => x) l
abbrev Xey (k i : Nat) (s : Sec) (p : Pl) : List (Option Res) := (iE i p).set i (some (bxD 39 ((Xex k s.ends).map jnC)))
theorem Xfd (B : Nat) (p o : Pl) (hp : Lx p = false) (ho : Lx o = false) : Xr Try.prog 3 [plA p, plA o] (Xev B (E3 B p p.secs.length p.rts.length)) (bool true) (B3 B (E3 B p p.secs.length p.rts.length)) := by
 have hs := X0a hp
 have hso := X0a ho
 have c1 := X09 p
 have c2 := X09 o
 rw [hp] at c1
 rw [ho] at c2
 have c3 := Xg4 B p hs
 have c4 := Xgf p o hs
 have c5 := Du p o hs
 have c6 := Xg3 B p p hs
 have c7 := X1o p hs
 have c8 := Du p p hs
 rw [Pq] at c6 c8
 generalize Sy p o = z at *
 simp only [plA, plC] at c1 c2
 refine Xc 4 Try.func3 rfl fun n out _ _ => ?_
 simp only [Try.ntmps3, List.length_cons, List.length_nil, List.length_map, List.length_replicate, Xf, Nat.reduceAdd, Nat.reduceSub, List.replicate, List.cons_append, List.nil_append]
 rename_i hneeds0 hgv0
 have hl0 : ∀ a b, (E3 B p a b).length = (E3 B p p.secs.length p.rts.length).length := fun a b => by rw [Xep, Xep]
 have hneeds : holds out (Xev B (E3 B p 0 0)) := Xgm (hl0 0 0) (Xeu _ _ _ _) hneeds0
 have hgv : ∀ a b, Mc n (B3 B (E3 B p a b)) := fun a b => Xg5 (hl0 a b) (Xeu _ _ _ _) hgv0
 have hgp := hgv 0 0
 rw [Xfu] at c3 c6
 simp only [plA, plC] at c4 c5 c6 c7 c8
 simp only [tC] at c3 c6
 repeat' (first | (with_reducible first | refine Vk fun K hK => ?_ | refine V0 ?_ | refine Vb ?_ | refine Vc ?_ | refine Vr ?_ | refine Vs ?_ | apply And.intro | refine Vq (by kernel_rfl) ?_) | ((with_reducible first | refine gE ?_ | refine gR ?_); simp (maxSteps:=9^7) only [ss, X1, tab, simprocAttr, -List.reduceReplicate, plA, plC, Xg7 hgp, beq_self_eq_true]) | exact Vn | ((with_reducible refine Vz ?_); refine Vo rfl rfl rfl (fun _ _ => rfl) ?_ <;> first | rfl | skip) | (refine X3 (c1) ?_) | (refine X3 (c2) ?_) | (refine Xg1 c3 hgp hneeds ?_) | (refine X3 (c4) ?_) | (refine X3 (c5) ?_) | (refine Xfn c6 hgp rfl ?_) | (refine X3 (c7) ?_) | ((with_reducible refine Vg (fun hg => ?_) (fun hg => ?_)) <;> (try simp only [nb] at hg) <;> simp (maxSteps:=9^7) only [ss, X1, tab, simprocAttr, -List.reduceReplicate, hg, plA, plC, Xg7 hgp, beq_self_eq_true]) | ((with_reducible refine Vx ?_); simp only [sb, reduceIte, Nat.reduceEqDiff]) | (refine hK _ ?_; clear hK K) | refine Vt rfl ?_ | refine Vf rfl ?_ | refine Vi rfl (fun hg => ?_) (fun hg => ?_) | clear hK K)
 refine Xe ?_
 refine Xz (fun i : Nat => [(8, i64 (i : Int)), (9, .top), (34, .top), (35, .top), (36, .top), (37, .top), (38, .top), (39, .top), (40, .top), (41, .top), (42, .top), (43, .top), (44, .top), (45, .top), (46, .top), (47, .top), (48, .top), (49, .top), (50, .top), (51, .top), (52, .top), (53, .top), (54, .top), (55, .top), (56, .top), (57, .top), (58, .top), (59, .top), (60, .top), (61, .top), (62, .top), (63, .top), (64, .top), (65, .top), (66, .top), (67, .top), (68, .top), (69, .top), (70, .top), (71, .top)]) (fun i => [some (.box 27 (plC p)), some (.box 27 (plC o)), some (.box 27 (tC B p)), some (.box 27 (plC p))]) (fun i => ofL out B (E3 B p 0 i)) (fun i => i ≤ p.rts.length) (fun i => p.rts.length - i) 0 (Nat.zero_le _) ?_ fun i hi => ?_
 ·refine X2 ?_ ?_ (by first | rfl | (simp only [plC, tC]; rfl) | simp only [plC, tC]) rfl rfl rfl <;> simp only [X4, sl, plC, tC]
 simp only [X4, s_0, s_s]
 have q4 := hs.rts
 have q1 := hs.secs
 have hw := Yl (n := i) 1 1 rfl (by omega)
 have hB1n : B + 1 < n := Xgu (hgv 0 0)
 by_cases hlt : i < p.rts.length
 ·obtain ⟨r, hrE⟩ : ∃ r, r = p.rts[i] := ⟨_, rfl⟩
  have gs : p.rts[i]? = some r := by rw [hrE]; exact List.getElem?_eq_getElem hlt
  have hr := hs.rt r (List.mem_of_getElem? gs)
  have z7 : ∀ b, szL 7 (iR B b p) := fun b => Dm (fun _ _ => rfl) (fun _ _ => rfl)
  have gi : (iR B i p)[i]? = some (rtB (B + 2 + p.secs.length) i r) := Rf gs (Nat.le_refl _)
  have gi' : (iR B (i + 1) p)[i]? = some (rtI (B + 2 + p.secs.length) i r) := Rd gs (Nat.lt_succ_self _)
  have gc : ∀ q, pick false q ((iR B i p).flatten.drop (i * 7 + 6)) = some (i64 r.timer) := fun q => Hm (z7 _) gi rfl
  have gp : ∀ q, pick false q ((iR B (i + 1) p).flatten.drop (i * 7 + 3)) = some (.bsl (B + 2 + p.secs.length + i) 0 r.path.length false) := fun q => Hm (z7 _) gi' rfl
  have gw : Yf (iR B i p).flatten (i * 7 + 6) [i64 (IntKind.i64.wrap (r.timer + 1))] = (iR B (i + 1) p).flatten := by
   rw [D0 (z7 _) gi (j := 6) (c := i64 r.timer) rfl]
   exact congrArg List.flatten (P0 gs)
  have gl : (iR B i p).flatten.length = p.rts.length * 7 := by rw [G1 (z7 _), V8]
  have gle : i * 7 + 6 + 1 ≤ (iR B i p).flatten.length := by omega
  have hEl : (iE 0 p).length = p.secs.length := V8 _ _ _ _
  have hTl : i < (iT i p).length := by rw [V8]; exact hlt
  have hBi : B + 2 + p.secs.length + i < n := Xgs hEl (hgv 0 i) (r := bxD 3 (r.path.map Ym)) (Rf gs (Nat.le_refl _))
  have oB : ofL out B (E3 B p 0 i) (B + 1) = some (.box 34 (iR B i p).flatten) := Xgz (by rw [V8]; omega)
  have oR : ∀ T, ofL out B (Ve (sS B p.secs.length p) (iR B (i + 1) p) (iE 0 p) T) (B + 1) = some (.box 34 (iR B (i + 1) p).flatten) := fun T => Xgz (by rw [V8]; omega)
  have oS : Xw (ofL out B (E3 B p 0 i)) (B + 1) (.box 34 (iR B (i + 1) p).flatten) = ofL out B (Ve (sS B p.secs.length p) (iR B (i + 1) p) (iE 0 p) (Xf3 0 i r p)) := by
   rw [E3, Xfq (by rw [V8]; omega), Xf3, Xew, Xg9]
   exact congrArg (fun T => ofL out B (Ve _ _ _ T)) (Xf8 (Rf gs (Nat.le_refl _))).symm
  have oE : ofL out B (Ve (sS B p.secs.length p) (iR B (i + 1) p) (iE 0 p) (Xf3 r.path.length i r p)) = ofL out B (E3 B p 0 (i + 1)) := by
   rw [Xf3, Xew, Xfv]
   exact congrArg (fun T => ofL out B (Ve _ _ _ T)) (P0 gs)
  generalize ofL out B (E3 B p 0 i) = O at *
  generalize (iR B i p).flatten = F at *
  generalize (iR B (i + 1) p).flatten = F' at *
  repeat' (first | (with_reducible first | refine Vk fun K hK => ?_ | refine V0 ?_ | refine Vb ?_ | refine Vc ?_ | refine Vr ?_ | refine Vs ?_ | apply And.intro | refine Vq (by kernel_rfl) ?_) | ((with_reducible first | refine gE ?_ | refine gR ?_); simp (maxSteps:=9^7) only [ss, X1, tab, simprocAttr, -List.reduceReplicate, tC, hlt, decide_true, X8 hB1n, X7 hB1n, Xa hB1n, oB, gc, gw, gle, oS]) | exact Vn | ((with_reducible refine Vz ?_); refine Vo rfl rfl rfl (fun _ _ => rfl) ?_ <;> first | rfl | skip) | ((with_reducible refine Vg (fun hg => ?_) (fun hg => ?_)) <;> (try simp only [nb] at hg) <;> simp (maxSteps:=9^7) only [ss, X1, tab, simprocAttr, -List.reduceReplicate, hg, tC, hlt, decide_true, X8 hB1n, X7 hB1n, Xa hB1n, oB, gc, gw, gle, oS]) | ((with_reducible refine Vx ?_); simp only [sb, reduceIte, Nat.reduceEqDiff]) | (refine hK _ ?_; clear hK K) | refine Vt rfl ?_ | refine Vf rfl ?_ | refine Vi rfl (fun hg => ?_) (fun hg => ?_) | clear hK K)
  refine Xe ?_
  refine Xz (fun k : Nat => [(9, i64 (k : Int)), (50, .top), (51, .top), (52, .top), (53, .top), (54, .top), (55, .top), (56, .top), (57, .top), (58, .top), (59, .top), (60, .top), (61, .top), (62, .top), (63, .top), (64, .top), (65, .top), (66, .top), (67, .top), (68, .top), (69, .top), (70, .top), (71, .top)]) (fun k => [some (.box 27 (plC p)), some (.box 27 (plC o)), some (.box 27 (tC B p)), some (.box 27 (plC p))]) (fun k => ofL out B (Ve (sS B p.secs.length p) (iR B (i + 1) p) (iE 0 p) (Xf3 k i r p))) (fun k => k ≤ r.path.length) (fun k => r.path.length - k) 0 (Nat.zero_le _) ?_ fun k hk => ?_
  ·refine X2 ?_ ?_ (by first | rfl | (simp only [plC, tC]; rfl) | simp only [plC, tC]) rfl rfl rfl <;> simp only [X4, sl, plC, tC]
  simp only [X4, s_0, s_s]
  have hwk := Yl (n := k) 1 1 rfl (by omega)
  by_cases hlk : k < r.path.length
  ·obtain ⟨x, hx⟩ : ∃ x, r.path[k]? = some x := ⟨_, List.getElem?_eq_getElem hlk⟩
   have px : (Xew k r.path)[k]? = some x := Rf hx (Nat.le_refl _)
   have plen : (Xew k r.path).length = r.path.length := V8 _ _ _ _
   have bxE : ∀ j, bxD 3 ((Xew j r.path).map Ym) = .box 3 ((Xew j r.path).map i64) := fun j => by
    rw [K1 (by rw [List.length_map, V8]; omega), Xgn]
   have oP : ofL out B (Ve (sS B p.secs.length p) (iR B (i + 1) p) (iE 0 p) (Xf3 k i r p)) (B + 2 + p.secs.length + i) = some (.box 3 ((Xew k r.path).map i64)) := by
    rw [← bxE]
    exact Xh6 hEl (by rw [Xf3, List.getElem?_set_self hTl])
   have oR' := oR (Xf3 k i r p)
   have oQ : Xw (ofL out B (Ve (sS B p.secs.length p) (iR B (i + 1) p) (iE 0 p) (Xf3 k i r p))) (B + 2 + p.secs.length + i) (.box 3 ((Xew (k + 1) r.path).map i64)) = ofL out B (Ve (sS B p.secs.length p) (iR B (i + 1) p) (iE 0 p) (Xf3 (k + 1) i r p)) := by
    rw [Xft hEl (by rw [Xf3, List.length_set]; exact hTl), Xf3, List.set_set, ← bxE]
   have pk : ∀ q, pick false q (((Xew k r.path).map i64).drop k) = some (i64 x) := fun q => Xgo _ _ _ _ px
   have pw : Yf ((Xew k r.path).map i64) k [i64 (IntKind.i64.wrap (x + 1))] = (Xew (k + 1) r.path).map i64 := by
    rw [F7 i64 _ _ _ (by rw [plen]; exact hlk)]
    exact congrArg (List.map i64) (P0 hx)
   have plm : ((Xew k r.path).map i64).length = r.path.length := by rw [List.length_map, plen]
   have ple : k + 1 ≤ ((Xew k r.path).map i64).length := by omega
   obtain ⟨O2, hO2⟩ : ∃ O2, O2 = ofL out B (Ve (sS B p.secs.length p) (iR B (i + 1) p) (iE 0 p) (Xf3 (k + 1) i r p)) := ⟨_, rfl⟩
   rw [← hO2] at oQ
   generalize ofL out B (Ve (sS B p.secs.length p) (iR B (i + 1) p) (iE 0 p) (Xf3 k i r p)) = O1 at *
   generalize (Xew k r.path).map i64 = G at *
   generalize (Xew (k + 1) r.path).map i64 = G' at *
   repeat' (first | (with_reducible first | refine Vk fun K hK => ?_ | refine V0 ?_ | refine Vb ?_ | refine Vc ?_ | refine Vr ?_ | refine Vs ?_ | apply And.intro | refine Vq (by kernel_rfl) ?_) | ((with_reducible first | refine gE ?_ | refine gR ?_); simp (maxSteps:=9^7) only [ss, X1, tab, simprocAttr, -List.reduceReplicate, tC, hlt, hlk, decide_true, X8 hB1n, X7 hB1n, X8 hBi, X7 hBi, Xa hBi, oR', oP, gp, pk, pw, ple, oQ, hwk]) | exact Vn | ((with_reducible refine Vz ?_); refine Vo rfl rfl rfl (fun _ _ => rfl) ?_ <;> first | rfl | skip) | ((with_reducible refine Vg (fun hg => ?_) (fun hg => ?_)) <;> (try simp only [nb] at hg) <;> simp (maxSteps:=9^7) only [ss, X1, tab, simprocAttr, -List.reduceReplicate, hg, tC, hlt, hlk, decide_true, X8 hB1n, X7 hB1n, X8 hBi, X7 hBi, Xa hBi, oR', oP, gp, pk, pw, ple, oQ, hwk]) | ((with_reducible refine Vx ?_); simp only [sb, reduceIte, Nat.reduceEqDiff]) | (refine hK _ ?_; clear hK K) | refine Vt rfl ?_ | refine Vf rfl ?_ | refine Vi rfl (fun hg => ?_) (fun hg => ?_) | clear hK K)
   refine ⟨k + 1, by omega, by omega, ?_⟩
   rw [hO2]
   refine X2 ?_ ?_ rfl rfl rfl rfl <;> simp only [X4, sl, tC, plC]
  ·obtain rfl : k = r.path.length := by omega
   have oR' := oR (Xf3 r.path.length i r p)
   rw [oE] at oR'
   rw [oE]
   obtain ⟨O2, hO2⟩ : ∃ O2, O2 = ofL out B (E3 B p 0 (i + 1)) := ⟨_, rfl⟩
   rw [← hO2] at oR' ⊢
   repeat' (first | (with_reducible first | refine Vk fun K hK => ?_ | refine V0 ?_ | refine Vb ?_ | refine Vc ?_ | refine Vr ?_ | refine Vs ?_ | apply And.intro | refine Vq (by kernel_rfl) ?_) | ((with_reducible first | refine gE ?_ | refine gR ?_); simp (maxSteps:=9^7) only [ss, X1, tab, simprocAttr, -List.reduceReplicate, tC, hlt, hlk, decide_true, decide_false, X8 hB1n, X7 hB1n, oR', gp, hw]) | exact Vn | ((with_reducible refine Vz ?_); refine Vo rfl rfl rfl (fun _ _ => rfl) ?_ <;> first | rfl | skip) | ((with_reducible refine Vg (fun hg => ?_) (fun hg => ?_)) <;> (try simp only [nb] at hg) <;> simp (maxSteps:=9^7) only [ss, X1, tab, simprocAttr, -List.reduceReplicate, hg, tC, hlt, hlk, decide_true, decide_false, X8 hB1n, X7 hB1n, oR', gp, hw]) | ((with_reducible refine Vx ?_); simp only [sb, reduceIte, Nat.reduceEqDiff]) | (refine hK _ ?_; clear hK K) | refine Vt rfl ?_ | refine Vf rfl ?_ | refine Vi rfl (fun hg => ?_) (fun hg => ?_) | clear hK K)
   refine ⟨i + 1, by omega, by omega, ?_⟩
   rw [hO2]
   refine X2 ?_ ?_ rfl rfl rfl rfl <;> simp only [X4, sl, tC, plC]
 obtain rfl : i = p.rts.length := by omega
 clear hw
 repeat' (first | (with_reducible first | refine Vk fun K hK => ?_ | refine V0 ?_ | refine Vb ?_ | refine Vc ?_ | refine Vr ?_ | refine Vs ?_ | apply And.intro | refine Vq (by kernel_rfl) ?_) | ((with_reducible first | refine gE ?_ | refine gR ?_); simp (maxSteps:=9^7) only [ss, X1, tab, simprocAttr, -List.reduceReplicate, tC, plC, hlt, decide_false]) | exact Vn | ((with_reducible refine Vz ?_); refine Vo rfl rfl rfl (fun _ _ => rfl) ?_ <;> first | rfl | skip) | ((with_reducible refine Vg (fun hg => ?_) (fun hg => ?_)) <;> (try simp only [nb] at hg) <;> simp (maxSteps:=9^7) only [ss, X1, tab, simprocAttr, -List.reduceReplicate, hg, tC, plC, hlt, decide_false]) | ((with_reducible refine Vx ?_); simp only [sb, reduceIte, Nat.reduceEqDiff]) | (refine hK _ ?_; clear hK K) | refine Vt rfl ?_ | refine Vf rfl ?_ | refine Vi rfl (fun hg => ?_) (fun hg => ?_) | clear hK K)
 refine Xe ?_
 refine Xz (fun i : Nat => [(10, i64 (i : Int)), (11, .top), (72, .top), (73, .top), (74, .top), (75, .top), (76, .top), (77, .top), (78, .top), (79, .top), (80, .top), (81, .top), (82, .top), (83, .top), (84, .top), (85, .top), (86, .top), (87, .top), (88, .top), (89, .top), (90, .top), (91, .top), (92, .top), (93, .top), (94, .top), (95, .top), (96, .top), (97, .top), (98, .top), (99, .top), (100, .top), (101, .top), (102, .top)]) (fun i => [some (.box 27 (plC p)), some (.box 27 (plC o)), some (.box 27 (tC B p)), some (.box 27 (plC p))]) (fun i => ofL out B (E3 B p i p.rts.length)) (fun i => i ≤ p.secs.length) (fun i => p.secs.length - i) 0 (Nat.zero_le _) ?_ fun i hi => ?_
 ·refine X2 ?_ ?_ (by first | rfl | (simp only [plC, tC]; rfl) | simp only [plC, tC]) rfl rfl rfl <;> simp only [X4, sl, plC, tC]
 simp only [X4, s_0, s_s]
 have hw := Yl (n := i) 1 1 rfl (by omega)
 have hBn : B < n := Xgt (hgv 0 0)
 by_cases hls : i < p.secs.length
 ·obtain ⟨s, hsE⟩ : ∃ s, s = p.secs[i] := ⟨_, rfl⟩
  have gs : p.secs[i]? = some s := by rw [hsE]; exact List.getElem?_eq_getElem hls
  have hse := hs.ends s (List.mem_of_getElem? gs)
  have z3 : szL 3 (sS B p.secs.length p) := Dm (fun _ _ => rfl) (fun _ _ => rfl)
  have gi : (sS B p.secs.length p)[i]? = some (Xgh (B + 2) i s) := Rd gs hls
  have gp : ∀ q, pick false q ((sS B p.secs.length p).flatten.drop (i * 3 + 2)) = some (.bsl (B + 2 + i) 0 s.ends.length false) := fun q => Hm z3 gi rfl
  have hEi : i < (iE i p).length := by rw [V8]; exact hls
  have hBi : B + 2 + i < n := Xgr (hgv i 0) (r := bxD 39 (s.ends.map jnC)) (Rf gs (Nat.le_refl _))
  have oR : ∀ E, ofL out B (Ve (sS B p.secs.length p) (iR B p.rts.length p) E (iT p.rts.length p)) B = some (.box 37 (sS B p.secs.length p).flatten) := fun E => Xh4 (by rw [V8]; omega)
  have oZ : ofL out B (E3 B p i p.rts.length) = ofL out B (Ve (sS B p.secs.length p) (iR B p.rts.length p) (Xey 0 i s p) (iT p.rts.length p)) := by
   rw [Xey, Xex, Xg9]
   exact congrArg (fun E => ofL out B (Ve _ _ E _)) (Xf8 (Rf gs (Nat.le_refl _))).symm
  have oE : ofL out B (Ve (sS B p.secs.length p) (iR B p.rts.length p) (Xey s.ends.length i s p) (iT p.rts.length p)) = ofL out B (E3 B p (i + 1) p.rts.length) := by
   rw [Xey, Xex, Xfv]
   exact congrArg (fun E => ofL out B (Ve _ _ E _)) (P0 gs)
  generalize (sS B p.secs.length p).flatten = F at *
  rw [oZ]
  have oR0 := oR (Xey 0 i s p)
  repeat' (first | (with_reducible first | refine Vk fun K hK => ?_ | refine V0 ?_ | refine Vb ?_ | refine Vc ?_ | refine Vr ?_ | refine Vs ?_ | apply And.intro | refine Vq (by kernel_rfl) ?_) | ((with_reducible first | refine gE ?_ | refine gR ?_); simp (maxSteps:=9^7) only [ss, X1, tab, simprocAttr, -List.reduceReplicate, tC, hls, decide_true, X8 hBn, X7 hBn, oR0, gp]) | exact Vn | ((with_reducible refine Vz ?_); refine Vo rfl rfl rfl (fun _ _ => rfl) ?_ <;> first | rfl | skip) | ((with_reducible refine Vg (fun hg => ?_) (fun hg => ?_)) <;> (try simp only [nb] at hg) <;> simp (maxSteps:=9^7) only [ss, X1, tab, simprocAttr, -List.reduceReplicate, hg, tC, hls, decide_true, X8 hBn, X7 hBn, oR0, gp]) | ((with_reducible refine Vx ?_); simp only [sb, reduceIte, Nat.reduceEqDiff]) | (refine hK _ ?_; clear hK K) | refine Vt rfl ?_ | refine Vf rfl ?_ | refine Vi rfl (fun hg => ?_) (fun hg => ?_) | clear hK K)
  refine Xe ?_
  refine Xz (fun k : Nat => [(11, i64 (k : Int)), (79, .top), (80, .top), (81, .top), (82, .top), (83, .top), (84, .top), (85, .top), (86, .top), (87, .top), (88, .top), (89, .top), (90, .top), (91, .top), (92, .top), (93, .top), (94, .top), (95, .top), (96, .top), (97, .top), (98, .top), (99, .top), (100, .top), (101, .top), (102, .top)]) (fun k => [some (.box 27 (plC p)), some (.box 27 (plC o)), some (.box 27 (tC B p)), some (.box 27 (plC p))]) (fun k => ofL out B (Ve (sS B p.secs.length p) (iR B p.rts.length p) (Xey k i s p) (iT p.rts.length p))) (fun k => k ≤ s.ends.length) (fun k => s.ends.length - k) 0 (Nat.zero_le _) ?_ fun k hk => ?_
  ·refine X2 ?_ ?_ (by first | rfl | (simp only [plC, tC]; rfl) | simp only [plC, tC]) rfl rfl rfl <;> simp only [X4, sl, plC, tC]
  simp only [X4, s_0, s_s]
  have hwk := Yl (n := k) 1 1 rfl (by omega)
  by_cases hlk : k < s.ends.length
  ·obtain ⟨x, hx⟩ : ∃ x, s.ends[k]? = some x := ⟨_, List.getElem?_eq_getElem hlk⟩
   have z2 : ∀ j, szL 2 ((Xex j s.ends).map jnC) := fun j => E5 (f := jnC) (fun _ => rfl) _
   have px : ((Xex k s.ends).map jnC)[k]? = some (jnC x) := by rw [List.getElem?_map, Rf hx (Nat.le_refl _)]; rfl
   have bxE : ∀ j, bxD 39 ((Xex j s.ends).map jnC) = .box 39 ((Xex j s.ends).map jnC).flatten := fun j => K1 (by rw [List.length_map, V8]; omega)
   have oP : ofL out B (Ve (sS B p.secs.length p) (iR B p.rts.length p) (Xey k i s p) (iT p.rts.length p)) (B + 2 + i) = some (.box 39 ((Xex k s.ends).map jnC).flatten) := by
    rw [← bxE]
    exact Xh5 (by rw [Xey, List.getElem?_set_self hEi])
   have oR' := oR (Xey k i s p)
   have oQ : Xw (ofL out B (Ve (sS B p.secs.length p) (iR B p.rts.length p) (Xey k i s p) (iT p.rts.length p))) (B + 2 + i) (.box 39 ((Xex (k + 1) s.ends).map jnC).flatten) = ofL out B (Ve (sS B p.secs.length p) (iR B p.rts.length p) (Xey (k + 1) i s p) (iT p.rts.length p)) := by
    rw [Xfs (by rw [Xey, List.length_set]; exact hEi), Xey, List.set_set, ← bxE]
   have pk : ∀ q, pick false q (((Xex k s.ends).map jnC).flatten.drop (k * 2)) = some (i64 x.1) := fun q => Hm (j := 0) (z2 _) px rfl
   have pw : Yf ((Xex k s.ends).map jnC).flatten (k * 2) [i64 (IntKind.i64.wrap (x.1 + 1))] = ((Xex (k + 1) s.ends).map jnC).flatten := by
    refine (D0 (z2 k) px (j := 0) (c := i64 x.1) (d := i64 (IntKind.i64.wrap (x.1 + 1))) rfl).trans ?_
    rw [show (jnC x).set 0 (i64 (IntKind.i64.wrap (x.1 + 1))) = jnC (Xh2 x) from rfl, ← List.map_set]
    exact congrArg (fun l => (List.map jnC l).flatten) (P0 hx)
   have plm : ((Xex k s.ends).map jnC).flatten.length = s.ends.length * 2 := by rw [G1 (z2 _), List.length_map, V8]
   have ple : k * 2 + 1 ≤ ((Xex k s.ends).map jnC).flatten.length := by omega
   obtain ⟨O2, hO2⟩ : ∃ O2, O2 = ofL out B (Ve (sS B p.secs.length p) (iR B p.rts.length p) (Xey (k + 1) i s p) (iT p.rts.length p)) := ⟨_, rfl⟩
   rw [← hO2] at oQ
   generalize ofL out B (Ve (sS B p.secs.length p) (iR B p.rts.length p) (Xey k i s p) (iT p.rts.length p)) = O1 at *
   generalize ((Xex k s.ends).map jnC).flatten = G at *
   generalize ((Xex (k + 1) s.ends).map jnC).flatten = G' at *
   repeat' (first | (with_reducible first | refine Vk fun K hK => ?_ | refine V0 ?_ | refine Vb ?_ | refine Vc ?_ | refine Vr ?_ | refine Vs ?_ | apply And.intro | refine Vq (by kernel_rfl) ?_) | ((with_reducible first | refine gE ?_ | refine gR ?_); simp (maxSteps:=9^7) only [ss, X1, tab, simprocAttr, -List.reduceReplicate, tC, hls, hlk, decide_true, X8 hBn, X7 hBn, X8 hBi, X7 hBi, Xa hBi, oR', oP, gp, pk, pw, ple, oQ, hwk, Nat.add_zero]) | exact Vn | ((with_reducible refine Vz ?_); refine Vo rfl rfl rfl (fun _ _ => rfl) ?_ <;> first | rfl | skip) | ((with_reducible refine Vg (fun hg => ?_) (fun hg => ?_)) <;> (try simp only [nb] at hg) <;> simp (maxSteps:=9^7) only [ss, X1, tab, simprocAttr, -List.reduceReplicate, hg, tC, hls, hlk, decide_true, X8 hBn, X7 hBn, X8 hBi, X7 hBi, Xa hBi, oR', oP, gp, pk, pw, ple, oQ, hwk, Nat.add_zero]) | ((with_reducible refine Vx ?_); simp only [sb, reduceIte, Nat.reduceEqDiff]) | (refine hK _ ?_; clear hK K) | refine Vt rfl ?_ | refine Vf rfl ?_ | refine Vi rfl (fun hg => ?_) (fun hg => ?_) | clear hK K)
   refine ⟨k + 1, by omega, by omega, ?_⟩
   rw [hO2]
   refine X2 ?_ ?_ rfl rfl rfl rfl <;> simp only [X4, sl, tC, plC]
  ·obtain rfl : k = s.ends.length := by omega
   have oR' := oR (Xey s.ends.length i s p)
   rw [oE] at oR'
   rw [oE]
   obtain ⟨O2, hO2⟩ : ∃ O2, O2 = ofL out B (E3 B p (i + 1) p.rts.length) := ⟨_, rfl⟩
   rw [← hO2] at oR' ⊢
   repeat' (first | (with_reducible first | refine Vk fun K hK => ?_ | refine V0 ?_ | refine Vb ?_ | refine Vc ?_ | refine Vr ?_ | refine Vs ?_ | apply And.intro | refine Vq (by kernel_rfl) ?_) | ((with_reducible first | refine gE ?_ | refine gR ?_); simp (maxSteps:=9^7) only [ss, X1, tab, simprocAttr, -List.reduceReplicate, tC, hls, hlk, decide_true, decide_false, X8 hBn, X7 hBn, oR', gp, hw]) | exact Vn | ((with_reducible refine Vz ?_); refine Vo rfl rfl rfl (fun _ _ => rfl) ?_ <;> first | rfl | skip) | ((with_reducible refine Vg (fun hg => ?_) (fun hg => ?_)) <;> (try simp only [nb] at hg) <;> simp (maxSteps:=9^7) only [ss, X1, tab, simprocAttr, -List.reduceReplicate, hg, tC, hls, hlk, decide_true, decide_false, X8 hBn, X7 hBn, oR', gp, hw]) | ((with_reducible refine Vx ?_); simp only [sb, reduceIte, Nat.reduceEqDiff]) | (refine hK _ ?_; clear hK K) | refine Vt rfl ?_ | refine Vf rfl ?_ | refine Vi rfl (fun hg => ?_) (fun hg => ?_) | clear hK K)
   refine ⟨i + 1, by omega, by omega, ?_⟩
   rw [hO2]
   refine X2 ?_ ?_ rfl rfl rfl rfl <;> simp only [X4, sl, tC, plC]
 obtain rfl : i = p.secs.length := by omega
 clear hw
 repeat' (first | (with_reducible first | refine Vk fun K hK => ?_ | refine V0 ?_ | refine Vb ?_ | refine Vc ?_ | refine Vr ?_ | refine Vs ?_ | apply And.intro | refine Vq (by kernel_rfl) ?_) | ((with_reducible first | refine gE ?_ | refine gR ?_); simp (maxSteps:=9^7) only [ss, X1, tab, simprocAttr, -List.reduceReplicate, tC, plC, hls, decide_false]) | exact Vn | ((with_reducible refine Vz ?_); refine Vo rfl rfl rfl (fun _ _ => rfl) ?_ <;> first | rfl | skip) | (refine X3 (c8) ?_) | ((with_reducible refine Vg (fun hg => ?_) (fun hg => ?_)) <;> (try simp only [nb] at hg) <;> simp (maxSteps:=9^7) only [ss, X1, tab, simprocAttr, -List.reduceReplicate, hg, tC, plC, hls, decide_false]) | ((with_reducible refine Vx ?_); simp only [sb, reduceIte, Nat.reduceEqDiff]) | (refine hK _ ?_; clear hK K) | refine Vt rfl ?_ | refine Vf rfl ?_ | refine Vi rfl (fun hg => ?_) (fun hg => ?_) | clear hK K)
 refine Yd (Qv (.inr rfl) rfl rfl rfl (fun j _ => by rw [K3]) rfl)
theorem Xf4 {P : Program} {f : FuncId} {args : List AV} {r : AV} {l : Nat → List (Option Res)} {m : Nat} (hm : ∀ K, (l K).length = m) (h : ∀ K, Xr P f args (Xev K (l K)) r (B3 K (l K))) : Xr P f args [] r [] := fun M N vs hI hR hn hN hu => by
 obtain ⟨K, hK⟩ := hI.fin
 have hm' := hm (max N K)
 refine (h (max N K) M (max N K + m) vs hI hR (Q5.2 fun x hx => ?_) (fun k hk => hN k (by omega)) (Ht.2 fun x hx => ?_)).mono fun e w' ⟨v, he, M', h1, h2, h3, h4, h5⟩ => ⟨v, he, M', h1, h2, h3, fun k hk => ?_, h5⟩
 ·obtain ⟨h0, j, r, _, hx1⟩ := C3.1 hx
  rw [h0, hx1]
  exact hK _ (by omega)
 ·obtain ⟨j, h0, hx1⟩ := A3.1 hx
  have := (List.getElem?_eq_some_iff.1 h0).1
  omega
 ·rw [h4 k (by omega), K3, Xge (by omega)]; rfl
theorem Xfe (p o : Pl) : Xr Try.prog 3 [plA p, plA o] [] (bool true) [] := by
 cases hp : Lx p with
 | true =>
  have c1 := X09 p
  rw [hp] at c1
  simp only [plA, plC] at c1
  refine Xc 4 Try.func3 rfl fun n out _ _ => ?_
  simp only [Try.ntmps3, List.length_cons, List.length_nil, List.length_map, List.length_replicate, Xf, Nat.reduceAdd, Nat.reduceSub, List.replicate, List.cons_append, List.nil_append]
  repeat' (first | (with_reducible first | refine Vk fun K hK => ?_ | refine V0 ?_ | refine Vb ?_ | refine Vc ?_ | refine Vr ?_ | refine Vs ?_ | apply And.intro | refine Vq (by kernel_rfl) ?_) | ((with_reducible first | refine gE ?_ | refine gR ?_); simp (maxSteps:=9^7) only [ss, X1, tab, simprocAttr, -List.reduceReplicate, plA, plC]) | exact Vn | ((with_reducible refine Vz ?_); refine Vo rfl rfl rfl (fun _ _ => rfl) ?_ <;> first | rfl | skip) | (refine X3 (c1) ?_) | ((with_reducible refine Vg (fun hg => ?_) (fun hg => ?_)) <;> (try simp only [nb] at hg) <;> simp (maxSteps:=9^7) only [ss, X1, tab, simprocAttr, -List.reduceReplicate, hg, plA, plC]) | ((with_reducible refine Vx ?_); simp only [sb, reduceIte, Nat.reduceEqDiff]) | (refine hK _ ?_; clear hK K) | refine Vt rfl ?_ | refine Vf rfl ?_ | refine Vi rfl (fun hg => ?_) (fun hg => ?_) | clear hK K)
 | false =>
  cases ho : Lx o with
  | true =>
   have c1 := X09 p
   have c2 := X09 o
   rw [hp] at c1
   rw [ho] at c2
   simp only [plA, plC] at c1 c2
   refine Xc 4 Try.func3 rfl fun n out _ _ => ?_
   simp only [Try.ntmps3, List.length_cons, List.length_nil, List.length_map, List.length_replicate, Xf, Nat.reduceAdd, Nat.reduceSub, List.replicate, List.cons_append, List.nil_append]
   repeat' (first | (with_reducible first | refine Vk fun K hK => ?_ | refine V0 ?_ | refine Vb ?_ | refine Vc ?_ | refine Vr ?_ | refine Vs ?_ | apply And.intro | refine Vq (by kernel_rfl) ?_) | ((with_reducible first | refine gE ?_ | refine gR ?_); simp (maxSteps:=9^7) only [ss, X1, tab, simprocAttr, -List.reduceReplicate, plA, plC]) | exact Vn | ((with_reducible refine Vz ?_); refine Vo rfl rfl rfl (fun _ _ => rfl) ?_ <;> first | rfl | skip) | (refine X3 (c1) ?_) | (refine X3 (c2) ?_) | ((with_reducible refine Vg (fun hg => ?_) (fun hg => ?_)) <;> (try simp only [nb] at hg) <;> simp (maxSteps:=9^7) only [ss, X1, tab, simprocAttr, -List.reduceReplicate, hg, plA, plC]) | ((with_reducible refine Vx ?_); simp only [sb, reduceIte, Nat.reduceEqDiff]) | (refine hK _ ?_; clear hK K) | refine Vt rfl ?_ | refine Vf rfl ?_ | refine Vi rfl (fun hg => ?_) (fun hg => ?_) | clear hK K)
  | false => exact Xf4 (l := fun B => E3 B p p.secs.length p.rts.length) (fun B => Xep B p _ _) fun B => Xfd B p o hp ho
end Go.Proofs.Ytjgbbjooeibppaa.Pln
