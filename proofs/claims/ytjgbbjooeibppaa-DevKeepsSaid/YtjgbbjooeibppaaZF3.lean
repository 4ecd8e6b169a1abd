/-
 All bytes of a disk are turned, in boxes.
-/
import Derived.Test.YtjgbbjooeibppaaZGA
import Derived.Test.YtjgbbjooeibppaaZF2
namespace Go.Proofs.Ytjgbbjooeibppaa
set_option linter.unusedVariables false
set_option linter.unusedSimpArgs false
open Go Go.VS Tab
set_option maxHeartbeats 4000000
set_option maxRecDepth 4000
def Xis (d : Dsk) : List (List UInt8) := d.sectors ++ d.waits.map Wr.data
theorem Xjj (d : Dsk) : Xh9 d = Xj5 (Xis d) := by simp [Xh9, Xj5, Xkq, Xis]
def bxO (r : List UInt8) : Option Res := if r.length = 0 then none else some (.box 5 (r.map b8))
theorem Xo2 (l : List (List UInt8)) : Xgg (Xj5 l) = l.map bxO := by
 apply List.ext_getElem?
 intro i
 simp only [Xgg, Xj5, List.getElem?_map]
 cases l[i]? with
 | none => rfl
 | some r =>
  simp only [Option.map_some]
  unfold bxO
  by_cases h : r.length = 0
  ·rw [if_pos h]
   have e : Xi2 r = .dead := by unfold Xi2 bxD; rw [if_pos (by rw [Sm]; exact h)]
   rw [e]
  ·rw [if_neg h, Xir (by omega)]
theorem Xmq {s : Nat → Option Res} {B : Nat} {L : List (Option Res)} (h : holds s (Xfx B L)) : ofL s B L = s := by
 funext k
 unfold ofL
 split
 ·cases hx : (L[k - B]?).join with
  | none => rfl
  | some r =>
   have e : L[k - B]? = some (some r) := by
    cases hy : L[k - B]? with
    | none => rw [hy] at hx; cases hx
    | some z => rw [hy] at hx; rw [show z = some r from hx]
   have := Bf h e
   rw [show B + (k - B) = k from by omega] at this
   exact this.symm
 ·rfl
theorem Xnr {α : Type} {l : List α} {i : Nat} {x : α} (h : l[i]? = some x) : l.set i x = l := by
 obtain ⟨hl, he⟩ := List.getElem?_eq_some_iff.1 h
 rw [← he, List.set_getElem_self]
def Xhd (k : Nat) (r : List UInt8) : List UInt8 := stg k (fun _ x => ~~~x) (fun _ x => x) r
def Xiy (r : List UInt8) : List UInt8 := Xhd r.length r
theorem Xhp (k : Nat) (r : List UInt8) : (Xhd k r).length = r.length := V8 _ _ _ _
theorem Xmc (r : List UInt8) : Xhd 0 r = r := by
 unfold Xhd
 rw [B1 _ (fun x => x)]
 simp
theorem Xmr (x : UInt8) : IntKind.u8.wrap (BitVec.ofInt IntKind.u8.bits (if IntKind.u8.signed then -1 else IntKind.u8.max) ^^^ BitVec.ofInt IntKind.u8.bits (x.toNat : Int)).toNat = ((~~~x).toNat : Int) := by
 show IntKind.u8.wrap (((BitVec.ofInt 8 255 ^^^ BitVec.ofInt 8 (x.toBitVec.toNat : Int)).toNat : Nat) : Int) = _
 rw [V3, BitVec.ofNat_toNat, BitVec.setWidth_eq, show BitVec.ofInt 8 255 = BitVec.allOnes 8 from rfl, BitVec.allOnes_xor]
 exact Xbw (~~~x)
theorem Xns (B : Nat) (d : Dsk) (hd : Small d) : Xr Try.prog 15 [.agg (Xjr B d)] (Xfx B ((Xis d).map bxO)) (.tup []) (Xhj B (((Xis d).map Xiy).map bxO)) := by
 have hds := hd.s
 have hdw := hd.w
 obtain ⟨S, hS⟩ : ∃ S, S = Xhn B d := ⟨_, rfl⟩
 obtain ⟨W, hW⟩ : ∃ W, W = Xhh B d := ⟨_, rfl⟩
 have hSl : S.length = d.sectors.length := by rw [hS]; simp [Xhn]
 have hWl : W.length = d.waits.length := by rw [hW]; simp [Xhh]
 have hRl : (Xis d).length = d.sectors.length + d.waits.length := by simp [Xis]
 have gS : ∀ i r, (Xis d)[i]? = some r → i < d.sectors.length → S.getD i [] = [.bsl (B + i) 0 r.length false] := fun i r h hi => by
  rw [Xis, List.getElem?_append_left hi] at h
  rw [hS, Xhn, List.getD_eq_getElem?_getD, List.getElem?_mapIdx, h]; rfl
 have gW : ∀ i r, (Xis d)[i]? = some r → ¬ i < d.sectors.length → ∃ a, W.getD (i - d.sectors.length) [] = [i64 a, .bsl (B + i) 0 r.length false] := fun i r h hi => by
  rw [Xis, List.getElem?_append_right (by omega), List.getElem?_map] at h
  cases hw : d.waits[i - d.sectors.length]? with
  | none => rw [hw] at h; cases h
  | some w =>
   rw [hw, Option.map_some] at h
   injection h with h
   refine ⟨w.at', ?_⟩
   rw [hW, Xhh, List.getD_eq_getElem?_getD, List.getElem?_mapIdx, hw, ← h]
   show wrB (B + d.sectors.length + (i - d.sectors.length)) w = _
   rw [show B + d.sectors.length + (i - d.sectors.length) = B + i from by omega]; rfl
 have hDF : Xjr B d = [.sl 1 S .sh, .sl 2 W .sh] := by rw [hS, hW]; rfl
 rw [hDF]
 obtain ⟨R, hR⟩ : ∃ R, R = Xis d := ⟨_, rfl⟩
 rw [← hR] at hRl gS gW ⊢
 have rlen : ∀ r, r ∈ R → r.length ≤ 1000000 := fun r hr => by
  rw [hR, Xis, List.mem_append, List.mem_map] at hr
  rcases hr with h | ⟨w, hw, rfl⟩
  ·exact hd.sb r h
  ·exact hd.wb w hw
 generalize d.sectors.length = m1 at *
 generalize d.waits.length = m2 at *
 clear hDF hS hW hR hd
 refine Xc 1 Try.func15 rfl fun n out _ _ => ?_
 simp only [Try.ntmps15, List.length_cons, List.length_nil, List.length_map, List.length_replicate, Xf, Nat.reduceAdd, Nat.reduceSub, List.replicate, List.cons_append, List.nil_append]
 rename_i hneeds hgv
 have o0 : ofL out B ((stg 0 (fun _ => Xiy) (fun _ r => r) R).map bxO) = out := by
  rw [B1 _ (fun r => r), List.map_id']; exact Xmq hneeds
 have oE : ofL out B ((stg R.length (fun _ => Xiy) (fun _ r => r) R).map bxO) = ofL out B ((R.map Xiy).map bxO) := by
  rw [Xk5]
 have hun : ∀ i r, R[i]? = some r → 0 < r.length → B + i < n := fun i r h h0 => K2 hgv (r := .box 5 ((Xiy r).map b8)) (by
  rw [List.getElem?_map, List.getElem?_map, h]
  simp only [Option.map_some, bxO, Xiy, Xhp]
  rw [if_neg (by omega)])
 repeat' (first | (with_reducible first | refine Vk fun K hK => ?_ | refine V0 ?_ | refine Vb ?_ | refine Vc ?_ | refine Vr ?_ | refine Vs ?_ | apply And.intro) | ((with_reducible first | refine gE ?_ | refine gR ?_); simp (maxSteps:=9^7) only [ss, X1, tab, simprocAttr, -List.reduceReplicate]) | exact Vn | ((with_reducible refine Vz ?_); (try refine Or.inr ⟨(by intro h; cases h), ?_⟩); refine Xy (.inr rfl) rfl rfl rfl (fun _ _ => rfl) <;> first | rfl | skip) | ((with_reducible refine Vx ?_); simp only [sb, reduceIte, Nat.reduceEqDiff]) | (refine hK _ ?_; clear hK K) | refine Vt rfl ?_ | refine Vf rfl ?_ | refine Vi rfl (fun hg => ?_) (fun hg => ?_) | (refine Or.inl ⟨rfl, ?_⟩; refine Rt ?_ ?_ rfl rfl rfl rfl <;> simp only [E1, sl]) | clear hK K)
 refine Xe ?_
 refine Xz (fun i : Nat => [(2, i64 (i : Int)), (3, .top), (4, .top), (5, .top), (6, .top), (7, .top), (8, .top), (9, .top), (10, .top), (11, .top), (12, .top), (13, .top), (14, .top), (15, .top), (16, .top), (17, .top), (18, .top), (19, .top), (20, .top), (21, .top), (22, .top), (23, .top), (24, .top), (25, .top), (26, .top), (27, .top), (28, .top), (29, .top), (30, .top), (31, .top), (32, .top), (33, .top), (34, .top), (35, .top), (36, .top), (37, .top), (38, .top), (39, .top), (40, .top), (41, .top), (42, .top), (43, .top), (44, .top), (45, .top), (46, .top), (47, .top), (48, .top), (49, .top)]) (fun i => [some (.box 43 [.sl 1 S .sh, .sl 2 W .sh])]) (fun i => ofL out B ((stg i (fun _ => Xiy) (fun _ r => r) R).map bxO)) (fun i => i ≤ R.length) (fun i => R.length - i) 0 (Nat.zero_le _) ?_ fun i hi => ?_
 ·refine Rt ?_ ?_ (by first | rfl | (simp only [o0]; rfl) | simp only [o0]) rfl rfl rfl <;> simp only [E1, sl, o0]
 simp only [E1, s_0, s_s]
 have hw := Yl (n := i) 1 1 rfl (by omega)
 have hm := Yl (n := m1) (m2 : Int) m2 rfl (by omega)
 by_cases hlt : i < m1 + m2
 ·obtain ⟨r, gr⟩ : ∃ r, R[i]? = some r := ⟨_, List.getElem?_eq_getElem (by omega)⟩
  have hrl := rlen r (List.mem_of_getElem? gr)
  obtain ⟨L, hL⟩ : ∃ L, L = stg i (fun _ => Xiy) (fun _ r => r) R := ⟨_, rfl⟩
  have hLl : L.length = R.length := by rw [hL]; exact V8 _ _ _ _
  have gL : L[i]? = some r := by rw [hL]; exact Rf gr (Nat.le_refl _)
  have oz : ofL out B (L.map bxO) = ofL out B ((L.set i (Xhd 0 r)).map bxO) := by
   rw [Xmc, Xnr gL]
  have oe : ofL out B ((L.set i (Xhd r.length r)).map bxO) = ofL out B ((stg (i + 1) (fun _ => Xiy) (fun _ r => r) R).map bxO) := by
   rw [hL]
   exact congrArg (fun L => ofL out B (List.map bxO L)) (Xjm gr)
  rw [← hL]
  clear hL
  refine X9 fun KC hKC => ?_
  refine X9 fun K hK => Xn Xj [] ?_
  simp (maxSteps:=9^7) only [ss, X1, tab, simprocAttr, -List.reduceReplicate, hm, hSl, hWl, hlt, decide_true]
  repeat' (first | (with_reducible refine hK _ ?_; clear hK K) | with_reducible apply And.intro)
  refine Wm rfl (Z1 (hKC _ ?_))
  clear hKC KC
  refine X9 fun KD hKD => Xe ?_
  refine X9 fun K hK => Xn Xj [] ?_
  simp (maxSteps:=9^7) only [ss, X1, tab, simprocAttr, -List.reduceReplicate]
  repeat' (first | (with_reducible refine hK _ ?_; clear hK K) | with_reducible apply And.intro)
  refine Qf [(3, .bsl (B + i) 0 r.length false), (16, .top), (17, .top), (18, .top), (19, .top), (20, .top), (21, .top), (22, .top), (23, .top), (24, .top), (25, .top), (26, .top), (27, .top), (28, .top), (29, .top), (30, .top), (31, .top), (32, .top), (33, .top), (34, .top), (35, .top)] [some (.box 43 [.sl 1 S .sh, .sl 2 W .sh])] (ofL out B (L.map bxO)) (id ?_) ?_
  rotate_left
  ·by_cases hi : i < m1
   ·have gs := gS i r gr hi
    repeat' (first | (with_reducible first | refine Vk fun K hK => ?_ | refine V0 ?_ | refine Vb ?_ | refine Vc ?_ | refine Vr ?_ | refine Vs ?_ | apply And.intro) | ((with_reducible first | refine gE ?_ | refine gR ?_); simp (maxSteps:=9^7) only [ss, X1, tab, simprocAttr, -List.reduceReplicate, hSl, hi, gs, decide_true]) | exact Vn | ((with_reducible refine Vz ?_); (try refine Or.inr ⟨(by intro h; cases h), ?_⟩); refine Xy (.inr rfl) rfl rfl rfl (fun _ _ => rfl) <;> first | rfl | skip) | ((with_reducible refine Vx ?_); simp only [sb, reduceIte, Nat.reduceEqDiff]) | (refine hK _ ?_; clear hK K) | refine Vt rfl ?_ | refine Vf rfl ?_ | refine Vi rfl (fun hg => ?_) (fun hg => ?_) | (refine Or.inl ⟨rfl, ?_⟩; refine Rt ?_ ?_ rfl rfl rfl rfl <;> simp only [E1, sl, hSl, hi, gs, decide_true]) | clear hK K)
    refine .inl ?_
    refine Rt ?_ ?_ rfl rfl rfl rfl <;> simp only [E1, sl]
   ·obtain ⟨a, gw⟩ := gW i r gr hi
    have hsub : IntKind.i64.wrap ((i : Int) - (m1 : Int)) = ((i - m1 : Nat) : Int) := by rw [wrap_i64] <;> omega
    have hi2 : i - m1 < m2 := by omega
    repeat' (first | (with_reducible first | refine Vk fun K hK => ?_ | refine V0 ?_ | refine Vb ?_ | refine Vc ?_ | refine Vr ?_ | refine Vs ?_ | apply And.intro) | ((with_reducible first | refine gE ?_ | refine gR ?_); simp (maxSteps:=9^7) only [ss, X1, tab, simprocAttr, -List.reduceReplicate, hSl, hWl, hi, hi2, gw, hsub, decide_false]) | exact Vn | ((with_reducible refine Vz ?_); (try refine Or.inr ⟨(by intro h; cases h), ?_⟩); refine Xy (.inr rfl) rfl rfl rfl (fun _ _ => rfl) <;> first | rfl | skip) | ((with_reducible refine Vx ?_); simp only [sb, reduceIte, Nat.reduceEqDiff]) | (refine hK _ ?_; clear hK K) | refine Vt rfl ?_ | refine Vf rfl ?_ | refine Vi rfl (fun hg => ?_) (fun hg => ?_) | (refine Or.inl ⟨rfl, ?_⟩; refine Rt ?_ ?_ rfl rfl rfl rfl <;> simp only [E1, sl, hSl, hWl, hi, hi2, gw, hsub, decide_false]) | clear hK K)
    refine .inl ?_
    refine Rt ?_ ?_ rfl rfl rfl rfl <;> simp only [E1, sl]
  rw [oz]
  repeat' (first | (with_reducible first | refine Vk fun K hK => ?_ | refine V0 ?_ | refine Vb ?_ | refine Vc ?_ | refine Vr ?_ | refine Vs ?_ | apply And.intro) | ((with_reducible first | refine gE ?_ | refine gR ?_); simp (maxSteps:=9^7) only [ss, X1, tab, simprocAttr, -List.reduceReplicate]) | exact Vn | ((with_reducible refine Vz ?_); (try refine Or.inr ⟨(by intro h; cases h), ?_⟩); refine Xy (.inr rfl) rfl rfl rfl (fun _ _ => rfl) <;> first | rfl | skip) | ((with_reducible refine Vx ?_); simp only [sb, reduceIte, Nat.reduceEqDiff]) | (refine hK _ ?_; clear hK K) | refine Vt rfl ?_ | refine Vf rfl ?_ | refine Vi rfl (fun hg => ?_) (fun hg => ?_) | (refine Or.inl ⟨rfl, ?_⟩; refine Rt ?_ ?_ rfl rfl rfl rfl <;> simp only [E1, sl]) | clear hK K)
  refine Xe ?_
  refine Xz (fun k : Nat => [(4, i64 (k : Int)), (36, .top), (37, .top), (38, .top), (39, .top), (40, .top), (41, .top), (42, .top), (43, .top), (44, .top), (45, .top), (46, .top), (47, .top), (48, .top), (49, .top)]) (fun k => [some (.box 43 [.sl 1 S .sh, .sl 2 W .sh])]) (fun k => ofL out B ((L.set i (Xhd k r)).map bxO)) (fun k => k ≤ r.length) (fun k => r.length - k) 0 (Nat.zero_le _) ?_ fun k hk => ?_
  ·refine Rt ?_ ?_ rfl rfl rfl rfl <;> simp only [E1, sl]
  simp only [E1, s_0, s_s]
  have hwk := Yl (n := k) 1 1 rfl (by omega)
  by_cases hlk : k < r.length
  ·have hBi := hun i r gr (by omega)
   have gk : (L.set i (Xhd k r))[i]? = some (Xhd k r) := List.getElem?_set_self (by omega)
   have gB : ofL out B ((L.set i (Xhd k r)).map bxO) (B + i) = some (.box 5 ((Xhd k r).map b8)) := by
    refine C4 ?_
    rw [List.getElem?_map, gk, Option.map_some, bxO, Xhp, if_neg (by omega)]
   have gx : r[k]? = some r[k] := List.getElem?_eq_getElem hlk
   have gt : (Xhd k r).getD k 0 = r[k] := by rw [List.getD_eq_getElem?_getD, Xhd, Rf gx (Nat.le_refl _)]; rfl
   have gp := X0z 1 b8 (Xhd k r) k 0 (by rw [Xhp]; exact hlk)
   rw [gt] at gp
   have gs := F7 b8 (Xhd k r) k (~~~ r[k]) (by rw [Xhp]; exact hlk)
   have gn : (Xhd k r).set k (~~~ r[k]) = Xhd (k + 1) r := Xjm gx
   rw [gn] at gs
   have gl : ((Xhd k r).map b8).length = r.length := by rw [List.length_map, Xhp]
   have oS : Xw (ofL out B ((L.set i (Xhd k r)).map bxO)) (B + i) (.box 5 ((Xhd (k + 1) r).map b8)) = ofL out B ((L.set i (Xhd (k + 1) r)).map bxO) := by
    rw [A5 (by simp; omega), List.map_set, List.map_set, List.set_set]
    congr 2
    rw [bxO, Xhp, if_neg (by omega)]
   obtain ⟨O', hO'⟩ : ∃ O', O' = ofL out B ((L.set i (Xhd (k + 1) r)).map bxO) := ⟨_, rfl⟩
   rw [← hO'] at oS
   have gle : k + 1 ≤ ((Xhd k r).map b8).length := by omega
   generalize ofL out B ((L.set i (Xhd k r)).map bxO) = O at *
   generalize (Xhd k r).map b8 = G at *
   generalize (Xhd (k + 1) r).map b8 = G' at *
   repeat' (first | (with_reducible first | refine Vk fun K hK => ?_ | refine V0 ?_ | refine Vb ?_ | refine Vc ?_ | refine Vr ?_ | refine Vs ?_ | apply And.intro) | ((with_reducible first | refine gE ?_ | refine gR ?_); simp (maxSteps:=9^7) only [ss, X1, tab, simprocAttr, -List.reduceReplicate, hlk, decide_true, X8 hBi, X7 hBi, Xa hBi, gB, gp, gs, gl, gle, oS, hwk, Xmr]) | exact Vn | ((with_reducible refine Vz ?_); (try refine Or.inr ⟨(by intro h; cases h), ?_⟩); refine Xy (.inr rfl) rfl rfl rfl (fun _ _ => rfl) <;> first | rfl | skip) | ((with_reducible refine Vx ?_); simp only [sb, reduceIte, Nat.reduceEqDiff]) | (refine hK _ ?_; clear hK K) | refine Vt rfl ?_ | refine Vf rfl ?_ | refine Vi rfl (fun hg => ?_) (fun hg => ?_) | (refine Or.inl ⟨rfl, ?_⟩; refine Rt ?_ ?_ rfl rfl rfl rfl <;> simp only [E1, sl, hlk, decide_true, X8 hBi, X7 hBi, Xa hBi, gB, gp, gs, gl, gle, oS, hwk, Xmr]) | clear hK K)
   ·omega
   refine ⟨k + 1, by omega, by omega, ?_⟩
   rw [hO']
   refine Rt ?_ ?_ rfl rfl rfl rfl <;> simp only [E1, sl]
  ·obtain rfl : k = r.length := by omega
   rw [oe]
   repeat' (first | (with_reducible first | refine Vk fun K hK => ?_ | refine V0 ?_ | refine Vb ?_ | refine Vc ?_ | refine Vr ?_ | refine Vs ?_ | apply And.intro) | ((with_reducible first | refine gE ?_ | refine gR ?_); simp (maxSteps:=9^7) only [ss, X1, tab, simprocAttr, -List.reduceReplicate, hlk, decide_false]) | exact Vn | ((with_reducible refine Vz ?_); (try refine Or.inr ⟨(by intro h; cases h), ?_⟩); refine Xy (.inr rfl) rfl rfl rfl (fun _ _ => rfl) <;> first | rfl | skip) | ((with_reducible refine Vx ?_); simp only [sb, reduceIte, Nat.reduceEqDiff]) | (refine hK _ ?_; clear hK K) | refine Vt rfl ?_ | refine Vf rfl ?_ | refine Vi rfl (fun hg => ?_) (fun hg => ?_) | (refine Or.inl ⟨rfl, ?_⟩; refine Rt ?_ ?_ rfl rfl rfl rfl <;> simp only [E1, sl, hlk, decide_false]) | clear hK K)
   refine hKD _ ?_
   clear hKD KD
   repeat' (first | (with_reducible first | refine Vk fun K hK => ?_ | refine V0 ?_ | refine Vb ?_ | refine Vc ?_ | refine Vr ?_ | refine Vs ?_ | apply And.intro) | ((with_reducible first | refine gE ?_ | refine gR ?_); simp (maxSteps:=9^7) only [ss, X1, tab, simprocAttr, -List.reduceReplicate, hw]) | exact Vn | ((with_reducible refine Vz ?_); (try refine Or.inr ⟨(by intro h; cases h), ?_⟩); refine Xy (.inr rfl) rfl rfl rfl (fun _ _ => rfl) <;> first | rfl | skip) | ((with_reducible refine Vx ?_); simp only [sb, reduceIte, Nat.reduceEqDiff]) | (refine hK _ ?_; clear hK K) | refine Vt rfl ?_ | refine Vf rfl ?_ | refine Vi rfl (fun hg => ?_) (fun hg => ?_) | (refine Or.inl ⟨rfl, ?_⟩; refine Rt ?_ ?_ rfl rfl rfl rfl <;> simp only [E1, sl, hw]) | clear hK K)
   refine ⟨i + 1, by omega, by omega, ?_⟩
   refine Rt ?_ ?_ rfl rfl rfl rfl <;> simp only [E1, sl]
 ·obtain rfl : i = R.length := by omega
  rw [oE]
  repeat' (first | (with_reducible first | refine Vk fun K hK => ?_ | refine V0 ?_ | refine Vb ?_ | refine Vc ?_ | refine Vr ?_ | refine Vs ?_ | apply And.intro) | ((with_reducible first | refine gE ?_ | refine gR ?_); simp (maxSteps:=9^7) only [ss, X1, tab, simprocAttr, -List.reduceReplicate, hm, hSl, hWl, hlt, decide_false]) | exact Vn | ((with_reducible refine Vz ?_); (try refine Or.inr ⟨(by intro h; cases h), ?_⟩); refine Xy (.inr rfl) rfl rfl rfl (fun _ _ => rfl) <;> first | rfl | skip) | ((with_reducible refine Vx ?_); simp only [sb, reduceIte, Nat.reduceEqDiff]) | (refine hK _ ?_; clear hK K) | refine Vt rfl ?_ | refine Vf rfl ?_ | refine Vi rfl (fun hg => ?_) (fun hg => ?_) | (refine Or.inl ⟨rfl, ?_⟩; refine Rt ?_ ?_ rfl rfl rfl rfl <;> simp only [E1, sl, hm, hSl, hWl, hlt, decide_false]) | clear hK K)
  exact Xy (.inl rfl) rfl rfl rfl (fun j _ => by rw [K3])
end Go.Proofs.Ytjgbbjooeibppaa
