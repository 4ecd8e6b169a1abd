/- The layer of abstract values, joined: PJ. -/
import Derived.Test.YtgdhnngpfieloaaGreatZGA
import Derived.Test.YtgdhnngpfieloaaGreatZPO
section
namespace Go.Proofs.YtgdhnngpfieloaaGreat.Pln
set_option linter.unusedVariables false
set_option linter.unusedSimpArgs false
open Go Go.VS Tab
set_option maxHeartbeats 4000000
set_option maxRecDepth 4000
theorem H6 (l : List Sec) (x : Int × Int) (k : Nat) (hk : x.1 = k) (hk9 : k < 100) : Xr Tryz.prog 97 [jnA x, .ref (inA l)] [] (bool (decide (x.2 = 0) || (inF l k != x.2))) [] := by
 have hk' : (k : Int) < 100 := by omega
 have e0 : (x.2 == 0) = decide (x.2 = 0) := rfl
 refine Xc 1 Tryz.func97 rfl fun n out _ _ => ?_
 simp only [Tryz.ntmps97, List.length_cons, List.length_nil, List.length_map, List.length_replicate, Xf, Nat.reduceAdd, Nat.reduceSub, List.replicate, List.cons_append, List.nil_append]
 repeat' (first | (with_reducible first | refine Vk fun K hK => ?_ | refine V0 ?_ | refine Vq (by kernel_rfl) ?_) | ((with_reducible refine gE ?_); simp (maxSteps:=9^7) only [ss, X1, tab, simprocAttr, -List.reduceReplicate, jnA, jnC, hk, hk', hk9, Dq l k 1 hk9, Rl, e0]) | ((with_reducible refine Vz ?_); refine Vo rfl rfl rfl (fun _ _ => rfl) ?_ <;> first | rfl | (simp only [g_0, g_s]; refine congrArg VS.bool ?_; simp_all; done) | skip) | ((with_reducible refine Vg (fun hg => ?_) (fun hg => ?_)) <;> (try simp only [nb] at hg) <;> simp (maxSteps:=9^7) only [ss, X1, tab, simprocAttr, -List.reduceReplicate, hg, jnA, jnC, hk, hk', hk9, Dq l k 1 hk9, Rl, e0]) | (refine hK _ ?_; clear hK K))
structure SmB (p : Pl) : Prop where
 secs : p.secs.length ≤ 1000
 ends : ∀ s, s ∈ p.secs → s.ends.length ≤ 20
 pts : p.pts.length ≤ 5000
 sgs : p.sgs.length ≤ 5000
 rts : p.rts.length ≤ 5000
 rt : ∀ r, r ∈ p.rts → r.path.length ≤ 5000 ∧ r.over.length ≤ 5000 ∧ r.flanks.length ≤ 5000
structure Sm (p : Pl) : Prop where
 secs : p.secs.length ≤ 40
 ends : ∀ s, s ∈ p.secs → s.ends.length ≤ 20
 pts : p.pts.length ≤ 40
 sgs : p.sgs.length ≤ 40
 rts : p.rts.length ≤ 40
 rt : ∀ r, r ∈ p.rts → r.path.length ≤ 20 ∧ r.over.length ≤ 20 ∧ r.flanks.length ≤ 20
theorem Sm.wide {p : Pl} (h : Sm p) : SmB p :=
 ⟨by have := h.secs; omega, h.ends, by have := h.pts; omega, by have := h.sgs; omega, by have := h.rts; omega, fun r hr => by have := h.rt r hr; omega⟩
theorem Ep {p : Pl} (h : (Ue Ye (p.pts.map fun x => x.1) && decide ((p.pts.length : Int) ≤ 6)) = false) : Ul p = false := by
 unfold Ul
 have e : decide ((p.pts.length : Int) ≤ 6) = decide (p.pts.length ≤ 6) := decide_eq_decide.2 (by omega)
 rw [e] at h
 have h' : (Ue Ye (p.pts.map Prod.fst) && decide (p.pts.length ≤ 6)) = false := h
 rw [h', Bool.false_and, Bool.false_and]
def Dn (pre : List Sec) : Nat := pre.countP fun s => s.pt != 0
theorem Wi : ((Dn [] : Nat) : Int) = 0 := rfl
theorem Sn {l : List Sec} {i : Nat} (hi : i < l.length) : Dn (l.take (i + 1)) = Dn (l.take i) + if l[i].pt = 0 then 0 else 1 := by
 unfold Dn
 rw [List.take_succ_eq_append_getElem hi, List.countP_append]
 by_cases h : l[i].pt = 0 <;> simp [h]
theorem H7 (l : List Sec) : Dn l ≤ l.length := List.countP_le_length
theorem Az (p : Pl) (hs : SmB p) (hmay : Uq p.secs = true) : Xr Tryz.prog 55 [plA p] [] (bool (Ul p)) [] := by
 have h1 := hs.pts
 have h2 := hs.secs
 have cr := Gy p.pts 6 (by omega)
 cases hb : (Ue Ye (p.pts.map fun x => x.1) && decide ((p.pts.length : Int) ≤ 6)) with
 | false =>
  rw [Ep hb]
  rw [hb] at cr
  refine Xc 3 Tryz.func55 rfl fun n out _ _ => ?_
  simp only [Tryz.ntmps55, List.length_cons, List.length_nil, List.length_map, List.length_replicate, Xf, Nat.reduceAdd, Nat.reduceSub, List.replicate, List.cons_append, List.nil_append]
  repeat' (first | (with_reducible first | refine Vk fun K hK => ?_ | refine V0 ?_) | ((with_reducible first | refine gE ?_ | refine gR ?_); simp (maxSteps:=9^7) only [ss, X1, tab, simprocAttr, -List.reduceReplicate, plA, plC]) | ((with_reducible refine Vz ?_); refine Vo rfl rfl rfl (fun _ _ => rfl) ?_ <;> first | rfl | skip) | (refine X3 (cr) ?_) | (refine hK _ ?_; clear hK K) | refine Vt rfl ?_)
 | true =>
  rw [hb] at cr
  rw [Bool.and_eq_true, decide_eq_true_eq] at hb
  obtain ⟨hr, h6⟩ := hb
  refine Xc 3 Tryz.func55 rfl fun n out _ _ => ?_
  simp only [Tryz.ntmps55, List.length_cons, List.length_nil, List.length_map, List.length_replicate, Xf, Nat.reduceAdd, Nat.reduceSub, List.replicate, List.cons_append, List.nil_append]
  repeat' (first | (with_reducible first | refine Vk fun K hK => ?_ | refine V0 ?_ | refine Vs ?_) | ((with_reducible first | refine gE ?_ | refine gR ?_); simp (maxSteps:=9^7) only [ss, X1, tab, simprocAttr, -List.reduceReplicate, plA, plC, List.length_map]) | (refine X3 (cr) ?_) | (refine hK _ ?_; clear hK K) | refine Vf rfl ?_)
  refine Xe ?_
  refine Xl (fun m (i : Nat) => [(14, i64 (i : Int)), (3, .ptr (m + 1) 0), (1, .ptr (m + 0) 0), (4, i64 (Dn (p.secs.take i) : Int)), (6, .top), (15, .top), (16, .top), (17, .top), (18, .top), (19, .top), (20, .top), (21, .top), (22, .top), (23, .top), (24, .top), (25, .top), (26, .top), (27, .top), (28, .top)]) (fun m i => [some (.box 28 (plC p)), some (.box 103 (inA (p.secs.take i))), none]) (fun i => out) (fun i => i ≤ p.secs.length) (fun i => p.secs.length - i) 0 (Nat.zero_le _) ?_ fun m i hm hi => ?_
  ·refine X2 ?_ ?_ (by first | rfl | (simp only [List.length_map, List.take_zero, Br, Wi, plC]; rfl) | simp only [List.length_map, List.take_zero, Br, Wi, plC]) rfl rfl rfl <;> simp only [X4, sl, List.length_map, List.take_zero, Br, Wi, plC]
  simp only [X4, s_0, s_s]
  have hw := Yl (n := i) 1 1 rfl (by omega)
  by_cases hlt : i < p.secs.length
  ·have gi := Xg Y6 p.secs i [] hlt
   have hsc := Sn hlt
   have hcl := H7 (p.secs.take i)
   have hcl2 : (p.secs.take i).length ≤ 1000 := by rw [List.length_take]; omega
   have hw2 := Yl (n := Dn (p.secs.take i)) 1 1 rfl (by omega)
   have hsh := (U0 hmay (List.getElem_mem hlt)).2
   obtain ⟨np, hnp, hpt⟩ : ∃ np : Nat, np < 100 ∧ p.secs[i].pt = np := by
    rw [Uv] at hsh
    obtain ⟨np, h⟩ := Int.eq_ofNat_of_zero_le (a := p.secs[i].pt) (by omega)
    exact ⟨np, by omega, h⟩
   have hnp' : (np : Int) < 100 := by omega
   have hnp9 : np ≤ 99 := by omega
   by_cases h0 : np = 0
   ·have hp0 : p.secs[i].pt = 0 := by omega
    have hg0 : decide ((np : Int) > 0) = false := decide_eq_false (by omega)
    rw [if_pos hp0] at hsc
    replace hsc := hsc.trans (Nat.add_zero _)
    have hsk := X07 hlt hp0
    repeat' (first | (with_reducible first | refine Vk fun K hK => ?_ | refine V0 ?_ | refine Vb ?_ | refine Vs ?_) | ((with_reducible refine gE ?_); simp (maxSteps:=9^7) only [ss, X1, tab, simprocAttr, -List.reduceReplicate, Xi hm, List.length_map, hlt, gi, Qh, Y6, plC, X0, hpt, hg0, hw]) | (refine hK _ ?_; clear hK K) | refine Vt rfl ?_ | refine Vf rfl ?_ | clear hK K)
    refine ⟨i + 1, by omega, by omega, ?_⟩
    rw [hsc, hsk]
    refine Xx [true, true, false] (fun n_ => ?_) (fun n_ => ?_) <;> simp only [X4, sm, plC]
   ·have hp0 : ¬ p.secs[i].pt = 0 := by omega
    have hg0 : decide ((np : Int) > 0) = true := decide_eq_true (by omega)
    rw [if_neg hp0] at hsc
    have hst := X3d hmay hlt np hnp (by omega) hpt
    repeat' (first | (with_reducible first | refine Vk fun K hK => ?_ | refine V0 ?_ | refine Vb ?_ | refine Vs ?_) | ((with_reducible refine gE ?_); simp (maxSteps:=9^7) only [ss, X1, tab, simprocAttr, -List.reduceReplicate, Xi hm, List.length_map, hlt, gi, Qh, Y6, plC, X0, hpt, hg0, hnp, hnp', hnp9, Rl, hst, hw, hw2]) | (refine hK _ ?_; clear hK K) | refine Vt rfl ?_ | clear hK K)
    refine ⟨i + 1, by omega, by omega, ?_⟩
    rw [hsc]
    refine Xx [true, true, false] (fun n_ => ?_) (fun n_ => ?_) <;> simp only [X4, sm, plC]
  ·obtain rfl : i = p.secs.length := by omega
   refine Yy (Zi (i := 1) (t := 3) 1 (.ref (inA (p.secs.take p.secs.length))) rfl rfl (.ptr 0)) ?_
   simp only [s_0, s_s, List.take_length]
   have hx : ∀ x, x ∈ p.pts → ∃ k : Nat, x.1 = k ∧ k < 100 := fun x hx => by
    obtain ⟨i, hi, rfl⟩ := List.getElem_of_mem hx
    have h1 := Z3.1 hr i (by simpa using hi)
    simp only [Ye, List.getElem_map, Bool.and_eq_true, U1] at h1
    exact ⟨(p.pts[i].1).toNat, by omega, by omega⟩
   have ca := Aw p.pts 97 [.ref (inA p.secs)] (fun x => decide (x.2 = 0) || (inF p.secs x.1.toNat != x.2)) (hb0 _ (by decide) (by decide)) (by omega) fun x hxm => by
    obtain ⟨k, hk, hk9⟩ := hx x hxm
    have := H6 p.secs x k hk hk9
    rw [show x.1.toNat = k by omega]
    exact this
   have hok : Ul p = (((Dn p.secs : Nat) : Int) == (p.pts.length : Int) && !(p.pts.any fun x => decide (x.2 = 0) || (inF p.secs x.1.toNat != x.2))) := by
    rw [X3e hmay hr]
    unfold Ul
    have e1 : Ue Ye (p.pts.map Prod.fst) = true := hr
    have e2 : decide (p.pts.length ≤ 6) = true := decide_eq_true (by omega)
    have e3 : decide (p.secs.countP (fun s => s.pt != 0) = p.pts.length) = (((Dn p.secs : Nat) : Int) == (p.pts.length : Int)) := by
     rw [Bool.eq_iff_iff]; simp [Dn]; omega
    rw [e1, e2, e3]; rfl
   generalize (p.pts.any fun x => decide (x.2 = 0) || (inF p.secs x.1.toNat != x.2)) = A at ca hok
   repeat' (first | (with_reducible first | refine Vk fun K hK => ?_ | refine V0 ?_) | ((with_reducible first | refine gE ?_ | refine gR ?_); simp (maxSteps:=9^7) only [ss, X1, tab, simprocAttr, -List.reduceReplicate, Xi hm, plC, List.length_map, hlt]) | ((with_reducible refine Vz ?_); refine Vo rfl rfl rfl (fun _ _ => rfl) ?_ <;> first | rfl | (rw [hok]; simp only [g_0, g_s]; refine congrArg VS.bool ?_; simp_all; done) | skip) | (refine X3 (ca) ?_) | ((with_reducible refine Vg (fun hg => ?_) (fun hg => ?_)) <;> (try simp only [nb] at hg) <;> simp (maxSteps:=9^7) only [ss, X1, tab, simprocAttr, -List.reduceReplicate, hg, Xi hm, plC, List.length_map, hlt]) | ((with_reducible refine Vx ?_); simp only [sb, reduceIte, Nat.reduceEqDiff]) | (refine hK _ ?_; clear hK K) | refine Vf rfl ?_ | clear hK K)
end Go.Proofs.YtgdhnngpfieloaaGreat.Pln
end
section
namespace Go.Proofs.YtgdhnngpfieloaaGreat.Pln
set_option linter.unusedVariables false
set_option linter.unusedSimpArgs false
open Go Go.VS Tab
set_option maxHeartbeats 4000000
set_option maxRecDepth 4000
theorem Er {p : Pl} (h : (Ue Ye (p.sgs.map fun x => x.1) && decide ((p.sgs.length : Int) ≤ 10)) = false) : Qu p = false := by
 unfold Qu
 have e : decide ((p.sgs.length : Int) ≤ 10) = decide (p.sgs.length ≤ 10) := decide_eq_decide.2 (by omega)
 rw [e] at h
 have h' : (Ue Ye (p.sgs.map Prod.fst) && decide (p.sgs.length ≤ 10)) = false := h
 rw [h', Bool.false_and]
theorem X00 {p : Pl} (hr : Ue Ye (p.sgs.map fun x => x.1) = true) (h10 : p.sgs.length ≤ 10) : Qu p = Ue (okG p) p.sgs := by
 unfold Qu
 have e1 : Ue Ye (p.sgs.map Prod.fst) = true := hr
 rw [e1, decide_eq_true h10]; rfl
theorem X37 {p : Pl} (hmay : Uq p.secs = true) {pre : List (Int × Int × Int)} {x : Int × Int × Int} (h : okG p pre x = true) : 0 ≤ x.2.2 ∧ x.2.2 < 3 := by
 unfold okG at h
 rw [Bool.and_eq_true] at h
 cases hg : Qt p.secs x.2.1 with
 | none => rw [hg] at h; cases h.1
 | some s =>
  rw [hg] at h
  have hs := (U0 hmay (W5 hg).1).2
  rw [Uv] at hs
  have := h.1
  simp at this
  omega
theorem H8 (p : Pl) (hs : SmB p) (hmay : Uq p.secs = true) : Xr Tryz.prog 56 [plA p, .agg (Uj p.secs)] [] (bool (Qu p)) [] := by
 have h1 := hs.sgs
 have h2 := hs.secs
 have cr := Gz p.sgs 10 (by omega)
 cases hb : (Ue Ye (p.sgs.map fun x => x.1) && decide ((p.sgs.length : Int) ≤ 10)) with
 | false =>
  rw [Er hb]
  rw [hb] at cr
  refine Xc 4 Tryz.func56 rfl fun n out _ _ => ?_
  simp only [Tryz.ntmps56, List.length_cons, List.length_nil, List.length_map, List.length_replicate, Xf, Nat.reduceAdd, Nat.reduceSub, List.replicate, List.cons_append, List.nil_append]
  repeat' (first | (with_reducible first | refine Vk fun K hK => ?_ | refine V0 ?_) | ((with_reducible first | refine gE ?_ | refine gR ?_); simp (maxSteps:=9^7) only [ss, X1, tab, simprocAttr, -List.reduceReplicate, plA, plC]) | ((with_reducible refine Vz ?_); refine Vo rfl rfl rfl (fun _ _ => rfl) ?_ <;> first | rfl | skip) | (refine X3 (cr) ?_) | (refine hK _ ?_; clear hK K) | refine Vt rfl ?_)
 | true =>
  rw [hb] at cr
  rw [Bool.and_eq_true, decide_eq_true_eq] at hb
  obtain ⟨hr, h10⟩ := hb
  rw [X00 hr (by omega)]
  refine Xc 4 Tryz.func56 rfl fun n out _ _ => ?_
  simp only [Tryz.ntmps56, List.length_cons, List.length_nil, List.length_map, List.length_replicate, Xf, Nat.reduceAdd, Nat.reduceSub, List.replicate, List.cons_append, List.nil_append]
  repeat' (first | (with_reducible first | refine Vk fun K hK => ?_ | refine V0 ?_ | refine Vs ?_) | ((with_reducible first | refine gE ?_ | refine gR ?_); simp (maxSteps:=9^7) only [ss, X1, tab, simprocAttr, -List.reduceReplicate, plA, plC, List.length_map, Qg]) | (refine X3 (cr) ?_) | (refine hK _ ?_; clear hK K) | refine Vf rfl ?_)
  refine Xe ?_
  refine Xl (fun m (i : Nat) => [(15, i64 (i : Int)), (2, .ptr (m + 0) 0), (3, .ptr (m + 1) 0), (5, .ptr (m + 2) 0), (4, .top), (7, .top), (16, .top), (17, .top), (18, .top), (19, .top), (20, .top), (21, .top), (22, .top), (23, .top), (24, .top), (25, .top), (26, .top), (27, .top), (28, .top), (29, .top), (30, .top), (31, .top), (32, .top), (33, .top), (34, .top), (35, .top), (36, .top), (37, .top), (38, .top), (39, .top), (40, .top), (41, .top), (42, .top), (43, .top), (44, .top), (45, .top), (46, .top), (47, .top), (48, .top), (49, .top), (50, .top), (51, .top), (52, .top), (53, .top)]) (fun m i => [some (.box 28 (plC p)), some (.box 103 (Uj p.secs)), some (.box 156 (P8 (p.sgs.take i))), none]) (fun i => out) (fun i => i ≤ p.sgs.length ∧ (∀ j (hj : j < p.sgs.length), j < i → okG p (p.sgs.take j) p.sgs[j] = true)) (fun i => p.sgs.length - i) 0 ⟨Nat.zero_le _, by intros; omega⟩ ?_ fun m i hm hi => ?_
  ·refine X2 ?_ ?_ (by first | rfl | (simp only [List.length_map, List.take_zero, N5, plC]; rfl) | simp only [List.length_map, List.take_zero, N5, plC]) rfl rfl rfl <;> simp only [X4, sl, List.length_map, List.take_zero, N5, plC]
  obtain ⟨hi, hq⟩ := hi
  simp only [X4, s_0, s_s]
  have hw := Yl (n := i) 1 1 rfl (by omega)
  by_cases hlt : i < p.sgs.length
  ·have gi := Xg sgC p.sgs i [] hlt
   have ct := Hg p.secs p.sgs[i].2.1 hmay
   have next : okG p (p.sgs.take i) p.sgs[i] = true → ∀ j (hj : j < p.sgs.length), j < i + 1 → okG p (p.sgs.take j) p.sgs[j] = true := fun h j hj hji => by
    by_cases h' : j = i
    ·subst h'; exact h
    ·exact hq j hj (by omega)
   cases hg : Qt p.secs p.sgs[i].2.1 with
   | none =>
    have bad : okG p (p.sgs.take i) p.sgs[i] = false := by unfold okG; rw [hg]; rfl
    rw [hg] at ct
    repeat' (first | (with_reducible first | refine Vk fun K hK => ?_ | refine V0 ?_ | refine Vb ?_ | refine Vs ?_ | refine Vq (by kernel_rfl) ?_) | ((with_reducible first | refine gE ?_ | refine gR ?_); simp (maxSteps:=9^7) only [ss, X1, tab, simprocAttr, -List.reduceReplicate, Xi hm, List.length_map, hlt, gi, sgC, plC, X0, hw, Option.isSome_none]) | ((with_reducible refine Vz ?_); refine Vo rfl rfl rfl (fun _ _ => rfl) ?_ <;> first | rfl | (rw [Yz hlt bad]; rfl) | skip) | (refine X3 (ct) ?_) | (refine hK _ ?_; clear hK K) | refine Vt rfl ?_)
   | some s =>
    obtain ⟨hsm, hsi⟩ := W5 hg
    have hn := (U0 hmay hsm)
    have hn1 := U1.1 hn.1
    have hn2 := Uv.1 hn.2
    obtain ⟨np, hpt⟩ := Int.eq_ofNat_of_zero_le (a := p.sgs[i].2.1) (by omega)
    have hnp : np < 100 := by omega
    have hnp' : (np : Int) < 100 := by omega
    have hnp9 : np ≤ 99 := by omega
    have hcn : cnt p.secs np = s.ends.length := by unfold cnt; rw [← hpt, hg]
    rw [hg] at ct
    simp only [hpt] at ct
    have okv : okG p (p.sgs.take i) p.sgs[i] = (decide (0 ≤ p.sgs[i].2.2) && decide (p.sgs[i].2.2 < s.ends.length) && (p.sgs.take i).all fun y => !(y.2 == p.sgs[i].2)) := by unfold okG; rw [hg]
    by_cases hb : 0 ≤ p.sgs[i].2.2 ∧ p.sgs[i].2.2 < s.ends.length
    ·obtain ⟨nb, hnb⟩ := Int.eq_ofNat_of_zero_le hb.1
     have hb3 : nb < 3 := by omega
     have hb3' : (nb : Int) < 3 := by omega
     have hb0 : decide ((nb : Int) < 0) = false := decide_eq_false (by omega)
     have hb1 : decide ((nb : Int) ≥ (s.ends.length : Int)) = false := decide_eq_false (by omega)
     have hx3 : np * 3 + nb < 300 := by omega
     have hx4 : np * 3 + nb + 1 ≤ 300 := by omega
     have hmk := X3f (pre := p.sgs.take i) (fun y hy => by
      rw [List.mem_take_iff_getElem] at hy
      obtain ⟨q, hq', rfl⟩ := hy
      exact X37 hmay (hq q (by omega) (by omega))) (a := np) hb3
     have hst := Hh p.sgs i hlt np nb hx3 hpt hnb
     have okv2 : okG p (p.sgs.take i) p.sgs[i] = !mark (p.sgs.take i) (np * 3 + nb) := by
      rw [okv, hmk, decide_eq_true hb.1, decide_eq_true hb.2, Bool.true_and, Bool.true_and, List.not_any_eq_all_not]
      have : p.sgs[i].2 = ((np : Int), (nb : Int)) := by rw [← hpt, ← hnb]
      rw [this]
     clear hmk okv
     repeat' (first | (with_reducible first | refine Vk fun K hK => ?_ | refine V0 ?_ | refine Vb ?_ | refine Vs ?_ | refine Vd 9 [] [[],[3],[],[3],[],[],[2]] [[],[],[],[],[],[],[2]] (by kernel_rfl) (by decide) (by decide) (by kernel_rfl) ?_ | refine Vq (by kernel_rfl) ?_) | ((with_reducible first | refine gE ?_ | refine gR ?_ | refine gD ?_); simp (maxSteps:=9^7) only [ss, X1, tab, simprocAttr, -List.reduceReplicate, Xi hm, List.length_map, hlt, gi, sgC, plC, X0, hw, Option.isSome_some, hpt, hnb, hnp, hnp', hnp9, hb3, hb3', hb0, hb1, hcn, Yt, U5 p.secs np 1 hnp, Sr, Pm _ (np * 3 + nb) 1 hx3, hx3, hx4, hst]) | ((with_reducible refine Vz ?_); refine Vo rfl rfl rfl (fun _ _ => rfl) ?_ <;> first | rfl | (rw [Yz hlt (by rw [okv2]; simp_all)]; rfl) | skip) | (refine X3 (ct) ?_) | (refine hK _ ?_; clear hK K) | refine Vt rfl ?_ | refine Vi rfl (fun hg => ?_) (fun hg => ?_) | clear hK K)
     refine ⟨i + 1, ⟨by omega, next (by rw [okv2]; simp_all)⟩, by omega, ?_⟩
     refine Xx [true, true, true, false] (fun n_ => ?_) (fun n_ => ?_) <;> simp only [X4, sm, plC]
    ·have bad : okG p (p.sgs.take i) p.sgs[i] = false := by
      rw [okv]
      have : (decide (0 ≤ p.sgs[i].2.2) && decide (p.sgs[i].2.2 < (s.ends.length : Int))) = false := by rw [Bool.eq_false_iff]; intro h; exact hb (by simpa using h)
      rw [this, Bool.false_and]
     repeat' (first | (with_reducible first | refine Vk fun K hK => ?_ | refine V0 ?_ | refine Vb ?_ | refine Vs ?_ | apply And.intro | refine Vq (by kernel_rfl) ?_) | ((with_reducible first | refine gE ?_ | refine gR ?_); simp (maxSteps:=9^7) only [ss, X1, tab, simprocAttr, -List.reduceReplicate, Xi hm, List.length_map, hlt, gi, sgC, plC, X0, hw, Option.isSome_some, hpt, hnp, hnp', hnp9, hcn, Yt, U5 p.secs np 1 hnp]) | ((with_reducible refine Vz ?_); refine Vo rfl rfl rfl (fun _ _ => rfl) ?_ <;> first | rfl | (rw [Yz hlt bad]; rfl) | skip) | (refine X3 (ct) ?_) | ((with_reducible refine Vg (fun hg => ?_) (fun hg => ?_)) <;> (try simp only [nb] at hg) <;> simp (maxSteps:=9^7) only [ss, X1, tab, simprocAttr, -List.reduceReplicate, hg, Xi hm, List.length_map, hlt, gi, sgC, plC, X0, hw, Option.isSome_some, hpt, hnp, hnp', hnp9, hcn, Yt, U5 p.secs np 1 hnp]) | (refine hK _ ?_; clear hK K) | refine Vt rfl ?_ | clear hK K)
     all_goals (exfalso; simp at *; omega)
  ·have hall := Q3 (f := okG p) (l := p.sgs) fun j hj => hq j hj (by omega)
   repeat' (first | (with_reducible first | refine Vk fun K hK => ?_ | refine V0 ?_) | ((with_reducible refine gE ?_); simp (maxSteps:=9^7) only [ss, X1, tab, simprocAttr, -List.reduceReplicate, List.length_map, hlt]) | ((with_reducible refine Vz ?_); refine Vo rfl rfl rfl (fun _ _ => rfl) ?_ <;> first | rfl | (rw [hall]; rfl) | skip) | ((with_reducible refine Vx ?_); simp only [sb, reduceIte, Nat.reduceEqDiff]) | (refine hK _ ?_; clear hK K) | refine Vf rfl ?_ | clear hK K)
end Go.Proofs.YtgdhnngpfieloaaGreat.Pln
end
