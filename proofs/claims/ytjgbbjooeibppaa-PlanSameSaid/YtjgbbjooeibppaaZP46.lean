/-
 Plans of which all that is nested lies in boxes: what they read as; how the boxes change.
-/
import Derived.Test.YtjgbbjooeibppaaZP45
import Derived.Test.YtjgbbjooeibppaaZR5
namespace Go.Proofs.Ytjgbbjooeibppaa.Pln
set_option linter.unusedVariables false
set_option linter.unusedSimpArgs false
open Go Go.VS Tab
set_option maxHeartbeats 1000000
def Xgq (k : Nat) (s : Sec) : List AV := [i64 s.id, i64 s.pt, .bsl k 0 s.ends.length false]
def Xgh (K i : Nat) (s : Sec) : List AV := Xgq (K + i) s
def rtX (k : Nat) (r : Rt) : List AV := [i64 r.id, i64 r.entry, i64 r.ex, .bsl k 0 r.path.length false, .sl 1 (r.over.map Ym) .sh, .sl 2 (r.flanks.map jnC) .sh, i64 r.timer]
def Xgw (s : Sec) : Option Res := some (bxD 39 (s.ends.map jnC))
def Xg2 (r : Rt) : Option Res := some (bxD 3 (r.path.map Ym))
def rtB (K j : Nat) (r : Rt) : List AV := rtX (K + j) r
def Ve (S R : List (List AV)) (E T : List (Option Res)) : List (Option Res) := some (bxD 37 S) :: some (bxD 34 R) :: (E ++ T)
abbrev sS (K a : Nat) (p : Pl) : List (List AV) := stg a (Xgh (K + 2)) (fun _ => Y6) p.secs
abbrev sR (K b : Nat) (p : Pl) : List (List AV) := stg b (rtB (K + 2 + p.secs.length)) (fun _ => rtC) p.rts
abbrev sE (a : Nat) (p : Pl) : List (Option Res) := stg a (fun _ => Xgw) (fun _ _ => none) p.secs
abbrev sT (b : Nat) (p : Pl) : List (Option Res) := stg b (fun _ => Xg2) (fun _ _ => none) p.rts
def B2 (K : Nat) (p : Pl) (a b : Nat) : List (Option Res) := Ve (sS K a p) (sR K b p) (sE a p) (sT b p)
def tC (K : Nat) (p : Pl) : List AV := [i64 p.ver, i64 p.par, .bsl K 0 p.secs.length false, .sl 2 (p.pts.map jnC) .sh, .sl 3 (p.sgs.map sgC) .sh, .bsl (K + 1) 0 p.rts.length false]
section
variable {s : Nat → Option Res} {K i : Nat} {S S' R R' : List (List AV)} {E T : List (Option Res)} {o : Option Res} {r : Res}
theorem Xh4 (h : 0 < S.length) : ofL s K (Ve S R E T) K = some (.box 37 S.flatten) :=
 C4 (j := 0) (by simp [Ve, K1 h])
theorem Xgz (h : 0 < R.length) : ofL s K (Ve S R E T) (K + 1) = some (.box 34 R.flatten) :=
 C4 (j := 1) (by simp [Ve, K1 h])
theorem Xfo (h : i < E.length) : (Ve S R E T)[2 + i]? = E[i]? := by
 rw [Nat.add_comm]; simp only [Ve, List.getElem?_cons_succ]; exact List.getElem?_append_left h
theorem Xfp : (Ve S R E T)[2 + E.length + i]? = T[i]? := by
 rw [show 2 + E.length + i = E.length + i + 1 + 1 from by omega]
 simp only [Ve, List.getElem?_cons_succ]
 rw [List.getElem?_append_right (by omega), Nat.add_sub_cancel_left]
theorem Xh5 (h : E[i]? = some (some r)) : ofL s K (Ve S R E T) (K + 2 + i) = some r := by
 rw [Nat.add_assoc]
 exact C4 (by rw [Xfo (List.getElem?_eq_some_iff.1 h).1]; exact h)
theorem Xh6 {m : Nat} (hE : E.length = m) (h : T[i]? = some (some r)) : ofL s K (Ve S R E T) (K + 2 + m + i) = some r := by
 subst hE
 rw [show K + 2 + E.length + i = K + (2 + E.length + i) from by omega]
 exact C4 (by rw [Xfp]; exact h)
theorem Xgi (h : 0 < S'.length) : Xw (ofL s K (Ve S R E T)) K (.box 37 S'.flatten) = ofL s K (Ve S' R E T) := by
 have := A5 (s := s) (K := K) (j := 0) (l := Ve S R E T) (r := .box 37 S'.flatten) (by simp [Ve])
 rw [Nat.add_zero] at this
 rw [this]
 simp [Ve, K1 h]
theorem Xfq (h : 0 < R'.length) : Xw (ofL s K (Ve S R E T)) (K + 1) (.box 34 R'.flatten) = ofL s K (Ve S R' E T) := by
 rw [A5 (by simp [Ve])]
 simp [Ve, K1 h]
theorem Xh0 (h : i < E.length) : (Ve S R E T).set (2 + i) o = Ve S R (E.set i o) T := by
 rw [Nat.add_comm]; simp only [Ve, List.set_cons_succ]; rw [List.set_append_left _ _ h]
theorem Xh1 : (Ve S R E T).set (2 + E.length + i) o = Ve S R E (T.set i o) := by
 rw [show 2 + E.length + i = E.length + i + 1 + 1 from by omega]
 simp only [Ve, List.set_cons_succ]
 rw [List.set_append_right _ _ (by omega), Nat.add_sub_cancel_left]
theorem Xfr : (Ve S R E T).length = 2 + E.length + T.length := by simp [Ve]; omega
theorem Xfs (h : i < E.length) : Xw (ofL s K (Ve S R E T)) (K + 2 + i) r = ofL s K (Ve S R (E.set i (some r)) T) := by
 rw [Nat.add_assoc, A5 (by rw [Xfr]; omega), Xh0 h]
theorem Xft {m : Nat} (hE : E.length = m) (h : i < T.length) : Xw (ofL s K (Ve S R E T)) (K + 2 + m + i) r = ofL s K (Ve S R E (T.set i (some r))) := by
 subst hE
 rw [show K + 2 + E.length + i = K + (2 + E.length + i) from by omega, A5 (by rw [Xfr]; omega), Xh1]
theorem Xgr {n : Nat} (hu : Mc n (B3 K (Ve S R E T))) (h : E[i]? = some (some r)) : K + 2 + i < n := by
 have := K2 hu (j := 2 + i) (by rw [Xfo (List.getElem?_eq_some_iff.1 h).1]; exact h)
 omega
theorem Xgs {n m : Nat} (hE : E.length = m) (hu : Mc n (B3 K (Ve S R E T))) (h : T[i]? = some (some r)) : K + 2 + m + i < n := by
 subst hE
 have := K2 hu (j := 2 + E.length + i) (by rw [Xfp]; exact h)
 omega
theorem Xgt {n : Nat} (hu : Mc n (B3 K (Ve S R E T))) : K < n :=
 K2 hu (j := 0) (r := bxD 37 S) (by simp [Ve])
theorem Xgu {n : Nat} (hu : Mc n (B3 K (Ve S R E T))) : K + 1 < n :=
 K2 hu (j := 1) (r := bxD 34 R) (by simp [Ve])
end
theorem Xgj {s : Nat → Option Res} {K : Nat} {p : Pl} (h : holds s (Xfx K (Xgg (B2 K p p.secs.length p.rts.length)))) : RV s (.agg (tC K p)) (plA p) := by
 have h0 : ∀ r, bxR 37 (sS K p.secs.length p) = some r → s K = some r := fun r hr => Bf h (j := 0) (Xen (by simp [B2, Ve, (Xet hr).1]) (Xet hr).2)
 have h1 : ∀ r, bxR 34 (sR K p.rts.length p) = some r → s (K + 1) = some r := fun r hr => Bf h (j := 1) (Xen (by simp [B2, Ve, (Xet hr).1]) (Xet hr).2)
 have h2 : ∀ i x, p.secs[i]? = some x → ∀ r, bxR 39 (x.ends.map jnC) = some r → s (K + 2 + i) = some r := fun i x hx r hr => by
  have hi := (List.getElem?_eq_some_iff.1 hx).1
  rw [Nat.add_assoc]
  refine Bf h (j := 2 + i) (Xen ?_ (Xet hr).2)
  rw [B2, Xfo (by rw [V8]; exact hi), Rd hx hi, Xgw, (Xet hr).1]
 have h3 : ∀ j x, p.rts[j]? = some x → ∀ r, bxR 3 (x.path.map Ym) = some r → s (K + 2 + p.secs.length + j) = some r := fun j x hx r hr => by
  have hj := (List.getElem?_eq_some_iff.1 hx).1
  rw [show K + 2 + p.secs.length + j = K + (2 + (sE p.secs.length p).length + j) from by rw [V8]; omega]
  refine Bf h (j := 2 + (sE p.secs.length p).length + j) (Xen ?_ (Xet hr).2)
  rw [B2, Xfp, Rd hx hj, Xg2, (Xet hr).1]
 have vI : ∀ (l : List Int) x, x ∈ l.map Ym → ∀ c, c ∈ x → ∃ v, c = .val v := fun l x hx c hc => by
  obtain ⟨a, _, rfl⟩ := List.mem_map.1 hx
  simp [Ym] at hc; exact ⟨_, hc⟩
 have vJ : ∀ (l : List (Int × Int)) x, x ∈ l.map jnC → ∀ c, c ∈ x → ∃ v, c = .val v := fun l x hx c hc => by
  obtain ⟨a, _, rfl⟩ := List.mem_map.1 hx
  simp [jnC] at hc; rcases hc with hc | hc <;> exact ⟨_, hc⟩
 have vG : ∀ (l : List (Int × Int × Int)) x, x ∈ l.map sgC → ∀ c, c ∈ x → ∃ v, c = .val v := fun l x hx c hc => by
  obtain ⟨a, _, rfl⟩ := List.mem_map.1 hx
  simp [sgC] at hc; rcases hc with hc | hc | hc <;> exact ⟨_, hc⟩
 have zS : szL 3 (p.secs.map Y6) := E5 (f := Y6) (fun _ => rfl) _
 have zR : szL 7 (p.rts.map rtC) := E5 (f := rtC) (fun _ => rfl) _
 have bS := Xfl (sz := 3) h0 (Dm (fun _ _ => rfl) (fun _ _ => rfl)) zS (by rw [V8, List.length_map]) fun i j x x' c c' hx hx' hc hc' => by
  rw [List.getElem?_map] at hx'
  cases hs : p.secs[i]? with
  | none => rw [hs] at hx'; cases hx'
  | some y =>
   rw [hs, Option.map_some] at hx'
   rw [Rd hs (List.getElem?_eq_some_iff.1 hs).1] at hx
   injection hx with hx; injection hx' with hx'
   subst hx; subst hx'
   match j, hc, hc' with
   | 0, hc, hc' => simp [Xgh, Xgq, Y6] at hc hc'; subst hc; subst hc'; exact .val _
   | 1, hc, hc' => simp [Xgh, Xgq, Y6] at hc hc'; subst hc; subst hc'; exact .val _
   | 2, hc, hc' =>
    simp [Xgh, Xgq, Y6] at hc hc'; subst hc; subst hc'
    have := Xfm (s := s) (k := K + 2 + i) (sz := 2) (e := 39) (els := y.ends.map jnC) (h2 i y hs) (E5 (f := jnC) (fun _ => rfl) _) (vJ _)
    rw [List.length_map] at this
    exact this
   | j + 3, hc, hc' => simp [Xgh, Xgq] at hc
 have bR := Xfl (sz := 7) h1 (Dm (fun _ _ => rfl) (fun _ _ => rfl)) zR (by rw [V8, List.length_map]) fun i j x x' c c' hx hx' hc hc' => by
  rw [List.getElem?_map] at hx'
  cases hs : p.rts[i]? with
  | none => rw [hs] at hx'; cases hx'
  | some y =>
   rw [hs, Option.map_some] at hx'
   rw [Rd hs (List.getElem?_eq_some_iff.1 hs).1] at hx
   injection hx with hx; injection hx' with hx'
   subst hx; subst hx'
   match j, hc, hc' with
   | 0, hc, hc' => simp [rtB, rtX, rtC] at hc hc'; subst hc; subst hc'; exact .val _
   | 1, hc, hc' => simp [rtB, rtX, rtC] at hc hc'; subst hc; subst hc'; exact .val _
   | 2, hc, hc' => simp [rtB, rtX, rtC] at hc hc'; subst hc; subst hc'; exact .val _
   | 3, hc, hc' =>
    simp [rtB, rtX, rtC] at hc hc'; subst hc; subst hc'
    have := Xfm (s := s) (k := K + 2 + p.secs.length + i) (sz := 1) (e := 3) (els := y.path.map Ym) (h3 i y hs) (E5 (f := Ym) (fun _ => rfl) _) (vI _)
    rw [List.length_map] at this
    exact this
   | 4, hc, hc' => simp [rtB, rtX, rtC] at hc hc'; subst hc; subst hc'; exact Vp _ (vI _)
   | 5, hc, hc' => simp [rtB, rtX, rtC] at hc hc'; subst hc; subst hc'; exact Vp _ (vJ _)
   | 6, hc, hc' => simp [rtB, rtX, rtC] at hc hc'; subst hc; subst hc'; exact .val _
   | j + 7, hc, hc' => simp [rtB, rtX] at hc
 rw [V8] at bS bR
 refine .agg _ _ rfl fun i c c' hc hc' => ?_
 match i, hc, hc' with
 | 0, hc, hc' => simp [tC, plC] at hc hc'; subst hc; subst hc'; exact .val _
 | 1, hc, hc' => simp [tC, plC] at hc hc'; subst hc; subst hc'; exact .val _
 | 2, hc, hc' => simp [tC, plC] at hc hc'; subst hc; subst hc'; exact bS
 | 3, hc, hc' => simp [tC, plC] at hc hc'; subst hc; subst hc'; exact Vp _ (vJ _)
 | 4, hc, hc' => simp [tC, plC] at hc hc'; subst hc; subst hc'; exact Vp _ (vG _)
 | 5, hc, hc' => simp [tC, plC] at hc hc'; subst hc; subst hc'; exact bR
 | i + 6, hc, hc' => simp [tC] at hc
theorem Xgk (s : Nat → Option Res) (p : Pl) : RV s (plA p) (plA p) := by
 have nest : ∀ {sz : Nat} {els : List (List AV)}, (∀ (i : Nat) (x : List AV), els[i]? = some x → ∀ (j : Nat) (c : AV), x[j]? = some c → RV s c c) → RV s (.sl sz els .sh) (.sl sz els .sh) := fun {sz els} h =>
  .sl sz els els .sh rfl (fun i r r' h h' => by rw [h] at h'; injection h' with h'; rw [h']) fun i j r r' c c' hi hi' hc hc' => by
   rw [hi] at hi'; injection hi' with hi'; subst hi'
   rw [hc] at hc'; injection hc' with hc'; subst hc'
   exact h i r hi j c hc
 have nI : ∀ l : List Int, RV s (.sl 1 (l.map Ym) .sh) (.sl 1 (l.map Ym) .sh) := fun l => Vp _ fun x hx c hc => by
  obtain ⟨a, _, rfl⟩ := List.mem_map.1 hx
  simp [Ym] at hc; exact ⟨_, hc⟩
 have nJ : ∀ l : List (Int × Int), RV s (.sl 2 (l.map jnC) .sh) (.sl 2 (l.map jnC) .sh) := fun l => Vp _ fun x hx c hc => by
  obtain ⟨a, _, rfl⟩ := List.mem_map.1 hx
  simp [jnC] at hc; rcases hc with hc | hc <;> exact ⟨_, hc⟩
 have nG : ∀ l : List (Int × Int × Int), RV s (.sl 3 (l.map sgC) .sh) (.sl 3 (l.map sgC) .sh) := fun l => Vp _ fun x hx c hc => by
  obtain ⟨a, _, rfl⟩ := List.mem_map.1 hx
  simp [sgC] at hc; rcases hc with hc | hc | hc <;> exact ⟨_, hc⟩
 have nS : ∀ y : Sec, ∀ (j : Nat) (c : AV), (Y6 y)[j]? = some c → RV s c c := fun y j c hc => by
  match j, hc with
  | 0, hc => simp [Y6] at hc; subst hc; exact .val _
  | 1, hc => simp [Y6] at hc; subst hc; exact .val _
  | 2, hc => simp [Y6] at hc; subst hc; exact nJ _
  | j + 3, hc => simp [Y6] at hc
 have nR : ∀ y : Rt, ∀ (j : Nat) (c : AV), (rtC y)[j]? = some c → RV s c c := fun y j c hc => by
  match j, hc with
  | 0, hc => simp [rtC] at hc; subst hc; exact .val _
  | 1, hc => simp [rtC] at hc; subst hc; exact .val _
  | 2, hc => simp [rtC] at hc; subst hc; exact .val _
  | 3, hc => simp [rtC] at hc; subst hc; exact nI _
  | 4, hc => simp [rtC] at hc; subst hc; exact nI _
  | 5, hc => simp [rtC] at hc; subst hc; exact nJ _
  | 6, hc => simp [rtC] at hc; subst hc; exact .val _
  | j + 7, hc => simp [rtC] at hc
 refine .agg _ _ rfl fun i c c' hc hc' => ?_
 rw [hc] at hc'; injection hc' with hc'; subst hc'
 match i, hc with
 | 0, hc => simp [plC] at hc; subst hc; exact .val _
 | 1, hc => simp [plC] at hc; subst hc; exact .val _
 | 2, hc =>
  simp [plC] at hc; subst hc
  exact nest fun i x hx => by
   rw [List.getElem?_map] at hx
   cases hs : p.secs[i]? with
   | none => rw [hs] at hx; cases hx
   | some y => rw [hs, Option.map_some] at hx; injection hx with hx; subst hx; exact nS y
 | 3, hc => simp [plC] at hc; subst hc; exact nJ _
 | 4, hc => simp [plC] at hc; subst hc; exact nG _
 | 5, hc =>
  simp [plC] at hc; subst hc
  exact nest fun i x hx => by
   rw [List.getElem?_map] at hx
   cases hs : p.rts[i]? with
   | none => rw [hs] at hx; cases hx
   | some y => rw [hs, Option.map_some] at hx; injection hx with hx; subst hx; exact nR y
 | i + 6, hc => simp [plC] at hc
theorem Xg3 (K : Nat) (a b : Pl) (ha : Sm a) : Xr Try.prog 9 [.agg (tC K a), plA b] (Xfx K (Xgg (B2 K a a.secs.length a.rts.length))) (bool (Sy a b)) [] :=
 Xfg (Du a b ha) fun s hs => ⟨Xgj hs, Xgk s b, trivial⟩
end Go.Proofs.Ytjgbbjooeibppaa.Pln
