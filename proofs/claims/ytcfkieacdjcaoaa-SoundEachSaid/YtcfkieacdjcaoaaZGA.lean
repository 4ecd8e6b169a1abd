/- The layer of abstract values, joined: GA. -/
import Derived.Test.YtcfkieacdjcaoaaZVsBits
import Derived.Test.YtcfkieacdjcaoaaZVsA
import Derived.Test.YtcfkieacdjcaoaaZTab
section
namespace Go.VS
set_option linter.defProp false
set_option linter.unusedVariables false
section
variable {fr : List AV} {lo : List (Option Res)} {out : Nat → Option Res} {n0 n : Nat} {df : List Deferred}
theorem nx_loc (h : n0 ≤ n) (d : Option Tmp) (x : AV) (i : Nat) (r : Res) (g : List (Nat × Res)) : AState.next ⟨fr, lo, out, n0, n, df⟩ d x ((n + i, r) :: g) = AState.next ⟨fr, lo.set i (some r), out, n0, n, df⟩ d x g := by
  have h' : ¬ n + i < n0 := by omega
  cases d <;> simp [AState.next, AState.put, AState.give, h']
theorem nx_outs {k : Nat} (h : k < n0) (d : Option Tmp) (x : AV) (r : Res) (g : List (Nat × Res)) : AState.next ⟨fr, lo, out, n0, n, df⟩ d x ((k, r) :: g) = AState.next ⟨fr, lo, upd1 out k r, n0, n, df⟩ d x g := by
  cases d <;> simp [AState.next, AState.put, AState.give, h]
end
theorem gE {P : Program} {T : TypeId → Option TI} {bx : List (Nat × Option Nat)} {q : Bool} {ops : Array Oper} {K : AState → Prop} {l : List Oper} {σ : AState} (h : evRun P T bx q ops K l σ) : evRun P T bx q ops K l σ := h
theorem gR {q : Bool} {R : AState → Prop} {σ : AState} {d : Option Tmp} {r : AV} {g : List (Nat × Res)} (h : contR q R σ d r g) : contR q R σ d r g := h
theorem gD {P : Program} {T : TypeId → Option TI} {bx : List (Nat × Option Nat)} {ops : Array Oper} {K : AState → Prop} {rd wr : List (List Nat)} {l : List Oper} {σ : AState} (h : evRunD P T bx ops K rd wr l σ) : evRunD P T bx ops K rd wr l σ := h
theorem gF {wr : List Nat} {R : AState → Prop} {σ : AState} {d : Option Tmp} {r : AV} {g : List (Nat × Res)} (h : contD wr R σ d r g) : contD wr R σ d r g := h
theorem gT {P : Program} {T : TypeId → Option TI} {bx : List (Nat × Option Nat)} {ops : Array Oper} {lst : Nat} {anc : List Nat} {K : AState → Prop} {i : Nat} {l : List Oper} {σ : AState} (h : evRunT P T bx ops lst anc K i l σ) : evRunT P T bx ops lst anc K i l σ := h
theorem gU {b : Bool} {R : AState → Prop} {σ : AState} {d : Option Tmp} {r : AV} {g : List (Nat × Res)} (h : contT b R σ d r g) : contT b R σ d r g := h
def nb := And.intro @Bool.not_eq_true' @Bool.not_eq_false'
def su := And.intro sx <| And.intro sy <| And.intro @ne_eq.{1} <| And.intro @eq_self.{1} <| And.intro @if_true.{1} <| And.intro @if_false.{1} <| And.intro @evBuild.eq_def <| And.intro @evMake.eq_def <| @isShift.eq_def
theorem upd1_eq (s : Nat → Option Res) (k : Nat) (r : Res) (j : Nat) : upd1 s k r j = if j = k then some r else s j := rfl
theorem upd_cons (s : Nat → Option Res) (k : Nat) (r : Res) (l : List (Nat × Res)) : upd s ((k, r) :: l) = upd (upd1 s k r) l := rfl
theorem upd_nil (s : Nat → Option Res) : upd s [] = s := rfl
theorem ret_ctt {P : Program} {n : Nat} {fn : Func} {out : Nat → Option Res} {gives : List (Nat × Res)} {r q p R' : AV} {a b c : Tmp} {t : TypeId} {ti : TI} {e : Exit} {σ : AState} (he : e = .normal ∨ e = .ret) (hr : fn.results = #[.cell a t, .tmp b, .tmp c]) (hd : σ.df = []) (h0 : σ.n0 = n)
    (ho : ∀ k, k < n → σ.out k = upd out gives k) (ht : TIok P t ti) {k off : Nat} {eb : TypeId} {cs : List AV} (hx : σ.fr.getD a .top = .ptr k off) (hk : σ.dom k) (hl : σ.look k = some (.box eb cs)) (hp : pick ti.agg ti.size (cs.drop off) = some r)
    (hy : σ.fr.getD b .top = q) (hz : σ.fr.getD c .top = p) (hle : AV.le (.tup [r, q, p]) R') : retPost P n fn out gives R' e σ := by
  refine ⟨he, hd, h0, ho, fun M act hI hs => ?_⟩
  have h1 := hs.ev (.tmp a)
  have h2 := hs.ev (.tmp b)
  have h3 := hs.ev (.tmp c)
  simp only [AState.ev, Act.eval] at h1 h2 h3
  rw [hx] at h1
  rw [hy] at h2
  rw [hz] at h3
  have hv := ptr_of h1
  obtain ⟨vs, g1, g2, g3, g4, _⟩ := hI.box k eb cs (by rw [hs.st k hk]; exact hl)
  have cell : ∀ j, M.w.cell? ⟨M.β k, j, none⟩ = vs[j]? := fun j => cell_row g1
  obtain ⟨u, hu, hR⟩ := run_load_pick (M := M) ht (cs := cs.drop off) (b := M.β k) (o := off)
    (fun j hj => by
      have hj' : off + j < vs.size := by simp at hj; omega
      exact ⟨vs[off + j], by rw [cell]; simp [hj'], g3 (off + j) _ (by simp [hj'])⟩)
    (fun j c v hj hv => g4 (off + j) c v (by rwa [List.getElem?_drop] at hj) (by rwa [cell] at hv)) hp
  have hv' : act.tmps[a]?.getD undef = .pointer (some ⟨M.β k, off, none⟩) := by rw [← Array.getD_eq_getD_getElem?]; exact hv
  refine ⟨.tuple #[u, act.tmps.getD b undef, act.tmps.getD c undef], by simp [results, hr, hv', asAddr, hu], (R.tup [r, q, p] _ rfl fun i c v hi hv => ?_).le hle⟩
  match i, hi, hv with
  | 0, hi, hv => simp at hi hv; subst hi; subst hv; exact hR
  | 1, hi, hv => simp at hi hv; subst hi; subst hv; simpa using h2
  | 2, hi, hv => simp at hi hv; subst hi; subst hv; simpa using h3
end Go.VS
end
section
namespace Go.VS
set_option linter.unusedVariables false
open Go Go.RowKit
section
variable {P : Program} {b : Frame} {a : Act} {k : List Item} {cs : List Frame} {w : World} {F : Fence} {n : Nat} {Q : Exit → Act → World → Prop}
theorem stepR_scope {c : Code} : step P (lone (b.atR a (.code (.scope c) :: k)) cs w) = .next (lone (b.atR a (.code c :: .inScope c :: k)) cs w) :=
  step_lone_go (by simp [stepG, stepG.exec, Frame.atR])
theorem stepR_inScope {c : Code} : step P (lone (b.atR a (.inScope c :: k)) cs w) = .next (lone (b.atR a k) cs w) :=
  step_lone_go (by simp [stepG, stepG.exec, Frame.atR])
def noJump (Q : Exit → Act → World → Prop) : Exit → Act → World → Prop
  | .goto _, _, _ => False
  | e, a, w => Q e a w
def jumps (F : Fence) (n : Nat) (P : Program) (c : Code) (Q : Exit → Act → World → Prop) : Exit → Act → World → Prop
  | .goto l, a, w => ∃ rest, findLabel c l = some rest ∧ rest.wpIn F n P (noJump Q) a w
  | e, a, w => Q e a w
theorem arrives_scope {c : Code} {m : Machine} {e : Exit} {a₁ : Act} {w₁ : World} (hro : b.roundOf = F.round) (hb : F.fn b.fn) (hr : F.room (cs.length + 1 + n)) (hg : ∀ l, e ≠ .goto l)
    (harr : ArrivesIn (Machine.fenced P F) P m b (.inScope c :: k) cs e a₁ w₁) : ArrivesIn (Machine.fenced P F) P m b k cs e a₁ w₁ := by
  cases e with
  | normal => exact StepsIn.trans harr (.one (fenced_calm hb hr rfl) stepR_inScope)
  | exit id =>
    have hx : exitTo id (.inScope c :: k) = exitTo id k := by simp [exitTo]
    exact ⟨fun k' hk => harr.1 k' (by rw [hx]; exact hk), fun hr' hk => harr.2 hr' (by rw [hx]; exact hk)⟩
  | goto l => exact absurd rfl (hg l)
  | ret => exact harr
  | panic ch => exact harr
  | outgrown => exact harr
theorem wpIn_scope {c : Code} (h : c.wpIn F n P (jumps F n P c Q) a w) : (Code.scope c).wpIn F n P Q a w := by
  intro b k cs hro hb hr
  have h0 : (lone (b.atR a (.code (.scope c) :: k)) cs w).fenced P F := fenced_calm hb hr rfl
  obtain ⟨e, a₁, w₁, hq, harr⟩ := h b (.inScope c :: k) cs hro hb hr
  cases e with
  | goto l =>
    obtain ⟨rest, hf, hrest⟩ := hq
    have hg : gotoIn l (.inScope c :: k) = some (.code rest :: .inScope c :: k) := by simp [gotoIn, hf]
    obtain ⟨e₂, a₂, w₂, hq₂, harr₂⟩ := hrest b (.inScope c :: k) cs hro hb hr
    have h1 := harr.1 _ hg
    cases e₂ with
    | goto l => exact hq₂.elim
    | _ => exact ⟨_, a₂, w₂, hq₂, .of_steps (.head h0 stepR_scope h1) (arrives_scope (c := c) hro hb hr (by intro l h; cases h) harr₂)⟩
  | _ => exact ⟨_, a₁, w₁, hq, .of_steps (.one h0 stepR_scope) (arrives_scope (c := c) hro hb hr (by intro l h; cases h) harr)⟩
end
section
variable {P : Program} {Q : Exit → AState → Prop} {σ : AState}
def noJumpA (Q : Exit → AState → Prop) : Exit → AState → Prop
  | .goto _, _ => False
  | e, σ => Q e σ
def jumpsA (P : Program) (c : Code) (Q : Exit → AState → Prop) : Exit → AState → Prop
  | .goto l, σ => ∃ rest, findLabel c l = some rest ∧ AWp P rest (noJumpA Q) σ
  | e, σ => Q e σ
theorem jump_to {c rest : Code} {l : Nat} (hf : findLabel c l = some rest) (h : AWp P rest (noJumpA Q) σ) : jumpsA P c Q (.goto l) σ := ⟨rest, hf, h⟩
theorem awp_scope {c : Code} (h : AWp P c (jumpsA P c Q) σ) : AWp P (.scope c) Q σ := fun ro n M a hI hs => by
  refine wpIn_scope (wpIn_mono (h ro n M a hI hs) ?_)
  rintro e a' w' ⟨M', σ', rfl, he, hI', hs', hq⟩
  cases e with
  | goto l =>
    obtain ⟨rest, hf, hrest⟩ := hq
    refine ⟨rest, hf, wpIn_mono (hrest ro n M' a' hI' hs') ?_⟩
    rintro e a2 w2 ⟨M2, σ2, rfl, he2, hI2, hs2, hq2⟩
    cases e with
    | goto l => exact hq2.elim
    | _ => exact ⟨M2, σ2, rfl, he.trans he2, hI2, hs2, hq2⟩
  | _ => exact ⟨M', σ', rfl, he, hI', hs', hq⟩
end
end Go.VS
end
section
namespace Go.Proofs.Ytcfkieacdjcaoaa.Tab
open Go Go.VS
set_option linter.defProp false
section
variable {K : AState → Prop} {Q : Exit → AState → Prop} {σ : AState}
theorem th_n : thenA K Q .normal σ = K σ := rfl
theorem th_e (i : Nat) : thenA K Q (.exit i) σ = Q (.exit i) σ := rfl
theorem th_g (i : Nat) : thenA K Q (.goto i) σ = Q (.goto i) σ := rfl
theorem th_r : thenA K Q .ret σ = Q .ret σ := rfl
theorem bl_n (i : Nat) : blockA i Q .normal σ = Q .normal σ := rfl
theorem bl_e (i j : Nat) : blockA i Q (.exit j) σ = if j = i then Q .normal σ else Q (.exit j) σ := rfl
theorem bl_g (i j : Nat) : blockA i Q (.goto j) σ = Q (.goto j) σ := rfl
theorem bl_r (i : Nat) : blockA i Q .ret σ = Q .ret σ := rfl
end
def sb := And.intro @th_n <| And.intro @th_e <| And.intro @th_g <| And.intro @th_r <| And.intro @bl_n <| And.intro @bl_e <| And.intro @bl_g <| And.intro @bl_r <| And.intro @if_true.{1} <| @if_false.{1}
def ss := And.intro su <| And.intro sb hbT
def Vk := @awp_seq_k
def Ve := @awp_ev Try.prog tab tab_ok
def V0 := @awp_ev Try.prog tab tab_ok []
def Vs := @awp_skip
def Vb := @awp_block_s
def Vc := @awp_block_c
def Vr := @awp_block_r
def Vq {Q : Exit → AState → Prop} {σ : AState} {id : Nat} {l : List Oper} := @awp_ev_quiet Try.prog tab tab_ok Q σ id l follows
def Vd (id : Nat) (bx : List (Nat × Option Nat)) (rd wr : List (List Nat)) {Q : Exit → AState → Prop} {σ : AState} {l : List Oper} := @awp_ev_draw Try.prog tab tab_ok bx rd wr Q σ id l follows
def Vt := @awp_cond_t
def Vf := @awp_cond_f
def Vi := @awp_if
def Vx := @awp_exit
def Vz := @awp_ret
def Vg := @gsel_case
theorem Vn {a : Nat} : a = a := rfl
section
variable {P : Program} {n : Nat} {fn : Func} {out : Nat → Option Res} {gives : List (Nat × Res)} {r q : AV} {t u : Tmp} {σ : AState}
theorem Vo (hr : fn.results = #[.tmp t]) (hd : σ.df = []) (h0 : σ.n0 = n) (ho : ∀ k, k < n → σ.out k = upd out gives k) (hx : σ.fr.getD t .top = r) : retPost P n fn out gives r .ret σ := ret_tmp (.inr rfl) hr hd h0 ho hx
theorem Vp (hr : fn.results = #[.tmp t, .tmp u]) (hd : σ.df = []) (h0 : σ.n0 = n) (ho : ∀ k, k < n → σ.out k = upd out gives k) (hx : σ.fr.getD t .top = r) (hy : σ.fr.getD u .top = q) : retPost P n fn out gives (.tup [r, q]) .ret σ := ret_tmp2 (.inr rfl) hr hd h0 ho hx hy
end
end Go.Proofs.Ytcfkieacdjcaoaa.Tab
end
