/-
  The value-semantics layer, part 12: loops said by what changes; contracts met; small equations for the reckoning.
-/
import Derived.Test.YtfjebmdmjlanjaaVsEvOk
namespace Go.VS
set_option linter.unusedVariables false
set_option linter.unusedSimpArgs false
open Go Go.RowKit

def patch (fr : List AV) : List (Nat × AV) → List AV
  | [] => fr
  | (i, x) :: l => patch (fr.set i x) l

theorem le_refl_iff (x : AV) : AV.le x x ↔ True := ⟨fun _ => trivial, fun _ => .rfl x⟩
theorem le_top_iff (x : AV) : AV.le x .top ↔ True := ⟨fun _ => trivial, fun _ => .top x⟩
theorem le_nil_iff (sz sz' : Nat) (md md' : Md) : AV.le (.slice true sz [] md) (.slice true sz' [] md') ↔ True := ⟨fun _ => trivial, fun _ => .nil sz sz' md md'⟩
theorem le_sh_iff (nl : Bool) (sz : Nat) (els : List (List AV)) (md : Md) : AV.le (.slice nl sz els md) (.slice nl sz els .sh) ↔ True := ⟨fun _ => trivial, fun _ => .sh nl sz els md⟩
theorem leL_cons (x y : AV) (l l' : List AV) : leL (x :: l) (y :: l') ↔ AV.le x y ∧ leL l l' := Iff.rfl
theorem leL_nil : leL [] [] ↔ True := Iff.rfl

theorem le_of_fr {σ σ' : AState} (h : leL σ.fr σ'.fr) (h1 : σ.lo = σ'.lo) (h2 : σ.out = σ'.out) (h3 : σ.n0 = σ'.n0) (h4 : σ.n = σ'.n) (h5 : σ.df = σ'.df) : σ.le σ' := by
  have := le_frame (σ := σ) (fr' := σ'.fr) h
  have e : ({ σ with fr := σ'.fr } : AState) = σ' := by
    obtain ⟨a, b, c, d, e, f⟩ := σ
    obtain ⟨a', b', c', d', e', f'⟩ := σ'
    simp only at h1 h2 h3 h4 h5
    subst h1; subst h2; subst h3; subst h4; subst h5
    rfl
  rwa [e] at this

section
variable {P : Program} {Q : Exit → AState → Prop} {σ : AState}

/-- A loop, the local names as they are. -/
theorem awp_loop0 {α : Type} {c : Code} (inv : α → AState) (ok : α → Prop) (μ : α → Nat) (x0 : α) (h0 : ok x0) (hle : σ.le (inv x0))
    (round : ∀ x, ok x → AWp P c (thenA (fun σ' => ∃ y, ok y ∧ μ y < μ x ∧ σ'.le (inv y)) Q) (inv x)) : AWp P (.loop c) Q σ := fun ro n M a hI hs => by
  obtain ⟨M', hw, he, hI', hs'⟩ := hle M a hI hs
  refine wpIn_loop_by (fun m a' w' => ∃ x M', m = μ x ∧ ok x ∧ M'.w = w' ∧ Ext M M' ∧ Inv M' ∧ Sim M' a' (inv x)) (m := μ x0) ⟨x0, M', rfl, h0, hw, he, hI', hs'⟩ ?_
  rintro m a' w' ⟨x, M1, rfl, hx, rfl, he1, hI1, hs1⟩
  refine wpIn_mono (round x hx ro n M1 a' hI1 hs1) ?_
  rintro e a2 w2 ⟨M2, σ2, rfl, he2, hI2, hs2, hq⟩
  cases e with
  | normal =>
    obtain ⟨y, hy, hlt, hle2⟩ := hq
    obtain ⟨M3, hw3, he3, hI3, hs3⟩ := hle2 M2 a2 hI2 hs2
    exact ⟨μ y, hlt, y, M3, rfl, hy, hw3, (he1.trans he2).trans he3, hI3, hs3⟩
  | _ => exact ⟨M2, σ2, rfl, he1.trans he2, hI2, hs2, hq⟩

/-- A loop in which slots alone change. -/
theorem awp_for {α : Type} {c : Code} (l : α → List (Nat × AV)) (ok : α → Prop) (μ : α → Nat) (x0 : α) (h0 : ok x0) (hle : leL σ.fr (patch σ.fr (l x0)))
    (round : ∀ x, ok x → AWp P c (thenA (fun σ' => ∃ y, ok y ∧ μ y < μ x ∧ σ'.le { σ with fr := patch σ.fr (l y) }) Q) { σ with fr := patch σ.fr (l x) }) : AWp P (.loop c) Q σ :=
  awp_loop0 (fun x => { σ with fr := patch σ.fr (l x) }) ok μ x0 h0 (le_frame hle) round

/-- A loop in which slots and local resources change. -/
theorem awp_for_lo {α : Type} {c : Code} (l : α → List (Nat × AV)) (lo : α → List (Option Res)) (ok : α → Prop) (μ : α → Nat) (x0 : α) (h0 : ok x0) (hle : σ.le { σ with fr := patch σ.fr (l x0), lo := lo x0 })
    (round : ∀ x, ok x → AWp P c (thenA (fun σ' => ∃ y, ok y ∧ μ y < μ x ∧ σ'.le { σ with fr := patch σ.fr (l y), lo := lo y }) Q) { σ with fr := patch σ.fr (l x), lo := lo x }) : AWp P (.loop c) Q σ :=
  awp_loop0 (fun x => { σ with fr := patch σ.fr (l x), lo := lo x }) ok μ x0 h0 hle round

/-- A loop in which slots, local and outer resources change. -/
theorem awp_for_all {α : Type} {c : Code} (l : α → List (Nat × AV)) (lo : α → List (Option Res)) (ou : α → Nat → Option Res) (ok : α → Prop) (μ : α → Nat) (x0 : α) (h0 : ok x0)
    (hfr : leL σ.fr (patch σ.fr (l x0))) (hlo : lo x0 = σ.lo) (hou : ou x0 = σ.out)
    (round : ∀ x, ok x → AWp P c (thenA (fun σ' => ∃ y, ok y ∧ μ y < μ x ∧ σ'.le { σ with fr := patch σ.fr (l y), lo := lo y, out := ou y }) Q) { σ with fr := patch σ.fr (l x), lo := lo x, out := ou x }) : AWp P (.loop c) Q σ :=
  awp_loop0 (fun x => { σ with fr := patch σ.fr (l x), lo := lo x, out := ou x }) ok μ x0 h0 (le_of_fr hfr hlo.symm hou.symm rfl rfl rfl) round

/-- The contract of a callee that leaves all resources alone. -/
theorem call_pure {K : AV → List (Nat × Res) → Prop} {f : FuncId} {args : List AV} {r : AV} (h : ACall P f args [] r []) (hK : K r []) : evCall P σ K f args :=
  ⟨[], r, [], h, trivial, trivial, (fun x hx => by cases hx), hK⟩
/-- The contract of a callee, whatever it asks. -/
theorem call_of {K : AV → List (Nat × Res) → Prop} {f : FuncId} {args : List AV} {needs : List (Nat × Option Res)} {r : AV} {gives : List (Nat × Res)} (h : ACall P f args needs r gives) (h1 : holds σ.look needs) (h2 : domG σ gives)
    (h3 : ∀ x, x ∈ needs → σ.dom x.1 ∧ x.2 ≠ some .dead) (hK : K r gives) : evCall P σ K f args := ⟨needs, r, gives, h, h1, h2, h3, hK⟩
/-- One resource asked for and given. -/
theorem call_one {K : AV → List (Nat × Res) → Prop} {f : FuncId} {args : List AV} {k : Nat} {q : Option Res} {q' : Res} {r : AV} (h : ACall P f args [(k, q)] r [(k, q')]) (h1 : σ.look k = q) (h2 : σ.dom k)
    (h3 : q ≠ some .dead) (hK : K r [(k, q')]) : evCall P σ K f args := ⟨_, r, _, h, ⟨h1, trivial⟩, ⟨h2, trivial⟩, (fun x hx => by simp at hx; subst hx; exact ⟨h2, h3⟩), hK⟩
/-- What becomes of a call, of which a contract is at hand. -/
theorem call_eq {K : AV → List (Nat × Res) → Prop} {f : FuncId} {args : List AV} {r : AV} (h : ACall P f args [] r []) (hK : K r []) : evCall P σ K f args := call_pure h hK
end

/-- The contract of a call of yield, met. -/
theorem yld_of {P : Program} {σ : AState} {K : AV → List (Nat × Res) → Prop} {l : Nat} {args : List AV} {needs : List (Nat × Option Res)} {r : AV} {gives : List (Nat × Res)} (h : AYld P l args needs r gives) (h1 : holds σ.look needs) (h2 : domG σ gives)
    (h3 : ∀ x, x ∈ needs → σ.dom x.1 ∧ x.2 ≠ some .dead) (hK : K r gives) : evYld P σ K l args := ⟨needs, r, gives, h, h1, h2, h3, hK⟩

/-- The end of a function with one result, of which less is said. -/
theorem ret_tmp_le {P : Program} {n : Nat} {fn : Func} {out : Nat → Option Res} {gives : List (Nat × Res)} {r q : AV} {t : Tmp} {e : Exit} {σ : AState} (he : e = .normal ∨ e = .ret) (hr : fn.results = #[.tmp t]) (hd : σ.df = []) (h0 : σ.n0 = n)
    (ho : ∀ k, k < n → σ.out k = upd out gives k) (hl : AV.le q r) (hx : σ.fr.getD t .top = q) : retPost P n fn out gives r e σ := by
  obtain ⟨h1, h2, h3, h4, h5⟩ := ret_tmp (P := P) he hr hd h0 ho hx
  exact ⟨h1, h2, h3, h4, fun M a hI hs => let ⟨v, hv, hR⟩ := h5 M a hI hs; ⟨v, hv, hR.le hl⟩⟩

/-- The end of a function without results. -/
theorem ret_unit {P : Program} {n : Nat} {fn : Func} {out : Nat → Option Res} {gives : List (Nat × Res)} {e : Exit} {σ : AState} (he : e = .normal ∨ e = .ret) (hr : fn.results = #[]) (hd : σ.df = []) (h0 : σ.n0 = n)
    (ho : ∀ k, k < n → σ.out k = upd out gives k) : retPost P n fn out gives (.tup []) e σ :=
  ⟨he, hd, h0, ho, fun M a _ _ => ⟨.tuple #[], by simp [results, hr], .tup [] #[] rfl (fun i c v hi => by simp at hi)⟩⟩

/-- A function's result in a box. -/
theorem ret_cell {P : Program} {n : Nat} {fn : Func} {out : Nat → Option Res} {gives : List (Nat × Res)} {r : AV} {a : Tmp} {t : TypeId} {ti : TI} {e : Exit} {σ : AState} (he : e = .normal ∨ e = .ret) (hr : fn.results = #[.cell a t]) (hd : σ.df = []) (h0 : σ.n0 = n)
    (ho : ∀ k, k < n → σ.out k = upd out gives k) (ht : TIok P t ti) {k off : Nat} {eb : TypeId} {cs : List AV} (hx : σ.fr.getD a .top = .ptr k off) (hk : σ.dom k) (hl : σ.look k = some (.box eb cs)) (hp : pick ti.agg ti.size (cs.drop off) = some r) : retPost P n fn out gives r e σ := by
  refine ⟨he, hd, h0, ho, fun M act hI hs => ?_⟩
  have h1 := hs.ev (.tmp a)
  simp only [AState.ev, Act.eval] at h1
  rw [hx] at h1
  have hv := ptr_of h1
  obtain ⟨vs, g1, g2, g3, g4, _⟩ := hI.box k eb cs (by rw [hs.st k hk]; exact hl)
  have cell : ∀ j, M.w.cell? ⟨M.β k, j, none⟩ = vs[j]? := fun j => cell_row g1
  obtain ⟨u, hu, hR⟩ := run_load_pick (M := M) ht (cs := cs.drop off) (b := M.β k) (o := off)
    (fun j hj => by
      have hj' : off + j < vs.size := by simp at hj; omega
      exact ⟨vs[off + j], by rw [cell]; simp [hj'], g3 (off + j) _ (by simp [hj'])⟩)
    (fun j c v hj hv => g4 (off + j) c v (by rwa [List.getElem?_drop] at hj) (by rwa [cell] at hv)) hp
  have hv' : act.tmps[a]?.getD undef = .pointer (some ⟨M.β k, off, none⟩) := by rw [← Array.getD_eq_getD_getElem?]; exact hv
  exact ⟨u, by simp [results, hr, hv', asAddr, hu], hR⟩

/-- Two results: one in a box, one in a slot. -/
theorem ret_cell_tmp {P : Program} {n : Nat} {fn : Func} {out : Nat → Option Res} {gives : List (Nat × Res)} {r q : AV} {a b : Tmp} {t : TypeId} {ti : TI} {e : Exit} {σ : AState} (he : e = .normal ∨ e = .ret) (hr : fn.results = #[.cell a t, .tmp b]) (hd : σ.df = []) (h0 : σ.n0 = n)
    (ho : ∀ k, k < n → σ.out k = upd out gives k) (ht : TIok P t ti) {k off : Nat} {eb : TypeId} {cs : List AV} (hx : σ.fr.getD a .top = .ptr k off) (hk : σ.dom k) (hl : σ.look k = some (.box eb cs)) (hp : pick ti.agg ti.size (cs.drop off) = some r)
    (hy : σ.fr.getD b .top = q) : retPost P n fn out gives (.tup [r, q]) e σ := by
  refine ⟨he, hd, h0, ho, fun M act hI hs => ?_⟩
  have h1 := hs.ev (.tmp a)
  have h2 := hs.ev (.tmp b)
  simp only [AState.ev, Act.eval] at h1 h2
  rw [hx] at h1
  rw [hy] at h2
  have hv := ptr_of h1
  obtain ⟨vs, g1, g2, g3, g4, _⟩ := hI.box k eb cs (by rw [hs.st k hk]; exact hl)
  have cell : ∀ j, M.w.cell? ⟨M.β k, j, none⟩ = vs[j]? := fun j => cell_row g1
  obtain ⟨u, hu, hR⟩ := run_load_pick (M := M) ht (cs := cs.drop off) (b := M.β k) (o := off)
    (fun j hj => by
      have hj' : off + j < vs.size := by simp at hj; omega
      exact ⟨vs[off + j], by rw [cell]; simp [hj'], g3 (off + j) _ (by simp [hj'])⟩)
    (fun j c v hj hv => g4 (off + j) c v (by rwa [List.getElem?_drop] at hj) (by rwa [cell] at hv)) hp
  have hv' : act.tmps[a]?.getD undef = .pointer (some ⟨M.β k, off, none⟩) := by rw [← Array.getD_eq_getD_getElem?]; exact hv
  refine ⟨.tuple #[u, act.tmps.getD b undef], by simp [results, hr, hv', asAddr, hu], .tup _ _ rfl fun i c v hi hv => ?_⟩
  match i, hi, hv with
  | 0, hi, hv => simp at hi hv; subst hi; subst hv; exact hR
  | 1, hi, hv => simp at hi hv; subst hi; subst hv; simpa using h2
end Go.VS
