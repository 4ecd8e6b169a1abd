/-
  The value-semantics layer, part 4: code over abstract states: rules, regions, a function's entry and end.
-/
import Derived.Test.YtdkiciofkifpdaaVsWp
namespace Go.VS
set_option linter.unusedVariables false
set_option linter.unusedSimpArgs false
open Go Go.RowKit

/-- Code over abstract states. -/
def AWp (P : Program) (c : Code) (Q : Exit → AState → Prop) (σ : AState) : Prop :=
  ∀ (ro : Option Nat) (n : Nat) (M : Mem) (a : Act), Inv M → Sim M a σ → c.wpIn (FR ro) n P (Arrived M Q) a M.w

section
variable {P : Program} {Q : Exit → AState → Prop} {σ : AState}

theorem awp_mono {c : Code} {Q' : Exit → AState → Prop} (h : AWp P c Q σ) (hq : ∀ e σ, Q e σ → Q' e σ) : AWp P c Q' σ :=
  fun ro n M a hI hs => wpIn_mono (h ro n M a hI hs) fun _ _ _ ⟨M', σ', h1, h2, h3, h4, h5⟩ => ⟨M', σ', h1, h2, h3, h4, hq _ _ h5⟩

theorem awp_skip (h : Q .normal σ) : AWp P .skip Q σ := fun _ _ M _ hI hs => wpIn_skip ⟨M, σ, rfl, Ext.refl M, hI, hs, h⟩
theorem awp_label {l : Nat} (h : Q .normal σ) : AWp P (.label l) Q σ := fun _ _ M _ hI hs => wpIn_label ⟨M, σ, rfl, Ext.refl M, hI, hs, h⟩
theorem awp_exit {id : Nat} (h : Q (.exit id) σ) : AWp P (.exit id) Q σ := fun _ _ M _ hI hs => wpIn_exit ⟨M, σ, rfl, Ext.refl M, hI, hs, h⟩
theorem awp_goto {l : Nat} (h : Q (.goto l) σ) : AWp P (.goto l) Q σ := fun _ _ M _ hI hs => wpIn_goto ⟨M, σ, rfl, Ext.refl M, hI, hs, h⟩
theorem awp_ret (h : Q .ret σ) : AWp P .ret Q σ := fun _ _ M _ hI hs => wpIn_ret ⟨M, σ, rfl, Ext.refl M, hI, hs, h⟩

def thenA (next : AState → Prop) (Q : Exit → AState → Prop) : Exit → AState → Prop
  | .normal, σ => next σ
  | e, σ => Q e σ

theorem awp_seq {x y : Code} (h : AWp P x (thenA (AWp P y Q) Q) σ) : AWp P (.seq x y) Q σ := fun ro n M a hI hs => by
  refine wpIn_seq (wpIn_mono (h ro n M a hI hs) ?_)
  rintro e a' w' ⟨M', σ', rfl, he, hI', hs', hq⟩
  cases e with
  | normal =>
    refine wpIn_mono (hq ro n M' a' hI' hs') ?_
    rintro e a2 w2 ⟨M2, σ2, rfl, he2, hI2, hs2, hq2⟩
    exact ⟨M2, σ2, rfl, he.trans he2, hI2, hs2, hq2⟩
  | _ => exact ⟨M', σ', rfl, he, hI', hs', hq⟩

theorem awp_seq_k {x y : Code} (h : ∀ K : AState → Prop, (∀ σ, AWp P y Q σ → K σ) → AWp P x (thenA K Q) σ) : AWp P (.seq x y) Q σ := awp_seq (h _ fun _ h => h)

theorem awp_cond {c : Operand} {x y : Code} {t : Bool} (hc : σ.ev c = .val (.bool t)) (h : AWp P (if t then x else y) Q σ) : AWp P (.cond c x y) Q σ := fun ro n M a hI hs => by
  have hr := hs.ev c
  rw [hc] at hr
  refine wpIn_cond (t := t) ?_ (h ro n M a hI hs)
  generalize a.eval c = v at hr
  cases hr; rfl
theorem awp_cond_t {c : Operand} {x y : Code} (hc : σ.ev c = .val (.bool true)) (h : AWp P x Q σ) : AWp P (.cond c x y) Q σ := awp_cond hc h
theorem awp_cond_f {c : Operand} {x y : Code} (hc : σ.ev c = .val (.bool false)) (h : AWp P y Q σ) : AWp P (.cond c x y) Q σ := awp_cond hc h
theorem awp_if {c : Operand} {x y : Code} {t : Bool} (hc : σ.ev c = .val (.bool t)) (ht : t = true → AWp P x Q σ) (hf : t = false → AWp P y Q σ) : AWp P (.cond c x y) Q σ := by
  refine awp_cond hc ?_
  cases t
  · exact hf rfl
  · exact ht rfl

def blockA (id : Nat) (Q : Exit → AState → Prop) : Exit → AState → Prop
  | .exit id', σ => if id' = id then Q .normal σ else Q (.exit id') σ
  | e, σ => Q e σ

theorem awp_block {id : Nat} {c : Code} (h : AWp P c (blockA id Q) σ) : AWp P (.block id c) Q σ := fun ro n M a hI hs => by
  refine wpIn_block (wpIn_mono (h ro n M a hI hs) ?_)
  rintro e a' w' ⟨M', σ', h1, h2, h3, h4, hq⟩
  cases e with
  | exit id' =>
    simp only [Exit.inBlock, blockA] at hq ⊢
    split
    · rename_i hid; rw [if_pos hid] at hq; exact ⟨M', σ', h1, h2, h3, h4, hq⟩
    · rename_i hid; rw [if_neg hid] at hq; exact ⟨M', σ', h1, h2, h3, h4, hq⟩
  | _ => exact ⟨M', σ', h1, h2, h3, h4, hq⟩

/-- Less is known of a state. -/
def AState.le (σ σ' : AState) : Prop := ∀ M a, Inv M → Sim M a σ → ∃ M', M'.w = M.w ∧ Ext M M' ∧ Inv M' ∧ Sim M' a σ'

theorem AState.le_refl (σ : AState) : σ.le σ := fun M _ hI hs => ⟨M, rfl, Ext.refl M, hI, hs⟩
theorem AState.le_trans {σ τ υ : AState} (h : σ.le τ) (k : τ.le υ) : σ.le υ := fun M a hI hs => by
  obtain ⟨M1, e1, x1, i1, s1⟩ := h M a hI hs
  obtain ⟨M2, e2, x2, i2, s2⟩ := k M1 a i1 s1
  exact ⟨M2, e2.trans e1, x1.trans x2, i2, s2⟩

theorem awp_le {c : Code} {σ' : AState} (hle : σ.le σ') (h : AWp P c Q σ') : AWp P c Q σ := fun ro n M a hI hs => by
  obtain ⟨M', hw, he, hI', hs'⟩ := hle M a hI hs
  rw [← hw]
  refine wpIn_mono (h ro n M' a hI' hs') ?_
  rintro e a2 w2 ⟨M2, σ2, rfl, he2, hI2, hs2, hq2⟩
  exact ⟨M2, σ2, rfl, he.trans he2, hI2, hs2, hq2⟩

theorem wpIn_loop_by {F : Fence} {n : Nat} {c : Code} {Q : Exit → Act → World → Prop} (I : Nat → Act → World → Prop) {m : Nat} {a : Act} {w : World} (h₀ : I m a w)
    (round : ∀ m a w, I m a w → c.wpIn F n P (Exit.then (fun a' w' => ∃ m', m' < m ∧ I m' a' w') Q) a w) : (Code.loop c).wpIn F n P Q a w := by
  intro b k cs hro hb hr
  have key : ∀ j a w, I j a w →
      ∃ e a' w', Q e a' w' ∧ ArrivesIn (Machine.fenced P F) P (lone (b.atR a (.code c :: .inLoop c :: k)) cs w) b k cs e a' w' := by
    intro j
    induction j using Nat.strongRecOn with
    | _ j ih =>
      intro a w hI
      obtain ⟨e, a₁, w₁, hq, harr⟩ := round j a w hI b (.inLoop c :: k) cs hro hb hr
      cases e with
      | normal =>
        obtain ⟨m', hlt, hI₁⟩ := hq
        obtain ⟨e₂, a₂, w₂, hq₂, harr₂⟩ := ih m' hlt a₁ w₁ hI₁
        exact ⟨e₂, a₂, w₂, hq₂, .of_steps (StepsIn.trans harr (.one (fenced_calm hb hr rfl) stepR_inLoop)) harr₂⟩
      | exit id => exact ⟨_, a₁, w₁, hq, .pass (x := .inLoop c) rfl (fun _ _ => .inl (by simp)) harr⟩
      | goto l => exact ⟨_, a₁, w₁, hq, .pass (x := .inLoop c) rfl (fun _ _ => .inl (by simp)) harr⟩
      | ret => exact ⟨_, a₁, w₁, hq, .pass (x := .inLoop c) rfl (fun _ _ => .inl (by simp)) harr⟩
      | panic ch => exact ⟨_, a₁, w₁, hq, .pass (x := .inLoop c) rfl (fun _ _ => .inl (by simp)) harr⟩
      | outgrown => exact ⟨_, a₁, w₁, hq, .pass (x := .inLoop c) rfl (fun _ _ => .inl (by simp)) harr⟩
  obtain ⟨e, a', w', hq, harr⟩ := key _ a w h₀
  exact ⟨e, a', w', hq, .of_steps (.one (fenced_calm hb hr rfl) stepR_loop) harr⟩

/-- Less is known of a state, its local names being counted from some other number on. -/
def AState.leSome (σ : AState) (F : Nat → AState) : Prop := ∀ M a, Inv M → Sim M a σ → ∃ M' n, M'.w = M.w ∧ Ext M M' ∧ Inv M' ∧ Sim M' a (F n)

theorem AState.le.some {σ : AState} {F : Nat → AState} (n : Nat) (h : σ.le (F n)) : σ.leSome F := fun M a hI hs => by
  obtain ⟨M', h1, h2, h3, h4⟩ := h M a hI hs
  exact ⟨M', n, h1, h2, h3, h4⟩
theorem AState.le.then {σ τ : AState} {F : Nat → AState} (h : σ.le τ) (k : τ.leSome F) : σ.leSome F := fun M a hI hs => by
  obtain ⟨M1, e1, x1, i1, s1⟩ := h M a hI hs
  obtain ⟨M2, n, e2, x2, i2, s2⟩ := k M1 a i1 s1
  exact ⟨M2, n, e2.trans e1, x1.trans x2, i2, s2⟩
theorem AState.leSome.then {σ : AState} {F G : Nat → AState} (h : σ.leSome F) (k : ∀ n, (F n).leSome G) : σ.leSome G := fun M a hI hs => by
  obtain ⟨M1, n1, e1, x1, i1, s1⟩ := h M a hI hs
  obtain ⟨M2, n, e2, x2, i2, s2⟩ := k n1 M1 a i1 s1
  exact ⟨M2, n, e2.trans e1, x1.trans x2, i2, s2⟩

/-- A loop: states inv n x, one for each x that may be, the local names counted from n on; a measure. -/
theorem awp_loop {α : Type} {c : Code} (inv : Nat → α → AState) (ok : α → Prop) (μ : α → Nat) (x0 : α) (h0 : ok x0) (hle : σ.leSome fun n => inv n x0)
    (round : ∀ n x, ok x → AWp P c (thenA (fun σ' => ∃ y, ok y ∧ μ y < μ x ∧ σ'.leSome fun n => inv n y) Q) (inv n x)) : AWp P (.loop c) Q σ := fun ro nn M a hI hs => by
  obtain ⟨M', n', hw, he, hI', hs'⟩ := hle M a hI hs
  refine wpIn_loop_by (fun m a' w' => ∃ x n M', m = μ x ∧ ok x ∧ M'.w = w' ∧ Ext M M' ∧ Inv M' ∧ Sim M' a' (inv n x)) (m := μ x0) ⟨x0, n', M', rfl, h0, hw, he, hI', hs'⟩ ?_
  rintro m a' w' ⟨x, n, M1, rfl, hx, rfl, he1, hI1, hs1⟩
  refine wpIn_mono (round n x hx ro nn M1 a' hI1 hs1) ?_
  rintro e a2 w2 ⟨M2, σ2, rfl, he2, hI2, hs2, hq⟩
  cases e with
  | normal =>
    obtain ⟨y, hy, hlt, hle2⟩ := hq
    obtain ⟨M3, n3, hw3, he3, hI3, hs3⟩ := hle2 M2 a2 hI2 hs2
    exact ⟨μ y, hlt, y, n3, M3, rfl, hy, hw3, (he1.trans he2).trans he3, hI3, hs3⟩
  | _ => exact ⟨M2, σ2, rfl, he1.trans he2, hI2, hs2, hq⟩

/-! Regions. -/
def RD1 : Nat → Nat → Prop := fun _ _ => True
def WR1 : Nat → Nat → Prop := fun _ _ => True
def WR0 : Nat → Nat → Prop := fun _ _ => False

theorem wpList_of_ARun {ro : Option Nat} {n : Nat} {ops : Array Oper} {RD WR : Nat → Nat → Prop} {M0 : Mem} : ∀ (l : List Oper) (i : Nat) (M : Mem) (a : Act) (σ : AState), (∀ j, l[j]? = ops[i + j]?) → Ext M0 M → Inv M → Sim M a σ →
    ARun P ops RD WR (Q .normal) i l σ → wpListIn (FR ro) n P ops (Arrived M0 Q) l a M.w
  | [], _, M, _, σ, _, he, hI, hs, h => ⟨M, σ, rfl, he, hI, hs, h⟩
  | o :: l, i, M, a, σ, hl, he, hI, hs, h => by
    obtain ⟨r, g, hy, hk⟩ := h
    have h0 : ops[i]? = some o := by simpa using (hl 0).symm
    have key := op_of_yields (P := P) (ro := ro) (n := n) h0 hI hs hy (K := wpListIn (FR ro) n P ops (Arrived M0 Q) l) (Q := Arrived M0 Q) fun M' v he' hI' hs' =>
      wpList_of_ARun l (i + 1) M' _ _ (fun j => by have := hl (j + 1); simpa [Nat.add_assoc, Nat.add_comm 1 j] using this) (he.trans he') hI' hs' hk
    unfold wpOpIn at key
    simp only [h0] at key
    exact key

theorem awp_region {id : Nat} {l : List Oper} (h : ARun P l.toArray RD1 WR1 (Q .normal) 0 l σ) : AWp P (.region id l.toArray false) Q σ := fun ro n M a hI hs =>
  wpIn_region_lit (wpList_of_ARun l 0 M a σ (by simp) (Ext.refl M) hI hs h)

theorem drew_mem {M : Mem} (hI : Inv M) {a : Act} (hs : Sim M a σ) : ∃ M', M'.w = { M.w with drawn := M.w.drawn + 1 } ∧ Ext M M' ∧ Inv M' ∧ Sim M' a σ :=
  have e := Ext.withW (M := M) (w' := { M.w with drawn := M.w.drawn + 1 }) rfl
  ⟨M.withW { M.w with drawn := M.w.drawn + 1 }, rfl, e, hI.withW rfl rfl rfl rfl, hs.df, hs.fr.ext e, hs.le, hs.st⟩

theorem awp_region_draw {id : Nat} {l : List Oper} {RD WR : Nat → Nat → Prop} (hm : P.follows .mixedOrders = true) (hB : Region.lexB .any l.toArray = true) (hdis : Disj .any l.toArray RD WR)
    (h : ARun P l.toArray RD WR (Q .normal) 0 l σ) : AWp P (.region id l.toArray true) Q σ := fun ro n M a hI hs => by
  obtain ⟨M', hw, he, hI', hs'⟩ := drew_mem hI hs
  simp only [Region.lexB, Bool.and_eq_true] at hB
  refine wpIn_region_any hm ?_
  rw [← hw]
  refine wpAny_of_A (RD := RD) (WR := WR) _ _ M' a σ he hI' hs' ?_
  have := wpAnyA_lex hdis l 0 (Array.replicate l.toArray.size false) σ (fun j o _ hj => by
    have : (Array.replicate l.toArray.size false).getD j false = false := by
      simp only [Array.getD_eq_getD_getElem?, Array.getElem?_replicate]
      split <;> rfl
    rw [this] at hj; cases hj) (by simp) (by simpa using hB.2) h
  simpa using this

/-- A region that draws, and gives no resource. -/
theorem awp_region_quiet {id : Nat} {l : List Oper} (hm : P.follows .mixedOrders = true) (hB : Region.lexB .any l.toArray = true)
    (h : ARun P l.toArray RD1 WR0 (Q .normal) 0 l σ) : AWp P (.region id l.toArray true) Q σ :=
  awp_region_draw hm hB (fun _ _ _ _ _ _ h => h.elim) h

/-! A function's entry and end. -/
def retPost (P : Program) (n : Nat) (fn : Func) (out : Nat → Option Res) (gives : List (Nat × Res)) (r : AV) : Exit → AState → Prop := fun e σ =>
  (e = .normal ∨ e = .ret) ∧ σ.df = [] ∧ σ.n0 = n ∧ (∀ k, k < n → σ.out k = upd out gives k) ∧
    ∀ M a, Inv M → Sim M a σ → ∃ v, (results fn a.tmps).run P M.w = .ok v M.w ∧ R M r v

theorem upd_congr {s s' : Nat → Option Res} {k : Nat} : ∀ (l : List (Nat × Res)), s k = s' k → upd s l k = upd s' l k := by
  intro l
  induction l generalizing s s' with
  | nil => intro h; exact h
  | cons y l ih =>
    intro h
    obtain ⟨j, q⟩ := y
    simp only [upd]
    exact ih (by simp only [upd1]; split <;> first | rfl | exact h)

theorem acall_of' {f : FuncId} {fn : Func} {c : Code} {args : List AV} {needs : List (Nat × Option Res)} {r : AV} {gives : List (Nat × Res)} (m : Nat)
    (hf : P.funcs[f]? = some fn) (hb : fn.body = some c)
    (h : ∀ n out, holds out needs → under n gives → (∀ k, n ≤ k → out k = none) →
      AWp P c (retPost P n fn out gives r) ⟨args ++ List.replicate (fn.ntmps - args.length) (.tup []), List.replicate m none, out, n, n, []⟩) : ACall P f args needs r gives := by
  intro M N vs hI hargs hneeds hN hg
  refine calls_of_wp hf hb ?_
  have hs : Sim M { tmps := vs ++ Array.replicate (fn.ntmps - vs.size) undef, defers := [] } ⟨args ++ List.replicate (fn.ntmps - args.length) (.tup []), List.replicate m none, M.st, N, N, []⟩ := by
    refine ⟨rfl, ⟨by simp [hargs.1], fun i c v hi hv => ?_⟩, Nat.le_refl _, fun k hk => ?_⟩
    · rcases Nat.lt_or_ge i args.length with h1 | h1
      · rw [List.getElem?_append_left h1] at hi
        rw [Array.getElem?_append_left (by rw [← hargs.1]; exact h1)] at hv
        exact hargs.2 i c v hi hv
      · rw [List.getElem?_append_right h1] at hi
        rw [Array.getElem?_append_right (by rw [← hargs.1]; exact h1)] at hv
        have hc : c = .tup [] := List.eq_of_mem_replicate (List.mem_of_getElem? hi)
        have hv' : v = undef := by
          have := Array.mem_of_getElem? hv
          simpa using (Array.mem_replicate.1 this).2
        subst hc; subst hv'
        exact .tup [] #[] rfl (fun i c v hi => by simp at hi)
    · simp only [AState.look]
      split
      · rfl
      · rename_i hk'
        rw [hN k (by omega)]
        rw [List.getElem?_replicate]
        split <;> rfl
  refine wp_mono (wpIn_wide.1 (h N M.st hneeds hg hN none 0 M _ hI hs)) ?_
  rintro e a' w' ⟨M', σ', rfl, he, hI', hs', hret, hdf, hn0, hout, hres⟩
  obtain ⟨v, hv, hr⟩ := hres M' a' hI' hs'
  have hdone : Done M N gives r v M'.w := by
    refine ⟨M', rfl, he, hI', fun k hk => ?_, hr⟩
    have hk' : k < σ'.n0 := by rw [hn0]; exact hk
    rw [hs'.st k (.inl hk')]
    simp only [AState.look, hk', if_true]
    exact hout k hk
  rcases hret with rfl | rfl
  · exact ⟨hs'.df.trans hdf, v, hv, v, rfl, hdone⟩
  · exact ⟨hs'.df.trans hdf, v, hv, v, rfl, hdone⟩

theorem acall_of {f : FuncId} {fn : Func} {c : Code} {args : List AV} {needs : List (Nat × Option Res)} {r : AV} {gives : List (Nat × Res)} (m : Nat)
    (hf : P.funcs[f]? = some fn) (hb : fn.body = some c)
    (h : ∀ n out, holds out needs → under n gives →
      AWp P c (retPost P n fn out gives r) ⟨args ++ List.replicate (fn.ntmps - args.length) (.tup []), List.replicate m none, out, n, n, []⟩) : ACall P f args needs r gives :=
  acall_of' m hf hb fun n out h1 h2 _ => h n out h1 h2

/-- The end of a function with one result in a slot. -/
theorem ret_tmp {n : Nat} {fn : Func} {out : Nat → Option Res} {gives : List (Nat × Res)} {r : AV} {t : Tmp} {e : Exit} (he : e = .normal ∨ e = .ret) (hr : fn.results = #[.tmp t]) (hd : σ.df = []) (h0 : σ.n0 = n)
    (ho : ∀ k, k < n → σ.out k = upd out gives k) (hx : σ.fr.getD t .top = r) : retPost P n fn out gives r e σ := by
  refine ⟨he, hd, h0, ho, fun M a _ hs => ⟨_, results_tmp hr _ _ _, ?_⟩⟩
  have := hs.ev (.tmp t)
  simp only [AState.ev, Act.eval] at this
  rw [← hx]; exact this

theorem ret_tmp2 {n : Nat} {fn : Func} {out : Nat → Option Res} {gives : List (Nat × Res)} {r q : AV} {t u : Tmp} {e : Exit} (he : e = .normal ∨ e = .ret) (hr : fn.results = #[.tmp t, .tmp u]) (hd : σ.df = []) (h0 : σ.n0 = n)
    (ho : ∀ k, k < n → σ.out k = upd out gives k) (hx : σ.fr.getD t .top = r) (hy : σ.fr.getD u .top = q) : retPost P n fn out gives (.tup [r, q]) e σ := by
  refine ⟨he, hd, h0, ho, fun M a _ hs => ⟨_, results_tmp2 hr _ _ _, ?_⟩⟩
  have h1 := hs.ev (.tmp t)
  have h2 := hs.ev (.tmp u)
  simp only [AState.ev, Act.eval] at h1 h2
  rw [hx] at h1; rw [hy] at h2
  refine .tup _ _ rfl fun i c v hi hv => ?_
  match i, hi, hv with
  | 0, hi, hv => simp at hi hv; subst hi; subst hv; simpa using h1
  | 1, hi, hv => simp at hi hv; subst hi; subst hv; simpa using h2
end
end Go.VS
