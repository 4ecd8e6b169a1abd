/-
  The value-semantics layer, part 3: contracts of operations and of calls over abstract values; code; regions in whatever order.
-/
import Derived.Test.YtdkiciofkifpdaaVsMem
namespace Go.VS
set_option linter.unusedVariables false
set_option linter.unusedSimpArgs false
open Go Go.RowKit

def holds (s : Nat → Option Res) : List (Nat × Option Res) → Prop
  | [] => True
  | (k, r) :: l => s k = r ∧ holds s l
theorem holds_iff {s : Nat → Option Res} {l : List (Nat × Option Res)} : holds s l ↔ ∀ x, x ∈ l → s x.1 = x.2 := by
  induction l with
  | nil => simp [holds]
  | cons x l ih => obtain ⟨k, r⟩ := x; simp [holds, ih]

/-- All names of these lie below N. -/
def under (N : Nat) : List (Nat × Res) → Prop
  | [] => True
  | (k, _) :: l => k < N ∧ under N l
theorem under_iff {N : Nat} {l : List (Nat × Res)} : under N l ↔ ∀ x, x ∈ l → x.1 < N := by
  induction l with
  | nil => simp [under]
  | cons x l ih => obtain ⟨k, r⟩ := x; simp [under, ih]
theorem under_mono {N N' : Nat} {l : List (Nat × Res)} (h : under N l) (hN : N ≤ N') : under N' l :=
  under_iff.2 fun x hx => Nat.lt_of_lt_of_le (under_iff.1 h x hx) hN

def Done (M : Mem) (N : Nat) (gives : List (Nat × Res)) (r : AV) (v : Value) (w' : World) : Prop :=
  ∃ M', M'.w = w' ∧ Ext M M' ∧ Inv M' ∧ (∀ k, k < N → M'.st k = upd M.st gives k) ∧ R M' r v

/-- The contract of a Go function over abstract values: what it needs of named resources, what it gives back, what becomes of resources. -/
def ACall (P : Program) (f : FuncId) (args : List AV) (needs : List (Nat × Option Res)) (r : AV) (gives : List (Nat × Res)) : Prop :=
  ∀ (M : Mem) (N : Nat) (vs : Array Value), Inv M → RL M args vs → holds M.st needs → (∀ k, N ≤ k → M.st k = none) → under N gives →
    Calls P f vs M.w fun e w' => ∃ v, e = .returned v ∧ Done M N gives r v w'

def OpRes (P : Program) (K : Value → World → Prop) : Result Next → Prop
  | .ok (.value v) w' => K v w'
  | .ok .skip w' => K undef w'
  | .ok (.enter f args) w' => Calls P f args w' fun e w'' => ∃ v, e = .returned v ∧ K v w''
  | .ok (.round l f tmps assign body) w' => RoundIn Fence.wide 0 P l f tmps assign body w' fun e w'' => ∃ v, e = .returned v ∧ K v w''
  | _ => False

/-- The fence that lets all in; of an activation (none), or of a round of record l. -/
abbrev FR (ro : Option Nat) : Fence := { fn := fun _ => True, depth := none, alive := false, round := ro }

theorem OpRes.mono {P : Program} {K K' : Value → World → Prop} {r : Result Next} (h : OpRes P K r) (hk : ∀ v w, K v w → K' v w) : OpRes P K' r := by
  cases r with
  | ok n w => cases n <;> simp only [OpRes] at h ⊢ <;> first | exact hk _ _ h | exact Calls.mono h (fun e w ⟨v, h1, h2⟩ => ⟨v, h1, hk _ _ h2⟩) | exact RoundIn.mono h (fun e w ⟨v, h1, h2⟩ => ⟨v, h1, hk _ _ h2⟩)
  | halt x w => exact h

theorem OpRes.not_defer {P : Program} {o : Oper} {ρ : Operand → Value} {w : World} {K : Value → World → Prop} (h : OpRes P K ((execOp ρ o).run P w)) : ∀ c, o.op ≠ .defer c := by
  intro c hc
  obtain ⟨d, op, ty, pos, aft, gd⟩ := o
  dsimp only at hc
  subst hc
  simp only [execOp, Sem.run_bind] at h
  generalize (resolve ρ c ty).run P w = r at h
  cases r <;> exact h.elim

theorem OpRes.wp {P : Program} {ro : Option Nat} {n : Nat} {o : Oper} {a : Act} {w : World} {K : Act → World → Prop} {Q : Exit → Act → World → Prop}
    (h : OpRes P (fun v w' => K (a.put o.dst v) w') ((execOp a.eval o).run P w)) : o.wpIn (FR ro) n P a w K Q := by
  refine ⟨fun _ _ => trivial, ?_⟩
  rw [Oper.semAt_eq _ _ _ h.not_defer]
  generalize (execOp a.eval o).run P w = r at *
  cases r with
  | ok x w =>
    cases x <;> simp only [OpRes, Oper.uponIn] at h ⊢ <;> first
      | exact h
      | (refine ⟨fun h0 => (by cases h0), ⟨trivial, fun cs _ => ?_⟩⟩
         obtain ⟨e, w', fr, ⟨v, rfl, h2⟩, hs, hx⟩ := h cs
         exact ⟨.returned v, w', fr, h2, comesIn_wide.2 hs, hx⟩)
      | (refine ⟨fun h0 => (by cases h0), ⟨trivial, fun c cs _ => ?_⟩⟩
         obtain ⟨e, w', ⟨v, rfl, h2⟩, hs⟩ := h.2 c cs (room_wide _)
         exact ⟨.returned v, w', h2, hs⟩)
  | halt x w => exact h.elim

/-- The contract of an operation over abstract values. -/
def AOk (P : Program) (o : Oper) (ρA : Operand → AV) (needs : List (Nat × Option Res)) (r : AV) (gives : List (Nat × Res)) : Prop :=
  (∀ cs b, o.op ≠ .select cs b) ∧
  ∀ (M : Mem) (N : Nat) (ρ : Operand → Value), Inv M → (∀ x, x ∈ o.op.operands → R M (ρA x) (ρ x)) → (∀ v, ρ (.const v) = v) → (∀ f, ρ (.func f) = .func (.func f) #[] #[]) →
    holds M.st needs → (∀ k, N ≤ k → M.st k = none) → under N gives →
    OpRes P (fun v w' => Done M N gives r v w') ((execOp ρ o).run P M.w)

theorem AOk.congr {P : Program} {o : Oper} {ρ ρ' : Operand → AV} {needs : List (Nat × Option Res)} {r : AV} {gives : List (Nat × Res)} (h : AOk P o ρ needs r gives)
    (he : ∀ x, x ∈ o.op.operands → ρ x = ρ' x) : AOk P o ρ' needs r gives :=
  ⟨h.1, fun M N σ hI hx => h.2 M N σ hI fun x hm => by rw [he x hm]; exact hx x hm⟩

/-- An abstract state: slots; local resources, named n, n + 1, ..; outer resources, named below n0; what is deferred. -/
structure AState where
  fr : List AV
  lo : List (Option Res)
  out : Nat → Option Res
  n0 : Nat
  n : Nat
  df : List Deferred := []

def leafB : Value → Bool
  | .agg _ => false
  | .tuple _ => false
  | _ => true
theorem leaf_of_B {v : Value} (h : leafB v = true) : leaf v := by
  cases v <;> first | trivial | cases h

def constAV : Value → AV
  | .slice none 0 0 => .sl 0 [] .nil
  | .agg cs => if cs.toList.all leafB then .agg (cs.toList.map .val) else .top
  | .tuple _ => .top
  | v => .val v

def AState.ev (σ : AState) : Operand → AV
  | .tmp t => σ.fr.getD t .top
  | .const v => constAV v
  | .func f => .fn (.func f) []
  | .global _ => .top

def AState.look (σ : AState) (k : Nat) : Option Res := if k < σ.n0 then σ.out k else (σ.lo[k - σ.n]?).join
/-- The names that a state speaks of. -/
def AState.dom (σ : AState) (k : Nat) : Prop := k < σ.n0 ∨ (σ.n ≤ k ∧ k < σ.n + σ.lo.length)
def domG (σ : AState) : List (Nat × Res) → Prop
  | [] => True
  | (k, _) :: l => σ.dom k ∧ domG σ l
theorem domG_iff {σ : AState} {l : List (Nat × Res)} : domG σ l ↔ ∀ x, x ∈ l → σ.dom x.1 := by
  induction l with
  | nil => simp [domG]
  | cons x l ih => obtain ⟨k, r⟩ := x; simp [domG, ih]
def AState.give (σ : AState) : List (Nat × Res) → AState
  | [] => σ
  | (k, r) :: l => AState.give (if k < σ.n0 then { σ with out := upd1 σ.out k r } else { σ with lo := σ.lo.set (k - σ.n) (some r) }) l
def AState.put (σ : AState) (d : Option Tmp) (x : AV) : AState :=
  match d with
  | some t => { σ with fr := σ.fr.set t x }
  | none => σ
def AState.next (σ : AState) (d : Option Tmp) (x : AV) (gives : List (Nat × Res)) : AState := (σ.put d x).give gives

theorem give_keeps (l : List (Nat × Res)) : ∀ σ : AState, (σ.give l).lo.length = σ.lo.length ∧ (σ.give l).fr = σ.fr ∧ (σ.give l).df = σ.df ∧ (σ.give l).n0 = σ.n0 ∧ (σ.give l).n = σ.n := by
  induction l with
  | nil => intro σ; exact ⟨rfl, rfl, rfl, rfl, rfl⟩
  | cons x l ih =>
    intro σ; obtain ⟨k, r⟩ := x
    simp only [AState.give]
    obtain ⟨h1, h2, h3, h4, h5⟩ := ih (if k < σ.n0 then { σ with out := upd1 σ.out k r } else { σ with lo := σ.lo.set (k - σ.n) (some r) })
    rw [h1, h2, h3, h4, h5]
    split <;> simp
theorem give_lo_length (l : List (Nat × Res)) (σ : AState) : (σ.give l).lo.length = σ.lo.length := (give_keeps l σ).1
theorem give_fr (l : List (Nat × Res)) (σ : AState) : (σ.give l).fr = σ.fr := (give_keeps l σ).2.1
theorem give_df (l : List (Nat × Res)) (σ : AState) : (σ.give l).df = σ.df := (give_keeps l σ).2.2.1
theorem give_n0 (l : List (Nat × Res)) (σ : AState) : (σ.give l).n0 = σ.n0 := (give_keeps l σ).2.2.2.1
theorem give_n (l : List (Nat × Res)) (σ : AState) : (σ.give l).n = σ.n := (give_keeps l σ).2.2.2.2
theorem put_lo (σ : AState) (d : Option Tmp) (x : AV) : (σ.put d x).lo = σ.lo := by cases d <;> rfl
theorem put_out (σ : AState) (d : Option Tmp) (x : AV) : (σ.put d x).out = σ.out := by cases d <;> rfl
theorem put_df (σ : AState) (d : Option Tmp) (x : AV) : (σ.put d x).df = σ.df := by cases d <;> rfl
theorem put_n0 (σ : AState) (d : Option Tmp) (x : AV) : (σ.put d x).n0 = σ.n0 := by cases d <;> rfl
theorem put_n (σ : AState) (d : Option Tmp) (x : AV) : (σ.put d x).n = σ.n := by cases d <;> rfl
theorem put_look (σ : AState) (d : Option Tmp) (x : AV) : (σ.put d x).look = σ.look := by cases d <;> rfl
theorem next_lo (σ : AState) (d : Option Tmp) (x : AV) (g : List (Nat × Res)) : (σ.next d x g).lo.length = σ.lo.length := by
  simp only [AState.next]; rw [give_lo_length, put_lo]
theorem next_n (σ : AState) (d : Option Tmp) (x : AV) (g : List (Nat × Res)) : (σ.next d x g).n = σ.n := by
  simp only [AState.next]; rw [give_n, put_n]
theorem next_n0 (σ : AState) (d : Option Tmp) (x : AV) (g : List (Nat × Res)) : (σ.next d x g).n0 = σ.n0 := by
  simp only [AState.next]; rw [give_n0, put_n0]
theorem next_dom (σ : AState) (d : Option Tmp) (x : AV) (g : List (Nat × Res)) (k : Nat) : (σ.next d x g).dom k ↔ σ.dom k := by
  simp only [AState.dom, next_lo, next_n, next_n0]
theorem put_dom (σ : AState) (d : Option Tmp) (x : AV) (k : Nat) : (σ.put d x).dom k ↔ σ.dom k := by
  simp only [AState.dom, put_lo, put_n, put_n0]
theorem put_domG (σ : AState) (d : Option Tmp) (x : AV) (l : List (Nat × Res)) : domG (σ.put d x) l ↔ domG σ l := by
  rw [domG_iff, domG_iff]; exact ⟨fun h y hy => (put_dom σ d x _).1 (h y hy), fun h y hy => (put_dom σ d x _).2 (h y hy)⟩

theorem look_give (l : List (Nat × Res)) : ∀ (σ : AState), domG σ l → ∀ k, σ.dom k → (σ.give l).look k = upd σ.look l k := by
  induction l with
  | nil => intro σ _ k _; rfl
  | cons x l ih =>
    intro σ hu k hk
    obtain ⟨j, r⟩ := x
    obtain ⟨hj, hu⟩ := hu
    simp only [AState.give, upd]
    have key : ∀ k, σ.dom k → (if j < σ.n0 then { σ with out := upd1 σ.out j r } else { σ with lo := σ.lo.set (j - σ.n) (some r) } : AState).look k = upd1 σ.look j r k := by
      intro k hk
      by_cases hjn : j < σ.n0
      · simp only [hjn, if_true, AState.look, upd1]
        by_cases hkj : k = j
        · subst hkj; simp [hjn]
        · simp [hkj]
      · have hj' : σ.n ≤ j ∧ j < σ.n + σ.lo.length := by rcases hj with h | h; exact absurd h hjn; exact h
        simp only [hjn, if_false, AState.look, upd1]
        by_cases hkj : k = j
        · subst hkj
          simp only [hjn, if_false, if_true]
          rw [List.getElem?_set_self (by omega)]; rfl
        · by_cases hkn : k < σ.n0
          · simp [hkj, hkn]
          · have hk' : σ.n ≤ k ∧ k < σ.n + σ.lo.length := by rcases hk with h | h; exact absurd h hkn; exact h
            simp only [hkn, if_false, hkj]
            rw [List.getElem?_set_ne (by omega)]
    have hdom : ∀ m, σ.dom m → (if j < σ.n0 then { σ with out := upd1 σ.out j r } else { σ with lo := σ.lo.set (j - σ.n) (some r) } : AState).dom m := by
      intro m hm
      split
      · exact hm
      · simpa [AState.dom] using hm
    rw [ih _ (domG_iff.2 fun y hy => hdom _ (domG_iff.1 hu y hy)) k (hdom k hk)]
    have congr : ∀ (l : List (Nat × Res)) (s s' : Nat → Option Res), s k = s' k → upd s l k = upd s' l k := by
      intro l
      induction l with
      | nil => intro s s' h; exact h
      | cons y l ih =>
        intro s s' h
        obtain ⟨j, q⟩ := y
        simp only [upd]
        exact ih _ _ (by simp only [upd1]; split <;> first | rfl | exact h)
    exact congr l _ _ (key k hk)

structure Sim (M : Mem) (a : Act) (σ : AState) : Prop where
  df : a.defers = σ.df
  fr : RL M σ.fr a.tmps
  le : σ.n0 ≤ σ.n
  st : ∀ k, σ.dom k → M.st k = σ.look k

theorem look_loc (σ : AState) (h : σ.n0 ≤ σ.n) (i : Nat) : σ.look (σ.n + i) = (σ.lo[i]?).join := by
  have : ¬ σ.n + i < σ.n0 := by omega
  simp [AState.look, this]
theorem dom_loc (σ : AState) {i : Nat} (h : i < σ.lo.length) : σ.dom (σ.n + i) := .inr ⟨by omega, by omega⟩

theorem Sim.ev {M : Mem} {a : Act} {σ : AState} (h : Sim M a σ) (x : Operand) : R M (σ.ev x) (a.eval x) := by
  cases x with
  | tmp t =>
    simp only [AState.ev, Act.eval]
    rcases Nat.lt_or_ge t σ.fr.length with ht | ht
    · have ht' : t < a.tmps.size := by rw [← h.fr.1]; exact ht
      have := h.fr.2 t σ.fr[t] a.tmps[t] (by simp [ht]) (by simp [ht'])
      simpa [List.getD, ht, ht'] using this
    · simp only [List.getD, List.getElem?_eq_none ht, Option.getD_none]
      exact .top _
  | const v =>
    simp only [AState.ev, Act.eval]
    unfold constAV
    split
    · exact .nil _ _ none (by intro h; cases h) (fun _ => rfl)
    · rename_i cs
      split
      · rename_i hl
        have hl' : ∀ (i : Nat) (v : Value), cs[i]? = some v → leaf v := fun i v hv =>
          leaf_of_B (List.all_eq_true.1 hl v (List.mem_of_getElem? (i := i) (by simpa using hv)))
        refine .agg _ _ (by simp) hl' fun i c v hi hv => ?_
        simp only [List.getElem?_map, Array.getElem?_toList, hv, Option.map_some, Option.some.injEq] at hi
        subst hi
        exact .val v (hl' i v hv)
      · exact .top _
    · exact .top _
    · rename_i h1 h2 h3
      exact .val _ (by cases v <;> first | trivial | exact (h2 _ rfl).elim | exact (h3 _ rfl).elim)
  | func f => exact .fn _ _ _ rfl (fun i c v hi => by simp at hi)
  | global g => exact .top _

/-! Regions. -/
def wantedA (ops : Array Oper) (σ : AState) (o : Oper) : Option Bool :=
  match o.guard with
  | none => some true
  | some (j, want) =>
    match (ops[j]?).bind (·.dst) with
    | some d =>
      match σ.fr[d]? with
      | some (.val (.bool b)) => some (b == want)
      | some (.tup []) => some false
      | _ => none
    | none => some false

theorem wanted_of {M : Mem} {a : Act} {σ : AState} (hs : Sim M a σ) {ops : Array Oper} {o : Oper} {b : Bool} (h : wantedA ops σ o = some b) :
    Region.wanted o (yielded ops a.tmps) = b := by
  unfold wantedA at h
  unfold Region.wanted
  cases hg : o.guard with
  | none => simp only [hg] at h; injection h
  | some g =>
    obtain ⟨j, want⟩ := g
    simp only [hg] at h
    show (yielded ops a.tmps j == some want) = b
    cases hd : (ops[j]?).bind (·.dst) with
    | none =>
      have hy : yielded ops a.tmps j = none := by unfold yielded; rw [hd]; rfl
      rw [hy]; simp only [hd] at h; injection h
    | some d =>
      simp only [hd] at h
      cases hx : σ.fr[d]? with
      | none => simp [hx] at h
      | some x =>
        have hlt : d < a.tmps.size := by rw [← hs.fr.1]; exact (List.getElem?_eq_some_iff.1 hx).1
        have hR := hs.fr.2 d x a.tmps[d] hx (by simp [hlt])
        have hget : a.tmps[d]? = some a.tmps[d] := by simp [hlt]
        simp only [hx] at h
        split at h
        · rename_i c e
          injection e with e; subst e
          have hy : yielded ops a.tmps j = some c := by
            unfold yielded
            rw [hd, Option.bind_some, hget]
            generalize a.tmps[d] = v at hR
            cases hR; rfl
          rw [hy]
          injection h
        · rename_i e
          injection e with e; subst e
          have hy : yielded ops a.tmps j = none := by
            unfold yielded
            rw [hd, Option.bind_some, hget]
            generalize a.tmps[d] = v at hR
            cases hR; rfl
          rw [hy]
          injection h
        · cases h

/-- One operation of a region, over abstract states. RD, WR: which names it may look at, and give. -/
def AYields (P : Program) (ops : Array Oper) (RD WR : Nat → Nat → Prop) (i : Nat) (o : Oper) (r : AV) (gives : List (Nat × Res)) (σ : AState) : Prop :=
  (wantedA ops σ o = some true ∧ ∃ needs, AOk P o σ.ev needs r gives ∧ holds σ.look needs ∧ domG σ gives ∧ (∀ x, x ∈ needs → σ.dom x.1) ∧
    (∀ x, x ∈ needs → RD i x.1) ∧ (∀ x, x ∈ gives → WR i x.1)) ∨
  (wantedA ops σ o = some false ∧ r = .tup [] ∧ gives = [])

def aOp (P : Program) (ops : Array Oper) (RD WR : Nat → Nat → Prop) (i : Nat) (K : AState → Prop) (σ : AState) : Prop :=
  match ops[i]? with
  | none => K σ
  | some o => ∃ r gives, AYields P ops RD WR i o r gives σ ∧ K (σ.next o.dst r gives)

theorem aOp_mono {P : Program} {ops : Array Oper} {RD WR : Nat → Nat → Prop} {i : Nat} {K K' : AState → Prop} {σ : AState} (h : ∀ σ, K σ → K' σ)
    (hh : aOp P ops RD WR i K σ) : aOp P ops RD WR i K' σ := by
  unfold aOp at *
  split
  · rename_i ho; simp only [ho] at hh; exact h _ hh
  · rename_i o ho; simp only [ho] at hh; obtain ⟨r, g, h1, h2⟩ := hh; exact ⟨r, g, h1, h _ h2⟩

theorem RL.put {M M' : Mem} {l : List AV} {vs : Array Value} (h : RL M l vs) (e : Ext M M') (t : Nat) {x : AV} {v : Value} (hx : R M' x v) : RL M' (l.set t x) (vs.setIfInBounds t v) := by
  refine ⟨by simp [h.1], fun i c u hi hu => ?_⟩
  by_cases hit : t = i
  · subst hit
    have h1 : t < l.length := by
      have := (List.getElem?_eq_some_iff.1 hi).1; simpa using this
    have h2 : t < vs.size := by rw [← h.1]; exact h1
    rw [List.getElem?_set_self h1] at hi
    rw [Array.getElem?_setIfInBounds_self_of_lt h2] at hu
    injection hi with hi; injection hu with hu
    subst hi; subst hu; exact hx
  · rw [List.getElem?_set_ne hit] at hi
    rw [Array.getElem?_setIfInBounds_ne hit] at hu
    exact (h.2 i c u hi hu).ext e

theorem Sim.next {M M' : Mem} {a : Act} {σ : AState} (hs : Sim M a σ) (e : Ext M M') {N : Nat} (hN : σ.n + σ.lo.length ≤ N) (d : Option Tmp) {x : AV} {v : Value} (hx : R M' x v)
    {gives : List (Nat × Res)} (hu : domG σ gives) (hst : ∀ k, k < N → M'.st k = upd M.st gives k) : Sim M' (a.put d v) (σ.next d x gives) := by
  refine ⟨?_, ?_, ?_, ?_⟩
  · have h1 := hs.df
    simp only [AState.next]
    rw [give_df, put_df, ← h1]
    cases d <;> rfl
  · simp only [AState.next]
    rw [give_fr]
    cases d with
    | none => exact hs.fr.ext e
    | some t => exact hs.fr.put e t hx
  · rw [next_n0, next_n]; exact hs.le
  · intro k hk
    rw [next_dom] at hk
    have hkN : k < N := by
      have := hs.le
      rcases hk with h | h <;> omega
    rw [hst k hkN]
    simp only [AState.next]
    rw [look_give gives (σ.put d x) ((put_domG σ d x gives).2 hu) k ((put_dom σ d x k).2 hk), put_look]
    have key : ∀ (l : List (Nat × Res)) (s s' : Nat → Option Res), s k = s' k → upd s l k = upd s' l k := by
      intro l
      induction l with
      | nil => intro s s' h; exact h
      | cons y l ih =>
        intro s s' h
        obtain ⟨j, q⟩ := y
        simp only [upd]
        exact ih _ _ (by simp only [upd1]; split <;> first | rfl | exact h)
    exact key gives _ _ (hs.st k hk)

theorem holds_sim {M : Mem} {a : Act} {σ : AState} (hs : Sim M a σ) : ∀ (needs : List (Nat × Option Res)), (∀ x, x ∈ needs → σ.dom x.1) → holds σ.look needs → holds M.st needs := by
  intro needs hu h
  rw [holds_iff] at *
  intro x hx
  rw [hs.st x.1 (hu x hx)]
  exact h x hx

theorem under_dom {σ : AState} {N : Nat} (hle : σ.n0 ≤ σ.n) (hN : σ.n + σ.lo.length ≤ N) {g : List (Nat × Res)} (h : domG σ g) : under N g :=
  under_iff.2 fun x hx => by rcases domG_iff.1 h x hx with h | h <;> omega

theorem op_of_yields {P : Program} {ro : Option Nat} {n : Nat} {ops : Array Oper} {RD WR : Nat → Nat → Prop} {i : Nat} {o : Oper} (ho : ops[i]? = some o) {r : AV} {gives : List (Nat × Res)} {M : Mem} {a : Act} {σ : AState}
    (hI : Inv M) (hs : Sim M a σ) (h : AYields P ops RD WR i o r gives σ) {K : Act → World → Prop} {Q : Exit → Act → World → Prop}
    (hK : ∀ M' v, Ext M M' → Inv M' → Sim M' (a.put o.dst v) (σ.next o.dst r gives) → K (a.put o.dst v) M'.w) : wpOpIn (FR ro) n P ops Q i K a M.w := by
  unfold wpOpIn
  simp only [ho]
  rcases h with ⟨hw, needs, hok, hh, hu, hdm, _, _⟩ | ⟨hw, rfl, rfl⟩
  · rw [wanted_of hs hw]
    simp only [if_true]
    refine OpRes.wp ?_
    obtain ⟨N0, hN0⟩ := hI.fin
    have := hok.2 M (max N0 (σ.n + σ.lo.length)) a.eval hI (fun x _ => hs.ev x) (fun _ => rfl) (fun _ => rfl) (holds_sim hs needs hdm hh) (fun k hk => hN0 k (by omega)) (under_dom hs.le (by omega) hu)
    refine this.mono fun v w' ⟨M', hw', hext, hinv, hst, hr⟩ => ?_
    subst hw'
    exact hK M' v hext hinv (hs.next hext (by omega) o.dst hr hu hst)
  · rw [wanted_of hs hw]
    simp only [Bool.false_eq_true, if_false]
    refine ⟨fun _ _ => trivial, ?_⟩
    exact hK M undef (Ext.refl M) hI (hs.next (Ext.refl M) (Nat.le_refl _) o.dst (.tup [] #[] rfl (fun i c v hi => by simp at hi)) trivial (fun k _ => rfl))

def wpAnyA (P : Program) (md : Region.Mode) (ops : Array Oper) (RD WR : Nat → Nat → Prop) (Q : AState → Prop) : Nat → Array Bool → AState → Prop
  | 0, listed, σ => Region.ready md ops listed = [] ∧ Q σ
  | fuel + 1, listed, σ =>
    (Region.ready md ops listed = [] → Q σ) ∧
    ∀ i, i ∈ Region.ready md ops listed → aOp P ops RD WR i (wpAnyA P md ops RD WR Q fuel (listed.setIfInBounds i true)) σ

def Arrived (M : Mem) (Q : Exit → AState → Prop) (e : Exit) (a' : Act) (w' : World) : Prop :=
  ∃ M' σ', M'.w = w' ∧ Ext M M' ∧ Inv M' ∧ Sim M' a' σ' ∧ Q e σ'

theorem wpAny_of_A {P : Program} {ro : Option Nat} {n : Nat} {md : Region.Mode} {ops : Array Oper} {RD WR : Nat → Nat → Prop} {Q : Exit → AState → Prop} {M0 : Mem} : ∀ (fuel : Nat) (listed : Array Bool) (M : Mem) (a : Act) (σ : AState),
    Ext M0 M → Inv M → Sim M a σ → wpAnyA P md ops RD WR (Q .normal) fuel listed σ → wpAnyIn (FR ro) n P md ops (Arrived M0 Q) fuel listed a M.w
  | 0, _, M, _, σ, he, hI, hs, h => ⟨h.1, M, σ, rfl, he, hI, hs, h.2⟩
  | fuel + 1, listed, M, a, σ, he, hI, hs, h => by
    refine ⟨fun h0 => ⟨M, σ, rfl, he, hI, hs, h.1 h0⟩, fun i hi => ?_⟩
    have h1 := h.2 i hi
    obtain ⟨_, o, ho, _⟩ := mem_ready.1 hi
    unfold aOp at h1
    simp only [ho] at h1
    obtain ⟨r, g, hy, hk⟩ := h1
    refine op_of_yields ho hI hs hy fun M' v he' hI' hs' => ?_
    exact wpAny_of_A fuel _ M' _ _ (he.trans he') hI' hs' hk

/-- Operation j hangs on operation i. -/
inductive Dep (md : Region.Mode) (ops : Array Oper) : Nat → Nat → Prop
  | one {j i : Nat} {o : Oper} {e : Edge} (ho : ops[j]? = some o) (he : e ∈ o.after) (hb : Region.binds md e = true) (hi : e.on = i) : Dep md ops j i
  | more {j k i : Nat} (h : Dep md ops j k) (h' : Dep md ops k i) : Dep md ops j i

def Closed (md : Region.Mode) (ops : Array Oper) (listed : Array Bool) : Prop :=
  ∀ j o, ops[j]? = some o → listed.getD j false = true → ∀ e, e ∈ o.after → Region.binds md e = true → listed.getD e.on false = true

theorem Closed.dep {md : Region.Mode} {ops : Array Oper} {listed : Array Bool} (h : Closed md ops listed) {j i : Nat} (hd : Dep md ops j i) (hj : listed.getD j false = true) : listed.getD i false = true := by
  induction hd with
  | one ho he hb hi => subst hi; exact h _ _ ho hj _ he hb
  | more _ _ ih1 ih2 => exact ih2 (ih1 hj)

theorem Closed.ready {md : Region.Mode} {ops : Array Oper} {listed : Array Bool} (h : Closed md ops listed) {j i : Nat} (hd : Dep md ops j i) (hj : j ∈ Region.ready md ops listed) : listed.getD i false = true := by
  induction hd with
  | one ho' he hb hi =>
    obtain ⟨_, o, ho, hall⟩ := mem_ready.1 hj
    subst hi
    rw [ho] at ho'; injection ho' with ho'; subst ho'
    exact hall _ he hb
  | more _ h' ih1 _ => exact h.dep h' (ih1 hj)

theorem Closed.set {md : Region.Mode} {ops : Array Oper} {listed : Array Bool} (h : Closed md ops listed) {i : Nat} (hi : i ∈ Region.ready md ops listed) : Closed md ops (listed.setIfInBounds i true) := by
  intro j o ho hj e he hb
  obtain ⟨_, oi, hoi, hall⟩ := mem_ready.1 hi
  have up : ∀ k, listed.getD k false = true → (listed.setIfInBounds i true).getD k false = true := fun k hk => getD_set_true hk
  by_cases hji : j = i
  · subst hji
    rw [ho] at hoi; injection hoi with hoi; subst hoi
    exact up _ (hall e he hb)
  · rw [getD_set_ne false (Ne.symm hji)] at hj
    exact up _ (h j o ho hj e he hb)

def Disj (md : Region.Mode) (ops : Array Oper) (RD WR : Nat → Nat → Prop) : Prop :=
  ∀ i j k, i ≠ j → ¬ Dep md ops i j → ¬ Dep md ops j i → WR i k → ¬ RD j k ∧ ¬ WR j k

theorem ev_next {σ : AState} {d : Option Tmp} {x : AV} {g : List (Nat × Res)} {y : Operand} (h : ∀ t, d = some t → y ≠ .tmp t) : (σ.next d x g).ev y = σ.ev y := by
  cases y with
  | tmp t =>
    simp only [AState.ev, AState.next]
    rw [give_fr]
    cases d with
    | none => rfl
    | some u =>
      have hne : u ≠ t := fun e => h u rfl (e ▸ rfl)
      simp [AState.put, List.getD, List.getElem?_set_ne hne]
  | _ => rfl

theorem wanted_next {ops : Array Oper} {σ : AState} {d : Option Tmp} {x : AV} {g : List (Nat × Res)} {o : Oper} (h : ∀ t, d = some t → t ∉ o.looksAt ops) :
    wantedA ops (σ.next d x g) o = wantedA ops σ o := by
  unfold wantedA
  cases hg : o.guard with
  | none => rfl
  | some gw =>
    obtain ⟨j, want⟩ := gw
    simp only
    cases hd : (ops[j]?).bind (·.dst) with
    | none => rfl
    | some t =>
      simp only
      have : (σ.next d x g).fr[t]? = σ.fr[t]? := by
        simp only [AState.next]
        rw [give_fr]
        cases d with
        | none => rfl
        | some u =>
          have hne : u ≠ t := fun e => h u rfl (by subst e; simp [Oper.looksAt, hg, hd])
          simp [AState.put, List.getElem?_set_ne hne]
      rw [this]

theorem look_next {σ : AState} {d : Option Tmp} {x : AV} {g : List (Nat × Res)} (hu : domG σ g) {k : Nat} (hd : σ.dom k) (hk : ∀ y, y ∈ g → y.1 ≠ k) : (σ.next d x g).look k = σ.look k := by
  simp only [AState.next]
  rw [look_give g _ ((put_domG σ d x g).2 hu) k ((put_dom σ d x k).2 hd), put_look]
  have key : ∀ (l : List (Nat × Res)) (s : Nat → Option Res), (∀ y, y ∈ l → y.1 ≠ k) → upd s l k = s k := by
    intro l
    induction l with
    | nil => intro s _; rfl
    | cons y l ih =>
      intro s h
      obtain ⟨j, q⟩ := y
      simp only [upd]
      rw [ih _ (fun y hy => h y (List.mem_cons_of_mem _ hy)), upd1_ne]
      exact fun e => h (j, q) (List.mem_cons_self ..) e.symm
  exact key g _ hk

theorem give_put (g : List (Nat × Res)) : ∀ (σ : AState) (d : Option Tmp) (x : AV), (σ.give g).put d x = (σ.put d x).give g := by
  induction g with
  | nil => intro σ d x; rfl
  | cons y g ih =>
    intro σ d x
    obtain ⟨k, r⟩ := y
    simp only [AState.give]
    rw [ih]
    congr 1
    rw [put_n0]
    cases d <;> (split <;> rfl)

theorem put_put_comm (σ : AState) {d d' : Option Tmp} (x y : AV) (h : ∀ t, d = some t → d' ≠ some t) : (σ.put d x).put d' y = (σ.put d' y).put d x := by
  cases d with
  | none => rfl
  | some t =>
    cases d' with
    | none => rfl
    | some u =>
      have hne : t ≠ u := fun e => h t rfl (e ▸ rfl)
      simp [AState.put, List.set_comm _ _ hne]

theorem give_one_comm (σ : AState) (k j : Nat) (r q : Res) (h : k ≠ j) (hk' : σ.dom k) (hj' : σ.dom j) : (σ.give [(k, r)]).give [(j, q)] = (σ.give [(j, q)]).give [(k, r)] := by
  simp only [AState.give]
  by_cases hk : k < σ.n0 <;> by_cases hj : j < σ.n0 <;> simp only [hk, hj, if_true, if_false]
  · congr 1
    funext m
    simp only [upd1]
    by_cases h1 : m = j <;> by_cases h2 : m = k <;> simp [h1, h2] <;> omega
  · have a1 : σ.n ≤ k := by rcases hk' with h | h <;> omega
    have a2 : σ.n ≤ j := by rcases hj' with h | h <;> omega
    rw [List.set_comm _ _ (by omega)]

theorem give_cons (σ : AState) (x : Nat × Res) (l : List (Nat × Res)) : σ.give (x :: l) = (σ.give [x]).give l := by
  obtain ⟨k, r⟩ := x; rfl
theorem give_dom (σ : AState) (l : List (Nat × Res)) (k : Nat) : (σ.give l).dom k ↔ σ.dom k := by
  simp only [AState.dom, give_lo_length, give_n, give_n0]
theorem give_domG (σ : AState) (g l : List (Nat × Res)) : domG (σ.give g) l ↔ domG σ l := by
  rw [domG_iff, domG_iff]; exact ⟨fun h y hy => (give_dom σ g _).1 (h y hy), fun h y hy => (give_dom σ g _).2 (h y hy)⟩

theorem give_comm : ∀ (g g' : List (Nat × Res)) (σ : AState), domG σ g → domG σ g' → (∀ x, x ∈ g → ∀ y, y ∈ g' → x.1 ≠ y.1) → (σ.give g).give g' = (σ.give g').give g := by
  intro g
  induction g with
  | nil => intro g' σ _ _ _; rfl
  | cons x g ih =>
    intro g' σ hg hg' h
    have hx : σ.dom x.1 := domG_iff.1 hg x (List.mem_cons_self ..)
    have hgt : domG σ g := domG_iff.2 fun y hy => domG_iff.1 hg y (List.mem_cons_of_mem _ hy)
    rw [give_cons, ih g' _ ((give_domG σ [x] g).2 hgt) ((give_domG σ [x] g').2 hg') (fun y hy z hz => h y (List.mem_cons_of_mem _ hy) z hz), give_cons _ x g]
    congr 1
    have h' : ∀ y, y ∈ g' → x.1 ≠ y.1 := fun y hy => h x (List.mem_cons_self ..) y hy
    clear h ih hg hgt
    induction g' generalizing σ with
    | nil => rfl
    | cons y g' ih =>
      have hy : σ.dom y.1 := domG_iff.1 hg' y (List.mem_cons_self ..)
      have hgt' : domG σ g' := domG_iff.2 fun z hz => domG_iff.1 hg' z (List.mem_cons_of_mem _ hz)
      rw [give_cons, give_cons σ y g']
      obtain ⟨k, r⟩ := x
      obtain ⟨j, q⟩ := y
      rw [give_one_comm σ k j r q (h' (j, q) (List.mem_cons_self ..)) hx hy]
      exact ih _ ((give_domG σ [(j, q)] g').2 hgt') ((give_dom σ [(j, q)] k).2 hx) (fun y hy => h' y (List.mem_cons_of_mem _ hy))

theorem next_comm (σ : AState) {d d' : Option Tmp} (x y : AV) {g g' : List (Nat × Res)} (h : ∀ t, d = some t → d' ≠ some t) (h1 : domG σ g) (h2 : domG σ g') (hg : ∀ x, x ∈ g → ∀ y, y ∈ g' → x.1 ≠ y.1) :
    (σ.next d x g).next d' y g' = (σ.next d' y g').next d x g := by
  simp only [AState.next]
  rw [give_put, give_put, put_put_comm _ _ _ h, give_comm g g' _ ((put_domG _ _ _ _).2 ((put_domG _ _ _ _).2 h1)) ((put_domG _ _ _ _).2 ((put_domG _ _ _ _).2 h2)) hg]

theorem next_domG (σ : AState) (d : Option Tmp) (x : AV) (g l : List (Nat × Res)) : domG (σ.next d x g) l ↔ domG σ l := by
  rw [domG_iff, domG_iff]; exact ⟨fun h y hy => (next_dom σ d x g _).1 (h y hy), fun h y hy => (next_dom σ d x g _).2 (h y hy)⟩

theorem AYields.keep {P : Program} {ops : Array Oper} {RD WR : Nat → Nat → Prop} {i : Nat} {o : Oper} {r : AV} {g : List (Nat × Res)} {σ : AState}
    {d : Option Tmp} {x : AV} {g' : List (Nat × Res)} (hu : domG σ g') (hd : ∀ t, d = some t → t ∉ o.looksAt ops) (hg : ∀ y, y ∈ g' → ¬ RD i y.1) :
    AYields P ops RD WR i o r g σ ↔ AYields P ops RD WR i o r g (σ.next d x g') := by
  have hw := wanted_next (ops := ops) (σ := σ) (x := x) (g := g') (o := o) hd
  have hev : ∀ y, y ∈ o.op.operands → (σ.next d x g').ev y = σ.ev y := fun y hy => ev_next fun t ht e => by
    subst e
    refine hd t ht ?_
    unfold Oper.looksAt
    exact List.mem_append_left _ (List.mem_filterMap.2 ⟨.tmp t, by simpa using hy, rfl⟩)
  have hl : ∀ needs : List (Nat × Option Res), (∀ y, y ∈ needs → σ.dom y.1) → (∀ y, y ∈ needs → RD i y.1) → (holds (σ.next d x g').look needs ↔ holds σ.look needs) := fun needs hdm hn => by
    rw [holds_iff, holds_iff]
    have : ∀ y, y ∈ needs → (σ.next d x g').look y.1 = σ.look y.1 := fun y hy => look_next hu (hdm y hy) fun z hz e => hg z hz (by rw [e]; exact hn y hy)
    exact ⟨fun h y hy => (this y hy).symm.trans (h y hy), fun h y hy => (this y hy).trans (h y hy)⟩
  unfold AYields
  rw [hw, next_domG]
  simp only [next_dom]
  constructor
  · rintro (⟨h1, needs, h2, h3, h4, h5, h6, h7⟩ | h)
    · exact .inl ⟨h1, needs, h2.congr fun y hy => (hev y hy).symm, (hl needs h5 h6).2 h3, h4, h5, h6, h7⟩
    · exact .inr h
  · rintro (⟨h1, needs, h2, h3, h4, h5, h6, h7⟩ | h)
    · exact .inl ⟨h1, needs, h2.congr fun y hy => hev y hy, (hl needs h5 h6).1 h3, h4, h5, h6, h7⟩
    · exact .inr h

theorem AYields.wr {P : Program} {ops : Array Oper} {RD WR : Nat → Nat → Prop} {i : Nat} {o : Oper} {r : AV} {g : List (Nat × Res)} {σ : AState} (h : AYields P ops RD WR i o r g σ) :
    domG σ g ∧ ∀ x, x ∈ g → WR i x.1 := by
  rcases h with ⟨_, _, _, _, h, _, _, h'⟩ | ⟨_, _, rfl⟩
  · exact ⟨h, h'⟩
  · exact ⟨trivial, fun x hx => by simp at hx⟩

theorem aOp_put {P : Program} {md : Region.Mode} {ops : Array Oper} {RD WR : Nat → Nat → Prop} (hdis : Disj md ops RD WR) {i j : Nat} {oi oj : Oper} {r : AV} {g : List (Nat × Res)}
    (hij : i ≠ j) (h1 : ¬ Dep md ops i j) (h2 : ¬ Dep md ops j i) (hj : ops[j]? = some oj) (hap : oi.apart ops oj = true) {K : AState → Prop} {σ : AState}
    (hy : AYields P ops RD WR i oi r g σ) (h : aOp P ops RD WR j K (σ.next oi.dst r g)) :
    aOp P ops RD WR j (fun σ' => AYields P ops RD WR i oi r g σ' ∧ K (σ'.next oi.dst r g)) σ := by
  obtain ⟨a1, a2, a3⟩ := Oper.apart_spec hap
  unfold aOp at *
  simp only [hj] at *
  obtain ⟨q, gj, hyj, hK⟩ := h
  obtain ⟨hui, hwi⟩ := hy.wr
  have hyj' : AYields P ops RD WR j oj q gj σ := (AYields.keep hui a1 (fun y hy => (hdis i j y.1 hij h1 h2 (hwi y hy)).1)).2 hyj
  obtain ⟨huj, hwj⟩ := hyj'.wr
  refine ⟨q, gj, hyj', (AYields.keep huj a3 (fun y hy => (hdis j i y.1 (Ne.symm hij) h2 h1 (hwj y hy)).1)).1 hy, ?_⟩
  rw [← next_comm σ r q a2 hui huj (fun x hx y hy e => (hdis i j x.1 hij h1 h2 (hwi x hx)).2 (by rw [e]; exact hwj y hy))]
  exact hK

theorem AYields.aOp {P : Program} {ops : Array Oper} {RD WR : Nat → Nat → Prop} {i : Nat} {o : Oper} {r : AV} {g : List (Nat × Res)} {σ : AState} (hi : ops[i]? = some o)
    (hy : AYields P ops RD WR i o r g σ) {K : AState → Prop} (h : K (σ.next o.dst r g)) : VS.aOp P ops RD WR i K σ := by
  unfold VS.aOp; simp only [hi]; exact ⟨r, g, hy, h⟩

theorem wpAnyA_first {P : Program} {md : Region.Mode} {ops : Array Oper} {RD WR : Nat → Nat → Prop} (hdis : Disj md ops RD WR) {Q : AState → Prop} {i : Nat} {oi : Oper} {r : AV} {g : List (Nat × Res)} (hi : ops[i]? = some oi) :
    ∀ (fuel : Nat) (listed : Array Bool) (σ : AState), Closed md ops listed →
      (∀ j oj, ops[j]? = some oj → j ≠ i → listed.getD j true = false → (∀ e ∈ oj.after, Region.binds md e = true → e.on ≠ i) → oi.apart ops oj = true) →
      i ∈ Region.ready md ops listed → AYields P ops RD WR i oi r g σ →
      wpAnyA P md ops RD WR Q fuel (listed.setIfInBounds i true) (σ.next oi.dst r g) → wpAnyA P md ops RD WR Q (fuel + 1) listed σ := by
  intro fuel
  induction fuel with
  | zero =>
    intro listed σ _ _ hr hy H
    refine ⟨fun h => (by rw [h] at hr; cases hr), fun j hj => ?_⟩
    by_cases hji : j = i
    · subst hji; exact hy.aOp hi H
    · have := ready_mono hj hji
      rw [H.1] at this
      cases this
  | succ fuel ih =>
    intro listed σ hcl hfree hr hy H
    refine ⟨fun h => (by rw [h] at hr; cases hr), fun j hj => ?_⟩
    by_cases hji : j = i
    · subst hji; exact hy.aOp hi H
    · have h1 := H.2 j (ready_mono hj hji)
      obtain ⟨hjun, oj, hoj, hall⟩ := mem_ready.1 hj
      have unl : ∀ k, listed.getD k true = false → listed.getD k false = true → False := fun k h0 h1 => by
        rcases Nat.lt_or_ge k listed.size with h' | h'
        · simp [h'] at h0 h1; rw [h0] at h1; cases h1
        · simp [Array.getElem?_eq_none h'] at h1
      have hnot : ∀ e ∈ oj.after, Region.binds md e = true → e.on ≠ i := fun e he hb heq => by
        have h1 := hall e he hb
        rw [heq] at h1
        exact unl i (mem_ready.1 hr).1 h1
      have d1 : ¬ Dep md ops i j := fun hd => unl j hjun (hcl.ready hd hr)
      have d2 : ¬ Dep md ops j i := fun hd => unl i (mem_ready.1 hr).1 (hcl.ready hd hj)
      have h2 := aOp_put hdis (Ne.symm hji) d1 d2 hoj (hfree j oj hoj hji hjun hnot) hy h1
      have hfree' : ∀ k ok, ops[k]? = some ok → k ≠ i → (listed.setIfInBounds j true).getD k true = false →
          (∀ e ∈ ok.after, Region.binds md e = true → e.on ≠ i) → oi.apart ops ok = true := fun k ok hk hki hun hno => by
        refine hfree k ok hk hki ?_ hno
        by_cases hjk : j = k
        · subst hjk; exact hjun
        · rw [getD_set_ne true hjk] at hun; exact hun
      refine aOp_mono (fun σ' h3 => ih (listed.setIfInBounds j true) σ' (hcl.set hj) hfree' (ready_mono hr (Ne.symm hji)) h3.1 ?_) h2
      rw [Array.setIfInBounds_comm _ _ hji]
      exact h3.2

/-- A run of a region's operations in the text's order, from number i on. -/
def ARun (P : Program) (ops : Array Oper) (RD WR : Nat → Nat → Prop) (K : AState → Prop) : Nat → List Oper → AState → Prop
  | _, [], σ => K σ
  | i, o :: rest, σ => ∃ r gives, AYields P ops RD WR i o r gives σ ∧ ARun P ops RD WR K (i + 1) rest (σ.next o.dst r gives)

theorem wpAnyA_lex {P : Program} {md : Region.Mode} {ops : Array Oper} {RD WR : Nat → Nat → Prop} (hdis : Disj md ops RD WR) {Q : AState → Prop} : ∀ (l : List Oper) (k : Nat) (listed : Array Bool) (σ : AState), Closed md ops listed → (∀ j, l[j]? = ops[k + j]?) →
    Region.lexFrom md ops l.length k listed = true → ARun P ops RD WR Q k l σ → wpAnyA P md ops RD WR Q l.length listed σ
  | [], _, _, _, _, _, hB, h => ⟨by simpa [Region.lexFrom] using hB, h⟩
  | o :: l, k, listed, σ, hcl, hl, hB, h => by
    have h0 : ops[k]? = some o := by simpa using (hl 0).symm
    simp only [List.length_cons, Region.lexFrom, Bool.and_eq_true] at hB
    obtain ⟨⟨hr, hf⟩, hB'⟩ := hB
    obtain ⟨r, g, hy, hK⟩ := h
    have hr' : k ∈ Region.ready md ops listed := by simpa using hr
    exact wpAnyA_first hdis h0 l.length listed σ hcl (Region.free_spec h0 hf) hr' hy
      (wpAnyA_lex hdis l (k + 1) _ _ (hcl.set hr') (fun j => by have := hl (j + 1); simpa [Nat.add_assoc, Nat.add_comm 1 j] using this) hB' hK)
end Go.VS
