/-
  The value-semantics layer, part 5: the operations' contracts over abstract values.
-/
import Derived.Test.YtdkiciofkifpdaaVsCode
import Derived.Deep.AppendSrc
import Derived.WalkSpells
namespace Go.VS
set_option linter.unusedVariables false
set_option linter.unusedSimpArgs false
open Go Go.RowKit

/-- A row of the table of types: what it is, its cells, its bytes, its zero value's cells, whether it is a struct or an array; a struct's places. -/
structure TI where
  desc : TypeDesc
  size : Nat
  bytes : Nat
  zero : List Value
  agg : Bool
  pl : List (Nat × Nat) := []

def isAggD : TypeDesc → Bool
  | .struct _ => true
  | .array _ _ => true
  | _ => false

structure TIok (P : Program) (t : TypeId) (ti : TI) : Prop where
  und : P.underlying t = some ti.desc
  info : ∃ i z, P.info? t = some i ∧ i.size = ti.size ∧ i.bytes = ti.bytes ∧ i.zero = some z ∧ z.cells.toList = ti.zero
  leafs : ti.zero.all leafB = true
  len : ti.zero.length = ti.size
  agg : ti.agg = isAggD ti.desc
  pl : ∀ fs, ti.desc = .struct fs → ∀ w, (fs.mapM fun f => (do pure (f.offset, ← sizeOf f.type) : Sem (Nat × Nat))).run P w = .ok ti.pl.toArray w

section
variable {P : Program} {w : World} {t : TypeId} {ti : TI}

theorem TIok.run_sizeOf (h : TIok P t ti) (w : World) : (sizeOf t).run P w = .ok ti.size w := by
  obtain ⟨i, z, h1, h2, _⟩ := h.info
  simp [sizeOf, typeInfo, h1, h2]
theorem TIok.run_isAgg (h : TIok P t ti) (w : World) : (isAgg t).run P w = .ok ti.agg w := by
  simp only [isAgg, Sem.run_bind, run_underlying h.und, Result.andThen_ok, h.agg]
  cases ti.desc <;> rfl
theorem TIok.run_zero (h : TIok P t ti) (w : World) : ∃ z : Value, (zeroValue t).run P w = .ok z w ∧ z.cells.toList = ti.zero := by
  obtain ⟨i, z, h1, h2, h3, h4, h5⟩ := h.info
  exact ⟨z, by simp [zeroValue, typeInfo, h1, h4], h5⟩

theorem add_at {b o n : Nat} : Addr.add ⟨b, o, none⟩ n = ⟨b, o + n, none⟩ := by
  unfold Addr.add; split
  · rename_i h; subst h; rfl
  · rfl

theorem run_loadVar_agg (h : TIok P t ti) (ha : ti.agg = true) {b o : Nat} {vs : List Value} (hl : vs.length = ti.size) (hc : ∀ (j : Nat) (v : Value), vs[j]? = some v → w.cell? ⟨b, o + j, none⟩ = some v) :
    (loadVar t ⟨b, o, none⟩).run P w = .ok (.agg vs.toArray) w := by
  simp only [loadVar, Sem.run_bind, h.run_isAgg, Result.andThen_ok, ha, if_true, h.run_sizeOf]
  rw [← hl, run_loadCells_list w ⟨b, o, none⟩ vs (fun j v hv => by rw [add_at]; exact hc j v hv)]
  rfl
theorem run_loadVar_one (h : TIok P t ti) (ha : ti.agg = false) {b o : Nat} {v : Value} (hc : w.cell? ⟨b, o, none⟩ = some v) :
    (loadVar t ⟨b, o, none⟩).run P w = .ok v w := by
  simp only [loadVar, Sem.run_bind, h.run_isAgg, Result.andThen_ok, ha, Bool.false_eq_true, if_false, run_load, hc]
theorem run_part_agg (h : TIok P t ti) (ha : ti.agg = true) (cs : Array Value) (off : Nat) : (part t cs off).run P w = .ok (.agg (cs.extract off (off + ti.size))) w := by
  simp only [part, Sem.run_bind, h.run_isAgg, Result.andThen_ok, ha, if_true, h.run_sizeOf]
  rfl
theorem run_part_one (h : TIok P t ti) (ha : ti.agg = false) {cs : Array Value} {off : Nat} {v : Value} (hv : cs[off]? = some v) : (part t cs off).run P w = .ok v w := by
  simp only [part, Sem.run_bind, h.run_isAgg, Result.andThen_ok, ha, Bool.false_eq_true, if_false, hv]
  rfl
end

theorem done_pure {M : Mem} (hI : Inv M) {N : Nat} {r : AV} {v : Value} (h : R M r v) : Done M N [] r v M.w := ⟨M, rfl, Ext.refl M, hI, fun _ _ => rfl, h⟩

/-- One cell of an abstract aggregate, or a part of it. -/
def pick (agg : Bool) (size : Nat) (cs : List AV) : Option AV :=
  if agg then (if size ≤ cs.length then some (.agg (cs.take size)) else none) else cs.head?

/-- The one-cell values of a value that goes into memory. -/
def AV.parts : AV → Option (List AV)
  | .agg cs => some cs
  | .top => none
  | .tup _ => none
  | x => some [x]

theorem R.leaf {M : Mem} {x : AV} {v : Value} (h : R M x v) {cs : List AV} (hp : x.parts = some cs) :
    v.cells.size = cs.length ∧ (∀ (i : Nat) (u : Value), v.cells[i]? = some u → leaf u) ∧ (∀ (i : Nat) (c : AV) (u : Value), cs[i]? = some c → v.cells[i]? = some u → R M c u) := by
  have one : ∀ (x : AV) (v : Value), R M x v → VS.leaf v → v.cells = #[v] → v.cells.size = [x].length ∧ (∀ (i : Nat) (u : Value), v.cells[i]? = some u → VS.leaf u) ∧ (∀ (i : Nat) (c : AV) (u : Value), [x][i]? = some c → v.cells[i]? = some u → R M c u) := by
    intro x v hr hl hc
    rw [hc]
    refine ⟨rfl, fun i u hu => ?_, fun i c u hi hu => ?_⟩
    · cases i with
      | zero => simp at hu; subst hu; exact hl
      | succ i => simp at hu
    · cases i with
      | zero => simp at hi hu; subst hi; subst hu; exact hr
      | succ i => simp at hu
  cases h with
  | top v => cases hp
  | val v hl => cases hp; exact one _ _ (.val v hl) hl (by cases v <;> first | rfl | exact hl.elim)
  | agg ds vs hl hf hc => cases hp; exact ⟨hl.symm, hf, hc⟩
  | nil sz md a h h' => cases hp; exact one _ _ (.nil sz md a h h') trivial rfl
  | slice sz els md a cap hs hcap hsz hst hc hmd => cases hp; exact one _ _ (.slice sz els md a cap hs hcap hsz hst hc hmd) trivial rfl
  | ptr k off h => cases hp; exact one _ _ (.ptr k off h) trivial rfl
  | bsl k off len cap fl h hc hf => cases hp; exact one _ _ (.bsl k off len cap fl h hc hf) trivial rfl
  | bsl0 k off a cap => cases hp; exact one _ _ (.bsl0 k off a cap) trivial rfl
  | vsl k n a l c h => cases hp; exact one _ _ (.vsl k n a l c h) trivial rfl
  | ref ds a hs hst hc => cases hp; exact one _ _ (.ref ds a hs hst hc) trivial rfl
  | fn f caps vs hl hc => cases hp; exact one _ _ (.fn f caps vs hl hc) trivial rfl
  | iface t x v h => cases hp; exact one _ _ (.iface t x v h) trivial rfl
  | tup l vs hl hc => cases hp

section
variable {P : Program} {d : Option Tmp} {ty : TypeId} {pos : String} {aft : Array Edge} {gd : Option (Nat × Bool)} {ρA : Operand → AV}

theorem not_select {o : Op} (h : ∀ cs b, o ≠ .select cs b) : ∀ cs b, (⟨d, o, ty, pos, aft, gd⟩ : Oper).op ≠ .select cs b := h

/-- An operation that yields a value and leaves the world alone. -/
theorem aok_value {o : Op} (hsel : ∀ cs b, o ≠ .select cs b) {r : AV} {needs : List (Nat × Option Res)}
    (h : ∀ (M : Mem) (ρ : Operand → Value), Inv M → (∀ x, x ∈ o.operands → R M (ρA x) (ρ x)) → (∀ v, ρ (.const v) = v) → (∀ f, ρ (.func f) = .func (.func f) #[] #[]) → holds M.st needs →
      ∃ v, (execOp ρ ⟨d, o, ty, pos, aft, gd⟩).run P M.w = .ok (.value v) M.w ∧ R M r v) : AOk P ⟨d, o, ty, pos, aft, gd⟩ ρA needs r [] :=
  ⟨hsel, fun M N ρ hI hx hc hf hn _ _ => by
    obtain ⟨v, hv, hr⟩ := h M ρ hI hx hc hf hn
    rw [hv]
    exact done_pure hI hr⟩

theorem aok_move (x : Operand) : AOk P ⟨d, .move x, ty, pos, aft, gd⟩ ρA [] (ρA x) [] :=
  aok_value (by intro _ _ h; cases h) fun M ρ _ hx _ _ _ => ⟨ρ x, rfl, hx x (by simp [Op.operands])⟩
theorem aok_assign (x : Operand) : AOk P ⟨d, .assign x, ty, pos, aft, gd⟩ ρA [] (ρA x) [] :=
  aok_value (by intro _ _ h; cases h) fun M ρ _ hx _ _ _ => ⟨ρ x, rfl, hx x (by simp [Op.operands])⟩

theorem aok_nil_ptr {x : Operand} {k off : Nat} (hx : ρA x = .ptr k off) : AOk P ⟨d, .nilCheck x, ty, pos, aft, gd⟩ ρA [] (.ptr k off) [] :=
  aok_value (by intro _ _ h; cases h) fun M ρ _ hr _ _ _ => by
    have h1 := hr x (by simp [Op.operands])
    rw [hx] at h1
    generalize hv : ρ x = v at h1
    cases h1 with
    | ptr k off hb => exact ⟨_, by simp only [execOp, hv]; rfl, .ptr k off hb⟩
theorem aok_nil_ref {x : Operand} {cs : List AV} (hx : ρA x = .ref cs) : AOk P ⟨d, .nilCheck x, ty, pos, aft, gd⟩ ρA [] (.ref cs) [] :=
  aok_value (by intro _ _ h; cases h) fun M ρ _ hr _ _ _ => by
    have h1 := hr x (by simp [Op.operands])
    rw [hx] at h1
    generalize hv : ρ x = v at h1
    cases h1 with
    | ref cs a hs hst hc => exact ⟨_, by simp only [execOp, hv]; rfl, .ref cs a hs hst hc⟩

theorem val_of {M : Mem} {v u : Value} (h : R M (.val v) u) : u = v := by cases h; rfl

theorem aok_pick (c x y : Operand) {b : Bool} (hc : ρA c = .val (.bool b)) : AOk P ⟨d, .pick c x y, ty, pos, aft, gd⟩ ρA [] (if b then ρA x else ρA y) [] :=
  aok_value (by intro _ _ h; cases h) fun M ρ _ hx _ _ _ => by
    have h1 := hx c (by simp [Op.operands])
    rw [hc] at h1
    have h2 := val_of h1
    refine ⟨if b then ρ x else ρ y, by simp [execOp, h2, asBool], ?_⟩
    cases b
    · exact hx y (by simp [Op.operands])
    · exact hx x (by simp [Op.operands])

/-! Numbers. -/
def evInt (op : BinOp) (k : IntKind) (a b : Int) : Option Value :=
  match op with
  | .add => some (.int k (k.wrap (a + b)))
  | .sub => some (.int k (k.wrap (a - b)))
  | .mul => some (.int k (k.wrap (a * b)))
  | .quo => if b = 0 then none else some (.int k (k.wrap (a.tdiv b)))
  | .rem => if b = 0 then none else some (.int k (a.tmod b))
  | .and => some (.int k (k.wrap (BitVec.ofInt k.bits a &&& BitVec.ofInt k.bits b).toNat))
  | .or => some (.int k (k.wrap (BitVec.ofInt k.bits a ||| BitVec.ofInt k.bits b).toNat))
  | .xor => some (.int k (k.wrap (BitVec.ofInt k.bits a ^^^ BitVec.ofInt k.bits b).toNat))
  | .andNot => some (.int k (k.wrap (BitVec.ofInt k.bits a &&& ~~~BitVec.ofInt k.bits b).toNat))
  | .eql => some (.bool (a == b))
  | .neq => some (.bool (a != b))
  | .lss => some (.bool (a < b))
  | .leq => some (.bool (a ≤ b))
  | .gtr => some (.bool (a > b))
  | .geq => some (.bool (a ≥ b))
  | .shl => if b < 0 then none else some (.int k (k.wrap (a * 2 ^ min b.toNat k.bits)))
  | .shr => if b < 0 then none else some (.int k (a.fdiv (2 ^ min b.toNat k.bits)))

theorem leaf_evInt {op : BinOp} {k : IntKind} {a b : Int} {v : Value} (h : evInt op k a b = some v) : leaf v := by
  cases op <;> simp only [evInt] at h <;> first | (cases h; done) | (cases h; trivial) | (split at h <;> first | (cases h; done) | (cases h; trivial))

theorem run_eqGuard_int (op : BinOp) (t : TypeId) (x y : Operand) (k j : IntKind) (a b : Int) (w : World) : (eqGuard op t x y (.int k a) (.int j b)).run P w = .ok () w := by
  cases op <;> rfl

theorem aok_int {op : BinOp} {t yt : TypeId} {x y : Operand} {k j : IntKind} {a b : Int} {v : Value} (hx : ρA x = .val (.int k a)) (hy : ρA y = .val (.int j b))
    (hk : j = k ∨ op = .shl ∨ op = .shr) (hv : evInt op k a b = some v) : AOk P ⟨d, .binOp op t x y yt, ty, pos, aft, gd⟩ ρA [] (.val v) [] :=
  aok_value (by intro _ _ h; cases h) fun M ρ _ hr _ _ _ => by
    have h1 := hr x (by simp [Op.operands])
    have h2 := hr y (by simp [Op.operands])
    rw [hx] at h1; rw [hy] at h2
    have e1 := val_of h1
    have e2 := val_of h2
    refine ⟨v, ?_, .val v (leaf_evInt hv)⟩
    have key : (binOp op t (.int k a) (.int j b)).run P M.w = .ok v M.w := by
      cases op <;> simp only [evInt] at hv <;> first
        | (cases hv; done)
        | (simp at hk; subst hk; simp only [binOp]; simp [Op.intArith, Op.intBits, Op.intCmp, Op.intDiv] at hv ⊢; simpa using hv)
        | (simp at hk; subst hk; split at hv <;> first | (cases hv; done) | (rename_i h0; injection hv with hv; subst hv; simp [binOp, Op.intDiv, h0]))
        | (split at hv <;> first | (cases hv; done) | (rename_i h0; injection hv with hv; subst hv; simp [binOp, Op.shift, h0]))
    simp only [execOp, Sem.run_bind, e1, e2, run_eqGuard_int, Result.andThen_ok, key]
    rfl

/-! '==' and '!=' on other values. -/
def allPlain : List AV → Option (List Value)
  | [] => some []
  | .val v :: l => (allPlain l).map (v :: ·)
  | _ :: _ => none

theorem run_equalIn_bool {t : TypeId} (ht : P.underlying t = some .bool) (n : Nat) (a b : Bool) (w : World) : (Op.equalIn (n + 1) t (.bool a) (.bool b)).run P w = .ok (a == b) w := by
  simp only [Op.equalIn, Sem.run_bind, run_underlying ht, Result.andThen_ok]
  rfl
theorem run_equal_bool {t : TypeId} (ht : P.underlying t = some .bool) (a b : Bool) (w : World) : (Op.equal t (.bool a) (.bool b)).run P w = .ok (a == b) w :=
  run_equalIn_bool ht 9999 a b w

theorem aok_eq_bool {op : BinOp} {t yt : TypeId} {x y : Operand} {a b : Bool} {v : Value} (ht : P.underlying t = some .bool) (hx : ρA x = .val (.bool a)) (hy : ρA y = .val (.bool b))
    (hv : (op = .eql ∧ v = .bool (a == b)) ∨ (op = .neq ∧ v = .bool (!(a == b)))) :
    AOk P ⟨d, .binOp op t x y yt, ty, pos, aft, gd⟩ ρA [] (.val v) [] :=
  aok_value (by intro _ _ h; cases h) fun M ρ _ hr _ _ _ => by
    have h1 := hr x (by simp [Op.operands])
    have h2 := hr y (by simp [Op.operands])
    rw [hx] at h1; rw [hy] at h2
    have e1 := val_of h1
    have e2 := val_of h2
    have hg : (eqGuard op t x y (.bool a) (.bool b)).run P M.w = .ok () M.w := by cases op <;> rfl
    rcases hv with ⟨rfl, rfl⟩ | ⟨rfl, rfl⟩
    · refine ⟨_, ?_, .val _ trivial⟩
      have hb : binOp .eql t (.bool a) (.bool b) = (do pure (.bool (← Op.equal t (.bool a) (.bool b)))) := rfl
      simp only [execOp, e1, e2, Sem.run_bind, hg, Result.andThen_ok, hb, run_equal_bool ht]
      rfl
    · refine ⟨_, ?_, .val _ trivial⟩
      have hb : binOp .neq t (.bool a) (.bool b) = (do pure (.bool (!(← Op.equal t (.bool a) (.bool b))))) := rfl
      simp only [execOp, e1, e2, Sem.run_bind, hg, Result.andThen_ok, hb, run_equal_bool ht]
      rfl

theorem aok_str {op : BinOp} {t yt : TypeId} {x y : Operand} {a b : ByteArray} {v : Value} (hx : ρA x = .val (.string a)) (hy : ρA y = .val (.string b))
    (hv : (op = .eql ∧ v = .bool (a.toList == b.toList)) ∨ (op = .neq ∧ v = .bool (!(a.toList == b.toList))) ∨ (op = .add ∧ a.size + b.size ≤ 9223372036854775807 ∧ v = .string (a ++ b))) :
    AOk P ⟨d, .binOp op t x y yt, ty, pos, aft, gd⟩ ρA [] (.val v) [] :=
  aok_value (by intro _ _ h; cases h) fun M ρ _ hr _ _ _ => by
    have h1 := hr x (by simp [Op.operands])
    have h2 := hr y (by simp [Op.operands])
    rw [hx] at h1; rw [hy] at h2
    have e1 := val_of h1
    have e2 := val_of h2
    rcases hv with ⟨rfl, rfl⟩ | ⟨rfl, rfl⟩ | ⟨rfl, hsz, rfl⟩
    · exact ⟨_, by simp [execOp, e1, e2, eqGuard, binOp, Op.stringOp], .val _ trivial⟩
    · exact ⟨_, by simp [execOp, e1, e2, eqGuard, binOp, Op.stringOp], .val _ trivial⟩
    · exact ⟨_, by simp [execOp, e1, e2, eqGuard, binOp, Op.stringOp]; omega, .val _ trivial⟩

theorem run_equalIn_nil {t e : TypeId} (ht : P.underlying t = some (.slice e)) (m : Nat) (a : Option Addr) (n c : Nat) (w : World) : (Op.equalIn (m + 1) t (.slice a n c) (.slice none 0 0)).run P w = .ok a.isNone w := by
  cases a <;> simp only [Op.equalIn, Sem.run_bind, run_underlying ht, Result.andThen_ok] <;> rfl
theorem run_equal_nil {t e : TypeId} (ht : P.underlying t = some (.slice e)) (a : Option Addr) (n c : Nat) (w : World) : (Op.equal t (.slice a n c) (.slice none 0 0)).run P w = .ok a.isNone w :=
  run_equalIn_nil ht 9999 a n c w

/-- A slice against nil. -/
theorem aok_eq_nil {op : BinOp} {t e yt : TypeId} {x y : Operand} {sz : Nat} {els : List (List AV)} {md : Md} {nl : Bool} {v : Value} (ht : P.underlying t = some (.slice e)) (hx : ρA x = .sl sz els md) (hnl : (md = .nil ∧ nl = true) ∨ ((md = .nn ∨ els ≠ []) ∧ nl = false))
    (hy : y = .const (.slice none 0 0)) (hv : (op = .eql ∧ v = .bool nl) ∨ (op = .neq ∧ v = .bool (!nl))) :
    AOk P ⟨d, .binOp op t x y yt, ty, pos, aft, gd⟩ ρA [] (.val v) [] :=
  aok_value (by intro _ _ h; cases h) fun M ρ _ hr hcn _ _ => by
    have h1 := hr x (by simp [Op.operands])
    have e2 : ρ y = .slice none 0 0 := by rw [hy]; exact hcn _
    rw [hx] at h1
    obtain ⟨a, n, c, e1, hn⟩ : ∃ a n c, ρ x = .slice a n c ∧ a.isNone = nl := by
      generalize ρ x = u at h1
      cases h1 with
      | nil _ _ a hn hn' =>
        rcases hnl with ⟨h, rfl⟩ | ⟨h | h, rfl⟩
        · exact ⟨_, _, _, rfl, by rw [hn' h]; rfl⟩
        · refine ⟨_, _, _, rfl, ?_⟩
          cases a with
          | none => exact (hn h rfl).elim
          | some a => rfl
        · exact (h rfl).elim
      | slice _ _ _ a cap hs hcap hsz hst hc hmd =>
        rcases hnl with ⟨rfl, _⟩ | ⟨_, rfl⟩
        · exact hmd.elim
        · exact ⟨_, _, _, rfl, rfl⟩
    have hg : (eqGuard op t x y (.slice a n c) (.slice none 0 0)).run P M.w = .ok () M.w := by cases op <;> rfl
    rcases hv with ⟨rfl, rfl⟩ | ⟨rfl, rfl⟩
    · refine ⟨_, ?_, .val _ trivial⟩
      have hb : binOp .eql t (.slice a n c) (.slice none 0 0) = (do pure (.bool (← Op.equal t (.slice a n c) (.slice none 0 0)))) := rfl
      simp only [execOp, e1, e2, Sem.run_bind, hg, Result.andThen_ok, hb, run_equal_nil ht, hn]
      rfl
    · refine ⟨_, ?_, .val _ trivial⟩
      have hb : binOp .neq t (.slice a n c) (.slice none 0 0) = (do pure (.bool (!(← Op.equal t (.slice a n c) (.slice none 0 0))))) := rfl
      simp only [execOp, e1, e2, Sem.run_bind, hg, Result.andThen_ok, hb, run_equal_nil ht, hn]
      rfl

theorem aok_not {t : TypeId} {x : Operand} {b : Bool} (hx : ρA x = .val (.bool b)) : AOk P ⟨d, .unOp .not t x, ty, pos, aft, gd⟩ ρA [] (.val (.bool !b)) [] :=
  aok_value (by intro _ _ h; cases h) fun M ρ _ hr _ _ _ => by
    have h1 := hr x (by simp [Op.operands])
    rw [hx] at h1
    exact ⟨_, by simp [execOp, val_of h1, Op.unary], .val _ trivial⟩
theorem aok_neg {t : TypeId} {x : Operand} {k : IntKind} {a : Int} (hx : ρA x = .val (.int k a)) : AOk P ⟨d, .unOp .neg t x, ty, pos, aft, gd⟩ ρA [] (.val (.int k (k.wrap (0 - a)))) [] :=
  aok_value (by intro _ _ h; cases h) fun M ρ _ hr _ _ _ => by
    have h1 := hr x (by simp [Op.operands])
    rw [hx] at h1
    exact ⟨_, by simp [execOp, val_of h1, Op.unary, Op.intArith], .val _ trivial⟩
theorem aok_compl {t : TypeId} {x : Operand} {k : IntKind} {a : Int} (hx : ρA x = .val (.int k a)) :
    AOk P ⟨d, .unOp .xor t x, ty, pos, aft, gd⟩ ρA [] (.val (.int k (k.wrap (BitVec.ofInt k.bits (if k.signed then -1 else k.max) ^^^ BitVec.ofInt k.bits a).toNat))) [] :=
  aok_value (by intro _ _ h; cases h) fun M ρ _ hr _ _ _ => by
    have h1 := hr x (by simp [Op.operands])
    rw [hx] at h1
    exact ⟨_, by simp only [execOp, val_of h1, Op.unary, Op.intBits]; rfl, .val _ trivial⟩

theorem aok_conv_int {s t : TypeId} {x : Operand} {k j : IntKind} {a : Int} {ds : TypeDesc} (hs : P.underlying s = some ds) (ht : P.underlying t = some (.int k)) (hx : ρA x = .val (.int j a)) :
    AOk P ⟨d, .convert s t x, ty, pos, aft, gd⟩ ρA [] (.val (.int k (k.wrap a))) [] :=
  aok_value (by intro _ _ h; cases h) fun M ρ _ hr _ _ _ => by
    have h1 := hr x (by simp [Op.operands])
    rw [hx] at h1
    refine ⟨_, ?_, .val _ trivial⟩
    simp only [execOp, val_of h1, convert, Sem.run_bind, run_underlying hs, run_underlying ht, Result.andThen_ok, Conv.intToInt]
    rfl

theorem aok_conv_same {s t : TypeId} {x : Operand} {a : ByteArray} (hs : P.underlying s = some .string) (ht : P.underlying t = some .string) (hx : ρA x = .val (.string a)) :
    AOk P ⟨d, .convert s t x, ty, pos, aft, gd⟩ ρA [] (.val (.string a)) [] :=
  aok_value (by intro _ _ h; cases h) fun M ρ _ hr _ _ _ => by
    have h1 := hr x (by simp [Op.operands])
    rw [hx] at h1
    refine ⟨_, ?_, .val _ trivial⟩
    simp only [execOp, val_of h1, convert, Sem.run_bind, run_underlying hs, run_underlying ht, Result.andThen_ok]
    rfl

/-! Parts of values. -/
def notIface : TypeDesc → Prop
  | .interface _ => False
  | _ => True

theorem aok_extract {x : Operand} {i : Nat} {l : List AV} {r : AV} (hx : ρA x = .tup l) (hi : l[i]? = some r) : AOk P ⟨d, .extract x i, ty, pos, aft, gd⟩ ρA [] r [] :=
  aok_value (by intro _ _ h; cases h) fun M ρ _ hr _ _ _ => by
    have h1 := hr x (by simp [Op.operands])
    rw [hx] at h1
    generalize hv : ρ x = v at h1
    cases h1 with
    | tup l vs hl hc =>
      have hlt : i < vs.size := by rw [← hl]; exact (List.getElem?_eq_some_iff.1 hi).1
      exact ⟨vs[i], by simp [execOp, hv, Instr.extract, hlt], hc i r _ hi (by simp [hlt])⟩

theorem aok_iface {t : TypeId} {x : Operand} {ds : TypeDesc} (hs : P.underlying t = some ds) (hd : notIface ds) : AOk P ⟨d, .makeInterface t x, ty, pos, aft, gd⟩ ρA [] (.iface t (ρA x)) [] :=
  aok_value (by intro _ _ h; cases h) fun M ρ _ hr _ _ _ => by
    have h1 := hr x (by simp [Op.operands])
    refine ⟨.iface t (ρ x), ?_, .iface t _ _ h1⟩
    simp only [execOp, Instr.makeInterface, Sem.run_bind, run_underlying hs, Result.andThen_ok]
    cases ds <;> first | rfl | exact hd.elim

/-- A type switch's question, answered. -/
theorem aok_assert_yes {x : Operand} {xt u : TypeId} {ok : Bool} {y : AV} {ds : TypeDesc} (hs : P.underlying u = some ds) (hd : notIface ds) (hx : ρA x = .iface u y) :
    AOk P ⟨d, .typeAssert x xt u ok, ty, pos, aft, gd⟩ ρA [] (if ok then .tup [y, .val (.bool true)] else y) [] :=
  aok_value (by intro _ _ h; cases h) fun M ρ _ hr _ _ _ => by
    have h1 := hr x (by simp [Op.operands])
    rw [hx] at h1
    generalize hv : ρ x = v at h1
    cases h1 with
    | iface t y v h =>
      refine ⟨if ok then .tuple #[v, .bool true] else v, ?_, ?_⟩
      · simp only [execOp, hv, Instr.typeAssert, Sem.run_bind, run_underlying hs, Result.andThen_ok]
        cases ds <;> first | (simp; done) | exact hd.elim
      · cases ok
        · exact h
        · exact .tup _ _ rfl fun i c v' hi hv' => by
            match i, hi, hv' with
            | 0, hi, hv' => simp at hi hv'; subst hi; subst hv'; exact h
            | 1, hi, hv' => simp at hi hv'; subst hi; subst hv'; exact .val _ trivial

/-- The same, answered with no. -/
theorem aok_assert_no {x : Operand} {xt u t : TypeId} {y : AV} {ti : TI} (hs : TIok P u ti) (hd : notIface ti.desc) (hx : ρA x = .iface t y) (hn : t ≠ u) :
    AOk P ⟨d, .typeAssert x xt u true, ty, pos, aft, gd⟩ ρA [] (.tup [.top, .val (.bool false)]) [] :=
  aok_value (by intro _ _ h; cases h) fun M ρ _ hr _ _ _ => by
    have h1 := hr x (by simp [Op.operands])
    rw [hx] at h1
    generalize hv : ρ x = v at h1
    cases h1 with
    | iface t y v h =>
      obtain ⟨z, hz, _⟩ := hs.run_zero M.w
      refine ⟨.tuple #[z, .bool false], ?_, ?_⟩
      · have hu := hs.und
        revert hu hd
        cases ti.desc <;> intro hd hu <;> first | exact hd.elim | simp [execOp, hv, Instr.typeAssert, Sem.run_bind, run_underlying hu, Result.andThen_ok, hn, hz]
      · exact .tup _ _ rfl fun i c v' hi hv' => by
          match i, hi, hv' with
          | 0, hi, hv' => simp at hi hv'; subst hi; subst hv'; exact .top _
          | 1, hi, hv' => simp at hi hv'; subst hi; subst hv'; exact .val _ trivial

theorem aok_func {f : Fn} {caps : Array Operand} : AOk P ⟨d, .makeFunc f #[] caps, ty, pos, aft, gd⟩ ρA [] (.fn f (caps.toList.map ρA)) [] :=
  aok_value (by intro _ _ h; cases h) fun M ρ _ hr _ _ _ => by
    refine ⟨.func f #[] (caps.map ρ), by simp [execOp, Instr.makeFunc], .fn f _ _ (by simp) fun i c v hi hv => ?_⟩
    simp only [List.getElem?_map, Array.getElem?_toList] at hi
    simp only [Array.getElem?_map] at hv
    cases ho : caps[i]? with
    | none => rw [ho] at hi; cases hi
    | some o =>
      rw [ho] at hi hv
      injection hi with hi; injection hv with hv
      subst hi; subst hv
      exact hr o (by simpa [Op.operands] using Array.mem_of_getElem? ho)
end
end Go.VS
