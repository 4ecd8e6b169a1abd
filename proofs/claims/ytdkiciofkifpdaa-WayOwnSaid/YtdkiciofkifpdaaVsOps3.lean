/-
  The value-semantics layer, part 7: slices made, cut, appended; aggregates built; bytes and strings; equality of plain aggregates.
-/
import Derived.Test.YtdkiciofkifpdaaVsOps2
namespace Go.VS
set_option linter.unusedVariables false
set_option linter.unusedSimpArgs false
open Go Go.RowKit

section
variable {P : Program} {d : Option Tmp} {ty : TypeId} {pos : String} {aft : Array Edge} {gd : Option (Nat × Bool)} {ρA : Operand → AV}

/-! Cutting. The bounds: those of 'low', 'high', 'max', as abstract values. -/
def loOf (ρA : Operand → AV) : Option Operand → Option Nat
  | none => some 0
  | some x => match ρA x with
    | .val (.int _ z) => if 0 ≤ z then some z.toNat else none
    | _ => none
def hiOf (ρA : Operand → AV) (len : Nat) : Option Operand → Option Nat
  | none => some len
  | some x => match ρA x with
    | .val (.int _ z) => if 0 ≤ z then some z.toNat else none
    | _ => none

theorem bound_of {M : Mem} {ρ : Operand → Value} {x : Operand} {n : Nat} (hr : R M (ρA x) (ρ x)) (h : (match ρA x with | .val (.int _ z) => if 0 ≤ z then some z.toNat else none | _ => none) = some n) :
    ∃ k z, ρ x = .int k z ∧ 0 ≤ z ∧ z.toNat = n := by
  split at h
  · rename_i k z e
    rw [e] at hr
    split at h
    · rename_i h0
      injection h with h
      exact ⟨k, z, val_of hr, h0, h⟩
    · cases h
  · cases h

theorem run_bounds {M : Mem} {ρ : Operand → Value} (isSlice : Bool) (len cap l h : Nat) {lo hi : Option Operand}
    (hlo : ∀ x, lo = some x → R M (ρA x) (ρ x)) (hhi : ∀ x, hi = some x → R M (ρA x) (ρ x)) (h1 : loOf ρA lo = some l) (h2 : hiOf ρA len hi = some h) (hlh : l ≤ h) (hhc : h ≤ cap) :
    (Instr.sliceBounds isSlice len cap (lo.map ρ) (hi.map ρ) none).run P M.w = .ok (l, h, cap) M.w := by
  have hbl : ∀ (y : Nat) (code : BoundsCode), l ≤ y → ∀ x, lo = some x → (Instr.sliceBound (ρ x) y code).run P M.w = .ok l M.w := fun y code hy x hx => by
    subst hx
    obtain ⟨k, z, e, h0, hz⟩ := bound_of (hlo x rfl) h1
    rw [e]
    have : 0 ≤ z ∧ z ≤ (y : Int) := ⟨h0, by omega⟩
    simp only [Instr.sliceBound, asIntOf, Sem.run_bind, Sem.run_pure, Result.andThen_ok, this, and_self, if_true, hz]
  have hbh : ∀ (y : Nat) (code : BoundsCode), h ≤ y → ∀ x, hi = some x → (Instr.sliceBound (ρ x) y code).run P M.w = .ok h M.w := fun y code hy x hx => by
    subst hx
    obtain ⟨k, z, e, h0, hz⟩ := bound_of (hhi x rfl) h2
    rw [e]
    have : 0 ≤ z ∧ z ≤ (y : Int) := ⟨h0, by omega⟩
    simp only [Instr.sliceBound, asIntOf, Sem.run_bind, Sem.run_pure, Result.andThen_ok, this, and_self, if_true, hz]
  cases hi with
  | none =>
    simp only [hiOf, Option.some.injEq] at h2
    subst h2
    cases lo with
    | none =>
      simp only [loOf, Option.some.injEq] at h1
      subst h1
      simp [Instr.sliceBounds]
    | some x => simp [Instr.sliceBounds, hbl _ _ hlh x rfl]
  | some y =>
    cases lo with
    | none =>
      simp only [loOf, Option.some.injEq] at h1
      subst h1
      simp [Instr.sliceBounds, hbh _ _ hhc y rfl]
    | some x => simp [Instr.sliceBounds, hbh _ _ hhc y rfl, hbl _ _ hlh x rfl]

theorem mem_slice_ops {x : Operand} {lo hi mx : Option Operand} {t : TypeId} : (∀ y, lo = some y → y ∈ (Op.slice t x lo hi mx).operands) ∧ (∀ y, hi = some y → y ∈ (Op.slice t x lo hi mx).operands) ∧ x ∈ (Op.slice t x lo hi mx).operands ∧
    (∀ y, mx = some y → y ∈ (Op.slice t x lo hi mx).operands) := by
  refine ⟨fun y hy => ?_, fun y hy => ?_, ?_, fun y hy => ?_⟩ <;> simp [Op.operands, *]

/-- The part of a stable slice is one. -/
theorem run_firstCells_zero {P : Program} (w : World) (size : Nat) (a : Option Addr) (n cap : Nat) : (Builtin.firstCells size 0 (.slice a n cap)).run P w = .ok #[] w := by
  cases a with
  | none => exact run_firstCells_none w size 0 n cap
  | some a => exact run_firstCells_some w size 0 a n cap [] (by simp) (fun j v h => by simp at h)
theorem Src.ofZero {P : Program} (w : World) {size : Nat} {tx e' : TypeId} (hk : P.underlying tx = some (.slice e')) (a : Option Addr) (c : Nat) : Src P size tx (.slice a 0 c) 0 [] w := by
  cases a with
  | none => exact Src.ofNil w hk c
  | some a => exact Src.ofSlice w hk a 0 c [] (by simp) (fun j u h => by simp at h) (fun u h => by cases h)
theorem R.sub {M : Mem} {sz : Nat} {els : List (List AV)} {md : Md} {a : Addr} {cap : Nat} (h : R M (.sl sz els md) (.slice (some a) els.length cap)) {l n cap' : Nat} (hl : l + n ≤ els.length) (hc : n ≤ cap')
    {md' : Md} (hmd' : md' = .sh ∨ (md' = .full ∧ cap' = n)) {a' : Addr} (ha : n = 0 ∨ a' = ⟨a.block, a.off + l * sz, none⟩) (hs' : a'.spot = none) : R M (.sl sz ((els.drop l).take n) md') (.slice (some a') n cap') := by
  have hlen : ((els.drop l).take n).length = n := by simp; omega
  cases h with
  | nil =>
    have hn0 : n = 0 := by simp at hl; omega
    subst hn0
    have key := R.slice (M := M) sz [] md' a' cap' hs' (Nat.zero_le _) (by simp) (by simp) (by simp) (by rcases hmd' with rfl | ⟨rfl, h⟩ <;> simp [MdOk, *])
    simpa using key
  | slice sz els md a cap hs hcap hsz hst hcell hmd =>
    have key := R.slice (M := M) sz ((els.drop l).take n) md' a' cap' hs' (by omega) (fun row hr => hsz row (List.mem_of_mem_drop (List.mem_of_mem_take hr)))
      (fun o ho => by
        rw [hlen] at ho
        rcases ha with h0 | rfl
        · subst h0; omega
        · show M.stb a.block (a.off + l * sz + o)
          rw [Nat.add_assoc]
          refine hst _ ?_
          have h2 : (l + n) * sz ≤ els.length * sz := Nat.mul_le_mul_right _ hl
          rw [Nat.add_mul] at h2
          omega)
      (fun i j row c v hi hj hv => by
        have hin : i < n := by
          have := (List.getElem?_eq_some_iff.1 hi).1; omega
        rcases ha with h0 | rfl
        · omega
        · rw [List.getElem?_take_of_lt hin, List.getElem?_drop] at hi
          refine hcell (l + i) j row c v hi hj ?_
          rw [show a.off + ((l + i) * sz + j) = a.off + l * sz + (i * sz + j) from by rw [Nat.add_mul]; omega]
          exact hv)
      (by rw [hlen]; rcases hmd' with rfl | ⟨rfl, h⟩ <;> simp [MdOk, *])
    rw [hlen] at key
    exact key

theorem aok_slice {t e : TypeId} {ti : TI} (ht : P.underlying t = some (.slice e)) (he : TIok P e ti) {x : Operand} {lo hi : Option Operand} {els : List (List AV)} {md : Md} {l h : Nat}
    (hx : ρA x = .sl ti.size els md) (h1 : loOf ρA lo = some l) (h2 : hiOf ρA els.length hi = some h) (hlh : l ≤ h) (hhc : h ≤ els.length) :
    AOk P ⟨d, .slice t x lo hi none, ty, pos, aft, gd⟩ ρA [] (.sl ti.size ((els.drop l).take (h - l)) .sh) [] :=
  aok_value (by intro _ _ h; cases h) fun M ρ hI hρ _ _ _ => by
    have hm := mem_slice_ops (x := x) (lo := lo) (hi := hi) (mx := none) (t := t)
    have hr := hρ x hm.2.2.1
    rw [hx] at hr
    generalize hv : ρ x = v at hr
    cases hr with
    | nil sz md a hn hn' =>
      have hl0 : l = 0 := by simp at hhc; omega
      have hh0 : h = 0 := by simp at hhc; omega
      subst hl0; subst hh0
      refine ⟨.slice a 0 0, ?_, by simpa using R.nil _ Md.sh a (by intro h; cases h) (by intro h; cases h)⟩
      simp only [execOp, Instr.sliceAt, hv, Sem.run_bind, run_underlying ht, Result.andThen_ok, Instr.slice, Option.map_none,
        run_bounds (P := P) true 0 0 0 0 (fun y hy => hρ y (hm.1 y hy)) (fun y hy => hρ y (hm.2.1 y hy)) h1 h2 (Nat.le_refl _) (Nat.le_refl _), he.run_sizeOf]
      rfl
    | slice sz els md a cap hs hcap hsz hst hc hmd =>
      have hR := R.slice (M := M) _ els md a cap hs hcap hsz hst hc hmd
      refine ⟨.slice (some (if cap = l then a else a.add (l * ti.size))) (h - l) (cap - l), ?_, hR.sub (by omega) (by omega) (.inl rfl) ?_ ?_⟩
      · simp only [execOp, Instr.sliceAt, hv, Sem.run_bind, run_underlying ht, Result.andThen_ok, Instr.slice, Option.map_none,
          run_bounds (P := P) true els.length cap l h (fun y hy => hρ y (hm.1 y hy)) (fun y hy => hρ y (hm.2.1 y hy)) h1 h2 hlh (by omega), he.run_sizeOf]
        by_cases hcl : cap = l <;> simp [hcl]
      · by_cases hcl : cap = l
        · exact .inl (by omega)
        · right
          rw [if_neg hcl, addr_eta a hs, add_at]
      · by_cases hcl : cap = l
        · rw [if_pos hcl]; exact hs
        · rw [if_neg hcl, addr_eta a hs, add_at]

theorem aok_slice_bsl {t e : TypeId} {ti : TI} (ht : P.underlying t = some (.slice e)) (he : TIok P e ti) {x : Operand} {lo hi : Option Operand} {b off len : Nat} {fl : Bool} {l h : Nat}
    (hx : ρA x = .bsl b off len fl) (h1 : loOf ρA lo = some l) (h2 : hiOf ρA len hi = some h) (hlh : l ≤ h) (hhc : h ≤ len) :
    AOk P ⟨d, .slice t x lo hi none, ty, pos, aft, gd⟩ ρA [] (.bsl b (off + l * ti.size) (h - l) false) [] :=
  aok_value (by intro _ _ h; cases h) fun M ρ hI hρ _ _ _ => by
    have hm := mem_slice_ops (x := x) (lo := lo) (hi := hi) (mx := none) (t := t)
    have hr := hρ x hm.2.2.1
    rw [hx] at hr
    obtain ⟨a, cap, hv, hcap, hform⟩ : ∃ a cap, ρ x = .slice a len cap ∧ len ≤ cap ∧ (0 < len → a = some ⟨M.β b, off, none⟩ ∧ isBox (M.st b)) := by
      generalize ρ x = v at hr
      cases hr with
      | bsl b off len cap fl hb hc hf => exact ⟨_, _, rfl, hc, fun _ => ⟨rfl, hb⟩⟩
      | bsl0 b off a cap => exact ⟨_, _, rfl, Nat.zero_le _, fun h => absurd h (Nat.lt_irrefl 0)⟩
    refine ⟨.slice (if cap = l then a else a.map (·.add (l * ti.size))) (h - l) (cap - l), ?_, ?_⟩
    · simp only [execOp, Instr.sliceAt, hv, Sem.run_bind, run_underlying ht, Result.andThen_ok, Instr.slice, Option.map_none,
        run_bounds (P := P) true len cap l h (fun y hy => hρ y (hm.1 y hy)) (fun y hy => hρ y (hm.2.1 y hy)) h1 h2 hlh (by omega), he.run_sizeOf]
      rfl
    · rcases Nat.eq_zero_or_pos (h - l) with h0 | h0
      · rw [h0]; exact .bsl0 _ _ _ _
      · obtain ⟨rfl, hb⟩ := hform (by omega)
        rw [if_neg (by omega)]
        simp only [Option.map_some, add_at]
        exact .bsl _ _ _ _ _ hb (by omega) (fun h => by cases h)

theorem aok_slice_arr {t e : TypeId} {n : Nat} {ti : TI} (ht : P.underlying t = some (.array n e)) (he : TIok P e ti) {x : Operand} {lo hi : Option Operand} {b off : Nat} {l h : Nat}
    (hx : ρA x = .ptr b off) (h1 : loOf ρA lo = some l) (h2 : hiOf ρA n hi = some h) (hlh : l ≤ h) (hhc : h ≤ n) :
    AOk P ⟨d, .slice t x lo hi none, ty, pos, aft, gd⟩ ρA [] (.bsl b (off + l * ti.size) (h - l) false) [] :=
  aok_value (by intro _ _ h; cases h) fun M ρ hI hρ _ _ _ => by
    have hm := mem_slice_ops (x := x) (lo := lo) (hi := hi) (mx := none) (t := t)
    have hr := hρ x hm.2.2.1
    rw [hx] at hr
    generalize hv : ρ x = v at hr
    cases hr with
    | ptr b off hb =>
      refine ⟨.slice (some (if n = l then (⟨M.β b, off, none⟩ : Addr) else Addr.add ⟨M.β b, off, none⟩ (l * ti.size))) (h - l) (n - l), ?_, ?_⟩
      · simp only [execOp, Instr.sliceAt, hv, Sem.run_bind, run_underlying ht, Result.andThen_ok, Instr.sureAddr, Sem.run_pure, Option.map_none,
          run_bounds (P := P) false n n l h (fun y hy => hρ y (hm.1 y hy)) (fun y hy => hρ y (hm.2.1 y hy)) h1 h2 hlh hhc, he.run_sizeOf]
      · rcases Nat.eq_zero_or_pos (h - l) with h0 | h0
        · rw [h0]; exact .bsl0 _ _ _ _
        · rw [if_neg (by omega), add_at]
          exact .bsl _ _ _ _ _ hb (by omega) (fun h => by cases h)

theorem run_bounds3 {M : Mem} {ρ : Operand → Value} (isSlice : Bool) (len cap l h m : Nat) {lo : Option Operand} {hi mx : Operand}
    (hlo : ∀ x, lo = some x → R M (ρA x) (ρ x)) (hhi : R M (ρA hi) (ρ hi)) (hmx : R M (ρA mx) (ρ mx)) (h1 : loOf ρA lo = some l) (h2 : hiOf ρA len (some hi) = some h) (h3 : hiOf ρA len (some mx) = some m)
    (hlh : l ≤ h) (hhm : h ≤ m) (hmc : m ≤ cap) : (Instr.sliceBounds isSlice len cap (lo.map ρ) (some (ρ hi)) (some (ρ mx))).run P M.w = .ok (l, h, m) M.w := by
  have hb : ∀ (y n : Nat) (code : BoundsCode) (x : Operand), R M (ρA x) (ρ x) → (match ρA x with | .val (.int _ z) => if 0 ≤ z then some z.toNat else none | _ => none) = some n → n ≤ y → (Instr.sliceBound (ρ x) y code).run P M.w = .ok n M.w := fun y n code x hx hn hy => by
    obtain ⟨k, z, e, h0, hz⟩ := bound_of hx hn
    rw [e]
    have : 0 ≤ z ∧ z ≤ (y : Int) := ⟨h0, by omega⟩
    simp only [Instr.sliceBound, asIntOf, Sem.run_bind, Sem.run_pure, Result.andThen_ok, this, and_self, if_true, hz]
  cases lo with
  | none =>
    simp only [loOf, Option.some.injEq] at h1
    subst h1
    simp [Instr.sliceBounds, hb cap m _ mx hmx h3 hmc, hb m h _ hi hhi h2 hhm]
  | some x => simp [Instr.sliceBounds, hb cap m _ mx hmx h3 hmc, hb m h _ hi hhi h2 hhm, hb h l _ x (hlo x rfl) h1 hlh]

theorem aok_slice3 {t e : TypeId} {ti : TI} (ht : P.underlying t = some (.slice e)) (he : TIok P e ti) {x hi mx : Operand} {lo : Option Operand} {els : List (List AV)} {md : Md} {l h : Nat}
    (hx : ρA x = .sl ti.size els md) (h1 : loOf ρA lo = some l) (h2 : hiOf ρA els.length (some hi) = some h) (h3 : hiOf ρA els.length (some mx) = some h) (hlh : l ≤ h) (hhc : h ≤ els.length) :
    AOk P ⟨d, .slice t x lo (some hi) (some mx), ty, pos, aft, gd⟩ ρA [] (.sl ti.size ((els.drop l).take (h - l)) .full) [] :=
  aok_value (by intro _ _ h; cases h) fun M ρ hI hρ _ _ _ => by
    have hm := mem_slice_ops (x := x) (lo := lo) (hi := some hi) (mx := some mx) (t := t)
    have hr := hρ x hm.2.2.1
    rw [hx] at hr
    generalize hv : ρ x = v at hr
    cases hr with
    | nil sz md a hn hn' =>
      have hl0 : l = 0 := by simp at hhc; omega
      have hh0 : h = 0 := by simp at hhc; omega
      subst hl0; subst hh0
      refine ⟨.slice a 0 0, ?_, by simpa using R.nil _ Md.full a (by intro h; cases h) (by intro h; cases h)⟩
      simp only [execOp, Instr.sliceAt, hv, Sem.run_bind, run_underlying ht, Result.andThen_ok, Instr.slice, Option.map_some,
        run_bounds3 (P := P) true 0 0 0 0 0 (fun y hy => hρ y (hm.1 y hy)) (hρ hi (hm.2.1 hi rfl)) (hρ mx (hm.2.2.2 mx rfl)) h1 h2 h3 (Nat.le_refl _) (Nat.le_refl _) (Nat.le_refl _), he.run_sizeOf]
      rfl
    | slice sz els md a cap hs hcap hsz hst hc hmd =>
      have hR := R.slice (M := M) _ els md a cap hs hcap hsz hst hc hmd
      refine ⟨.slice (some (if h = l then a else a.add (l * ti.size))) (h - l) (h - l), ?_, hR.sub (by omega) (by omega) (.inr ⟨rfl, rfl⟩) ?_ ?_⟩
      · simp only [execOp, Instr.sliceAt, hv, Sem.run_bind, run_underlying ht, Result.andThen_ok, Instr.slice, Option.map_some,
          run_bounds3 (P := P) true els.length cap l h h (fun y hy => hρ y (hm.1 y hy)) (hρ hi (hm.2.1 hi rfl)) (hρ mx (hm.2.2.2 mx rfl)) h1 h2 h3 hlh (Nat.le_refl _) (by omega), he.run_sizeOf]
        by_cases hcl : h = l <;> simp [hcl]
      · by_cases hcl : h = l
        · exact .inl (by omega)
        · right
          rw [if_neg hcl, addr_eta a hs, add_at]
      · by_cases hcl : h = l
        · rw [if_pos hcl]; exact hs
        · rw [if_neg hcl, addr_eta a hs, add_at]

/-! A slice seen as an array. -/
theorem flat_length {els : List (List AV)} {s : Nat} (hsz : ∀ row, row ∈ els → row.length = s) : els.flatten.length = els.length * s := by
  induction els with
  | nil => simp
  | cons r els ih =>
    rw [List.flatten_cons, List.length_append, ih (fun row hr => hsz row (List.mem_cons_of_mem _ hr)), hsz r (List.mem_cons_self ..), List.length_cons, Nat.succ_mul]; omega
theorem flat_get {els : List (List AV)} {s : Nat} (hsz : ∀ row, row ∈ els → row.length = s) : ∀ (j : Nat) (c : AV), els.flatten[j]? = some c → ∃ i k row, els[i]? = some row ∧ row[k]? = some c ∧ j = i * s + k := by
  induction els with
  | nil => intro j c h; simp at h
  | cons r els ih =>
    intro j c h
    have hrl := hsz r (List.mem_cons_self ..)
    rw [List.flatten_cons] at h
    rcases Nat.lt_or_ge j r.length with hlt | hge
    · rw [List.getElem?_append_left hlt] at h
      exact ⟨0, j, r, rfl, h, by omega⟩
    · rw [List.getElem?_append_right hge] at h
      obtain ⟨i, k, row, e1, e2, e3⟩ := ih (fun row hr => hsz row (List.mem_cons_of_mem _ hr)) _ c h
      exact ⟨i + 1, k, row, by simpa using e1, e2, by rw [Nat.succ_mul]; omega⟩
theorem flat_at {els : List (List AV)} {s : Nat} (hsz : ∀ row, row ∈ els → row.length = s) : ∀ (i k : Nat) (row : List AV) (c : AV), els[i]? = some row → row[k]? = some c → els.flatten[i * s + k]? = some c := by
  induction els with
  | nil => intro i k row c h; simp at h
  | cons r els ih =>
    intro i k row c h hk
    have hrl := hsz r (List.mem_cons_self ..)
    rw [List.flatten_cons]
    cases i with
    | zero =>
      simp at h; subst h
      have := (List.getElem?_eq_some_iff.1 hk).1
      rw [Nat.zero_mul, Nat.zero_add, List.getElem?_append_left this]; exact hk
    | succ i =>
      simp at h
      rw [Nat.succ_mul, List.getElem?_append_right (by omega), show i * s + s + k - r.length = i * s + k from by omega]
      exact ih (fun row hr => hsz row (List.mem_cons_of_mem _ hr)) i k row c h hk

theorem aok_arr {t e : TypeId} {s n : Nat} (ht : P.underlying t = some (.array n e)) {x : Operand} {els : List (List AV)} {md : Md} (hx : ρA x = .sl s els md) (hn : n ≤ els.length) (h0 : 0 < n) :
    AOk P ⟨d, .sliceToArrayPointer t x, ty, pos, aft, gd⟩ ρA [] (.ref els.flatten) [] :=
  aok_value (by intro _ _ h; cases h) fun M ρ hI hρ _ _ _ => by
    have hr := hρ x (by simp [Op.operands])
    rw [hx] at hr
    generalize hv : ρ x = v at hr
    cases hr with
    | nil sz md => simp at hn; omega
    | slice sz els md a cap hs hcap hsz hst hc hmd =>
      have hnl : ¬ els.length < n := by omega
      refine ⟨.pointer (some a), by simp [execOp, Instr.arrayAt, hv, run_underlying ht, hnl], .ref _ a hs (fun j hj => hst j (by rw [flat_length hsz] at hj; exact hj)) fun j c v hj hu => ?_⟩
      obtain ⟨i, k, row, e1, e2, rfl⟩ := flat_get hsz j c hj
      exact hc i k row c v e1 e2 hu

/-! Cells of a stable slice, read. -/
theorem slice_cells {M : Mem} (hI : Inv M) {sz : Nat} {els : List (List AV)} {md : Md} {a : Addr} {cap : Nat} (h : R M (.sl sz els md) (.slice (some a) els.length cap)) :
    ∃ vs : List Value, vs.length = els.length * sz ∧ (∀ (j : Nat) (v : Value), vs[j]? = some v → M.w.cell? (a.add j) = some v ∧ leaf v) ∧
      (∀ (j : Nat) (c : AV) (v : Value), els.flatten[j]? = some c → vs[j]? = some v → R M c v) := by
  cases h with
  | nil => exact ⟨[], by simp, fun j v h => by simp at h, fun j c v h => by simp at h⟩
  | slice sz els md a cap hs hcap hsz hst hc hmd =>
    have hfl := flat_length hsz
    obtain ⟨vs, h1, h2⟩ := cells_read (M := M) (cs := els.flatten) (b := a.block) (o := a.off) fun j hj => hI.stb _ _ (hst j (by omega))
    have hadd : ∀ j, a.add j = ⟨a.block, a.off + j, none⟩ := fun j => by rw [addr_eta a hs, add_at]
    refine ⟨vs, by omega, fun j v hv => by rw [hadd]; exact h2 j v hv, fun j c v hj hv => ?_⟩
    obtain ⟨i, k, row, e1, e2, rfl⟩ := flat_get hsz j c hj
    exact hc i k row c v e1 e2 (h2 _ v hv).1

theorem one_of_leaf {v : Value} (h : leaf v) : v.oneCell' = true := by cases v <;> first | rfl | exact h.elim

/-- What is appended: a slice's elements, as a source. -/
theorem src_of {M : Mem} (hI : Inv M) {ρ : Operand → Value} {tx e' : TypeId} {sz : Nat} (hk : P.underlying tx = some (.slice e')) {y : Operand} {els : List (List AV)} {md : Md}
    (hr : R M (.sl sz els md) (ρ y)) : ∃ news : List Value, Src P sz tx (ρ y) els.length news M.w ∧ (∀ (j : Nat) (v : Value), news[j]? = some v → leaf v) ∧
      (∀ (j : Nat) (c : AV) (v : Value), els.flatten[j]? = some c → news[j]? = some v → R M c v) ∧ (∀ row, row ∈ els → row.length = sz) := by
  generalize hv : ρ y = v at hr
  cases hr with
  | nil sz md a => exact ⟨[], Src.ofZero M.w hk a 0, fun j v h => by simp at h, fun j c v h => by simp at h, fun row h => by cases h⟩
  | slice sz els md a cap hs hcap hsz hst hc hmd =>
    obtain ⟨vs, h1, h2, h3⟩ := slice_cells hI (R.slice (M := M) sz els md a cap hs hcap hsz hst hc hmd)
    exact ⟨vs, Src.ofSlice M.w hk a _ cap vs h1 (fun j u hu => (h2 j u hu).1) (fun u hu => by
      obtain ⟨i, hi, rfl⟩ := List.getElem_of_mem hu
      exact one_of_leaf (h2 i _ (List.getElem?_eq_getElem hi)).2), fun j v hv => (h2 j v hv).2, h3, hsz⟩

theorem run_append_none (w : World) (t tx ty e : TypeId) (i : TypeInfo) (ht : P.underlying t = some (.slice e)) (hi : P.info? e = some i) (base : Option Addr) (sLen sCap : Nat) (hle : sLen ≤ sCap) (x : Value) (hs : Src P i.size tx x 0 [] w) :
    (Builtin.append_ #[t, tx] ty #[.slice base sLen sCap, x]).run P w = .ok (.slice base sLen sCap) w := by
  rcases hs.kind with ⟨e', hk⟩ | hk <;> cases base <;> simp [Builtin.append_, run_underlying ht, run_underlying hk, sizeOf, typeInfo, hi, hs.len, hle, hs.cells, storeCells]

theorem zeroCells_leaf {z : Array Value} (h : ∀ v, v ∈ z.toList → leaf v) (hz : 0 < z.size) (n i : Nat) (v : Value) (hv : (Builtin.zeroCells z n)[i]? = some v) : leaf v := by
  unfold Builtin.zeroCells at hv
  simp only [Array.getElem?_map] at hv
  cases hr : (Array.range (n * z.size))[i]? with
  | none => rw [hr] at hv; cases hv
  | some k =>
    rw [hr] at hv
    simp only [Option.map_some, Option.some.injEq] at hv
    subst hv
    have hlt : k % z.size < z.size := Nat.mod_lt _ hz
    refine h _ ?_
    rw [getElem!_pos z _ hlt]
    exact Array.mem_toList_iff.2 (Array.getElem_mem hlt)

theorem zeroCells_size (z : Array Value) (n : Nat) : (Builtin.zeroCells z n).size = n * z.size := by simp [Builtin.zeroCells]
theorem grownCap_ge (w : World) (need old : Nat) (e : TypeId) : need ≤ grownCap w need old e := by
  unfold grownCap; simp [Question.cut]

/-- The name in the run of an append. -/
theorem exec_append {ρ : Operand → Value} {x y : Operand} {t u : TypeId} {v : Value} {w w' : World} (h : (Builtin.append_ #[t, u] ty #[ρ x, ρ y]).run P w = .ok v w') :
    (execOp ρ ⟨d, .call { callee := .builtin .append, args := #[x, y], argTypes := #[t, u] }, ty, pos, aft, gd⟩).run P w = .ok (.value v) w' := by
  simp [execOp, resolve, invoke, builtin, h]

/-- Nothing is appended to a slice. -/
theorem aok_append_nothing {t u e e' : TypeId} {ti : TI} (ht : P.underlying t = some (.slice e)) (hu : P.underlying u = some (.slice e')) (he : TIok P e ti) {x y : Operand} {els : List (List AV)} {md md' : Md}
    (hx : ρA x = .sl ti.size els md) (hy : ρA y = .sl ti.size [] md') :
    AOk P ⟨d, .call { callee := .builtin .append, args := #[x, y], argTypes := #[t, u] }, ty, pos, aft, gd⟩ ρA [] (.sl ti.size els md) [] :=
  aok_value (by intro _ _ h; cases h) fun M ρ hI hρ _ _ _ => by
    have h1 := hρ x (by simp [Op.operands, Call.operands])
    have h2 := hρ y (by simp [Op.operands, Call.operands])
    rw [hx] at h1; rw [hy] at h2
    obtain ⟨i, z, i1, i2, i3, i4, i5⟩ := he.info
    obtain ⟨news, hs, _, _, _⟩ := src_of (P := P) hI hu h2
    have hn : news = [] := List.eq_nil_of_length_eq_zero (by rw [hs.newsLen]; simp)
    subst hn
    refine ⟨ρ x, exec_append ?_, h1⟩
    obtain ⟨a, n, c, hv, hle⟩ : ∃ a n c, ρ x = .slice a n c ∧ n ≤ c := by
      generalize ρ x = v at h1
      cases h1
      · exact ⟨_, _, _, rfl, Nat.le_refl _⟩
      · exact ⟨_, _, _, rfl, by assumption⟩
    rw [hv]
    exact run_append_none M.w t u ty e i ht i1 a n c hle (ρ y) (by rw [i2]; exact hs)

theorem run_append_room_row (w : World) (t tx ty e : TypeId) (i : TypeInfo) (ht : P.underlying t = some (.slice e)) (hi : P.info? e = some i) (g sLen sCap : Nat) (cur : Array Value) (hg : w.heap[g]? = some (.cells cur e (0, 0)))
    (x : Value) (n : Nat) (news : List Value) (hs : Src P i.size tx x n news w) (hroom : sLen + n ≤ sCap) (hfit : sLen * i.size + news.length ≤ cur.size) :
    (Builtin.append_ #[t, tx] ty #[.slice (some ⟨g, 0, none⟩) sLen sCap, x]).run P w =
      .ok (.slice (some ⟨g, 0, none⟩) (sLen + n) sCap) (w.setRow g (cur.toList.take (sLen * i.size) ++ news ++ cur.toList.drop (sLen * i.size + news.length)).toArray) := by
  have hst := run_storeCells_at P g (sLen * i.size) e news 0 cur w hg (by simpa using hfit) hs.one
  simp only [Nat.add_zero] at hst
  rcases hs.kind with ⟨e', hk⟩ | hk <;> simp [Builtin.append_, run_underlying ht, run_underlying hk, sizeOf, typeInfo, hi, hs.len, hroom, hs.cells, Addr.add_lit, hst]

/-- What lies at the head of a row, of what is there and what is appended. -/
theorem app_get {us news : List Value} {j : Nat} {v : Value} {rest : List Value} (h : (us ++ news ++ rest)[j]? = some v) :
    us[j]? = some v ∨ (us.length ≤ j ∧ news[j - us.length]? = some v) ∨ (us.length + news.length ≤ j ∧ rest[j - (us.length + news.length)]? = some v) := by
  rw [List.append_assoc] at h
  rcases Nat.lt_or_ge j us.length with h1 | h1
  · rw [List.getElem?_append_left h1] at h; exact .inl h
  · rw [List.getElem?_append_right h1] at h
    rcases Nat.lt_or_ge (j - us.length) news.length with h2 | h2
    · rw [List.getElem?_append_left h2] at h; exact .inr (.inl ⟨h1, h⟩)
    · rw [List.getElem?_append_right h2] at h
      exact .inr (.inr ⟨by omega, by rw [show j - (us.length + news.length) = j - us.length - news.length from by omega]; exact h⟩)

theorem lengths_append {els els' : List (List AV)} {sz : Nat} (h : ∀ row, row ∈ els → row.length = sz) (h' : ∀ row, row ∈ els' → row.length = sz) : ∀ row, row ∈ els ++ els' → row.length = sz := fun row hr => by
  rcases List.mem_append.1 hr with h1 | h1
  · exact h row h1
  · exact h' row h1

/-- An append that makes a new block, which becomes the row k. -/
theorem append_moves {M : Mem} {N : Nat} (hI : Inv M) {t u e e' : TypeId} {ti : TI} (ht : P.underlying t = some (.slice e)) (hu : P.underlying u = some (.slice e')) (he : TIok P e ti) (hs0 : 0 < ti.size)
    {ρ : Operand → Value} {x y : Operand} {els els' : List (List AV)} {md md' : Md} {k : Nat}
    (h1 : R M (.sl ti.size els md) (ρ x)) (h2 : R M (.sl ti.size els' md') (ρ y)) (hcap : ∀ a n c, ρ x = .slice a n c → c < els.length + els'.length)
    (hk : rowBelow M k e ti.size (els.length + els'.length)) (hbytes : (els.length + els'.length) * ti.bytes ≤ 140737488355328) (h63 : els.length + els'.length ≤ 9223372036854775807) :
    OpRes P (fun v w' => Done M N [(k, .row e ti.size (els.length + els'.length))] (.sl ti.size (els ++ els') (.own k)) v w')
      ((execOp ρ ⟨d, .call { callee := .builtin .append, args := #[x, y], argTypes := #[t, u] }, ty, pos, aft, gd⟩).run P M.w) := by
  obtain ⟨i, z, i1, i2, i3, i4, i5⟩ := he.info
  obtain ⟨news, hs, hnl, hnR, hsz'⟩ := src_of (P := P) hI hu h2
  have hsz : ∀ row, row ∈ els → row.length = ti.size := by
    generalize ρ x = v at h1
    cases h1 with
    | nil => intro row h; cases h
    | slice sz els md a cap hs hcap hsz hst hc hmd => exact hsz
  -- the old cells
  obtain ⟨a, c, hv, hle, olds, holdlen, hold, holf, holR⟩ : ∃ a c, ρ x = .slice a els.length c ∧ els.length ≤ c ∧ ∃ olds : List Value, olds.length = els.length * ti.size ∧
      (Builtin.firstCells i.size els.length (.slice a els.length c)).run P M.w.drew = .ok olds.toArray M.w.drew ∧ (∀ (j : Nat) (v : Value), olds[j]? = some v → leaf v) ∧
      (∀ (j : Nat) (c : AV) (v : Value), els.flatten[j]? = some c → olds[j]? = some v → R M c v) := by
    generalize hv : ρ x = v at h1
    cases h1 with
    | nil sz md a => exact ⟨a, 0, rfl, Nat.le_refl _, [], by simp, run_firstCells_zero _ _ _ _ _, fun j v h => by simp at h, fun j c v h => by simp at h⟩
    | slice sz els md a cap hs hcap hsz hst hc hmd =>
      obtain ⟨vs, g1, g2, g3⟩ := slice_cells hI (R.slice (M := M) _ els md a cap hs hcap hsz hst hc hmd)
      exact ⟨some a, cap, rfl, hcap, vs, g1, run_firstCells_some _ _ _ _ _ _ _ (by rw [i2]; exact g1) (fun j v hj => by rw [World.cell?_drew]; exact (g2 j v hj).1), fun j v hj => (g2 j v hj).2, g3⟩
  have hlt := hcap a _ c hv
  have hrun := run_append_grow_src (P := P) M.w t u ty e i z ht i1 i4 a els.length c olds hold (ρ y) els'.length news (by rw [i2]; exact hs) hlt (by omega) (by rw [i3]; exact growslice_fits hlt hbytes)
  rw [← hv] at hrun
  rw [exec_append hrun]
  have hcapge := VS.grownCap_ge M.w (els.length + els'.length) c e
  generalize hcp : grownCap M.w (els.length + els'.length) c e = cp at hcapge
  have hzl : z.cells.size = ti.size := by rw [← he.len, ← i5]; simp
  have e0 := Ext.withW (M := M) (w' := M.w.drew) rfl
  have hI0 : Inv (M.withW M.w.drew) := hI.withW rfl rfl rfl rfl
  obtain ⟨vs, hvs⟩ : ∃ vs : Array Value, vs = (olds ++ news).toArray ++ Builtin.zeroCells z.cells (cp - (els.length + els'.length)) := ⟨_, rfl⟩
  have hnewlen := hs.newsLen
  have hvsize : vs.size = cp * ti.size := by
    rw [hvs]; simp only [Array.size_append, List.size_toArray, List.length_append, VS.zeroCells_size, hzl, holdlen, hnewlen]
    rw [← Nat.add_mul, ← Nat.add_mul]; congr 1; omega
  have hget : ∀ (j : Nat) (v : Value), vs[j]? = some v → olds[j]? = some v ∨ (olds.length ≤ j ∧ news[j - olds.length]? = some v) ∨ (olds.length + news.length ≤ j ∧ leaf v) := fun j v hj => by
    rw [hvs, ← Array.getElem?_toList] at hj
    simp only [Array.toList_append] at hj
    rcases app_get hj with h | h | h
    · exact .inl h
    · exact .inr (.inl h)
    · refine .inr (.inr ⟨h.1, zeroCells_leaf (z := z.cells) (fun v hv => ?_) (by omega) _ _ v (by rw [← Array.getElem?_toList]; exact h.2)⟩)
      rw [i5] at hv
      exact leaf_of_B (List.all_eq_true.1 he.leafs v hv)
  have hleaf : ∀ (j : Nat) (v : Value), vs[j]? = some v → leaf v := fun j v hj => by
    rcases hget j v hj with h | h | h
    · exact holf j v h
    · exact hnl _ v h.2
    · exact h.2
  have hk' : rowBelow (M.withW M.w.drew) k e ti.size (els.length + els'.length) := hk
  have ex := Ext.moveRow hI0 hk' vs cp
  have hI1 := hI0.moveRow hk' hvsize hcapge hleaf
  have hwlt : M.w.drew.alloc (.cells vs e) = ((M.withW M.w.drew).moveRow k e ti.size vs (els.length + els'.length) cp).w := rfl
  rw [← hvs]
  refine ⟨(M.withW M.w.drew).moveRow k e ti.size vs (els.length + els'.length) cp, rfl, e0.trans ex, hI1, fun j _ => rfl, ?_⟩
  have hll : (els ++ els').length = els.length + els'.length := by simp
  have hsz2 := lengths_append hsz hsz'
  have key : R ((M.withW M.w.drew).moveRow k e ti.size vs (els.length + els'.length) cp) (.sl ti.size (els ++ els') (.own k)) (.slice (some ⟨M.w.heap.size, 0, none⟩) (els ++ els').length cp) := ?_
  · rw [hll] at key; exact key
  refine .slice ti.size (els ++ els') (.own k) ⟨M.w.heap.size, 0, none⟩ cp rfl (by rw [hll]; exact hcapge) hsz2 (fun o ho => ?_) (fun i j row c' v hi hj hcell => ?_) ?_
  · refine .inr ⟨rfl, ?_⟩
    rw [hll] at ho; simpa using ho
  · have hcell' : vs[i * ti.size + j]? = some v := by
      have : ((M.withW M.w.drew).moveRow k e ti.size vs (els.length + els'.length) cp).w.cell? ⟨M.w.heap.size, 0 + (i * ti.size + j), none⟩ = vs[i * ti.size + j]? := by
        rw [Nat.zero_add]
        exact cell_row (heap_new _ _)
      rw [← this]; exact hcell
    have hfl := flat_at hsz2 i j row c' hi hj
    rw [List.flatten_append] at hfl
    have hlo : els.flatten.length = olds.length := by rw [flat_length hsz, holdlen]
    have hln : els'.flatten.length = news.length := by rw [flat_length hsz', hnewlen]
    refine R.ext (e0.trans ex) ?_
    rcases hget _ v hcell' with h | h | h
    · have hlt' := (List.getElem?_eq_some_iff.1 h).1
      rw [List.getElem?_append_left (by omega)] at hfl
      exact holR _ c' v hfl h
    · rw [List.getElem?_append_right (by omega), hlo] at hfl
      exact hnR _ c' v hfl h.2
    · have := (List.getElem?_eq_some_iff.1 hfl).1
      rw [List.length_append] at this; omega
  · refine ⟨e, els.length + els'.length, by simp [Mem.moveRow, upd1], by rw [hll]; exact Nat.le_refl _, fun _ => .inr ⟨rfl, by simp [Mem.moveRow]; rfl, by simp [Mem.moveRow]⟩⟩

/-- append onto nil, or onto a slice without room: what comes is the newest slice of the new row k. -/
theorem aok_append_new {t u e e' : TypeId} {ti : TI} (ht : P.underlying t = some (.slice e)) (hu : P.underlying u = some (.slice e')) (he : TIok P e ti) (hs0 : 0 < ti.size) {x y : Operand} {els els' : List (List AV)} {md md' : Md} (k : Nat)
    (hx : ρA x = .sl ti.size els md) (hfull : md = .nil ∨ md = .full) (hy : ρA y = .sl ti.size els' md') (hne : els' ≠ []) (hbytes : (els.length + els'.length) * ti.bytes ≤ 140737488355328) (h63 : els.length + els'.length ≤ 9223372036854775807) :
    AOk P ⟨d, .call { callee := .builtin .append, args := #[x, y], argTypes := #[t, u] }, ty, pos, aft, gd⟩ ρA [(k, none)] (.sl ti.size (els ++ els') (.own k)) [(k, .row e ti.size (els.length + els'.length))] :=
  ⟨(by intro _ _ h; cases h), fun M N ρ hI hρ _ _ hn _ _ => by
    have h1 := hρ x (by simp [Op.operands, Call.operands])
    have h2 := hρ y (by simp [Op.operands, Call.operands])
    rw [hx] at h1; rw [hy] at h2
    have hpos : 0 < els'.length := List.length_pos_iff.2 hne
    refine append_moves hI ht hu he hs0 h1 h2 (fun a n c hv => ?_) (.inl hn.1) hbytes h63
    rw [hv] at h1
    cases h1 with
    | nil => simpa using hpos
    | slice sz els md a cap hs hcap hsz hst hc hmd =>
      rcases hfull with h | h
      · subst h; exact hmd.elim
      · subst h
        have : c = els.length := hmd
        omega⟩

/-- append onto the newest slice of a row. -/
theorem aok_append_own {t u e e' : TypeId} {ti : TI} (ht : P.underlying t = some (.slice e)) (hu : P.underlying u = some (.slice e')) (he : TIok P e ti) (hs0 : 0 < ti.size) {x y : Operand} {els els' : List (List AV)} {md' : Md} {k : Nat}
    (hx : ρA x = .sl ti.size els (.own k)) (hy : ρA y = .sl ti.size els' md') (hbytes : (els.length + els'.length) * ti.bytes ≤ 140737488355328) (h63 : els.length + els'.length ≤ 9223372036854775807) :
    AOk P ⟨d, .call { callee := .builtin .append, args := #[x, y], argTypes := #[t, u] }, ty, pos, aft, gd⟩ ρA [(k, some (.row e ti.size els.length))] (.sl ti.size (els ++ els') (.own k)) [(k, .row e ti.size (els.length + els'.length))] :=
  ⟨(by intro _ _ h; cases h), fun M N ρ hI hρ _ _ hn hN hun => by
    have h1 := hρ x (by simp [Op.operands, Call.operands])
    have h2 := hρ y (by simp [Op.operands, Call.operands])
    rw [hx] at h1; rw [hy] at h2
    have hrow := hn.1
    by_cases hnil : els' = []
    · subst hnil
      obtain ⟨i, z, i1, i2, i3, i4, i5⟩ := he.info
      obtain ⟨news, hs, _, _, _⟩ := src_of (P := P) hI hu h2
      have hnn : news = [] := List.eq_nil_of_length_eq_zero (by rw [hs.newsLen]; simp)
      subst hnn
      obtain ⟨a, n, c, hv, hle⟩ : ∃ a n c, ρ x = .slice a n c ∧ n ≤ c := by
        generalize ρ x = v at h1
        cases h1
        · exact ⟨_, _, _, rfl, Nat.le_refl _⟩
        · exact ⟨_, _, _, rfl, by assumption⟩
      have hrun := run_append_none M.w t u e i ht i1 a n c hle (ρ y) (by rw [i2]; exact hs) (ty := ty)
      rw [← hv] at hrun
      rw [exec_append hrun]
      refine ⟨M, rfl, Ext.refl M, hI, fun j _ => ?_, by simpa using h1⟩
      simp only [upd, upd1, List.length_nil, Nat.add_zero]
      split
      · rename_i hj; subst hj; exact hrow
      · rfl
    · have hpos : 0 < els'.length := List.length_pos_iff.2 hnil
      have moves := fun hcap => append_moves (P := P) (N := N) (d := d) (ty := ty) (pos := pos) (aft := aft) (gd := gd) hI ht hu he hs0 h1 h2 hcap (.inr ⟨els.length, hrow, by omega⟩) hbytes h63
      generalize hv : ρ x = v at h1
      cases h1 with
      | nil sz md => exact moves fun a n c h => by rw [hv] at h; cases h; simpa using hpos
      | slice sz els md a cap hs hcap hsz hst hc hmd =>
        obtain ⟨e2, m2, hst2, hle2, hlast⟩ := hmd
        have hst3 := hst2
        rw [hrow] at hst2
        simp only [Option.some.injEq, Res.row.injEq] at hst2
        obtain ⟨rfl, _, rfl⟩ := hst2
        rcases hlast rfl with h0 | ⟨hoff, hblk, hcapk⟩
        · exact moves fun a' n c h => by rw [hv] at h; cases h; omega
        by_cases hroom : els.length + els'.length ≤ cap
        · obtain ⟨i, z, i1, i2, i3, i4, i5⟩ := he.info
          obtain ⟨news, hsrc, hnl, hnR, hsz'⟩ := src_of (P := P) hI hu h2
          obtain ⟨cur, hg, hcsz, hmc, hfree, hstb⟩ := hI.row k e ti.size els.length cap hrow hcapk
          have hnewlen := hsrc.newsLen
          have haddr : a = ⟨M.β k, 0, none⟩ := by rw [addr_eta a hs, hblk, hoff]
          have hfit : els.length * i.size + news.length ≤ cur.size := by
            rw [i2, hnewlen, hcsz, ← Nat.add_mul]; exact Nat.mul_le_mul_right _ hroom
          have hrun := run_append_room_row (P := P) M.w t u ty e i ht i1 (M.β k) els.length cap cur hg (ρ y) els'.length news (by rw [i2]; exact hsrc) hroom hfit
          rw [← haddr, ← hv] at hrun
          rw [exec_append hrun]
          obtain ⟨vs, hvs⟩ : ∃ vs : Array Value, vs = (cur.toList.take (els.length * i.size) ++ news ++ cur.toList.drop (els.length * i.size + news.length)).toArray := ⟨_, rfl⟩
          have hcl : cur.toList.length = cur.size := by simp
          have htk : (cur.toList.take (els.length * i.size)).length = els.length * ti.size := by
            rw [List.length_take, hcl, i2]; rw [i2] at hfit; omega
          have hvsz : vs.size = cur.size := by
            rw [hvs]; simp only [List.size_toArray, List.length_append, List.length_drop, htk, hcl]
            rw [i2] at hfit ⊢; omega
          have hsame : ∀ o, o < els.length * ti.size → vs[o]? = cur[o]? := fun o ho => by
            rw [hvs, List.getElem?_toArray, List.append_assoc, List.getElem?_append_left (by omega), List.getElem?_take_of_lt (by rw [i2]; exact ho), Array.getElem?_toList]
          have hnew : ∀ o v, els.length * ti.size ≤ o → o < (els.length + els'.length) * ti.size → vs[o]? = some v → news[o - els.length * ti.size]? = some v := fun o v h1 h2 h3 => by
            rw [hvs, List.getElem?_toArray] at h3
            rw [Nat.add_mul] at h2
            rcases app_get h3 with h | h | h
            · have := (List.getElem?_eq_some_iff.1 h).1; omega
            · rw [htk] at h; exact h.2
            · rw [htk, hnewlen] at h; omega
          have ex := Ext.growRow hI hrow hcapk (Nat.le_add_right _ els'.length) hg hsame
          have hI1 := hI.growRow hrow hcapk (Nat.le_add_right _ els'.length) hroom hg hvsz hsame (fun o v h1 h2 h3 => hnl _ v (hnew o v h2 h1 h3))
          rw [← hvs]
          refine ⟨M.growRow k e ti.size vs (els.length + els'.length), rfl, ex, hI1, fun j _ => rfl, ?_⟩
          have hll : (els ++ els').length = els.length + els'.length := by simp
          have hsz2 := lengths_append hsz hsz'
          have key : R (M.growRow k e ti.size vs (els.length + els'.length)) (.sl ti.size (els ++ els') (.own k)) (.slice (some a) (els ++ els').length cap) := ?_
          · rw [hll] at key; exact key
          refine .slice ti.size (els ++ els') (.own k) a cap hs (by rw [hll]; exact hroom) hsz2 (fun o ho => ?_) (fun i j row c' v hi hj hcell => ?_) ?_
          · refine .inr ⟨hblk, ?_⟩
            rw [hll] at ho; rw [hoff]; simpa using ho
          · have hcell' : vs[i * ti.size + j]? = some v := by
              have : (M.growRow k e ti.size vs (els.length + els'.length)).w.cell? ⟨a.block, a.off + (i * ti.size + j), none⟩ = vs[i * ti.size + j]? := by
                rw [hblk, hoff, Nat.zero_add]
                exact cell_row (setRow_heap_same hg)
              rw [← this]; exact hcell
            have hfl := flat_at hsz2 i j row c' hi hj
            rw [List.flatten_append] at hfl
            have hlo : els.flatten.length = els.length * ti.size := flat_length hsz
            have hln : els'.flatten.length = els'.length * ti.size := flat_length hsz'
            have hbd := (List.getElem?_eq_some_iff.1 hfl).1
            rw [List.length_append, hlo, hln, ← Nat.add_mul] at hbd
            refine R.ext ex ?_
            rcases Nat.lt_or_ge (i * ti.size + j) (els.length * ti.size) with hlt | hge
            · rw [List.getElem?_append_left (by omega)] at hfl
              obtain ⟨i', j', row', r1, r2, r3⟩ := flat_get hsz _ c' hfl
              refine hc i' j' row' c' v r1 r2 ?_
              rw [← r3, hblk, hoff, Nat.zero_add, cell_row hg, ← hsame _ hlt]; exact hcell'
            · rw [List.getElem?_append_right (by omega), hlo] at hfl
              exact hnR _ c' v hfl (hnew _ v hge hbd hcell')
          · exact ⟨e, els.length + els'.length, by simp [Mem.growRow, upd1], by rw [hll]; exact Nat.le_refl _, fun _ => .inr ⟨hoff, hblk, hcapk⟩⟩
        · exact moves fun a' n c h => by rw [hv] at h; cases h; omega⟩
end
end Go.VS
