/-
  The value-semantics layer, part 8: aggregates and slices built; copy; bytes and strings; equality of plain aggregates.
-/
import Derived.Test.YtdkiciofkifpdaaVsOps3
import Derived.ChangeKeysEq
namespace Go.VS
set_option linter.unusedVariables false
set_option linter.unusedSimpArgs false
open Go Go.RowKit

section
variable {P : Program} {d : Option Tmp} {ty : TypeId} {pos : String} {aft : Array Edge} {gd : Option (Nat × Bool)} {ρA : Operand → AV}

/-- Parts laid into cells. -/
def afill (place : Nat → Option (Nat × Nat)) : List AV → List (Nat × AV) → Option (List AV)
  | cs, [] => some cs
  | cs, (i, x) :: l =>
    match place i, x.parts with
    | some (off, size), some xs => if xs.length = size ∧ off + size ≤ cs.length then afill place (splice cs off xs) l else none
    | _, _ => none

/-- Cells that read as some, of one number. -/
def CL (M : Mem) (cs : List AV) (vs : Array Value) : Prop :=
  cs.length = vs.size ∧ (∀ (i : Nat) (v : Value), vs[i]? = some v → leaf v) ∧ ∀ (i : Nat) (c : AV) (v : Value), cs[i]? = some c → vs[i]? = some v → R M c v

theorem foldl_set_get (xs : List Value) (off : Nat) : ∀ (j0 : Nat) (cs : Array Value) (i : Nat), off + j0 + xs.length ≤ cs.size →
    ((xs.zipIdx j0).foldl (fun cs (c, j) => cs.setIfInBounds (off + j) c) cs)[i]? = if off + j0 ≤ i ∧ i < off + j0 + xs.length then xs[i - (off + j0)]? else cs[i]? := by
  induction xs with
  | nil => intro j0 cs i _; simp; intro h1 h2; omega
  | cons x xs ih =>
    intro j0 cs i h
    simp only [List.zipIdx_cons, List.foldl_cons]
    rw [ih (j0 + 1) _ i (by simp at h ⊢; omega)]
    simp only [List.length_cons] at h ⊢
    by_cases h1 : off + (j0 + 1) ≤ i ∧ i < off + (j0 + 1) + xs.length
    · rw [if_pos h1, if_pos (by omega)]
      rw [show i - (off + j0) = (i - (off + (j0 + 1))) + 1 from by omega]
      simp
    · rw [if_neg h1]
      by_cases h2 : off + j0 = i
      · subst h2
        rw [if_pos (by omega)]
        simp [show off + j0 < cs.size from by omega]
      · rw [if_neg (by omega), Array.getElem?_setIfInBounds_ne h2]

theorem foldl_set_size (xs : List Value) (off : Nat) : ∀ (j0 : Nat) (cs : Array Value), ((xs.zipIdx j0).foldl (fun cs (c, j) => cs.setIfInBounds (off + j) c) cs).size = cs.size := by
  induction xs with
  | nil => intro j0 cs; rfl
  | cons x xs ih => intro j0 cs; simp only [List.zipIdx_cons, List.foldl_cons]; rw [ih]; simp

theorem splice_get {cs xs : List AV} {off : Nat} (h : off + xs.length ≤ cs.length) (i : Nat) : (splice cs off xs)[i]? = if off ≤ i ∧ i < off + xs.length then xs[i - off]? else cs[i]? := by
  unfold splice
  rw [List.append_assoc]
  by_cases h1 : i < off
  · rw [List.getElem?_append_left (by simp; omega), List.getElem?_take_of_lt h1, if_neg (by omega)]
  · rw [List.getElem?_append_right (by simp; omega)]
    simp only [List.length_take]
    rw [Nat.min_eq_left (by omega)]
    by_cases h2 : i < off + xs.length
    · rw [List.getElem?_append_left (by omega), if_pos (by omega)]
    · rw [List.getElem?_append_right (by omega), List.getElem?_drop, if_neg (by omega)]
      congr 1; omega
theorem splice_length {cs xs : List AV} {off : Nat} (h : off + xs.length ≤ cs.length) : (splice cs off xs).length = cs.length := by
  unfold splice; simp; omega

theorem fill_of {M : Mem} {place : Nat → Option (Nat × Nat)} : ∀ (l : List (Nat × AV)) (lv : List (Nat × Value)) (cs : List AV) (vs : Array Value) (r : List AV), CL M cs vs → l.length = lv.length →
    (∀ (i : Nat) (x : Nat × AV) (v : Nat × Value), l[i]? = some x → lv[i]? = some v → x.1 = v.1 ∧ R M x.2 v.2) → afill place cs l = some r → ∃ us, Instr.fill place vs lv = some us ∧ CL M r us := by
  intro l
  induction l with
  | nil =>
    intro lv cs vs r hc hl _ h
    have : lv = [] := List.eq_nil_of_length_eq_zero hl.symm
    subst this
    simp only [afill, Option.some.injEq] at h
    subst h
    exact ⟨vs, rfl, hc⟩
  | cons x l ih =>
    intro lv cs vs r hc hl hR h
    cases lv with
    | nil => simp at hl
    | cons y lv =>
      obtain ⟨i, x⟩ := x
      obtain ⟨j, v⟩ := y
      obtain ⟨e1, e2⟩ := hR 0 (i, x) (j, v) rfl rfl
      dsimp only at e1 e2
      subst e1
      simp only [afill] at h
      split at h
      · rename_i off size xs hp hx
        split at h
        · rename_i hsz
          obtain ⟨p1, p2, p3⟩ := e2.leaf hx
          have hvs : ¬ (v.cells.size ≠ size || decide (off + v.cells.size > vs.size)) = true := by
            simp; have := hc.1; omega
          have hrec := ih lv (splice cs off xs) (v.cells.zipIdx.foldl (fun cs (c, j) => cs.setIfInBounds (off + j) c) vs) r ?_ (by simpa using hl)
            (fun k a b ha hb => hR (k + 1) a b (by simpa using ha) (by simpa using hb)) h
          · obtain ⟨us, h1, h2⟩ := hrec
            exact ⟨us, by simp only [Instr.fill, hp]; rw [if_neg hvs]; exact h1, h2⟩
          · have hlen : off + xs.length ≤ cs.length := by omega
            have hget : ∀ k, (v.cells.zipIdx.foldl (fun cs (c, j) => cs.setIfInBounds (off + j) c) vs)[k]? = if off ≤ k ∧ k < off + xs.length then v.cells[k - off]? else vs[k]? := fun k => by
              rw [← Array.foldl_toList, Array.toList_zipIdx, foldl_set_get v.cells.toList off 0 vs k (by simp [p1]; have := hc.1; omega)]
              simp [p1]
            refine ⟨?_, fun k u hu => ?_, fun k c u hk hu => ?_⟩
            · rw [splice_length hlen, ← Array.foldl_toList, Array.toList_zipIdx, foldl_set_size]; exact hc.1
            · rw [hget] at hu
              split at hu
              · exact p2 _ u hu
              · exact hc.2.1 k u hu
            · rw [splice_get hlen] at hk
              rw [hget] at hu
              split at hu
              · rename_i hin
                rw [if_pos hin] at hk
                exact p3 _ c u hk hu
              · rename_i hin
                rw [if_neg hin] at hk
                exact hc.2.2 k c u hk hu
        · cases h
      · cases h

theorem zero_CL {M : Mem} {ti : TI} {t : TypeId} (h : TIok P t ti) {z : Value} (hz : z.cells.toList = ti.zero) : CL M (ti.zero.map constAV) z.cells := by
  obtain ⟨a, b⟩ := zero_R (M := M) h hz
  exact ⟨by rw [List.length_map, ← hz]; simp, a, b⟩

def placeS (pl : List (Nat × Nat)) : Nat → Option (Nat × Nat) := fun i => pl[i]?

theorem parts_R {M : Mem} {ρ : Operand → Value} {parts : Array (Nat × Operand)} (hρ : ∀ x, x ∈ (parts.toList.map (·.2)).toArray → R M (ρA x) (ρ x)) :
    ∀ (i : Nat) (x : Nat × AV) (v : Nat × Value), (parts.toList.map fun p => (p.1, ρA p.2))[i]? = some x → (parts.map fun (i, x) => (i, ρ x)).toList[i]? = some v → x.1 = v.1 ∧ R M x.2 v.2 := by
  intro i x v hx hv
  simp only [List.getElem?_map] at hx
  simp only [Array.toList_map, List.getElem?_map] at hv
  cases hp : parts.toList[i]? with
  | none => rw [hp] at hx; cases hx
  | some p =>
    rw [hp] at hx hv
    injection hx with hx; injection hv with hv
    subst hx; subst hv
    exact ⟨rfl, hρ _ (by simpa using ⟨p.1, Array.mem_toList_iff.1 (List.mem_of_getElem? hp)⟩)⟩

theorem aok_build {t : TypeId} {ti : TI} (h : TIok P t ti) {fs : Array Field} (hd : ti.desc = .struct fs) {parts : Array (Nat × Operand)} {r : List AV}
    (hr : afill (placeS ti.pl) (ti.zero.map constAV) (parts.toList.map fun p => (p.1, ρA p.2)) = some r) : AOk P ⟨d, .build t parts, ty, pos, aft, gd⟩ ρA [] (.agg r) [] :=
  aok_value (by intro _ _ h; cases h) fun M ρ hI hρ _ _ _ => by
    obtain ⟨z, hz, hzc⟩ := h.run_zero M.w
    obtain ⟨us, h1, h2⟩ := fill_of (M := M) (place := placeS ti.pl) _ (parts.map fun (i, x) => (i, ρ x)).toList _ _ r (zero_CL h hzc) (by simp) (parts_R hρ) hr
    refine ⟨.agg us, ?_, .agg _ _ h2.1 h2.2.1 h2.2.2⟩
    have hu := h.und; rw [hd] at hu
    simp only [execOp, Instr.build, Sem.run_bind, hz, Result.andThen_ok, run_underlying hu, h.pl fs hd]
    have hpl : (fun i => ti.pl.toArray[i]?) = placeS ti.pl := by funext i; simp [placeS]
    rw [hpl, h1]
    rfl

theorem aok_build_arr {t e : TypeId} {n : Nat} {ti te : TI} (h : TIok P t ti) (hd : ti.desc = .array n e) (he : TIok P e te) {parts : Array (Nat × Operand)} {r : List AV}
    (hr : afill (fun i => some (i * te.size, te.size)) (ti.zero.map constAV) (parts.toList.map fun p => (p.1, ρA p.2)) = some r) : AOk P ⟨d, .build t parts, ty, pos, aft, gd⟩ ρA [] (.agg r) [] :=
  aok_value (by intro _ _ h; cases h) fun M ρ hI hρ _ _ _ => by
    obtain ⟨z, hz, hzc⟩ := h.run_zero M.w
    obtain ⟨us, h1, h2⟩ := fill_of (M := M) (place := fun i => some (i * te.size, te.size)) _ (parts.map fun (i, x) => (i, ρ x)).toList _ _ r (zero_CL h hzc) (by simp) (parts_R hρ) hr
    refine ⟨.agg us, ?_, .agg _ _ h2.1 h2.2.1 h2.2.2⟩
    have hu := h.und; rw [hd] at hu
    simp only [execOp, Instr.build, Sem.run_bind, hz, Result.andThen_ok, run_underlying hu, he.run_sizeOf, h1]
    rfl

/-! Equality of aggregates of numbers. -/
def evEq : List AV → List AV → Option Bool
  | [], [] => some true
  | .val (.int k a) :: cs, .val (.int j b) :: ds => if k = j then (evEq cs ds).map ((a == b) && ·) else none
  | _, _ => none

theorem evEq_cons {c e : AV} {cs ds : List AV} {b : Bool} (h : evEq (c :: cs) (e :: ds) = some b) : ∃ k x y b', c = .val (.int k x) ∧ e = .val (.int k y) ∧ evEq cs ds = some b' ∧ b = ((x == y) && b') := by
  unfold evEq at h
  split at h
  · rename_i h1 _; cases h1
  · rename_i k a cs' j b1 ds' h1 h2
    injection h1 with h1 h1'; injection h2 with h2 h2'
    subst h1; subst h1'; subst h2; subst h2'
    split at h
    · rename_i hk
      subst hk
      cases hrec : evEq cs ds with
      | none => rw [hrec] at h; cases h
      | some b' => rw [hrec] at h; injection h with h; exact ⟨k, a, b1, b', rfl, rfl, rfl, h.symm⟩
    · cases h
  · cases h

theorem evEq_len : ∀ {cs ds : List AV} {b : Bool}, evEq cs ds = some b → cs.length = ds.length
  | [], [], _, _ => rfl
  | [], _ :: _, _, h => by simp [evEq] at h
  | _ :: _, [], _, h => by unfold evEq at h; split at h <;> simp_all
  | c :: cs, e :: ds, b, h => by
    obtain ⟨_, _, _, b', _, _, h', _⟩ := evEq_cons h
    simp [evEq_len h']

theorem cellsOf_of {t : TypeId} {ti : TI} (h : TIok P t ti) : P.cellsOf t = ti.size := by
  obtain ⟨i, z, h1, h2, _⟩ := h.info
  have a := run_sizeOf (P := P) (default : World) h1
  rw [h.run_sizeOf] at a
  injection a with a; exact a.symm

theorem int_of {M : Mem} {k : IntKind} {x : Int} {v : Value} (h : R M (.val (.int k x)) v) : v = .int k x := val_of h

theorem run_eqItems_ints {M : Mem} {e : TypeId} {te : TI} (he : TIok P e te) (ha : te.agg = false) {k0 : IntKind} (hk : te.desc = .int k0) (D : Nat) {xs ys : Array Value} :
    ∀ (n i : Nat) (cs ds : List AV) (b : Bool), cs.length = n → evEq cs ds = some b →
      (∀ (j : Nat) (c : AV), cs[j]? = some c → ∃ v, xs[i + j]? = some v ∧ R M c v) → (∀ (j : Nat) (c : AV), ds[j]? = some c → ∃ v, ys[i + j]? = some v ∧ R M c v) → ∀ w,
      (Op.eqItems (D + 1) e 1 xs ys (List.range' i n)).run P w = .ok b w := by
  intro n
  induction n with
  | zero =>
    intro i cs ds b hl h _ _ w
    have : cs = [] := List.eq_nil_of_length_eq_zero hl
    subst this
    cases ds with
    | nil => simp only [evEq, Option.some.injEq] at h; subst h; simp [Op.eqItems]
    | cons _ _ => simp [evEq] at h
  | succ n ih =>
    intro i cs ds b hl h hx hy w
    cases cs with
    | nil => simp at hl
    | cons c cs =>
      cases ds with
      | nil => have := evEq_len h; simp at this
      | cons e2 ds =>
        obtain ⟨k, x, y, b', rfl, rfl, h', rfl⟩ := evEq_cons h
        obtain ⟨v1, e1, r1⟩ := hx 0 _ rfl
        obtain ⟨v2, e2, r2⟩ := hy 0 _ rfl
        rw [int_of r1] at e1; rw [int_of r2] at e2
        have hd := he.und; rw [hk] at hd
        simp only [List.range'_succ, Op.eqItems, Sem.run_bind, Nat.mul_one]
        rw [run_part_one he ha (by simpa using e1)]
        simp only [Result.andThen_ok]
        rw [run_part_one he ha (by simpa using e2)]
        simp only [Result.andThen_ok]
        rw [run_equalIn_int w D e k k0 x y hd]
        simp only [Result.andThen_ok]
        cases hb : (x == y)
        · simp
        · simp only [Bool.not_true, Bool.false_eq_true, if_false, Bool.true_and]
          exact ih (i + 1) cs ds b' (by simpa using hl) h'
            (fun j c hc => by obtain ⟨v, q1, q2⟩ := hx (j + 1) c (by simpa using hc); exact ⟨v, by rwa [show i + 1 + j = i + (j + 1) from by omega], q2⟩)
            (fun j c hc => by obtain ⟨v, q1, q2⟩ := hy (j + 1) c (by simpa using hc); exact ⟨v, by rwa [show i + 1 + j = i + (j + 1) from by omega], q2⟩) w

theorem agg_get {M : Mem} {cs : List AV} {v : Value} (h : R M (.agg cs) v) : ∃ vs : Array Value, v = .agg vs ∧ cs.length = vs.size ∧ ∀ (j : Nat) (c : AV), cs[j]? = some c → ∃ u, vs[j]? = some u ∧ R M c u := by
  cases h with
  | agg cs vs hl hlf hc =>
    refine ⟨vs, rfl, hl, fun j c hj => ?_⟩
    have hlt : j < vs.size := by rw [← hl]; exact (List.getElem?_eq_some_iff.1 hj).1
    exact ⟨vs[j], by simp [hlt], hc j c _ hj (by simp [hlt])⟩

theorem aok_eq_arr {op : BinOp} {t e yt : TypeId} {n : Nat} {te : TI} {x y : Operand} {cs ds : List AV} {b : Bool} {v : Value} (ht : P.underlying t = some (.array n e)) (he : TIok P e te) (hs : te.size = 1) (ha : te.agg = false) {k0 : IntKind} (hk : te.desc = .int k0)
    (hg : P.eqGuardType P.depth t = false) (hx : ρA x = .agg cs) (hy : ρA y = .agg ds) (hn : cs.length = n) (hb : evEq cs ds = some b) (hv : (op = .eql ∧ v = .bool b) ∨ (op = .neq ∧ v = .bool (!b))) :
    AOk P ⟨d, .binOp op t x y yt, ty, pos, aft, gd⟩ ρA [] (.val v) [] :=
  aok_value (by intro _ _ h; cases h) fun M ρ hI hρ _ _ _ => by
    have h1 := hρ x (by simp [Op.operands])
    have h2 := hρ y (by simp [Op.operands])
    rw [hx] at h1; rw [hy] at h2
    obtain ⟨xs, e1, l1, g1⟩ := agg_get h1
    obtain ⟨ys, e2, l2, g2⟩ := agg_get h2
    obtain ⟨i, z, i1, i2, _⟩ := he.info
    have key : ∀ w, (Op.equalIn 10000 t (.agg xs) (.agg ys)).run P w = .ok b w := fun w => by
      have h3 := run_equalIn_array (P := P) w 9999 xs ys ht i1
      rw [cellsOf_of he, hs, List.range_eq_range'] at h3
      rw [h3]
      exact run_eqItems_ints he ha hk 9998 n 0 cs ds b hn hb (fun j c hj => by rw [Nat.zero_add]; exact g1 j c hj) (fun j c hj => by rw [Nat.zero_add]; exact g2 j c hj) w
    have hg' : (eqGuard op t x y (.agg xs) (.agg ys)).run P M.w = .ok () M.w := run_eqGuard_agg M.w op t x y xs ys hg
    rcases hv with ⟨rfl, rfl⟩ | ⟨rfl, rfl⟩
    · exact ⟨_, by simp only [execOp, e1, e2, Sem.run_bind, hg', Result.andThen_ok, run_eql_struct, key]; rfl, .val _ trivial⟩
    · exact ⟨_, by simp only [execOp, e1, e2, Sem.run_bind, hg', Result.andThen_ok, run_neq_struct, key]; rfl, .val _ trivial⟩

/-- A struct's fields, all numbers, each at its place from o on. -/
def numFields (P : Program) : Nat → List Field → Prop
  | _, [] => True
  | o, f :: fs => (f.name ≠ "_" ∧ f.offset = o ∧ ∃ ti k, TIok P f.type ti ∧ ti.agg = false ∧ ti.desc = .int k) ∧ numFields P (o + 1) fs

theorem run_eqFields_ints {M : Mem} (D : Nat) {xs ys : Array Value} : ∀ (fs : List Field) (o : Nat) (cs ds : List AV) (b : Bool), numFields P o fs → cs.length = fs.length → evEq cs ds = some b →
    (∀ (j : Nat) (c : AV), cs[j]? = some c → ∃ v, xs[o + j]? = some v ∧ R M c v) → (∀ (j : Nat) (c : AV), ds[j]? = some c → ∃ v, ys[o + j]? = some v ∧ R M c v) → ∀ w,
    (Op.eqFields (D + 1) xs ys fs).run P w = .ok b w := by
  intro fs
  induction fs with
  | nil =>
    intro o cs ds b _ hl h _ _ w
    have : cs = [] := List.eq_nil_of_length_eq_zero hl
    subst this
    cases ds with
    | nil => simp only [evEq, Option.some.injEq] at h; subst h; simp [Op.eqFields]
    | cons _ _ => simp [evEq] at h
  | cons f fs ih =>
    intro o cs ds b hnf hl h hx hy w
    cases cs with
    | nil => simp at hl
    | cons c cs =>
      cases ds with
      | nil => have := evEq_len h; simp at this
      | cons e2 ds =>
        obtain ⟨⟨hname, hoff, ti, k0, hti, hagg, hk⟩, hnf'⟩ := hnf
        obtain ⟨k, x, y, b', rfl, rfl, h', rfl⟩ := evEq_cons h
        obtain ⟨v1, e1, r1⟩ := hx 0 _ rfl
        obtain ⟨v2, e2, r2⟩ := hy 0 _ rfl
        rw [int_of r1] at e1; rw [int_of r2] at e2
        have hd := hti.und; rw [hk] at hd
        simp only [Op.eqFields, ne_eq, hname, not_false_eq_true, if_true, Sem.run_bind, hoff]
        rw [run_part_one hti hagg (by simpa using e1)]
        simp only [Result.andThen_ok]
        rw [run_part_one hti hagg (by simpa using e2)]
        simp only [Result.andThen_ok]
        rw [run_equalIn_int w D f.type k k0 x y hd]
        simp only [Result.andThen_ok]
        cases hb : (x == y)
        · simp
        · simp only [Bool.not_true, Bool.false_eq_true, if_false, Bool.true_and]
          exact ih (o + 1) cs ds b' hnf' (by simpa using hl) h'
            (fun j c hc => by obtain ⟨v, q1, q2⟩ := hx (j + 1) c (by simpa using hc); exact ⟨v, by rwa [show o + 1 + j = o + (j + 1) from by omega], q2⟩)
            (fun j c hc => by obtain ⟨v, q1, q2⟩ := hy (j + 1) c (by simpa using hc); exact ⟨v, by rwa [show o + 1 + j = o + (j + 1) from by omega], q2⟩) w

theorem aok_eq_struct {op : BinOp} {t yt : TypeId} {fs : Array Field} {x y : Operand} {cs ds : List AV} {b : Bool} {v : Value} (ht : P.underlying t = some (.struct fs)) (hnf : numFields P 0 fs.toList) (hp : P.stoodInHeld t = false)
    (hg : P.eqGuardType P.depth t = false) (hx : ρA x = .agg cs) (hy : ρA y = .agg ds) (hn : cs.length = fs.size) (hb : evEq cs ds = some b) (hv : (op = .eql ∧ v = .bool b) ∨ (op = .neq ∧ v = .bool (!b))) :
    AOk P ⟨d, .binOp op t x y yt, ty, pos, aft, gd⟩ ρA [] (.val v) [] :=
  aok_value (by intro _ _ h; cases h) fun M ρ hI hρ _ _ _ => by
    have h1 := hρ x (by simp [Op.operands])
    have h2 := hρ y (by simp [Op.operands])
    rw [hx] at h1; rw [hy] at h2
    obtain ⟨xs, e1, l1, g1⟩ := agg_get h1
    obtain ⟨ys, e2, l2, g2⟩ := agg_get h2
    have hfo : P.fieldsOf t = fs := by simp [Program.fieldsOf, ht]
    have key : ∀ w, (Op.equalIn 10000 t (.agg xs) (.agg ys)).run P w = .ok b w := fun w => by
      have h3 := run_equalIn_struct (P := P) w 9999 t xs ys (by rw [hfo]; exact ht) hp
      rw [h3, hfo]
      exact run_eqFields_ints 9998 fs.toList 0 cs ds b hnf (by simpa using hn) hb (fun j c hj => by rw [Nat.zero_add]; exact g1 j c hj) (fun j c hj => by rw [Nat.zero_add]; exact g2 j c hj) w
    have hg' : (eqGuard op t x y (.agg xs) (.agg ys)).run P M.w = .ok () M.w := run_eqGuard_agg M.w op t x y xs ys hg
    rcases hv with ⟨rfl, rfl⟩ | ⟨rfl, rfl⟩
    · exact ⟨_, by simp only [execOp, e1, e2, Sem.run_bind, hg', Result.andThen_ok, run_eql_struct, key]; rfl, .val _ trivial⟩
    · exact ⟨_, by simp only [execOp, e1, e2, Sem.run_bind, hg', Result.andThen_ok, run_neq_struct, key]; rfl, .val _ trivial⟩

/-! New slices. -/
/-- A row of cells, cut into elements. -/
def chunk (sz : Nat) : Nat → List AV → List (List AV)
  | 0, _ => []
  | n + 1, cs => cs.take sz :: chunk sz n (cs.drop sz)
theorem chunk_length (sz : Nat) : ∀ (n : Nat) (cs : List AV), (chunk sz n cs).length = n
  | 0, _ => rfl
  | n + 1, cs => by simp [chunk, chunk_length sz n]
theorem chunk_get (sz : Nat) : ∀ (n : Nat) (cs : List AV) (i : Nat), i < n → (chunk sz n cs)[i]? = some ((cs.drop (i * sz)).take sz)
  | 0, _, _, h => by omega
  | n + 1, cs, 0, _ => by simp [chunk]
  | n + 1, cs, i + 1, h => by
    simp only [chunk, List.getElem?_cons_succ]
    rw [chunk_get sz n _ i (by omega), List.drop_drop, Nat.succ_mul, Nat.add_comm]

/-- A new block that nobody will write, read as a slice. -/
theorem R.newStb {M : Mem} {e : TypeId} {vs : Array Value} {cs : List AV} {sz n : Nat} (hI : Inv M) (h : CL M cs vs) (hl : cs.length = n * sz) {md : Md} (hmd : md = .sh ∨ md = .full) :
    R (M.newStb e vs vs.size) (.sl sz (chunk sz n cs) md) (.slice (some ⟨M.w.heap.size, 0, none⟩) n n) := by
  have hcl := chunk_length sz n cs
  have ex := Ext.newStb hI e vs vs.size
  have key := R.slice (M := M.newStb e vs vs.size) sz (chunk sz n cs) md ⟨M.w.heap.size, 0, none⟩ n rfl (by omega)
    (fun row hr => by
      obtain ⟨i, hi, rfl⟩ := List.getElem_of_mem hr
      have h1 := chunk_get sz n cs i (by omega)
      rw [List.getElem?_eq_getElem hi] at h1
      injection h1 with h1
      rw [h1, List.length_take, List.length_drop, hl]
      have := row_cells (sz := sz) (show i < n by omega)
      omega)
    (fun o ho => .inr ⟨rfl, by rw [hcl, ← hl, h.1] at ho; simpa using ho⟩)
    (fun i j row c v hi hj hv => by
      have hin : i < n := by have := (List.getElem?_eq_some_iff.1 hi).1; omega
      rw [chunk_get sz n cs i hin] at hi
      injection hi with hi; subst hi
      have hj' : j < sz := by have := (List.getElem?_eq_some_iff.1 hj).1; simp at this; omega
      rw [List.getElem?_take_of_lt hj', List.getElem?_drop] at hj
      have hv' : vs[i * sz + j]? = some v := by
        have h2 : (M.newStb e vs vs.size).w.cell? ⟨M.w.heap.size, 0 + (i * sz + j), none⟩ = vs[i * sz + j]? := by
          rw [Nat.zero_add]; exact cell_row (heap_new _ _)
        rw [← h2]; exact hv
      exact (h.2.2 _ c v hj hv').ext ex)
    (by rcases hmd with rfl | rfl <;> simp [MdOk, hcl])
  rw [hcl] at key
  exact key

theorem Done.newStb {M : Mem} {N : Nat} {e : TypeId} {vs : Array Value} {cs : List AV} {sz n : Nat} (hI : Inv M) (h : CL M cs vs) (hl : cs.length = n * sz) :
    Done M N [] (.sl sz (chunk sz n cs) .full) (.slice (some ⟨M.w.heap.size, 0, none⟩) n n) (M.w.alloc (.cells vs e)) :=
  ⟨M.newStb e vs vs.size, rfl, Ext.newStb hI e vs vs.size, hI.newStb e (Nat.le_refl _) h.2.1, fun _ _ => rfl, R.newStb hI h hl (.inr rfl)⟩

theorem Done.newBsl {M : Mem} {N : Nat} {e : TypeId} {vs : Array Value} {cs : List AV} {n cap k : Nat} (hI : Inv M) (hk : M.st k = none) (h : CL M cs vs) (hn : n ≤ cap) {fl : Bool} (hf : fl = true → cap = n) :
    Done M N [(k, .box e cs)] (.bsl k 0 n fl) (.slice (some ⟨M.w.heap.size, 0, none⟩) n cap) (M.w.alloc (.cells vs e)) := by
  refine ⟨M.newBox k e vs cs, rfl, Ext.newBox hI hk _ _ _, hI.newBox hk e (by rw [h.1]; exact Nat.le_refl _) h.2.1 h.2.2, fun j _ => rfl, ?_⟩
  have hp := R.bsl (M := M.newBox k e vs cs) k 0 n cap fl (by simp [Mem.newBox, upd1, isBox]) hn hf
  simpa [Mem.newBox] using hp

/-- The cells of a slice literal. -/
def repZero (z : List Value) (n : Nat) : List AV := (List.range n).map fun i => constAV (z.getD (i % z.length) (.bool false))

theorem rep_CL {M : Mem} {e : TypeId} {te : TI} (he : TIok P e te) (h0 : 0 < te.size) {z : Value} (hz : z.cells.toList = te.zero) (n : Nat) : CL M (repZero te.zero n) ((Array.range n).map (z.cells[· % z.cells.size]!)) := by
  have hzs : z.cells.size = te.size := by rw [← he.len, ← hz]; simp
  have hlen := he.len
  obtain ⟨z1, z2⟩ := zero_R (M := M) he hz
  refine ⟨by simp [repZero], fun i v hv => ?_, fun i c v hc hv => ?_⟩
  · simp only [Array.getElem?_map] at hv
    cases hr : (Array.range n)[i]? with
    | none => rw [hr] at hv; cases hv
    | some k =>
      rw [hr] at hv; simp only [Option.map_some, Option.some.injEq] at hv; subst hv
      have hlt : k % z.cells.size < z.cells.size := Nat.mod_lt _ (by omega)
      refine z1 (k % z.cells.size) _ ?_
      rw [getElem!_pos z.cells _ hlt]; simp [hlt]
  · have hi : i < n := by have := (List.getElem?_eq_some_iff.1 hc).1; simpa [repZero] using this
    simp only [Array.getElem?_map, Array.getElem?_range, hi, if_true, Option.map_some, Option.some.injEq] at hv
    simp only [repZero, List.getElem?_map, List.getElem?_range hi, Option.map_some, Option.some.injEq] at hc
    subst hv; subst hc
    have hlt : i % z.cells.size < z.cells.size := Nat.mod_lt _ (by omega)
    have hlt' : i % te.zero.length < te.zero.length := Nat.mod_lt _ (by omega)
    have e1 : i % te.zero.length = i % z.cells.size := by rw [hlen, hzs]
    refine z2 (i % z.cells.size) _ _ ?_ (by rw [getElem!_pos z.cells _ hlt]; simp [hlt])
    rw [List.getElem?_map]
    have : te.zero[i % z.cells.size]? = some (te.zero.getD (i % te.zero.length) (.bool false)) := by
      rw [e1, List.getD, List.getElem?_eq_getElem (by omega)]; rfl
    rw [this]; rfl

/-- The run of a slice literal. -/
theorem run_buildSlice {M : Mem} {t e : TypeId} {te : TI} (ht : P.underlying t = some (.slice e)) (he : TIok P e te) (h0 : 0 < te.size) {n : Nat} (hn : n * te.size ≤ 16777216) {parts : Array (Nat × Operand)} {ρ : Operand → Value} {r : List AV}
    (hρ : ∀ x, x ∈ (parts.toList.map (·.2)).toArray → R M (ρA x) (ρ x))
    (hr : afill (fun i => some (i * te.size, te.size)) (repZero te.zero (n * te.size)) (parts.toList.map fun p => (p.1, ρA p.2)) = some r) :
    ∃ us : Array Value, (Instr.buildSlice t n (parts.map fun (i, x) => (i, ρ x))).run P M.w = .ok (.slice (some ⟨M.w.heap.size, 0, none⟩) n n) (M.w.alloc (.cells us e)) ∧ CL M r us := by
  obtain ⟨z, hz, hzc⟩ := he.run_zero M.w
  obtain ⟨us, h1, h2⟩ := fill_of (M := M) (place := fun i => some (i * te.size, te.size)) _ (parts.map fun (i, x) => (i, ρ x)).toList _ _ r (rep_CL he h0 hzc (n * te.size)) (by simp) (parts_R hρ) hr
  refine ⟨us, ?_, h2⟩
  have hbig : ¬ n * te.size > 2 ^ 24 := by omega
  simp only [Instr.buildSlice, Sem.run_bind, run_underlying ht, Result.andThen_ok, he.run_sizeOf, hbig, if_false]
  by_cases hz0 : n * te.size = 0
  · have hm : ∀ f : Nat → Value, (Array.range 0).map f = #[] := fun f => by apply Array.ext'; simp
    rw [hz0, hm] at h1
    simp only [hz0, if_true, hm]
    rw [h1]
    simp [newRow]
  · simp only [hz0, if_false, Sem.run_bind, hz, Result.andThen_ok, Sem.run_pure]
    rw [h1]
    simp [newRow]

theorem aok_lit {t e : TypeId} {te : TI} (ht : P.underlying t = some (.slice e)) (he : TIok P e te) (h0 : 0 < te.size) {n : Nat} (hn : n * te.size ≤ 16777216) {parts : Array (Nat × Operand)} {r : List AV}
    (hr : afill (fun i => some (i * te.size, te.size)) (repZero te.zero (n * te.size)) (parts.toList.map fun p => (p.1, ρA p.2)) = some r) (hl : r.length = n * te.size) :
    AOk P ⟨d, .buildSlice t n parts, ty, pos, aft, gd⟩ ρA [] (.sl te.size (chunk te.size n r) .full) [] :=
  ⟨(by intro _ _ h; cases h), fun M N ρ hI hρ _ _ _ _ _ => by
    obtain ⟨us, h1, h2⟩ := run_buildSlice (M := M) ht he h0 hn hρ hr
    simp only [execOp, Sem.run_bind, h1, Result.andThen_ok]
    exact Done.newStb hI h2 hl⟩

theorem aok_lit_box {t e : TypeId} {te : TI} (ht : P.underlying t = some (.slice e)) (he : TIok P e te) (h0 : 0 < te.size) {n : Nat} (hn : n * te.size ≤ 16777216) {parts : Array (Nat × Operand)} {r : List AV} (k : Nat)
    (hr : afill (fun i => some (i * te.size, te.size)) (repZero te.zero (n * te.size)) (parts.toList.map fun p => (p.1, ρA p.2)) = some r) :
    AOk P ⟨d, .buildSlice t n parts, ty, pos, aft, gd⟩ ρA [(k, none)] (.bsl k 0 n true) [(k, .box e r)] :=
  ⟨(by intro _ _ h; cases h), fun M N ρ hI hρ _ _ hnd _ _ => by
    obtain ⟨us, h1, h2⟩ := run_buildSlice (M := M) ht he h0 hn hρ hr
    simp only [execOp, Sem.run_bind, h1, Result.andThen_ok]
    exact Done.newBsl hI hnd.1 h2 (Nat.le_refl _) (fun _ => rfl)⟩

theorem run_makes {M : Mem} {t e : TypeId} {te : TI} (ht : P.underlying t = some (.slice e)) (he : TIok P e te) (h0 : 0 < te.size) {k j : IntKind} {l c : Int} (hl : 0 ≤ l) (hlc : l ≤ c) (hb : (te.bytes : Int) * c ≤ 281474976710656) (h63 : c ≤ 9223372036854775807) :
    ∃ us : Array Value, (Instr.makeSlice t (.int k l) (.int j c)).run P M.w = .ok (.slice (some ⟨M.w.heap.size, 0, none⟩) l.toNat c.toNat) (M.w.alloc (.cells us e)) ∧ CL M (repZero te.zero (c.toNat * te.size)) us := by
  obtain ⟨i, z, i1, i2, i3, i4, i5⟩ := he.info
  have h1 := run_make (P := P) M.w t e i z ht i1 i4 k j l c hl hlc (by rw [i3]; exact hb) h63
  exact ⟨_, h1, by rw [i2]; exact rep_CL he h0 i5 _⟩

theorem repZero_length (z : List Value) (n : Nat) : (repZero z n).length = n := by simp [repZero]

theorem aok_make {t e : TypeId} {te : TI} (ht : P.underlying t = some (.slice e)) (he : TIok P e te) (h0 : 0 < te.size) {x y : Operand} {k j : IntKind} {l : Int} (hx : ρA x = .val (.int k l)) (hy : ρA y = .val (.int j l)) (hl : 0 ≤ l)
    (hb : (te.bytes : Int) * l ≤ 281474976710656) (h63 : l ≤ 9223372036854775807) : AOk P ⟨d, .makeSlice t x y, ty, pos, aft, gd⟩ ρA [] (.sl te.size (chunk te.size l.toNat (repZero te.zero (l.toNat * te.size))) .full) [] :=
  ⟨(by intro _ _ h; cases h), fun M N ρ hI hρ _ _ _ _ _ => by
    have e1 := hρ x (by simp [Op.operands])
    have e2 := hρ y (by simp [Op.operands])
    rw [hx] at e1; rw [hy] at e2
    obtain ⟨us, h1, h2⟩ := run_makes (M := M) ht he h0 (k := k) (j := j) hl (Int.le_refl l) hb h63
    simp only [execOp, val_of e1, val_of e2, Sem.run_bind, h1, Result.andThen_ok]
    exact Done.newStb hI h2 (repZero_length _ _)⟩

theorem aok_make_box {t e : TypeId} {te : TI} (ht : P.underlying t = some (.slice e)) (he : TIok P e te) (h0 : 0 < te.size) {x y : Operand} {k j : IntKind} {l c : Int} (q : Nat) (hx : ρA x = .val (.int k l)) (hy : ρA y = .val (.int j c)) (hl : 0 ≤ l) (hlc : l ≤ c)
    (hb : (te.bytes : Int) * c ≤ 281474976710656) (h63 : c ≤ 9223372036854775807) : AOk P ⟨d, .makeSlice t x y, ty, pos, aft, gd⟩ ρA [(q, none)] (.bsl q 0 l.toNat (l == c)) [(q, .box e (repZero te.zero (c.toNat * te.size)))] :=
  ⟨(by intro _ _ h; cases h), fun M N ρ hI hρ _ _ hnd _ _ => by
    have e1 := hρ x (by simp [Op.operands])
    have e2 := hρ y (by simp [Op.operands])
    rw [hx] at e1; rw [hy] at e2
    obtain ⟨us, h1, h2⟩ := run_makes (M := M) ht he h0 (k := k) (j := j) hl hlc hb h63
    simp only [execOp, val_of e1, val_of e2, Sem.run_bind, h1, Result.andThen_ok]
    exact Done.newBsl hI hnd.1 h2 (by omega) (fun h => by rw [beq_iff_eq] at h; omega)⟩
end
end Go.VS
