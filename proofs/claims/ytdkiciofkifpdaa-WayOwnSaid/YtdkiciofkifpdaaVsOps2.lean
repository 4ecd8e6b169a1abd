/-
  The value-semantics layer, part 6: the operations on memory over abstract values.
-/
import Derived.Test.YtdkiciofkifpdaaVsOps
namespace Go.VS
set_option linter.unusedVariables false
set_option linter.unusedSimpArgs false
open Go Go.RowKit

section
variable {P : Program} {d : Option Tmp} {ty : TypeId} {pos : String} {aft : Array Edge} {gd : Option (Nat × Bool)} {ρA : Operand → AV}

theorem addr_eta (a : Addr) (h : a.spot = none) : a = ⟨a.block, a.off, none⟩ := by cases a; simp at h; subst h; rfl

/-- Cells that read as some, with their values. -/
theorem cells_read {M : Mem} {cs : List AV} {b o : Nat} (hc : ∀ j, j < cs.length → ∃ v, M.w.cell? ⟨b, o + j, none⟩ = some v ∧ leaf v) :
    ∃ vs : List Value, vs.length = cs.length ∧ (∀ (j : Nat) (v : Value), vs[j]? = some v → M.w.cell? ⟨b, o + j, none⟩ = some v ∧ leaf v) := by
  induction cs generalizing o with
  | nil => exact ⟨[], rfl, fun j v h => by simp at h⟩
  | cons c cs ih =>
    obtain ⟨v0, h0, l0⟩ := hc 0 (by simp)
    obtain ⟨vs, h1, h2⟩ := ih (o := o + 1) fun j hj => by
      have := hc (j + 1) (by simp; omega)
      rwa [show o + (j + 1) = o + 1 + j from by omega] at this
    refine ⟨v0 :: vs, by simp [h1], fun j v hj => ?_⟩
    cases j with
    | zero => simp at hj; subst hj; exact ⟨h0, l0⟩
    | succ j =>
      simp at hj
      have := h2 j v hj
      rwa [show o + 1 + j = o + (j + 1) from by omega] at this

/-- What a load yields, out of cells that read as cs. -/
theorem run_load_pick {M : Mem} {t : TypeId} {ti : TI} (h : TIok P t ti) {cs : List AV} {b o : Nat} {r : AV}
    (hc : ∀ j, j < cs.length → ∃ v, M.w.cell? ⟨b, o + j, none⟩ = some v ∧ leaf v)
    (hR : ∀ (j : Nat) (c : AV) (v : Value), cs[j]? = some c → M.w.cell? ⟨b, o + j, none⟩ = some v → R M c v) (hp : pick ti.agg ti.size cs = some r) :
    ∃ v, (loadVar t ⟨b, o, none⟩).run P M.w = .ok v M.w ∧ R M r v := by
  unfold pick at hp
  cases ha : ti.agg with
  | true =>
    rw [ha] at hp
    simp only [if_true] at hp
    split at hp
    · rename_i hle
      injection hp with hp; subst hp
      obtain ⟨vs, h1, h2⟩ := cells_read (cs := cs.take ti.size) fun j hj => hc j (by simp at hj; omega)
      have hlen : vs.length = ti.size := by rw [h1]; simp [hle]
      refine ⟨_, run_loadVar_agg h ha hlen fun j v hv => (h2 j v hv).1, .agg _ _ (by simp [h1]) (fun i v hv => (h2 i v (by simpa using hv)).2) fun i c v hi hv => ?_⟩
      have hi' : i < ti.size := by
        have := (List.getElem?_eq_some_iff.1 hi).1; simp at this; omega
      exact hR i c v (by rw [← hi, List.getElem?_take_of_lt hi']) (h2 i v (by simpa using hv)).1
    · cases hp
  | false =>
    rw [ha] at hp
    simp only [Bool.false_eq_true, if_false] at hp
    cases cs with
    | nil => cases hp
    | cons c cs =>
      injection hp with hp; subst hp
      obtain ⟨v, hv, _⟩ := hc 0 (by simp)
      exact ⟨v, run_loadVar_one h ha (by simpa using hv), hR 0 c v rfl hv⟩

theorem aok_load_ref {t : TypeId} {ti : TI} (h : TIok P t ti) {x : Operand} {cs : List AV} {r : AV} (hx : ρA x = .ref cs) (hp : pick ti.agg ti.size cs = some r) :
    AOk P ⟨d, .load t x, ty, pos, aft, gd⟩ ρA [] r [] :=
  aok_value (by intro _ _ h; cases h) fun M ρ hI hr _ _ _ => by
    have h1 := hr x (by simp [Op.operands])
    rw [hx] at h1
    generalize hv : ρ x = v at h1
    cases h1 with
    | ref cs a hs hst hc =>
      obtain ⟨u, hu, hR⟩ := run_load_pick (M := M) h (cs := cs) (b := a.block) (o := a.off) (fun j hj => hI.stb _ _ (hst j hj)) hc hp
      rw [← addr_eta a hs] at hu
      exact ⟨u, by simp only [execOp, Instr.loadAt, Instr.sureAddr, hv, Sem.run_bind, Sem.run_pure, Result.andThen_ok, hu], hR⟩

theorem ptr_of {M : Mem} {k off : Nat} {v : Value} (h : R M (.ptr k off) v) : v = .pointer (some ⟨M.β k, off, none⟩) := by cases h; rfl

theorem aok_load_ptr {t : TypeId} {ti : TI} (h : TIok P t ti) {x : Operand} {k off : Nat} {e : TypeId} {cs : List AV} {r : AV} (hx : ρA x = .ptr k off) (hp : pick ti.agg ti.size (cs.drop off) = some r) :
    AOk P ⟨d, .load t x, ty, pos, aft, gd⟩ ρA [(k, some (.box e cs))] r [] :=
  aok_value (by intro _ _ h; cases h) fun M ρ hI hr _ _ hn => by
    have h1 := hr x (by simp [Op.operands])
    rw [hx] at h1
    have hv := ptr_of h1
    obtain ⟨vs, g1, g2, g3, g4, _⟩ := hI.box k e cs hn.1
    have cell : ∀ j, M.w.cell? ⟨M.β k, j, none⟩ = vs[j]? := fun j => cell_row g1
    obtain ⟨u, hu, hR⟩ := run_load_pick (M := M) h (cs := cs.drop off) (b := M.β k) (o := off)
      (fun j hj => by
        have hj' : off + j < vs.size := by simp at hj; omega
        exact ⟨vs[off + j], by rw [cell]; simp [hj'], g3 (off + j) _ (by simp [hj'])⟩)
      (fun j c v hj hv => g4 (off + j) c v (by rwa [List.getElem?_drop] at hj) (by rwa [cell] at hv)) hp
    exact ⟨u, by simp only [execOp, Instr.loadAt, Instr.sureAddr, hv, Sem.run_bind, Sem.run_pure, Result.andThen_ok, hu], hR⟩

/-! Stores. -/
def splice (cs : List AV) (off : Nat) (xs : List AV) : List AV := cs.take off ++ xs ++ cs.drop (off + xs.length)

theorem aok_store {t : TypeId} {ti : TI} (h : TIok P t ti) {x y : Operand} {k off : Nat} {e : TypeId} {cs xs : List AV} (hx : ρA x = .ptr k off) (hp : (ρA y).parts = some xs) (hl : xs.length = ti.size)
    (hb : off + xs.length ≤ cs.length) : AOk P ⟨d, .store t x y, ty, pos, aft, gd⟩ ρA [(k, some (.box e cs))] (.tup []) [(k, .box e (splice cs off xs))] :=
  ⟨(by intro _ _ h; cases h), fun M N ρ hI hr _ _ hn _ _ => by
    have h1 := hr x (by simp [Op.operands])
    have h2 := hr y (by simp [Op.operands])
    rw [hx] at h1
    have hv := ptr_of h1
    obtain ⟨p1, p2, p3⟩ := h2.leaf hp
    obtain ⟨us, g1, g2, g3, g4, g5⟩ := hI.box k e cs hn.1
    have hone : ∀ v ∈ (ρ y).cells.toList, v.oneCell' = true := fun v hv => by
      obtain ⟨i, hi, rfl⟩ := List.getElem_of_mem hv
      have := p2 i ((ρ y).cells.toList[i]) (by simp at hi; simp [hi])
      revert this
      cases (ρ y).cells.toList[i] <;> simp [VS.leaf, Value.oneCell']
    have hst := run_storeCells_at P (M.β k) off e (ρ y).cells.toList 0 us M.w g1 (by simp [p1]; omega) hone
    simp only [Nat.add_zero] at hst
    have hrun : (execOp ρ ⟨d, .store t x y, ty, pos, aft, gd⟩).run P M.w = .ok .skip (M.w.setRow (M.β k) (List.take off us.toList ++ (ρ y).cells.toList ++ List.drop (off + (ρ y).cells.toList.length) us.toList).toArray) := by
      simp only [execOp, Instr.storeAt, Instr.sureAddr, hv, storeVar, Sem.run_bind, Sem.run_pure, Result.andThen_ok, h.run_sizeOf, p1, hl]
      simp only [ne_eq, not_true, if_false, hst, Result.andThen_ok]
    rw [hrun]
    have hlen : (ρ y).cells.toList.length = xs.length := by simp [p1]
    refine ⟨M.setBox k e _ (splice cs off xs), rfl, Ext.setBox hI hn.1 _ _, hI.setBox hn.1 ?_ ?_ ?_, fun j _ => rfl, .tup [] #[] rfl (fun i c v hi => by simp at hi)⟩
    · simp [splice, p1]; omega
    · intro i v hi
      simp only [List.getElem?_toArray, List.append_assoc] at hi
      rcases Nat.lt_or_ge i off with ha | ha
      · rw [List.getElem?_append_left (by simp; omega), List.getElem?_take_of_lt ha] at hi
        exact g3 i v (by simpa using hi)
      · rw [List.getElem?_append_right (by simp; omega)] at hi
        simp only [List.length_take, Array.length_toList] at hi
        rw [Nat.min_eq_left (by omega)] at hi
        rcases Nat.lt_or_ge (i - off) xs.length with hb' | hb'
        · rw [List.getElem?_append_left (by omega)] at hi
          exact p2 _ v (by simpa using hi)
        · rw [List.getElem?_append_right (by omega), List.getElem?_drop] at hi
          exact g3 _ v (by simpa using hi)
    · intro i c v hc hi
      simp only [List.getElem?_toArray, List.append_assoc] at hi
      simp only [splice, List.append_assoc] at hc
      rcases Nat.lt_or_ge i off with ha | ha
      · rw [List.getElem?_append_left (by simp; omega), List.getElem?_take_of_lt ha] at hi
        rw [List.getElem?_append_left (by simp; omega), List.getElem?_take_of_lt ha] at hc
        exact g4 i c v hc (by simpa using hi)
      · rw [List.getElem?_append_right (by simp; omega)] at hi
        rw [List.getElem?_append_right (by simp; omega)] at hc
        simp only [List.length_take, Array.length_toList] at hi hc
        rw [Nat.min_eq_left (by omega)] at hi hc
        rcases Nat.lt_or_ge (i - off) xs.length with hb' | hb'
        · rw [List.getElem?_append_left (by omega)] at hi hc
          exact p3 _ c v hc (by simpa using hi)
        · rw [List.getElem?_append_right (by omega), List.getElem?_drop] at hi hc
          exact g4 _ c v hc (by simpa [p1] using hi)⟩

/-! New boxes. -/
theorem zero_R {M : Mem} {ti : TI} {t : TypeId} (h : TIok P t ti) {z : Value} (hz : z.cells.toList = ti.zero) :
    (∀ (i : Nat) (v : Value), z.cells[i]? = some v → leaf v) ∧ (∀ (i : Nat) (c : AV) (v : Value), (ti.zero.map constAV)[i]? = some c → z.cells[i]? = some v → R M c v) := by
  have hlf : ∀ v, v ∈ ti.zero → leaf v := fun v hv => leaf_of_B (List.all_eq_true.1 h.leafs v hv)
  have hget : ∀ i v, z.cells[i]? = some v → ti.zero[i]? = some v := fun i v hv => by rw [← hz, Array.getElem?_toList]; exact hv
  refine ⟨fun i v hv => hlf v (List.mem_of_getElem? (hget i v hv)), fun i c v hc hv => ?_⟩
  have hv' := hget i v hv
  rw [List.getElem?_map, hv'] at hc
  injection hc with hc; subst hc
  have hl := hlf v (List.mem_of_getElem? hv')
  unfold constAV
  split
  · exact .nil _ _ none (by intro h; cases h) (fun _ => rfl)
  · exact hl.elim
  · exact hl.elim
  · exact .val _ hl

theorem aok_alloc {t : TypeId} {ti : TI} (h : TIok P t ti) (k : Nat) : AOk P ⟨d, .alloc t, ty, pos, aft, gd⟩ ρA [(k, none)] (.ptr k 0) [(k, .box t (ti.zero.map constAV))] :=
  ⟨(by intro _ _ h; cases h), fun M N ρ hI _ _ _ hn _ _ => by
    obtain ⟨z, hz, hzc⟩ := h.run_zero M.w
    have hrun : (execOp ρ ⟨d, .alloc t, ty, pos, aft, gd⟩).run P M.w = .ok (.value (.pointer (some ⟨M.w.heap.size, 0, none⟩))) (M.w.alloc (.cells z.cells t)) := by
      simp only [execOp, Instr.alloc, Sem.run_bind, hz, Result.andThen_ok, newVar, newRow, run_newObj, Sem.run_pure]
      rfl
    rw [hrun]
    obtain ⟨z1, z2⟩ := zero_R (M := M) h hzc
    have hlen : (ti.zero.map constAV).length ≤ z.cells.size := by rw [List.length_map, ← hzc]; simp
    refine ⟨M.newBox k t z.cells (ti.zero.map constAV), rfl, Ext.newBox hI hn.1 _ _ _, hI.newBox hn.1 t hlen z1 z2, fun j _ => rfl, ?_⟩
    have hp := R.ptr (M := M.newBox k t z.cells (ti.zero.map constAV)) k 0 (by simp [Mem.newBox, upd1, isBox])
    simpa [Mem.newBox] using hp⟩

theorem aok_box {t : TypeId} {x : Operand} {xs : List AV} (hp : (ρA x).parts = some xs) (k : Nat) : AOk P ⟨d, .box t x, ty, pos, aft, gd⟩ ρA [(k, none)] (.ptr k 0) [(k, .box t xs)] :=
  ⟨(by intro _ _ h; cases h), fun M N ρ hI hr _ _ hn _ _ => by
    have h2 := hr x (by simp [Op.operands])
    obtain ⟨p1, p2, p3⟩ := h2.leaf hp
    have hrun : (execOp ρ ⟨d, .box t x, ty, pos, aft, gd⟩).run P M.w = .ok (.value (.pointer (some ⟨M.w.heap.size, 0, none⟩))) (M.w.alloc (.cells (ρ x).cells t)) := by
      simp only [execOp, Instr.box, Sem.run_bind, newVar, newRow, run_newObj, Result.andThen_ok, Sem.run_pure]
      rfl
    rw [hrun]
    refine ⟨M.newBox k t (ρ x).cells xs, rfl, Ext.newBox hI hn.1 _ _ _, hI.newBox hn.1 t (by omega) p2 p3, fun j _ => rfl, ?_⟩
    have hp' := R.ptr (M := M.newBox k t (ρ x).cells xs) k 0 (by simp [Mem.newBox, upd1, isBox])
    simpa [Mem.newBox] using hp'⟩

/-! Addresses. -/
theorem aok_field_ref {s : TypeId} {fs : Array Field} {f : Nat} {fd : Field} {ti : TI} (hs : P.underlying s = some (.struct fs)) (hf : fs[f]? = some fd) (ht : TIok P fd.type ti) (h0 : ti.size ≠ 0)
    {x : Operand} {cs : List AV} (hx : ρA x = .ref cs) : AOk P ⟨d, .fieldAddr s x f, ty, pos, aft, gd⟩ ρA [] (.ref (cs.drop fd.offset)) [] :=
  aok_value (by intro _ _ h; cases h) fun M ρ hI hr _ _ _ => by
    have h1 := hr x (by simp [Op.operands])
    rw [hx] at h1
    generalize hv : ρ x = v at h1
    cases h1 with
    | ref cs a hsp hst hc =>
      have hrun : (execOp ρ ⟨d, .fieldAddr s x f, ty, pos, aft, gd⟩).run P M.w = .ok (.value (.pointer (some ⟨a.block, a.off + fd.offset, none⟩))) M.w := by
        rw [addr_eta a hsp] at hv
        simp only [execOp, Instr.fieldAt, hv, Sem.run_bind, run_underlying hs, Result.andThen_ok, hf, Instr.sureAddr, Sem.run_pure, fieldPlace, ht.run_sizeOf, h0, if_false, add_at]
      refine ⟨_, hrun, .ref _ _ rfl (fun j hj => ?_) fun j c u hj hu => ?_⟩
      · show M.stb a.block (a.off + fd.offset + j)
        rw [Nat.add_assoc]; exact hst _ (by simp at hj; omega)
      · rw [List.getElem?_drop] at hj
        exact hc _ c u hj (by rw [← Nat.add_assoc]; exact hu)

theorem aok_field_ptr {s : TypeId} {fs : Array Field} {f : Nat} {fd : Field} {ti : TI} (hs : P.underlying s = some (.struct fs)) (hf : fs[f]? = some fd) (ht : TIok P fd.type ti) (h0 : ti.size ≠ 0)
    {x : Operand} {k off : Nat} (hx : ρA x = .ptr k off) : AOk P ⟨d, .fieldAddr s x f, ty, pos, aft, gd⟩ ρA [] (.ptr k (off + fd.offset)) [] :=
  aok_value (by intro _ _ h; cases h) fun M ρ hI hr _ _ _ => by
    have h1 := hr x (by simp [Op.operands])
    rw [hx] at h1
    generalize hv : ρ x = v at h1
    cases h1 with
    | ptr k off hb =>
      refine ⟨_, ?_, .ptr k (off + fd.offset) hb⟩
      simp only [execOp, Instr.fieldAt, hv, Sem.run_bind, run_underlying hs, Result.andThen_ok, hf, Instr.sureAddr, Sem.run_pure, fieldPlace, ht.run_sizeOf, h0, if_false, add_at]

theorem run_part_pick {M : Mem} {t : TypeId} {ti : TI} (h : TIok P t ti) {cs : List AV} {vs : Array Value} {off : Nat} {r : AV} (hl : cs.length = vs.size)
    (hlf : ∀ (i : Nat) (v : Value), vs[i]? = some v → leaf v) (hc : ∀ (i : Nat) (c : AV) (v : Value), cs[i]? = some c → vs[i]? = some v → R M c v)
    (hp : pick ti.agg ti.size (cs.drop off) = some r) : ∃ v, (part t vs off).run P M.w = .ok v M.w ∧ R M r v := by
  unfold pick at hp
  cases ha : ti.agg with
  | true =>
    rw [ha] at hp
    simp only [if_true] at hp
    split at hp
    · rename_i hle
      injection hp with hp; subst hp
      simp only [List.length_drop] at hle
      refine ⟨_, run_part_agg h ha vs off, .agg _ _ (by simp; omega) (fun i v hv => ?_) fun i c v hi hv => ?_⟩
      · rw [Array.getElem?_extract] at hv
        split at hv
        · exact hlf _ v hv
        · cases hv
      · have hi' : i < ti.size := by
          have := (List.getElem?_eq_some_iff.1 hi).1; simp at this; omega
        rw [List.getElem?_take_of_lt hi', List.getElem?_drop] at hi
        rw [Array.getElem?_extract] at hv
        split at hv
        · exact hc _ c v hi hv
        · cases hv
    · cases hp
  | false =>
    rw [ha] at hp
    simp only [Bool.false_eq_true, if_false, List.head?_drop] at hp
    have hlt : off < vs.size := by rw [← hl]; exact (List.getElem?_eq_some_iff.1 hp).1
    exact ⟨vs[off], run_part_one h ha (by simp [hlt]), hc off r _ hp (by simp [hlt])⟩

theorem aok_field {s : TypeId} {fs : Array Field} {f : Nat} {fd : Field} {ti : TI} (hs : P.underlying s = some (.struct fs)) (hf : fs[f]? = some fd) (ht : TIok P fd.type ti)
    {x : Operand} {cs : List AV} {r : AV} (hx : ρA x = .agg cs) (hp : pick ti.agg ti.size (cs.drop fd.offset) = some r) : AOk P ⟨d, .field s x f, ty, pos, aft, gd⟩ ρA [] r [] :=
  aok_value (by intro _ _ h; cases h) fun M ρ hI hr _ _ _ => by
    have h1 := hr x (by simp [Op.operands])
    rw [hx] at h1
    generalize hv : ρ x = v at h1
    cases h1 with
    | agg cs vs hl hlf hc =>
      obtain ⟨u, hu, hR⟩ := run_part_pick (M := M) ht hl hlf hc hp
      exact ⟨u, by simp only [execOp, Instr.field, hv, Sem.run_bind, run_underlying hs, Result.andThen_ok, hf, asAgg, Sem.run_pure, hu], hR⟩

/-! Elements. -/
theorem row_cells {sz n i : Nat} (h : i < n) : i * sz + sz ≤ n * sz := by
  calc i * sz + sz = (i + 1) * sz := by rw [Nat.succ_mul]
    _ ≤ n * sz := Nat.mul_le_mul_right _ h

theorem aok_idx_slice {t e : TypeId} {ti : TI} (ht : P.underlying t = some (.slice e)) (he : TIok P e ti) {x y : Operand} {els : List (List AV)} {md : Md} {k : IntKind} {z : Int} {row : List AV}
    (hx : ρA x = .sl ti.size els md) (hy : ρA y = .val (.int k z)) (h0 : 0 ≤ z) (hr : els[z.toNat]? = some row) : AOk P ⟨d, .indexAddr t x y, ty, pos, aft, gd⟩ ρA [] (.ref row) [] :=
  aok_value (by intro _ _ h; cases h) fun M ρ hI hρ _ _ _ => by
    have h1 := hρ x (by simp [Op.operands])
    have h2 := hρ y (by simp [Op.operands])
    rw [hx] at h1; rw [hy] at h2
    have e2 := val_of h2
    have hlt : z.toNat < els.length := (List.getElem?_eq_some_iff.1 hr).1
    generalize hv : ρ x = v at h1
    cases h1 with
    | nil sz md => simp at hlt
    | slice sz els md a cap hs hcap hsz hst hc hmd =>
      have hz : (0 ≤ z ∧ z < (els.length : Int)) := ⟨h0, by omega⟩
      have hrow := hsz row (List.mem_of_getElem? hr)
      have hrun : (execOp ρ ⟨d, .indexAddr t x y, ty, pos, aft, gd⟩).run P M.w = .ok (.value (.pointer (some ⟨a.block, a.off + z.toNat * ti.size, none⟩))) M.w := by
        rw [addr_eta a hs] at hv
        simp only [execOp, Instr.indexAt, hv, e2, asIntOf, Sem.run_bind, Sem.run_pure, run_underlying ht, Result.andThen_ok]
        simp only [hz, and_self, if_true, Sem.run_bind, he.run_sizeOf, Result.andThen_ok, Sem.run_pure, add_at]
      refine ⟨_, hrun, .ref _ _ rfl (fun j hj => ?_) fun j c u hj hu => ?_⟩
      · show M.stb a.block (a.off + z.toNat * ti.size + j)
        rw [Nat.add_assoc]
        have := row_cells (sz := ti.size) hlt
        exact hst _ (by omega)
      · exact hc _ j row c u hr hj (by rw [← Nat.add_assoc]; exact hu)

theorem bsl_form {M : Mem} {k off len : Nat} {fl : Bool} {v : Value} (h : R M (.bsl k off len fl) v) (hl : 0 < len) : ∃ cap, v = .slice (some ⟨M.β k, off, none⟩) len cap ∧ len ≤ cap ∧ isBox (M.st k) := by
  cases h with
  | bsl k off len cap fl hb hc hf => exact ⟨cap, rfl, hc, hb⟩
  | bsl0 => omega

theorem aok_idx_bsl {t e : TypeId} {ti : TI} (ht : P.underlying t = some (.slice e)) (he : TIok P e ti) {x y : Operand} {b off len : Nat} {fl : Bool} {k : IntKind} {z : Int}
    (hx : ρA x = .bsl b off len fl) (hy : ρA y = .val (.int k z)) (h0 : 0 ≤ z) (hz : z < (len : Int)) : AOk P ⟨d, .indexAddr t x y, ty, pos, aft, gd⟩ ρA [] (.ptr b (off + z.toNat * ti.size)) [] :=
  aok_value (by intro _ _ h; cases h) fun M ρ hI hρ _ _ _ => by
    have h1 := hρ x (by simp [Op.operands])
    have h2 := hρ y (by simp [Op.operands])
    rw [hx] at h1; rw [hy] at h2
    have e2 := val_of h2
    obtain ⟨cap, hv, hcap, hb⟩ := bsl_form h1 (by omega)
    have hz : (0 ≤ z ∧ z < (len : Int)) := ⟨h0, hz⟩
    refine ⟨_, ?_, .ptr b _ hb⟩
    simp only [execOp, Instr.indexAt, hv, e2, asIntOf, Sem.run_bind, Sem.run_pure, run_underlying ht, Result.andThen_ok]
    simp only [hz, and_self, if_true, Sem.run_bind, he.run_sizeOf, Result.andThen_ok, Sem.run_pure, add_at]

theorem aok_idx_ptr {t e : TypeId} {n : Nat} {ti : TI} (ht : P.underlying t = some (.array n e)) (he : TIok P e ti) {x y : Operand} {b off : Nat} {k : IntKind} {z : Int}
    (hx : ρA x = .ptr b off) (hy : ρA y = .val (.int k z)) (h0 : 0 ≤ z) (hz : z < (n : Int)) : AOk P ⟨d, .indexAddr t x y, ty, pos, aft, gd⟩ ρA [] (.ptr b (off + z.toNat * ti.size)) [] :=
  aok_value (by intro _ _ h; cases h) fun M ρ hI hρ _ _ _ => by
    have h1 := hρ x (by simp [Op.operands])
    have h2 := hρ y (by simp [Op.operands])
    rw [hx] at h1; rw [hy] at h2
    have e2 := val_of h2
    generalize hv : ρ x = v at h1
    cases h1 with
    | ptr b off hb =>
      have hz : (0 ≤ z ∧ z < (n : Int)) := ⟨h0, hz⟩
      refine ⟨_, ?_, .ptr b _ hb⟩
      simp only [execOp, Instr.indexAt, Instr.sureAddr, hv, e2, asIntOf, Sem.run_bind, Sem.run_pure, run_underlying ht, Result.andThen_ok]
      simp only [hz, and_self, if_true, Sem.run_bind, he.run_sizeOf, Result.andThen_ok, Sem.run_pure, add_at]

theorem aok_idx_ref {t e : TypeId} {n : Nat} {ti : TI} (ht : P.underlying t = some (.array n e)) (he : TIok P e ti) {x y : Operand} {cs : List AV} {k : IntKind} {z : Int}
    (hx : ρA x = .ref cs) (hy : ρA y = .val (.int k z)) (h0 : 0 ≤ z) (hz : z < (n : Int)) : AOk P ⟨d, .indexAddr t x y, ty, pos, aft, gd⟩ ρA [] (.ref (cs.drop (z.toNat * ti.size))) [] :=
  aok_value (by intro _ _ h; cases h) fun M ρ hI hρ _ _ _ => by
    have h1 := hρ x (by simp [Op.operands])
    have h2 := hρ y (by simp [Op.operands])
    rw [hx] at h1; rw [hy] at h2
    have e2 := val_of h2
    generalize hv : ρ x = v at h1
    cases h1 with
    | ref cs a hs hst hc =>
      have hz : (0 ≤ z ∧ z < (n : Int)) := ⟨h0, hz⟩
      have hrun : (execOp ρ ⟨d, .indexAddr t x y, ty, pos, aft, gd⟩).run P M.w = .ok (.value (.pointer (some ⟨a.block, a.off + z.toNat * ti.size, none⟩))) M.w := by
        rw [addr_eta a hs] at hv
        simp only [execOp, Instr.indexAt, Instr.sureAddr, hv, e2, asIntOf, Sem.run_bind, Sem.run_pure, run_underlying ht, Result.andThen_ok]
        simp only [hz, and_self, if_true, Sem.run_bind, he.run_sizeOf, Result.andThen_ok, Sem.run_pure, add_at]
      refine ⟨_, hrun, .ref _ _ rfl (fun j hj => ?_) fun j c u hj hu => ?_⟩
      · show M.stb a.block (a.off + z.toNat * ti.size + j)
        rw [Nat.add_assoc]; exact hst _ (by simp at hj; omega)
      · rw [List.getElem?_drop] at hj
        exact hc _ c u hj (by rw [← Nat.add_assoc]; exact hu)

theorem aok_index {t e : TypeId} {n : Nat} {ti : TI} (ht : P.underlying t = some (.array n e)) (he : TIok P e ti) {x y : Operand} {cs : List AV} {k : IntKind} {z : Int} {r : AV}
    (hx : ρA x = .agg cs) (hy : ρA y = .val (.int k z)) (h0 : 0 ≤ z) (hz : z < (n : Int)) (hp : pick ti.agg ti.size (cs.drop (z.toNat * ti.size)) = some r) : AOk P ⟨d, .index t x y, ty, pos, aft, gd⟩ ρA [] r [] :=
  aok_value (by intro _ _ h; cases h) fun M ρ hI hρ _ _ _ => by
    have h1 := hρ x (by simp [Op.operands])
    have h2 := hρ y (by simp [Op.operands])
    rw [hx] at h1; rw [hy] at h2
    have e2 := val_of h2
    generalize hv : ρ x = v at h1
    cases h1 with
    | agg cs vs hl hlf hc =>
      have hz : (0 ≤ z ∧ z < (n : Int)) := ⟨h0, hz⟩
      obtain ⟨u, hu, hR⟩ := run_part_pick (M := M) he hl hlf hc hp
      refine ⟨u, ?_, hR⟩
      simp only [execOp, Instr.index, hv, e2, asIntOf, Sem.run_bind, Sem.run_pure, run_underlying ht, Result.andThen_ok]
      simp only [hz, and_self, if_true, Sem.run_bind, he.run_sizeOf, Result.andThen_ok, hu]

/-! Lengths. -/
theorem aok_len {t e : TypeId} (ht : P.underlying t = some (.slice e)) {x : Operand} {sz : Nat} {els : List (List AV)} {md : Md} (hx : ρA x = .sl sz els md) :
    AOk P ⟨d, .call { callee := .builtin .len, args := #[x], argTypes := #[t] }, ty, pos, aft, gd⟩ ρA [] (.val (.int .i64 els.length)) [] :=
  aok_value (by intro _ _ h; cases h) fun M ρ hI hρ _ _ _ => by
    have h1 := hρ x (by simp [Op.operands, Call.operands])
    rw [hx] at h1
    obtain ⟨a, c, hv⟩ : ∃ a c, ρ x = .slice a els.length c := by
      generalize ρ x = v at h1
      cases h1
      · exact ⟨_, _, rfl⟩
      · exact ⟨_, _, rfl⟩
    exact ⟨_, by simp [execOp, resolve, invoke, builtin, Builtin.len_, run_underlying ht, hv, goInt], .val _ trivial⟩

theorem aok_len_bsl {t e : TypeId} (ht : P.underlying t = some (.slice e)) {x : Operand} {b off len : Nat} {fl : Bool} (hx : ρA x = .bsl b off len fl) :
    AOk P ⟨d, .call { callee := .builtin .len, args := #[x], argTypes := #[t] }, ty, pos, aft, gd⟩ ρA [] (.val (.int .i64 len)) [] :=
  aok_value (by intro _ _ h; cases h) fun M ρ hI hρ _ _ _ => by
    have h1 := hρ x (by simp [Op.operands, Call.operands])
    rw [hx] at h1
    obtain ⟨a, c, hv⟩ : ∃ a c, ρ x = .slice a len c := by
      generalize ρ x = v at h1
      cases h1
      · exact ⟨_, _, rfl⟩
      · exact ⟨_, _, rfl⟩
    exact ⟨_, by simp [execOp, resolve, invoke, builtin, Builtin.len_, run_underlying ht, hv, goInt], .val _ trivial⟩

theorem aok_len_str {t : TypeId} (ht : P.underlying t = some .string) {x : Operand} {s : ByteArray} (hx : ρA x = .val (.string s)) :
    AOk P ⟨d, .call { callee := .builtin .len, args := #[x], argTypes := #[t] }, ty, pos, aft, gd⟩ ρA [] (.val (.int .i64 s.size)) [] :=
  aok_value (by intro _ _ h; cases h) fun M ρ hI hρ _ _ _ => by
    have h1 := hρ x (by simp [Op.operands, Call.operands])
    rw [hx] at h1
    exact ⟨_, by simp [execOp, resolve, invoke, builtin, Builtin.len_, run_underlying ht, val_of h1, goInt], .val _ trivial⟩

theorem aok_cap {t e : TypeId} (ht : P.underlying t = some (.slice e)) {x : Operand} {sz : Nat} {els : List (List AV)} (hx : ρA x = .sl sz els .full) :
    AOk P ⟨d, .call { callee := .builtin .cap, args := #[x], argTypes := #[t] }, ty, pos, aft, gd⟩ ρA [] (.val (.int .i64 els.length)) [] :=
  aok_value (by intro _ _ h; cases h) fun M ρ hI hρ _ _ _ => by
    have h1 := hρ x (by simp [Op.operands, Call.operands])
    rw [hx] at h1
    obtain ⟨a, hv⟩ : ∃ a, ρ x = .slice a els.length els.length := by
      generalize ρ x = v at h1
      cases h1 with
      | nil => exact ⟨_, rfl⟩
      | slice sz els md a cap hs hcap hsz hst hc hmd => have : cap = els.length := hmd; subst this; exact ⟨_, rfl⟩
    exact ⟨_, by simp [execOp, resolve, invoke, builtin, Builtin.cap_, run_underlying ht, hv, goInt], .val _ trivial⟩

theorem aok_cap_nil {t e : TypeId} (ht : P.underlying t = some (.slice e)) {x : Operand} {sz : Nat} {els : List (List AV)} (hx : ρA x = .sl sz els .nil) :
    AOk P ⟨d, .call { callee := .builtin .cap, args := #[x], argTypes := #[t] }, ty, pos, aft, gd⟩ ρA [] (.val (.int .i64 0)) [] :=
  aok_value (by intro _ _ h; cases h) fun M ρ hI hρ _ _ _ => by
    have h1 := hρ x (by simp [Op.operands, Call.operands])
    rw [hx] at h1
    obtain ⟨a, hv⟩ : ∃ a, ρ x = .slice a 0 0 := by
      generalize ρ x = v at h1
      cases h1 with
      | nil => exact ⟨_, rfl⟩
      | slice sz els md a cap hs hcap hsz hst hc hmd => exact hmd.elim
    exact ⟨_, by simp [execOp, resolve, invoke, builtin, Builtin.cap_, run_underlying ht, hv, goInt], .val _ trivial⟩

theorem aok_min {x y : Operand} {t u : TypeId} {k j : IntKind} {a b : Int} (hx : ρA x = .val (.int k a)) (hy : ρA y = .val (.int j b)) :
    AOk P ⟨d, .call { callee := .builtin .min, args := #[x, y], argTypes := #[t, u] }, ty, pos, aft, gd⟩ ρA [] (.val (.int k (if b < a then b else a))) [] :=
  aok_value (by intro _ _ h; cases h) fun M ρ hI hρ _ _ _ => by
    have h1 := hρ x (by simp [Op.operands, Call.operands])
    have h2 := hρ y (by simp [Op.operands, Call.operands])
    rw [hx] at h1; rw [hy] at h2
    refine ⟨_, ?_, .val _ trivial⟩
    simp [execOp, resolve, invoke, builtin, Builtin.min_, Builtin.min2, val_of h1, val_of h2]

/-! Calls. -/
theorem run_callFunc {f : FuncId} {fn : Func} (hf : P.funcs[f]? = some fn) (hb : fn.body.isSome = true) (hn : (fn.name == "runtime.NumGoroutine") = false) (args : Array Value) (w : World) : (callFunc f args).run P w = .ok (.enter f args) w := by
  have : fn.body.isNone = false := by cases h : fn.body <;> simp_all
  simp only [callFunc, Sem.run_bind, run_program, Result.andThen_ok, hf, hn, this, Bool.false_eq_true, if_false]
  rfl

theorem aok_call {x : Operand} {f : FuncId} {caps : List AV} {fn : Func} {args : Array Operand} {ats : Array TypeId} {needs : List (Nat × Option Res)} {r : AV} {gives : List (Nat × Res)}
    (hf : P.funcs[f]? = some fn) (hb : fn.body.isSome = true) (hn : (fn.name == "runtime.NumGoroutine") = false)
    (hx : ρA x = .fn (.func f) caps) (h : ACall P f (args.toList.map ρA ++ caps) needs r gives) : AOk P ⟨d, .call { callee := .value x, args := args, argTypes := ats }, ty, pos, aft, gd⟩ ρA needs r gives :=
  ⟨(by intro _ _ h; cases h), fun M N ρ hI hρ _ _ hneeds hN hu => by
    have h1 := hρ x (by simp [Op.operands, Call.operands])
    rw [hx] at h1
    generalize hv : ρ x = v at h1
    cases h1 with
    | fn f' caps vs hl hc =>
      have hrun : (execOp ρ ⟨d, .call { callee := .value x, args := args, argTypes := ats }, ty, pos, aft, gd⟩).run P M.w = .ok (.enter f (args.map ρ ++ vs)) M.w := by
        simp [execOp, resolve, Deferred.ofValue, hv, invoke, run_callFunc hf hb hn]
      rw [hrun]
      refine h M N (args.map ρ ++ vs) hI ⟨by simp [hl], fun i c u hi hu' => ?_⟩ hneeds hN hu
      rcases Nat.lt_or_ge i args.size with ha | ha
      · rw [List.getElem?_append_left (by simpa using ha)] at hi
        rw [Array.getElem?_append_left (by simpa using ha)] at hu'
        simp only [List.getElem?_map, Array.getElem?_toList] at hi
        simp only [Array.getElem?_map] at hu'
        rw [Array.getElem?_eq_getElem ha] at hi hu'
        injection hi with hi; injection hu' with hu'
        subst hi; subst hu'
        exact hρ _ (by simp [Op.operands, Call.operands])
      · rw [List.getElem?_append_right (by simpa using ha)] at hi
        rw [Array.getElem?_append_right (by simpa using ha)] at hu'
        simp only [List.length_map, Array.length_toList, Array.size_map] at hi hu'
        exact hc _ c u hi hu'⟩
end
end Go.VS
