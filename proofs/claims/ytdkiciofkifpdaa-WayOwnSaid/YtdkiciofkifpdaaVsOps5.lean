/-
  The value-semantics layer, part 9: copy; bytes and strings; a box that is written no more; what is forgotten; results that lie in boxes.
-/
import Derived.Test.YtdkiciofkifpdaaVsOps4
namespace Go.VS
set_option linter.unusedVariables false
set_option linter.unusedSimpArgs false
open Go Go.RowKit

section
variable {P : Program} {d : Option Tmp} {ty : TypeId} {pos : String} {aft : Array Edge} {gd : Option (Nat × Bool)} {ρA : Operand → AV}

/-! Bytes and strings. -/
def bytesAV (l : List UInt8) : List (List AV) := l.map fun b => [.val (.int .u8 b.toNat)]

theorem aok_to_string {s t e : TypeId} (hs : P.underlying s = some (.slice e)) (he : P.underlying e = some (.int .u8)) (ht : P.underlying t = some .string) {x : Operand} {l : List UInt8} {md : Md}
    (hx : ρA x = .sl 1 (bytesAV l) md) : AOk P ⟨d, .convert s t x, ty, pos, aft, gd⟩ ρA [] (.val (.string ⟨l.toArray⟩)) [] :=
  aok_value (by intro _ _ h; cases h) fun M ρ hI hρ _ _ _ => by
    have h1 := hρ x (by simp [Op.operands])
    rw [hx] at h1
    generalize hv : ρ x = v at h1
    refine ⟨_, ?_, .val _ trivial⟩
    have key : (convert s t v).run P M.w = .ok (.string ⟨l.toArray⟩) M.w := by
      generalize he' : bytesAV l = els at h1
      cases h1 with
      | nil sz md a =>
        have : l = [] := by cases l with | nil => rfl | cons a l => simp [bytesAV] at he'
        subst this
        cases a with
        | none =>
          rw [run_convert_bytes_string M.w s t e none 0 0 hs he ht]
          rfl
        | some a => exact run_convert_bytes_back M.w s t e a 0 [] hs he ht fun j hj => (Nat.not_lt_zero j hj).elim
      | slice sz els md a cap hsp hcap hsz hst hc hmd =>
        have hl : els.length = l.length := by rw [← he']; simp [bytesAV]
        rw [hl]
        refine run_convert_bytes_back M.w s t e a cap l hs he ht fun j hj => ?_
        have hget : els[j]? = some [.val (.int .u8 (l[j].toNat : Int))] := by rw [← he']; simp [bytesAV, hj]
        obtain ⟨u, hu, _⟩ := hI.stb _ _ (hst (j * 1 + 0) (by rw [hl]; omega))
        have hR := hc j 0 _ _ u hget rfl (by simpa using hu)
        rw [addr_eta a hsp, add_at]
        rw [val_of hR] at hu
        simpa using hu
    simp only [execOp, hv, Sem.run_bind, key, Result.andThen_ok]
    rfl

/-! A slice of an array that lies in stable memory. -/
theorem R.chunks {M : Mem} {cs : List AV} {a : Addr} (h : R M (.ref cs) (.pointer (some a))) {n sz : Nat} (hn : n * sz ≤ cs.length) : R M (.sl sz (chunk sz n cs) .sh) (.slice (some a) n n) := by
  cases h with
  | ref cs a hs hst hc =>
    have hlen := chunk_length sz n cs
    have le : ∀ i, i < n → i * sz + sz ≤ cs.length := fun i hi => by
      have : (i + 1) * sz ≤ n * sz := Nat.mul_le_mul_right _ hi
      rw [Nat.succ_mul] at this; omega
    have row_of : ∀ i row, (chunk sz n cs)[i]? = some row → i < n ∧ row = (cs.drop (i * sz)).take sz := fun i row hi => by
      have hin : i < n := by
        have := (List.getElem?_eq_some_iff.1 hi).1; omega
      rw [chunk_get sz n cs i hin] at hi
      injection hi with hi
      exact ⟨hin, hi.symm⟩
    have key := R.slice (M := M) sz (chunk sz n cs) .sh a n hs (by omega)
      (fun row hr => by
        obtain ⟨i, hi⟩ := List.getElem?_of_mem hr
        obtain ⟨h1, rfl⟩ := row_of i row hi
        have := le i h1
        simp; omega)
      (fun o ho => hst o (by rw [hlen] at ho; omega))
      (fun i j row c v hi hj hv => by
        obtain ⟨h1, rfl⟩ := row_of i row hi
        have hjs : j < sz := by
          have := (List.getElem?_eq_some_iff.1 hj).1
          simp at this; omega
        rw [List.getElem?_take_of_lt hjs, List.getElem?_drop] at hj
        exact hc (i * sz + j) c v hj hv)
      trivial
    rw [hlen] at key
    exact key

theorem aok_slice_ref {P : Program} {d : Option Tmp} {ty : TypeId} {pos : String} {aft : Array Edge} {gd : Option (Nat × Bool)} {ρA : Operand → AV} {t e : TypeId} {n : Nat} {ti : TI} (ht : P.underlying t = some (.array n e)) (he : TIok P e ti) {x : Operand} {lo hi : Option Operand} {cs : List AV} {l h : Nat}
    (hx : ρA x = .ref cs) (hn : n * ti.size ≤ cs.length) (h1 : loOf ρA lo = some l) (h2 : hiOf ρA n hi = some h) (hlh : l ≤ h) (hhc : h ≤ n) :
    AOk P ⟨d, .slice t x lo hi none, ty, pos, aft, gd⟩ ρA [] (.sl ti.size (((chunk ti.size n cs).drop l).take (h - l)) .sh) [] :=
  aok_value (by intro _ _ h; cases h) fun M ρ hI hρ _ _ _ => by
    have hm := mem_slice_ops (x := x) (lo := lo) (hi := hi) (mx := none) (t := t)
    have hr := hρ x hm.2.2.1
    rw [hx] at hr
    generalize hv : ρ x = v at hr
    obtain ⟨a, rfl⟩ : ∃ a, v = .pointer (some a) := by cases hr; exact ⟨_, rfl⟩
    have hs : a.spot = none := by cases hr; assumption
    have hR := hr.chunks hn
    have hlen := chunk_length ti.size n cs
    have hR' : R M (.sl ti.size (chunk ti.size n cs) .sh) (.slice (some a) (chunk ti.size n cs).length n) := by rw [hlen]; exact hR
    refine ⟨.slice (some (if n = l then a else a.add (l * ti.size))) (h - l) (n - l), ?_, hR'.sub (by omega) (by omega) (.inl rfl) ?_ ?_⟩
    · simp only [execOp, Instr.sliceAt, hv, Sem.run_bind, run_underlying ht, Result.andThen_ok, Instr.sureAddr, Sem.run_pure, Option.map_none,
        run_bounds (P := P) false n n l h (fun y hy => hρ y (hm.1 y hy)) (fun y hy => hρ y (hm.2.1 y hy)) h1 h2 hlh hhc, he.run_sizeOf]
    · by_cases hcl : n = l
      · exact .inl (by omega)
      · right
        rw [if_neg hcl, addr_eta a hs, add_at]
    · by_cases hcl : n = l
      · rw [if_pos hcl]; exact hs
      · rw [if_neg hcl, addr_eta a hs, add_at]

/-- A new block with the mark of one that a string shares: nobody will write it. -/
def Mem.newMarked (M : Mem) (e : TypeId) (vs : Array Value) (fz : Nat × Nat) (n : Nat) : Mem :=
  { M with w := M.w.alloc (.cells vs e fz), stb := fun b o => M.stb b o ∨ (b = M.w.heap.size ∧ o < n) }

theorem Ext.newMarked {M : Mem} (hI : Inv M) (e : TypeId) (vs : Array Value) (fz : Nat × Nat) (n : Nat) : Ext M (M.newMarked e vs fz n) :=
  ⟨rfl, fun _ _ h => .inl h, fun _ _ h => cell_alloc_lt _ _ _ _ (hI.lt_stb h), fun _ h => ⟨h, rfl⟩, fun _ _ _ m h => ⟨m, h, Nat.le_refl _, fun _ => ⟨rfl, rfl⟩⟩, fun _ _ _ m cs h => .inl ⟨m, cs, h, Nat.le_refl _, fun _ => ⟨rfl, rfl⟩⟩⟩

theorem Inv.newMarked {M : Mem} (hI : Inv M) (e : TypeId) {vs : Array Value} (fz : Nat × Nat) {n : Nat} (hn : n ≤ vs.size) (hf : ∀ (i : Nat) (v : Value), vs[i]? = some v → leaf v) : Inv (M.newMarked e vs fz n) := by
  have ex := Ext.newMarked hI e vs fz n
  refine ⟨hI.below.alloc hI.below.size _, hI.fin, hI.new, hI.inj, fun b o hs => ?_, fun j t ds hj => ?_, fun j t sz m c hj hcap => ?_, fun j b o fr hj => pin_new hI hj ex rfl, hI.pinj, fun j t sz m cs hj => hI.vec_keep ex hj rfl rfl (fun ho => heap_old _ _ _ (hI.lt_owns ho)) (fun ho o h => h.elim id fun h => by have := hI.lt_owns ho; omega)⟩
  · rcases hs with hs | ⟨rfl, ho⟩
    · obtain ⟨v, hv, hl⟩ := hI.stb b o hs
      exact ⟨v, (ex.cell b o hs).trans hv, hl⟩
    · have ho' : o < vs.size := by omega
      exact ⟨vs[o], by show (M.w.alloc _).cell? _ = _; rw [cell_row (heap_new _ _)]; simp [ho'], hf o _ (by simp [ho'])⟩
  · obtain ⟨us, h1, h2, h3, h4, h5⟩ := hI.box j t ds hj
    refine ⟨us, (heap_old _ _ _ (lt_of_heap h1)).trans h1, h2, h3, fun i c v hi hv => (h4 i c v hi hv).ext ex, fun o ho => ?_⟩
    rcases ho with ho | ⟨hb, _⟩
    · exact h5 o ho
    · have := lt_of_heap h1
      have hb' : M.β j = M.w.heap.size := hb
      omega
  · obtain ⟨us, h1, h2, h3, h4, h5⟩ := hI.row j t sz m c hj hcap
    refine ⟨us, (heap_old _ _ _ (lt_of_heap h1)).trans h1, h2, h3, fun o ho hs => ?_, fun o ho => .inl (h5 o ho)⟩
    rcases hs with hs | ⟨hb, _⟩
    · exact h4 o ho hs
    · have := lt_of_heap h1
      have hb' : M.β j = M.w.heap.size := hb
      omega

theorem bytesRow_get (s : ByteArray) (cap : Nat) (i : Nat) (v : Value) (h : (bytesRow s cap)[i]? = some v) : leaf v := by
  unfold bytesRow at h
  rw [Array.getElem?_append] at h
  split at h
  · simp only [Array.getElem?_map] at h
    cases hr : s.data[i]? with
    | none => rw [hr] at h; cases h
    | some b => rw [hr] at h; injection h with h; subst h; trivial
  · have := Array.mem_of_getElem? h
    rw [(Array.mem_replicate.1 this).2]; trivial

theorem aok_to_bytes {s t e : TypeId} (hs : P.underlying s = some .string) (he : P.underlying e = some (.int .u8)) (ht : P.underlying t = some (.slice e)) {x : Operand} {b : ByteArray} (hx : ρA x = .val (.string b)) :
    AOk P ⟨d, .convert s t x, ty, pos, aft, gd⟩ ρA [] (.sl 1 (bytesAV b.data.toList) .sh) [] :=
  ⟨(by intro _ _ h; cases h), fun M N ρ hI hρ _ _ _ _ _ => by
    have h1 := hρ x (by simp [Op.operands])
    rw [hx] at h1
    have hrun := run_bytes_of_string (P := P) M.w s t e b hs ht he
    have hcap := VS.grownCap_ge M.w b.size 0 e
    generalize grownCap M.w b.size 0 e = cap at hrun hcap
    simp only [execOp, val_of h1, Sem.run_bind, hrun, Result.andThen_ok]
    have e0 := Ext.withW (M := M) (w' := M.w.drew) rfl
    have hI0 : Inv (M.withW M.w.drew) := hI.withW rfl rfl rfl rfl
    have hsz : b.size ≤ (bytesRow b cap).size := by simp [bytesRow]
    refine ⟨(M.withW M.w.drew).newMarked e (bytesRow b cap) _ b.size, rfl, e0.trans (Ext.newMarked hI0 e _ _ _), hI0.newMarked e _ hsz (fun i v h => bytesRow_get b cap i v h), fun _ _ => rfl, ?_⟩
    have hl : (bytesAV b.data.toList).length = b.size := by simp [bytesAV]
    have key := R.slice (M := (M.withW M.w.drew).newMarked e (bytesRow b cap) ((bytesRow b cap).size, (bytesRow b cap).size + 1) b.size) 1 (bytesAV b.data.toList) .sh ⟨M.w.heap.size, 0, none⟩ cap rfl (by omega)
      (fun row hr => by obtain ⟨_, _, rfl⟩ := List.mem_map.1 hr; rfl)
      (fun o ho => .inr ⟨rfl, by show 0 + o < b.size; rw [hl] at ho; omega⟩)
      (fun i j row c v hi hj hv => by
        have hin : i < b.size := by have := (List.getElem?_eq_some_iff.1 hi).1; omega
        have hin' : i < b.data.size := hin
        have hrow : row = [.val (.int .u8 (b.data[i].toNat : Int))] := by
          simp only [bytesAV, List.getElem?_map, Array.getElem?_toList, Array.getElem?_eq_getElem hin', Option.map_some, Option.some.injEq] at hi
          exact hi.symm
        subst hrow
        have hj0 : j = 0 := by have := (List.getElem?_eq_some_iff.1 hj).1; simpa using this
        subst hj0
        injection hj with hj; subst hj
        have h2 : ((M.withW M.w.drew).newMarked e (bytesRow b cap) ((bytesRow b cap).size, (bytesRow b cap).size + 1) b.size).w.cell? ⟨M.w.heap.size, 0 + (i * 1 + 0), none⟩ = (bytesRow b cap)[i]? := by
          rw [show 0 + (i * 1 + 0) = i from by omega]; exact cell_row (heap_new _ _)
        rw [h2] at hv
        unfold bytesRow at hv
        rw [Array.getElem?_append_left (by simpa using hin')] at hv
        simp only [Array.getElem?_map, Array.getElem?_eq_getElem hin', Option.map_some, Option.some.injEq] at hv
        subst hv
        exact .val _ trivial)
      trivial
    rw [hl] at key
    exact key⟩

/-! copy. -/
theorem aok_copy {t u e : TypeId} {te : TI} (ht : P.underlying t = some (.slice e)) (he : TIok P e te) {x y : Operand} {k off len : Nat} {els : List (List AV)} {md : Md} {eb : TypeId} {cs : List AV}
    {fl : Bool} (hx : ρA x = .bsl k off len fl) (hy : ρA y = .sl te.size els md) (hb : off + min els.length len * te.size ≤ cs.length) :
    AOk P ⟨d, .call { callee := .builtin .copy, args := #[x, y], argTypes := #[t, u] }, ty, pos, aft, gd⟩ ρA [(k, some (.box eb cs))] (.val (.int .i64 (min els.length len : Nat))) [(k, .box eb (splice cs off (els.take len).flatten))] :=
  ⟨(by intro _ _ h; cases h), fun M N ρ hI hρ _ _ hn _ _ => by
    have h1 := hρ x (by simp [Op.operands, Call.operands])
    have h2 := hρ y (by simp [Op.operands, Call.operands])
    rw [hx] at h1; rw [hy] at h2
    obtain ⟨us, g1, g2, g3, g4, g5⟩ := hI.box k eb cs hn.1
    -- the cells that are copied
    obtain ⟨m, hm⟩ : ∃ m, m = min els.length len := ⟨_, rfl⟩
    obtain ⟨a2, c2, hv2, news, hnl, hnews, hlf, hnR, hszs⟩ : ∃ a c, ρ y = .slice a els.length c ∧ ∃ news : List Value, news.length = m * te.size ∧
        (Builtin.firstCells te.size m (.slice a els.length c)).run P M.w = .ok news.toArray M.w ∧ (∀ v, v ∈ news → leaf v) ∧
        (∀ (j : Nat) (c : AV) (v : Value), (els.take len).flatten[j]? = some c → news[j]? = some v → R M c v) ∧ (∀ row, row ∈ els → row.length = te.size) := by
      generalize hv : ρ y = v at h2
      cases h2 with
      | nil sz md =>
        have : m = 0 := by simp at hm; exact hm
        subst this
        exact ⟨_, 0, rfl, [], by simp, run_firstCells_zero _ _ _ _ _, fun v h => by simp at h, fun j c v h => by simp at h, fun row h => by cases h⟩
      | slice sz els md a cap hs hcap hsz hst hc hmd =>
        obtain ⟨vs, q1, q2, q3⟩ := slice_cells hI (R.slice (M := M) _ els md a cap hs hcap hsz hst hc hmd)
        have hle : m * te.size ≤ vs.length := by rw [q1, hm]; exact Nat.mul_le_mul_right _ (Nat.min_le_left _ _)
        refine ⟨some a, cap, rfl, vs.take (m * te.size), by simp [hle], run_firstCells_some _ _ _ _ _ _ _ (by simp [hle]) (fun j v hj => ?_), fun v hv => ?_, fun j c v hj hv => ?_, hsz⟩
        · have hj' : j < m * te.size := by have := (List.getElem?_eq_some_iff.1 hj).1; simp at this; omega
          rw [List.getElem?_take_of_lt hj'] at hj
          exact (q2 j v hj).1
        · obtain ⟨i, hi, rfl⟩ := List.getElem_of_mem (List.mem_of_mem_take hv)
          exact (q2 i _ (List.getElem?_eq_getElem hi)).2
        · have hj' : j < m * te.size := by have := (List.getElem?_eq_some_iff.1 hv).1; simp at this; omega
          rw [List.getElem?_take_of_lt hj'] at hv
          refine q3 j c v ?_ hv
          rw [← List.take_append_drop len els, List.flatten_append, List.getElem?_append_left (List.getElem?_eq_some_iff.1 hj).1]
          exact hj
    have hfl : (els.take len).flatten.length = m * te.size := by
      rw [flat_length (fun row hr => hszs row (List.mem_of_mem_take hr)), List.length_take, Nat.min_comm, hm]
    have hone : ∀ v ∈ news, v.oneCell' = true := fun v hv => one_of_leaf (hlf v hv)
    obtain ⟨a1, c1, hv1, hform⟩ : ∃ a c, ρ x = .slice a len c ∧ (0 < len → a = some ⟨M.β k, off, none⟩) := by
      generalize ρ x = v at h1
      cases h1 with
      | bsl k off len cap fl hb hc hf => exact ⟨_, _, rfl, fun _ => rfl⟩
      | bsl0 k off a cap => exact ⟨_, _, rfl, fun h => absurd h (Nat.lt_irrefl 0)⟩
    rw [← hm] at hb ⊢
    have hfit : off + 0 + news.length ≤ us.size := by rw [hnl]; omega
    have hst := run_storeCells_at P (M.β k) off eb news 0 us M.w g1 hfit hone
    simp only [Nat.add_zero] at hst
    have hcopy : ∃ w', (Builtin.copy_ #[t, u] ty #[ρ x, ρ y]).run P M.w = .ok (goInt m) w' ∧ (w' = M.w.setRow (M.β k) (List.take off us.toList ++ news ++ List.drop (off + news.length) us.toList).toArray ∨ (w' = M.w ∧ news = [])) := by
      rcases Nat.eq_zero_or_pos len with h0 | h0
      · have hm0 : m = 0 := by rw [hm, h0]; simp
        have hn0 : news = [] := List.eq_nil_of_length_eq_zero (by rw [hnl, hm0]; simp)
        subst hn0
        refine ⟨M.w, ?_, .inr ⟨rfl, rfl⟩⟩
        have hmn : els.length.min len = m := hm.symm
        cases a1 with
        | none => simp [Builtin.copy_, hv1, hv2, run_underlying ht, Builtin.lenOf, he.run_sizeOf, hmn, hnews]
        | some a => simp [Builtin.copy_, hv1, hv2, run_underlying ht, Builtin.lenOf, he.run_sizeOf, hmn, hnews, storeCells]
      · have ha := hform h0
        subst ha
        refine ⟨_, ?_, .inl rfl⟩
        have hmn : els.length.min len = m := hm.symm
        simp [Builtin.copy_, hv1, hv2, run_underlying ht, Builtin.lenOf, he.run_sizeOf, hmn, hnews, hst]
    obtain ⟨w', hrun, hw'⟩ := hcopy
    have hexec : (execOp ρ ⟨d, .call { callee := .builtin .copy, args := #[x, y], argTypes := #[t, u] }, ty, pos, aft, gd⟩).run P M.w = .ok (.value (goInt m)) w' := by
      simp [execOp, resolve, invoke, builtin, hrun]
    rw [hexec]
    have hsl : off + (els.take len).flatten.length ≤ cs.length := by rw [hfl]; exact hb
    rcases hw' with rfl | ⟨rfl, hn0⟩
    · have hget : ∀ i, (List.take off us.toList ++ news ++ List.drop (off + news.length) us.toList).toArray[i]? = if off ≤ i ∧ i < off + news.length then news[i - off]? else us[i]? := fun i => by
        rw [List.getElem?_toArray, List.append_assoc]
        by_cases q1 : i < off
        · rw [List.getElem?_append_left (by simp; omega), List.getElem?_take_of_lt q1, if_neg (by omega), Array.getElem?_toList]
        · rw [List.getElem?_append_right (by simp; omega)]
          simp only [List.length_take, Array.length_toList]
          rw [Nat.min_eq_left (by omega)]
          by_cases q2 : i < off + news.length
          · rw [List.getElem?_append_left (by omega), if_pos (by omega)]
          · rw [List.getElem?_append_right (by omega), List.getElem?_drop, if_neg (by omega), Array.getElem?_toList]
            congr 1; omega
      refine ⟨M.setBox k eb _ (splice cs off (els.take len).flatten), rfl, Ext.setBox hI hn.1 _ _, hI.setBox hn.1 ?_ (fun i v hi => ?_) (fun i c v hc hi => ?_), fun j _ => rfl, .val _ trivial⟩
      · rw [splice_length hsl]; simp; omega
      · rw [hget] at hi
        split at hi
        · exact hlf v (List.mem_of_getElem? hi)
        · exact g3 i v hi
      · rw [hget] at hi
        rw [splice_get hsl, hfl] at hc
        split at hi
        · rename_i hin
          rw [if_pos (by omega)] at hc
          exact hnR _ c v hc hi
        · rename_i hin
          rw [if_neg (by omega)] at hc
          exact g4 i c v hc hi
    · have hz : (els.take len).flatten = [] := List.eq_nil_of_length_eq_zero (by rw [hfl, ← hnl, hn0]; rfl)
      have hsp : splice cs off (els.take len).flatten = cs := by rw [hz]; simp [splice]
      rw [hsp]
      refine ⟨M, rfl, Ext.refl M, hI, fun j _ => ?_, .val _ trivial⟩
      simp only [upd, upd1]
      split
      · rename_i hj; subst hj; exact hn.1
      · rfl⟩
end

/-! What is forgotten of a state; a box that is written no more. -/
/-- How a slice may be grown, by whether it is known to be full. -/
def Md.of : Bool → Md
  | true => .full
  | false => .sh
theorem mo_t : Md.of true = .full := rfl
theorem mo_f : Md.of false = .sh := rfl
/-- What a value of a box that is written no more is seen as. -/
def AV.frz (k : Nat) (sz : Nat) (cs : List AV) : AV → AV
  | .ptr j off => if j = k then .ref (cs.drop off) else .ptr j off
  | .bsl j off len fl => if j = k then .sl sz (chunk sz len (cs.drop off)) (.of fl) else .bsl j off len fl
  | x => x

theorem R.frz {M : Mem} (hI : Inv M) {k : Nat} {e : TypeId} {cs : List AV} (hk : M.st k = some (.box e cs)) {sz : Nat} {x : AV} {v : Value} (h : R M x v)
    (hfit : ∀ off len fl, x = .bsl k off len fl → 0 < len ∧ off + len * sz ≤ cs.length) : R (M.freeze k cs.length) (x.frz k sz cs) v := by
  have ex := Ext.freeze M (n := cs.length) hk
  obtain ⟨vs, g1, g2, g3, g4, g5⟩ := hI.box k e cs hk
  have hst : ∀ o, o < cs.length → (M.freeze k cs.length).stb (M.β k) o := fun o ho => .inr ⟨rfl, ho⟩
  have hcell : ∀ o c v, cs[o]? = some c → (M.freeze k cs.length).w.cell? ⟨M.β k, o, none⟩ = some v → R (M.freeze k cs.length) c v := fun o c v hc hv => by
    have hv' : M.w.cell? ⟨M.β k, o, none⟩ = some v := hv
    rw [cell_row g1] at hv'
    exact (g4 o c v hc hv').ext ex
  cases h with
  | ptr j off hb =>
    simp only [AV.frz]
    split
    · rename_i hj; subst hj
      refine .ref _ _ rfl (fun i hi => hst _ (by simp only [List.length_drop] at hi; show off + i < cs.length; omega)) fun i c v hi hv => ?_
      rw [List.getElem?_drop] at hi
      exact hcell _ c v hi hv
    · exact (R.ptr j off hb).ext ex
  | bsl j off len cap fl hb hc hf =>
    simp only [AV.frz]
    split
    · rename_i hj; subst hj
      obtain ⟨_, hfit'⟩ := hfit off len fl rfl
      have hcl := chunk_length sz len (cs.drop off)
      have key := R.slice (M := M.freeze j cs.length) sz (chunk sz len (cs.drop off)) (.of fl) ⟨M.β j, off, none⟩ cap rfl (by omega)
        (fun row hr => by
          obtain ⟨i, hi, rfl⟩ := List.getElem_of_mem hr
          have h1 := chunk_get sz len (cs.drop off) i (by omega)
          rw [List.getElem?_eq_getElem hi] at h1
          injection h1 with h1
          rw [h1]
          have := row_cells (sz := sz) (show i < len by omega)
          simp; omega)
        (fun o ho => hst _ (by rw [hcl] at ho; show off + o < cs.length; omega))
        (fun i q row c v hi hq hv => by
          have hin : i < len := by have := (List.getElem?_eq_some_iff.1 hi).1; omega
          rw [chunk_get sz len _ i hin] at hi
          injection hi with hi; subst hi
          have hq' : q < sz := by have := (List.getElem?_eq_some_iff.1 hq).1; simp at this; omega
          rw [List.getElem?_take_of_lt hq', List.getElem?_drop, List.getElem?_drop] at hq
          exact hcell _ c v hq hv)
        (by
          cases fl with
          | true => show cap = _; rw [hcl]; exact hf rfl
          | false => trivial)
      rw [hcl] at key
      exact key
    · exact (R.bsl j off len cap fl hb hc hf).ext ex
  | bsl0 j off a cap =>
    simp only [AV.frz]
    split
    · rename_i hj; subst hj
      exact absurd (hfit off 0 false rfl).1 (Nat.lt_irrefl 0)
    · exact .bsl0 j off a cap
  | top v => exact .top v
  | val v h => exact .val v h
  | agg cs vs hl hf hc => exact (R.agg cs vs hl hf hc).ext ex
  | nil sz md a hn hn' => exact .nil sz md a hn hn'
  | slice sz els md a cap hs hcap hsz hst hc hmd => exact (R.slice sz els md a cap hs hcap hsz hst hc hmd).ext ex
  | vsl k n a l c h => exact (R.vsl k n a l c h).ext ex
  | ref cs a hs hst hc => exact (R.ref cs a hs hst hc).ext ex
  | fn f caps vs hl hc => exact (R.fn f caps vs hl hc).ext ex
  | iface t x v h => exact (R.iface t x v h).ext ex
  | tup l vs hl hc => exact (R.tup l vs hl hc).ext ex

/-- A value of which less is known. -/
inductive AV.le : AV → AV → Prop
  | rfl (x : AV) : AV.le x x
  | top (x : AV) : AV.le x .top
  | sl (sz : Nat) (els els' : List (List AV)) (md md' : Md) (hm : md' = md ∨ md' = .sh) (hl : els.length = els'.length)
      (hr : ∀ (i : Nat) (r r' : List AV), els[i]? = some r → els'[i]? = some r' → r.length = r'.length)
      (h : ∀ (i j : Nat) (r r' : List AV) (c c' : AV), els[i]? = some r → els'[i]? = some r' → r[j]? = some c → r'[j]? = some c' → AV.le c c') : AV.le (.sl sz els md) (.sl sz els' md')
  | nil (sz sz' : Nat) (md' : Md) (hm : md' ≠ .nn) : AV.le (.sl sz [] .nil) (.sl sz' [] md')
  | agg (cs cs' : List AV) (hl : cs.length = cs'.length) (h : ∀ (i : Nat) (c c' : AV), cs[i]? = some c → cs'[i]? = some c' → AV.le c c') : AV.le (.agg cs) (.agg cs')
  | tup (cs cs' : List AV) (hl : cs.length = cs'.length) (h : ∀ (i : Nat) (c c' : AV), cs[i]? = some c → cs'[i]? = some c' → AV.le c c') : AV.le (.tup cs) (.tup cs')
  | ref (cs cs' : List AV) (hl : cs.length = cs'.length) (h : ∀ (i : Nat) (c c' : AV), cs[i]? = some c → cs'[i]? = some c' → AV.le c c') : AV.le (.ref cs) (.ref cs')
  | fn (f : Fn) (cs cs' : List AV) (hl : cs.length = cs'.length) (h : ∀ (i : Nat) (c c' : AV), cs[i]? = some c → cs'[i]? = some c' → AV.le c c') : AV.le (.fn f cs) (.fn f cs')
  | iface (t : TypeId) (x y : AV) (h : AV.le x y) : AV.le (.iface t x) (.iface t y)
theorem AV.le.sh (sz : Nat) (els : List (List AV)) (md : Md) : AV.le (.sl sz els md) (.sl sz els .sh) :=
  .sl sz els els md .sh (.inr (Eq.refl _)) (Eq.refl _) (fun i r r' h h' => by rw [h] at h'; injection h' with h'; rw [h']) fun i j r r' c c' h h' hc hc' => by
    rw [h] at h'; injection h' with h'; subst h'
    rw [hc] at hc'; injection hc' with hc'; subst hc'; exact .rfl _

theorem R.le {M : Mem} {x y : AV} {v : Value} (h : R M x v) (hle : AV.le x y) : R M y v := by
  induction hle generalizing v with
  | rfl => exact h
  | top => exact .top _
  | sl sz els els' md md' hm hl hr hh ih =>
    cases h with
    | nil _ _ a hn hn' =>
      have e : els' = [] := List.eq_nil_of_length_eq_zero hl.symm
      subst e
      rcases hm with rfl | rfl
      · exact .nil _ _ a hn hn'
      · exact .nil _ _ a (by intro h; cases h) (by intro h; cases h)
    | slice _ _ _ a cap hs hcap hsz hst hc hmd =>
      have key := R.slice (M := M) sz els' md' a cap hs (by omega)
        (fun row hrow => by
          obtain ⟨i, hi⟩ := List.getElem?_of_mem hrow
          have hil : i < els.length := by rw [hl]; exact (List.getElem?_eq_some_iff.1 hi).1
          have e1 := List.getElem?_eq_getElem hil
          rw [← hr i _ _ e1 hi]; exact hsz _ (List.getElem_mem _))
        (fun o ho => hst o (by rw [hl]; exact ho))
        (fun i j row c v hi hj hv => by
          have hil : i < els.length := by rw [hl]; exact (List.getElem?_eq_some_iff.1 hi).1
          have e1 := List.getElem?_eq_getElem hil
          have hlr := hr i _ _ e1 hi
          have hjl : j < els[i].length := by rw [hlr]; exact (List.getElem?_eq_some_iff.1 hj).1
          have e2 := List.getElem?_eq_getElem hjl
          exact ih i j _ _ _ _ e1 hi e2 hj (hc i j _ _ v e1 e2 hv))
        (by
          rcases hm with rfl | rfl
          · rw [← hl]; exact hmd
          · trivial)
      rw [← hl] at key
      exact key
  | nil sz sz' md' hm => cases h with
    | nil _ _ a hn hn' => rw [hn' rfl]; exact .nil _ _ none (fun h => (hm h).elim) (fun _ => rfl)
    | slice _ _ _ a cap hs hcap hsz hst hc hmd => exact hmd.elim
  | agg cs cs' hl hh ih =>
    cases h with
    | agg _ vs hvl hf hc =>
      exact .agg cs' vs (hl.symm.trans hvl) hf fun i c v hi hv => by
        have hil : i < cs.length := by rw [hl]; exact (List.getElem?_eq_some_iff.1 hi).1
        have e1 := List.getElem?_eq_getElem hil
        exact ih i _ _ e1 hi (hc i _ v e1 hv)
  | tup cs cs' hl hh ih =>
    cases h with
    | tup _ vs hvl hc =>
      exact .tup cs' vs (hl.symm.trans hvl) fun i c v hi hv => by
        have hil : i < cs.length := by rw [hl]; exact (List.getElem?_eq_some_iff.1 hi).1
        have e1 := List.getElem?_eq_getElem hil
        exact ih i _ _ e1 hi (hc i _ v e1 hv)
  | ref cs cs' hl hh ih =>
    cases h with
    | ref _ a hs hst hc =>
      exact .ref cs' a hs (fun j hj => hst j (by omega)) fun i c v hi hv => by
        have hil : i < cs.length := by rw [hl]; exact (List.getElem?_eq_some_iff.1 hi).1
        have e1 := List.getElem?_eq_getElem hil
        exact ih i _ _ e1 hi (hc i _ v e1 hv)
  | fn f cs cs' hl hh ih =>
    cases h with
    | fn _ _ vs hvl hc =>
      exact .fn f cs' vs (hl.symm.trans hvl) fun i c v hi hv => by
        have hil : i < cs.length := by rw [hl]; exact (List.getElem?_eq_some_iff.1 hi).1
        have e1 := List.getElem?_eq_getElem hil
        exact ih i _ _ e1 hi (hc i _ v e1 hv)
  | iface t x y hh ih =>
    cases h with
    | iface _ _ v h => exact .iface t y v (ih h)

/-! Bytes of a constant text: the block is marked, and written no more. -/
theorem cell_freeze (w : World) (a : Addr) (n : Nat) (q : Addr) : (w.freeze a n).cell? q = w.cell? q := by
  unfold World.freeze
  split
  · rfl
  · simp only [World.cell?, Array.getElem?_modify]
    by_cases h : a.block = q.block
    · rw [if_pos h]
      cases hq : w.heap[q.block]? with
      | none => rfl
      | some o => cases o <;> rfl
    · rw [if_neg h]
theorem heap_freeze_ne (w : World) (a : Addr) (n b : Nat) (h : b ≠ a.block) : (w.freeze a n).heap[b]? = w.heap[b]? := by
  unfold World.freeze
  split
  · rfl
  · simp only [Array.getElem?_modify, if_neg (Ne.symm h)]
theorem heap_freeze_other (w : World) (a : Addr) (n b : Nat) {o : Obj} (h : w.heap[b]? = some o) (ho : o.isCells = false) : (w.freeze a n).heap[b]? = some o := by
  unfold World.freeze
  split
  · exact h
  · simp only [Array.getElem?_modify, h]
    split
    · cases o <;> simp_all [Obj.isCells]
    · rfl

theorem Ext.mark {M : Mem} (a : Addr) (n : Nat) : Ext M (M.withW (M.w.freeze a n)) :=
  ⟨rfl, fun _ _ h => h, fun b o _ => cell_freeze _ _ _ _, fun _ h => ⟨h, rfl⟩, fun _ _ _ m h => ⟨m, h, Nat.le_refl _, fun _ => ⟨rfl, rfl⟩⟩, fun _ _ _ m cs h => .inl ⟨m, cs, h, Nat.le_refl _, fun _ => ⟨rfl, rfl⟩⟩⟩
theorem Inv.mark {M : Mem} (hI : Inv M) {a : Addr} (n : Nat) (hb : M.base.heap.size ≤ a.block) (hno : ∀ j, M.owns j → M.β j ≠ a.block) : Inv (M.withW (M.w.freeze a n)) := by
  have e := Ext.mark (M := M) a n
  have hw : (M.w.freeze a n).os = M.w.os ∧ (M.w.freeze a n).tape = M.w.tape ∧ (M.w.freeze a n).output = M.w.output ∧ (M.w.freeze a n).heap.size = M.w.heap.size := by
    unfold World.freeze; split <;> simp
  refine ⟨?_, hI.fin, hI.new, hI.inj, fun b o hs => ?_, fun k t cs hk => ?_, fun k t sz m c hk hc => ?_, fun k b o fr hk => ?_, hI.pinj, fun j t sz m cs hj => hI.vec_keep e hj rfl rfl (fun ho => heap_freeze_ne _ _ _ _ (hno j ho)) (fun _ _ h => h)⟩
  · have h := hI.below
    exact ⟨hw.1.trans h.os, hw.2.1.trans h.tape, hw.2.2.1.trans h.output, by show _ ≤ (M.w.freeze a n).heap.size; rw [hw.2.2.2]; exact h.size, fun k hk => (heap_freeze_ne _ _ _ _ (by have : k < M.base.heap.size := hk; omega)).trans (h.block k hk)⟩
  · obtain ⟨v, hv, hl⟩ := hI.stb b o hs
    exact ⟨v, (e.cell b o hs).trans hv, hl⟩
  · obtain ⟨vs, h1, h2, h3, h4, h5⟩ := hI.box k t cs hk
    exact ⟨vs, (heap_freeze_ne _ _ _ _ (hno k (by have hk' : M.st k = some (.box t cs) := hk; simp [Mem.owns, hk']))).trans h1, h2, h3, fun i c v hi hv => (h4 i c v hi hv).ext e, h5⟩
  · obtain ⟨vs, h1, h2⟩ := hI.row k t sz m c hk hc
    have hc' : M.cap k = some c := hc
    have hk' : M.st k = some (.row t sz m) := hk
    exact ⟨vs, (heap_freeze_ne _ _ _ _ (hno k (by simp [Mem.owns, hk', hc']))).trans h1, h2⟩
  · have h1 := hI.pin k b o fr hk
    exact h1.ext e (heap_freeze_other _ _ _ _ h1.1 h1.2.1)

theorem aok_mark {P : Program} {d : Option Tmp} {ty : TypeId} {pos : String} {aft : Array Edge} {gd : Option (Nat × Bool)} {ρA : Operand → AV} {t e : TypeId} (ht : P.underlying t = some (.slice e)) (he : P.underlying e = some (.int .u8)) {x : Operand} {k off len : Nat} {fl : Bool} {eb : TypeId} {cs : List AV} (hx : ρA x = .bsl k off len fl) (h0 : 0 < len) (hb : off + len ≤ cs.length) :
    AOk P ⟨d, .convert t t x, ty, pos, aft, gd⟩ ρA [(k, some (.box eb cs))] (.sl 1 (chunk 1 len (cs.drop off)) .sh) [(k, .dead)] :=
  ⟨(by intro _ _ h; cases h), fun M N ρ hI hr _ _ hn _ _ => by
    have h1 := hr x (by simp [Op.operands])
    rw [hx] at h1
    have hk := hn.1
    have hf := h1.frz hI hk (sz := 1) (fun o l f h => by injection h with _ h2 h3; subst h2; subst h3; exact ⟨h0, by omega⟩)
    simp only [AV.frz, if_true] at hf
    replace hf := hf.le (.sh _ _ _)
    have hI2 := hI.freeze hk
    have ex := Ext.freeze M (n := cs.length) hk
    obtain ⟨us, g1, _⟩ := hI.box k eb cs hk
    have hok : M.owns k := by simp [Mem.owns, hk]
    generalize hv : ρ x = v at h1 hf
    have ha : ∃ a cap, v = .slice (some a) len cap ∧ a.block = M.β k := by
      cases h1 with
      | bsl _ _ _ cap _ => exact ⟨_, cap, rfl, rfl⟩
      | bsl0 => exact absurd h0 (Nat.lt_irrefl 0)
    obtain ⟨a, cap, rfl, hab⟩ := ha
    have hsh : M.w.shape? a.block = some (eb, us.size) := by simp [World.shape?, hab, g1]
    have hrun : (convert t t (.slice (some a) len cap)).run P M.w = .ok (.slice (some a) len cap) (M.w.freeze ⟨a.block, us.size, none⟩ 1) := by
      simp only [convert, Sem.run_bind, run_underlying ht, run_underlying he, Result.andThen_ok, beq_self_eq_true, markStringish, run_shape, hsh]
      rfl
    simp only [execOp, hv, Sem.run_bind, hrun, Result.andThen_ok]
    refine ⟨(M.freeze k cs.length).withW ((M.freeze k cs.length).w.freeze ⟨a.block, us.size, none⟩ 1), rfl, ex.trans (Ext.mark _ _), hI2.mark _ (by rw [hab]; exact hI.new k hok) (fun j hj => ?_), fun j _ => rfl, hf.ext (Ext.mark _ _)⟩
    show M.β j ≠ a.block
    rw [hab]
    intro hjb
    have hne : j ≠ k := by rintro rfl; simp [Mem.owns, Mem.freeze, upd1] at hj
    have : M.owns j := by simpa [Mem.owns, Mem.freeze, upd1, hne] using hj
    exact hne (hI.inj j k this hok hjb)⟩

def leL : List AV → List AV → Prop
  | [], [] => True
  | x :: l, y :: l' => AV.le x y ∧ leL l l'
  | _, _ => False

theorem RL.le {M : Mem} : ∀ {l l' : List AV} {vs : Array Value}, RL M l vs → leL l l' → RL M l' vs := by
  intro l l' vs h hle
  have key : l.length = l'.length ∧ ∀ (i : Nat) (y : AV), l'[i]? = some y → ∃ x, l[i]? = some x ∧ AV.le x y := by
    clear h
    induction l generalizing l' with
    | nil => cases l' with
      | nil => exact ⟨rfl, fun i y h => by simp at h⟩
      | cons _ _ => exact hle.elim
    | cons x l ih => cases l' with
      | nil => exact hle.elim
      | cons y l' =>
        obtain ⟨h1, h2⟩ := ih hle.2
        refine ⟨by simp [h1], fun i z hz => ?_⟩
        cases i with
        | zero => simp at hz; subst hz; exact ⟨x, rfl, hle.1⟩
        | succ i => simpa using h2 i z (by simpa using hz)
  refine ⟨by rw [← key.1]; exact h.1, fun i c v hi hv => ?_⟩
  obtain ⟨x, hx, hxy⟩ := key.2 i c hi
  exact (h.2 i x v hx hv).le hxy

theorem le_frame {σ : AState} {fr' : List AV} (h : leL σ.fr fr') : σ.le { σ with fr := fr' } := fun M _ hI hs =>
  ⟨M, rfl, Ext.refl M, hI, hs.df, hs.fr.le h, hs.le, hs.st⟩

theorem look_set {σ : AState} {fr : List AV} {i : Nat} {r : Option Res} {k : Nat} (hle : σ.n0 ≤ σ.n) (hk : σ.dom k) (hi : i < σ.lo.length) :
    (AState.mk fr (σ.lo.set i r) σ.out σ.n0 σ.n σ.df).look k = if k = σ.n + i then r else σ.look k := by
  simp only [AState.look]
  by_cases h0 : k < σ.n0
  · rw [if_pos h0, if_neg (by omega), if_pos h0]
  · have : σ.n ≤ k := by rcases hk with h | h <;> omega
    rw [if_neg h0, if_neg h0]
    by_cases he : k = σ.n + i
    · subst he
      rw [if_pos rfl, Nat.add_sub_cancel_left, List.getElem?_set_self hi]; rfl
    · rw [if_neg he, List.getElem?_set_ne (by omega)]

/-- A new row, of nothing yet. -/
theorem le_row {σ : AState} {i : Nat} (e : TypeId) (sz : Nat) (hi : σ.lo[i]? = some none) : σ.le { σ with lo := σ.lo.set i (some (.row e sz 0)) } := fun M a hI hs => by
  have hlt : i < σ.lo.length := (List.getElem?_eq_some_iff.1 hi).1
  have hk : M.st (σ.n + i) = none := by
    rw [hs.st (σ.n + i) (dom_loc σ hlt), look_loc σ hs.le, hi]; rfl
  have ex := Ext.newRow M hk e sz
  refine ⟨M.newRow (σ.n + i) e sz, rfl, ex, hI.newRow hk e sz, hs.df, hs.fr.ext ex, hs.le, fun k hk' => ?_⟩
  have hk2 : σ.dom k := by simpa [AState.dom] using hk'
  rw [look_set hs.le hk2 hlt]
  simp only [Mem.newRow, upd1]
  split
  · rfl
  · exact hs.st k hk2

theorem R.own0 {M : Mem} {k sz : Nat} {e : TypeId} {md : Md} (hk : M.st k = some (.row e sz 0)) (hf : md = .nil ∨ md = .full) {v : Value} (h : R M (.sl sz [] md) v) : R M (.sl sz [] (.own k)) v := by
  cases h with
  | nil => exact .nil _ _ _ (by intro h; cases h) (by intro h; cases h)
  | slice _ _ _ a cap hs hcap hsz hst hc hmd =>
    rcases hf with rfl | rfl
    · exact hmd.elim
    · exact .slice sz [] _ a cap hs hcap hsz hst hc ⟨e, 0, hk, Nat.le_refl _, fun _ => .inl hmd⟩

/-- An empty slice without room belongs to any row that is empty. -/
theorem le_own0 {σ : AState} {i t sz : Nat} {e : TypeId} {md : Md} (hi : σ.lo[i]? = some (some (.row e sz 0))) (ht : σ.fr[t]? = some (.sl sz [] md)) (hf : md = .nil ∨ md = .full) :
    σ.le { σ with fr := σ.fr.set t (.sl sz [] (.own (σ.n + i))) } := fun M a hI hs => by
  have hlt : i < σ.lo.length := (List.getElem?_eq_some_iff.1 hi).1
  have hk : M.st (σ.n + i) = some (.row e sz 0) := by
    rw [hs.st (σ.n + i) (dom_loc σ hlt), look_loc σ hs.le, hi]; rfl
  refine ⟨M, rfl, Ext.refl M, hI, hs.df, ⟨by simp [hs.fr.1], fun j c v hj hv => ?_⟩, hs.le, fun k hk' => hs.st k hk'⟩
  by_cases hjt : t = j
  · subst hjt
    have hl : t < σ.fr.length := (List.getElem?_eq_some_iff.1 ht).1
    simp only [List.getElem?_set_self hl, Option.some.injEq] at hj
    subst hj
    exact (hs.fr.2 t _ v ht hv).own0 hk hf
  · simp only [List.getElem?_set_ne hjt] at hj
    exact hs.fr.2 j c v hj hv

/-- A new row under a name that is free. -/
theorem le_rowN {σ : AState} {k : Nat} (e : TypeId) (sz : Nat) (hd : σ.dom k) (hl : σ.look k = none) : σ.le (σ.give [(k, .row e sz 0)]) := fun M a hI hs => by
  have hk : M.st k = none := by rw [hs.st k hd]; exact hl
  have ex := Ext.newRow M hk e sz
  have hu : domG σ [(k, .row e sz 0)] := ⟨hd, trivial⟩
  refine ⟨M.newRow k e sz, rfl, ex, hI.newRow hk e sz, by rw [give_df]; exact hs.df, by rw [give_fr]; exact hs.fr.ext ex, by rw [give_n0, give_n]; exact hs.le, fun j hj => ?_⟩
  have hj' := (give_dom _ _ _).1 hj
  rw [look_give _ _ hu j hj']
  show upd1 M.st k _ j = upd1 σ.look k _ j
  unfold upd1
  split
  · rfl
  · exact hs.st j hj'
/-- An empty slice without room belongs to any row that is empty. -/
theorem le_own0N {σ : AState} {k t sz : Nat} {e : TypeId} {md : Md} (hd : σ.dom k) (hl : σ.look k = some (.row e sz 0)) (ht : σ.fr[t]? = some (.sl sz [] md)) (hf : md = .nil ∨ md = .full) :
    σ.le { σ with fr := σ.fr.set t (.sl sz [] (.own k)) } := fun M a hI hs => by
  have hk : M.st k = some (.row e sz 0) := by rw [hs.st k hd]; exact hl
  refine ⟨M, rfl, Ext.refl M, hI, hs.df, ⟨by simp [hs.fr.1], fun j c v hj hv => ?_⟩, hs.le, fun k hk' => hs.st k hk'⟩
  by_cases hjt : t = j
  · subst hjt
    have hl : t < σ.fr.length := (List.getElem?_eq_some_iff.1 ht).1
    simp only [List.getElem?_set_self hl, Option.some.injEq] at hj
    subst hj
    exact (hs.fr.2 t _ v ht hv).own0 hk hf
  · simp only [List.getElem?_set_ne hjt] at hj
    exact hs.fr.2 j c v hj hv

/-- A local box is written no more. -/
theorem le_freeze {σ : AState} {i : Nat} {e : TypeId} {cs : List AV} (sz : Nat) (hi : σ.lo[i]? = some (some (.box e cs))) (hfit : ∀ x, x ∈ σ.fr → ∀ off len fl, x = .bsl (σ.n + i) off len fl → 0 < len ∧ off + len * sz ≤ cs.length) :
    σ.le { σ with fr := σ.fr.map (AV.frz (σ.n + i) sz cs), lo := σ.lo.set i (some .dead) } := fun M a hI hs => by
  have hlt : i < σ.lo.length := (List.getElem?_eq_some_iff.1 hi).1
  have hk : M.st (σ.n + i) = some (.box e cs) := by
    rw [hs.st (σ.n + i) (dom_loc σ hlt), look_loc σ hs.le, hi]; rfl
  have ex := Ext.freeze M (n := cs.length) hk
  refine ⟨M.freeze (σ.n + i) cs.length, rfl, ex, hI.freeze hk, hs.df, ⟨by simp [hs.fr.1], fun j c v hj hv => ?_⟩, hs.le, fun k hk' => ?_⟩
  · simp only [List.getElem?_map] at hj
    cases hx : σ.fr[j]? with
    | none => rw [hx] at hj; cases hj
    | some x =>
      rw [hx] at hj; injection hj with hj; subst hj
      exact (hs.fr.2 j x v hx hv).frz hI hk (hfit x (List.mem_of_getElem? hx))
  · have hk2 : σ.dom k := by simpa [AState.dom] using hk'
    rw [look_set hs.le hk2 hlt]
    simp only [Mem.freeze, upd1]
    split
    · rfl
    · exact hs.st k hk2

/-- The local names are counted anew, from a number on that is above all: what is kept keeps its place. -/
theorem le_rebase {σ : AState} {lo' : List (Option Res)} (hl : ∀ (i : Nat) (r : Option Res), lo'[i]? = some r → r = none) : σ.leSome fun n => { σ with lo := lo', n := n } := fun M a hI hs => by
  obtain ⟨N, hN⟩ := hI.fin
  refine ⟨M, max N σ.n, rfl, Ext.refl M, hI, hs.df, hs.fr, by have := hs.le; show σ.n0 ≤ max N σ.n; omega, fun k hk => ?_⟩
  by_cases h0 : k < σ.n0
  · rw [hs.st k (.inl h0)]
    simp [AState.look, h0]
  · have hk' : max N σ.n ≤ k ∧ k < max N σ.n + lo'.length := by rcases hk with h | h; exact absurd h h0; exact h
    rw [hN k (by omega)]
    simp only [AState.look, h0, if_false]
    cases hr : lo'[k - max N σ.n]? with
    | none => rfl
    | some r => rw [hl _ r hr]; rfl
end Go.VS
