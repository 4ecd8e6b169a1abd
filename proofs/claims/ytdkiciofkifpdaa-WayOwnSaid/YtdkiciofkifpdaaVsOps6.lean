/-
  The value-semantics layer: append of so many noughts.
-/
import Derived.Test.YtdkiciofkifpdaaVsOps5
import Derived.Lib.AppendZerosOnto
namespace Go.VS
set_option linter.unusedVariables false
set_option linter.unusedSimpArgs false
open Go Go.RowKit

section
variable {P : Program} {d : Option Tmp} {ty : TypeId} {pos : String} {aft : Array Edge} {gd : Option (Nat × Bool)} {ρA : Operand → AV}

/-- What is appended, whatever it is told by: cells, and what append does with them. -/
structure Appends (P : Program) (M : Mem) (t u e : TypeId) (ty : TypeId) (ti : TI) (y : Value) (els' : List (List AV)) (i : TypeInfo) (z : Value) (news : List Value) : Prop where
  len : news.length = els'.length * ti.size
  leafs : ∀ (j : Nat) (v : Value), news[j]? = some v → leaf v
  rs : ∀ (j : Nat) (c : AV) (v : Value), els'.flatten[j]? = some c → news[j]? = some v → R M c v
  rows : ∀ row, row ∈ els' → row.length = ti.size
  grow : ∀ (base : Option Addr) (sLen sCap : Nat) (olds : List Value), (Builtin.firstCells i.size sLen (.slice base sLen sCap)).run P M.w.drew = .ok olds.toArray M.w.drew → sCap < sLen + els'.length →
    ((sLen + els'.length : Nat) : Int) ≤ 9223372036854775807 → Builtin.nextslicecap (sLen + els'.length) sCap * i.bytes ≤ 281474976710656 →
    (Builtin.append_ #[t, u] ty #[.slice base sLen sCap, y]).run P M.w =
      .ok (.slice (some ⟨M.w.heap.size, 0, none⟩) (sLen + els'.length) (grownCap M.w (sLen + els'.length) sCap e))
        (M.w.drew.alloc (.cells ((olds ++ news).toArray ++ Builtin.zeroCells z.cells (grownCap M.w (sLen + els'.length) sCap e - (sLen + els'.length))) e))
  room : ∀ (g sLen sCap : Nat) (cur : Array Value), M.w.heap[g]? = some (.cells cur e (0, 0)) → sLen + els'.length ≤ sCap → sLen * i.size + news.length ≤ cur.size →
    (Builtin.append_ #[t, u] ty #[.slice (some ⟨g, 0, none⟩) sLen sCap, y]).run P M.w =
      .ok (.slice (some ⟨g, 0, none⟩) (sLen + els'.length) sCap) (M.w.setRow g (cur.toList.take (sLen * i.size) ++ news ++ cur.toList.drop (sLen * i.size + news.length)).toArray)

theorem append_moves_by {M : Mem} {N : Nat} (hI : Inv M) {t u e : TypeId} {ti : TI} (he : TIok P e ti) (hs0 : 0 < ti.size)
    {ρ : Operand → Value} {x y : Operand} {els els' : List (List AV)} {md : Md} {k : Nat}
    (h1 : R M (.sl ti.size els md) (ρ x)) (h2 : ∀ i z, P.info? e = some i → i.zero = some z → i.size = ti.size → z.cells.toList = ti.zero → i.bytes = ti.bytes → ∃ news, Appends P M t u e ty ti (ρ y) els' i z news) (hcap : ∀ a n c, ρ x = .slice a n c → c < els.length + els'.length)
    (hk : rowBelow M k e ti.size (els.length + els'.length)) (hbytes : (els.length + els'.length) * ti.bytes ≤ 140737488355328) (h63 : els.length + els'.length ≤ 9223372036854775807) :
    OpRes P (fun v w' => Done M N [(k, .row e ti.size (els.length + els'.length))] (.sl ti.size (els ++ els') (.own k)) v w')
      ((execOp ρ ⟨d, .call { callee := .builtin .append, args := #[x, y], argTypes := #[t, u] }, ty, pos, aft, gd⟩).run P M.w) := by
  obtain ⟨i, z, i1, i2, i3, i4, i5⟩ := he.info
  obtain ⟨news, hs⟩ := h2 i z i1 i4 i2 i5 i3
  have hnl := hs.leafs
  have hnR := hs.rs
  have hsz' := hs.rows
  have hsz : ∀ row, row ∈ els → row.length = ti.size := by
    generalize ρ x = v at h1
    cases h1 with
    | nil => intro row h; cases h
    | slice sz els md a cap hs hcap hsz hst hc hmd => exact hsz
  -- the old cells
  obtain ⟨a, c, hv, hle, olds, holdlen, hold, holf, holR⟩ : ∃ a c, ρ x = .slice a els.length c ∧ els.length ≤ c ∧ ∃ olds : List Value, olds.length = els.length * ti.size ∧
      (Builtin.firstCells i.size els.length (.slice a els.length c)).run P M.w.drew = .ok olds.toArray M.w.drew ∧ (∀ (j : Nat) (v : Value), olds[j]? = some v → leaf v) ∧
      (∀ (j : Nat) (c : AV) (v : Value), els.flatten[j]? = some c → olds[j]? = some v → R M c v) := by
    generalize hv : ρ x = v at h1
    cases h1 with
    | nil sz md a => exact ⟨a, 0, rfl, Nat.le_refl _, [], by simp, run_firstCells_zero _ _ _ _ _, fun j v h => by simp at h, fun j c v h => by simp at h⟩
    | slice sz els md a cap hs hcap hsz hst hc hmd =>
      obtain ⟨vs, g1, g2, g3⟩ := slice_cells hI (R.slice (M := M) _ els md a cap hs hcap hsz hst hc hmd)
      exact ⟨some a, cap, rfl, hcap, vs, g1, run_firstCells_some _ _ _ _ _ _ _ (by rw [i2]; exact g1) (fun j v hj => by rw [World.cell?_drew]; exact (g2 j v hj).1), fun j v hj => (g2 j v hj).2, g3⟩
  have hlt := hcap a _ c hv
  have hrun := hs.grow a els.length c olds hold hlt (by omega) (by rw [i3]; exact growslice_fits hlt hbytes)
  rw [← hv] at hrun
  rw [exec_append hrun]
  have hcapge := VS.grownCap_ge M.w (els.length + els'.length) c e
  generalize hcp : grownCap M.w (els.length + els'.length) c e = cp at hcapge
  have hzl : z.cells.size = ti.size := by rw [← he.len, ← i5]; simp
  have e0 := Ext.withW (M := M) (w' := M.w.drew) rfl
  have hI0 : Inv (M.withW M.w.drew) := hI.withW rfl rfl rfl rfl
  obtain ⟨vs, hvs⟩ : ∃ vs : Array Value, vs = (olds ++ news).toArray ++ Builtin.zeroCells z.cells (cp - (els.length + els'.length)) := ⟨_, rfl⟩
  have hnewlen := hs.len
  have hvsize : vs.size = cp * ti.size := by
    rw [hvs]; simp only [Array.size_append, List.size_toArray, List.length_append, VS.zeroCells_size, hzl, holdlen, hnewlen]
    rw [← Nat.add_mul, ← Nat.add_mul]; congr 1; omega
  have hget : ∀ (j : Nat) (v : Value), vs[j]? = some v → olds[j]? = some v ∨ (olds.length ≤ j ∧ news[j - olds.length]? = some v) ∨ (olds.length + news.length ≤ j ∧ leaf v) := fun j v hj => by
    rw [hvs, ← Array.getElem?_toList] at hj
    simp only [Array.toList_append] at hj
    rcases app_get hj with h | h | h
    · exact .inl h
    · exact .inr (.inl h)
    · refine .inr (.inr ⟨h.1, zeroCells_leaf (z := z.cells) (fun v hv => ?_) (by omega) _ _ v (by rw [← Array.getElem?_toList]; exact h.2)⟩)
      rw [i5] at hv
      exact leaf_of_B (List.all_eq_true.1 he.leafs v hv)
  have hleaf : ∀ (j : Nat) (v : Value), vs[j]? = some v → leaf v := fun j v hj => by
    rcases hget j v hj with h | h | h
    · exact holf j v h
    · exact hnl _ v h.2
    · exact h.2
  have hk' : rowBelow (M.withW M.w.drew) k e ti.size (els.length + els'.length) := hk
  have ex := Ext.moveRow hI0 hk' vs cp
  have hI1 := hI0.moveRow hk' hvsize hcapge hleaf
  have hwlt : M.w.drew.alloc (.cells vs e) = ((M.withW M.w.drew).moveRow k e ti.size vs (els.length + els'.length) cp).w := rfl
  rw [← hvs]
  refine ⟨(M.withW M.w.drew).moveRow k e ti.size vs (els.length + els'.length) cp, rfl, e0.trans ex, hI1, fun j _ => rfl, ?_⟩
  have hll : (els ++ els').length = els.length + els'.length := by simp
  have hsz2 := lengths_append hsz hsz'
  have key : R ((M.withW M.w.drew).moveRow k e ti.size vs (els.length + els'.length) cp) (.sl ti.size (els ++ els') (.own k)) (.slice (some ⟨M.w.heap.size, 0, none⟩) (els ++ els').length cp) := ?_
  · rw [hll] at key; exact key
  refine .slice ti.size (els ++ els') (.own k) ⟨M.w.heap.size, 0, none⟩ cp rfl (by rw [hll]; exact hcapge) hsz2 (fun o ho => ?_) (fun i j row c' v hi hj hcell => ?_) ?_
  · refine .inr ⟨rfl, ?_⟩
    rw [hll] at ho; simpa using ho
  · have hcell' : vs[i * ti.size + j]? = some v := by
      have : ((M.withW M.w.drew).moveRow k e ti.size vs (els.length + els'.length) cp).w.cell? ⟨M.w.heap.size, 0 + (i * ti.size + j), none⟩ = vs[i * ti.size + j]? := by
        rw [Nat.zero_add]
        exact cell_row (heap_new _ _)
      rw [← this]; exact hcell
    have hfl := flat_at hsz2 i j row c' hi hj
    rw [List.flatten_append] at hfl
    have hlo : els.flatten.length = olds.length := by rw [flat_length hsz, holdlen]
    have hln : els'.flatten.length = news.length := by rw [flat_length hsz', hnewlen]
    refine R.ext (e0.trans ex) ?_
    rcases hget _ v hcell' with h | h | h
    · have hlt' := (List.getElem?_eq_some_iff.1 h).1
      rw [List.getElem?_append_left (by omega)] at hfl
      exact holR _ c' v hfl h
    · rw [List.getElem?_append_right (by omega), hlo] at hfl
      exact hnR _ c' v hfl h.2
    · have := (List.getElem?_eq_some_iff.1 hfl).1
      rw [List.length_append] at this; omega
  · refine ⟨e, els.length + els'.length, by simp [Mem.moveRow, upd1], by rw [hll]; exact Nat.le_refl _, fun _ => .inr ⟨rfl, by simp [Mem.moveRow]; rfl, by simp [Mem.moveRow]⟩⟩

theorem aok_append_by {t u e : TypeId} {ti : TI} (ht : P.underlying t = some (.slice e)) (he : TIok P e ti) (hs0 : 0 < ti.size) {x y : Operand} {els els' : List (List AV)} {k : Nat} (hnil : els' ≠ [])
    (hx : ρA x = .sl ti.size els (.own k)) (h2g : ∀ (M : Mem) (ρ : Operand → Value), R M (ρA y) (ρ y) → ∀ i z, P.info? e = some i → i.zero = some z → i.size = ti.size → z.cells.toList = ti.zero → i.bytes = ti.bytes → ∃ news, Appends P M t u e ty ti (ρ y) els' i z news) (hbytes : (els.length + els'.length) * ti.bytes ≤ 140737488355328) (h63 : els.length + els'.length ≤ 9223372036854775807) :
    AOk P ⟨d, .call { callee := .builtin .append, args := #[x, y], argTypes := #[t, u] }, ty, pos, aft, gd⟩ ρA [(k, some (.row e ti.size els.length))] (.sl ti.size (els ++ els') (.own k)) [(k, .row e ti.size (els.length + els'.length))] :=
  ⟨(by intro _ _ h; cases h), fun M N ρ hI hρ _ _ hn hN hun => by
    have h1 := hρ x (by simp [Op.operands, Call.operands])
    have h2 := h2g M ρ (hρ y (by simp [Op.operands, Call.operands]))
    rw [hx] at h1
    have hrow := hn.1
    · have hpos : 0 < els'.length := List.length_pos_iff.2 hnil
      have moves := fun hcap => append_moves_by (P := P) (N := N) (d := d) (ty := ty) (pos := pos) (aft := aft) (gd := gd) hI he hs0 h1 h2 hcap (.inr ⟨els.length, hrow, by omega⟩) hbytes h63
      generalize hv : ρ x = v at h1
      cases h1 with
      | nil sz md => exact moves fun a n c h => by rw [hv] at h; cases h; simpa using hpos
      | slice sz els md a cap hs hcap hsz hst hc hmd =>
        obtain ⟨e2, m2, hst2, hle2, hlast⟩ := hmd
        have hst3 := hst2
        rw [hrow] at hst2
        simp only [Option.some.injEq, Res.row.injEq] at hst2
        obtain ⟨rfl, _, rfl⟩ := hst2
        rcases hlast rfl with h0 | ⟨hoff, hblk, hcapk⟩
        · exact moves fun a' n c h => by rw [hv] at h; cases h; omega
        by_cases hroom : els.length + els'.length ≤ cap
        · obtain ⟨i, z, i1, i2, i3, i4, i5⟩ := he.info
          obtain ⟨news, hsrc⟩ := h2 i z i1 i4 i2 i5 i3
          have hnl := hsrc.leafs
          have hnR := hsrc.rs
          have hsz' := hsrc.rows
          obtain ⟨cur, hg, hcsz, hmc, hfree, hstb⟩ := hI.row k e ti.size els.length cap hrow hcapk
          have hnewlen := hsrc.len
          have haddr : a = ⟨M.β k, 0, none⟩ := by rw [addr_eta a hs, hblk, hoff]
          have hfit : els.length * i.size + news.length ≤ cur.size := by
            rw [i2, hnewlen, hcsz, ← Nat.add_mul]; exact Nat.mul_le_mul_right _ hroom
          have hrun := hsrc.room (M.β k) els.length cap cur hg hroom hfit
          rw [← haddr, ← hv] at hrun
          rw [exec_append hrun]
          obtain ⟨vs, hvs⟩ : ∃ vs : Array Value, vs = (cur.toList.take (els.length * i.size) ++ news ++ cur.toList.drop (els.length * i.size + news.length)).toArray := ⟨_, rfl⟩
          have hcl : cur.toList.length = cur.size := by simp
          have htk : (cur.toList.take (els.length * i.size)).length = els.length * ti.size := by
            rw [List.length_take, hcl, i2]; rw [i2] at hfit; omega
          have hvsz : vs.size = cur.size := by
            rw [hvs]; simp only [List.size_toArray, List.length_append, List.length_drop, htk, hcl]
            rw [i2] at hfit ⊢; omega
          have hsame : ∀ o, o < els.length * ti.size → vs[o]? = cur[o]? := fun o ho => by
            rw [hvs, List.getElem?_toArray, List.append_assoc, List.getElem?_append_left (by omega), List.getElem?_take_of_lt (by rw [i2]; exact ho), Array.getElem?_toList]
          have hnew : ∀ o v, els.length * ti.size ≤ o → o < (els.length + els'.length) * ti.size → vs[o]? = some v → news[o - els.length * ti.size]? = some v := fun o v h1 h2 h3 => by
            rw [hvs, List.getElem?_toArray] at h3
            rw [Nat.add_mul] at h2
            rcases app_get h3 with h | h | h
            · have := (List.getElem?_eq_some_iff.1 h).1; omega
            · rw [htk] at h; exact h.2
            · rw [htk, hnewlen] at h; omega
          have ex := Ext.growRow hI hrow hcapk (Nat.le_add_right _ els'.length) hg hsame
          have hI1 := hI.growRow hrow hcapk (Nat.le_add_right _ els'.length) hroom hg hvsz hsame (fun o v h1 h2 h3 => hnl _ v (hnew o v h2 h1 h3))
          rw [← hvs]
          refine ⟨M.growRow k e ti.size vs (els.length + els'.length), rfl, ex, hI1, fun j _ => rfl, ?_⟩
          have hll : (els ++ els').length = els.length + els'.length := by simp
          have hsz2 := lengths_append hsz hsz'
          have key : R (M.growRow k e ti.size vs (els.length + els'.length)) (.sl ti.size (els ++ els') (.own k)) (.slice (some a) (els ++ els').length cap) := ?_
          · rw [hll] at key; exact key
          refine .slice ti.size (els ++ els') (.own k) a cap hs (by rw [hll]; exact hroom) hsz2 (fun o ho => ?_) (fun i j row c' v hi hj hcell => ?_) ?_
          · refine .inr ⟨hblk, ?_⟩
            rw [hll] at ho; rw [hoff]; simpa using ho
          · have hcell' : vs[i * ti.size + j]? = some v := by
              have : (M.growRow k e ti.size vs (els.length + els'.length)).w.cell? ⟨a.block, a.off + (i * ti.size + j), none⟩ = vs[i * ti.size + j]? := by
                rw [hblk, hoff, Nat.zero_add]
                exact cell_row (setRow_heap_same hg)
              rw [← this]; exact hcell
            have hfl := flat_at hsz2 i j row c' hi hj
            rw [List.flatten_append] at hfl
            have hlo : els.flatten.length = els.length * ti.size := flat_length hsz
            have hln : els'.flatten.length = els'.length * ti.size := flat_length hsz'
            have hbd := (List.getElem?_eq_some_iff.1 hfl).1
            rw [List.length_append, hlo, hln, ← Nat.add_mul] at hbd
            refine R.ext ex ?_
            rcases Nat.lt_or_ge (i * ti.size + j) (els.length * ti.size) with hlt | hge
            · rw [List.getElem?_append_left (by omega)] at hfl
              obtain ⟨i', j', row', r1, r2, r3⟩ := flat_get hsz _ c' hfl
              refine hc i' j' row' c' v r1 r2 ?_
              rw [← r3, hblk, hoff, Nat.zero_add, cell_row hg, ← hsame _ hlt]; exact hcell'
            · rw [List.getElem?_append_right (by omega), hlo] at hfl
              exact hnR _ c' v hfl (hnew _ v hge hbd hcell')
          · exact ⟨e, els.length + els'.length, by simp [Mem.growRow, upd1], by rw [hll]; exact Nat.le_refl _, fun _ => .inr ⟨hoff, hblk, hcapk⟩⟩
        · exact moves fun a' n c h => by rw [hv] at h; cases h; omega⟩

theorem run_append_room_zeros (w : World) (t tn ty e : TypeId) (i : TypeInfo) (z : Value) (kq kn : IntKind) (ht : P.underlying t = some (.slice e)) (htn : P.underlying tn = some (.int kn)) (hi : P.info? e = some i) (hz : i.zero = some z)
    (g sLen sCap : Nat) (cur : Array Value) (hg : w.heap[g]? = some (.cells cur e (0, 0))) (k : Nat) (h0 : 0 < k) (hs : 0 < i.size) (h63 : k ≤ 9223372036854775807) (h48 : k * i.bytes ≤ 281474976710656) (hroom : sLen + k ≤ sCap)
    (hfit : sLen * i.size + (Builtin.zeroCells z.cells k).toList.length ≤ cur.size) (hone : ∀ v ∈ (Builtin.zeroCells z.cells k).toList, v.oneCell' = true) :
    (Builtin.append_ #[t, tn] ty #[.slice (some ⟨g, 0, none⟩) sLen sCap, .int kq k]).run P w =
      .ok (.slice (some ⟨g, 0, none⟩) (sLen + k) sCap) (w.setRow g (cur.toList.take (sLen * i.size) ++ (Builtin.zeroCells z.cells k).toList ++ cur.toList.drop (sLen * i.size + (Builtin.zeroCells z.cells k).toList.length)).toArray) := by
  have hst := run_storeCells_at P g (sLen * i.size) e (Builtin.zeroCells z.cells k).toList 0 cur w hg (by simpa using hfit) hone
  simp only [Nat.add_zero] at hst
  have hw : IntKind.i64.wrap (k : Int) = k := by rw [IntKind.wrap_i64]; omega
  have h48i : ¬ (281474976710656 < (k : Int) * (i.bytes : Int)) := by
    rw [← Int.natCast_mul]
    omega
  have hneg : ¬ ((k : Int) < 0) := by omega
  have hns : ¬ (k * i.size = 0) := Nat.mul_ne_zero (by omega) (by omega)
  simp [Builtin.append_, run_underlying ht, run_underlying htn, sizeOf, typeInfo, zeroValue, hi, hz, asInt, asIntOf, hw, hroom, hneg, hns, h48i, Addr.add_lit, hst]

theorem chunk_flatten (sz : Nat) : ∀ (n : Nat) (cs : List AV), cs.length = n * sz → (chunk sz n cs).flatten = cs
  | 0, cs, h => by
    have : cs = [] := List.eq_nil_of_length_eq_zero (by omega)
    subst this; rfl
  | n + 1, cs, h => by
    rw [Nat.succ_mul] at h
    simp only [chunk, List.flatten_cons]
    rw [chunk_flatten sz n (cs.drop sz) (by rw [List.length_drop]; omega), List.take_append_drop]
theorem chunk_rows (sz : Nat) : ∀ (n : Nat) (cs : List AV), cs.length = n * sz → ∀ row, row ∈ chunk sz n cs → row.length = sz
  | 0, cs, h, row, hr => by cases hr
  | n + 1, cs, h, row, hr => by
    rw [Nat.succ_mul] at h
    simp only [chunk, List.mem_cons] at hr
    rcases hr with rfl | hr
    · rw [List.length_take]; omega
    · exact chunk_rows sz n (cs.drop sz) (by rw [List.length_drop]; omega) row hr

theorem appends_zeros {M : Mem} {t u e : TypeId} {ti : TI} {kn kq : IntKind} (ht : P.underlying t = some (.slice e)) (hu : P.underlying u = some (.int kn)) (he : TIok P e ti) (hs0 : 0 < ti.size) {k : Nat} (h0 : 0 < k) (hb : k * ti.bytes ≤ 140737488355328) (h63 : k ≤ 9223372036854775807)
    {i : TypeInfo} {z : Value} (i1 : P.info? e = some i) (i4 : i.zero = some z) (i2 : i.size = ti.size) (i5 : z.cells.toList = ti.zero) (i3 : i.bytes = ti.bytes) :
    Appends P M t u e ty ti (.int kq k) (chunk ti.size k (repZero ti.zero (k * ti.size))) i z (Builtin.zeroCells z.cells k).toList := by
  have hzl : z.cells.size = ti.size := by rw [← he.len, ← i5]; simp
  have hlen : (Builtin.zeroCells z.cells k).size = k * ti.size := by rw [VS.zeroCells_size, hzl]
  have hcl := chunk_length ti.size k (repZero ti.zero (k * ti.size))
  have hzlf : ∀ v, v ∈ z.cells.toList → leaf v := fun v hv => by
    rw [i5] at hv
    exact leaf_of_B (List.all_eq_true.1 he.leafs v hv)
  have hlf : ∀ (j : Nat) (v : Value), (Builtin.zeroCells z.cells k)[j]? = some v → leaf v := fun j v hj => zeroCells_leaf (z := z.cells) hzlf (by omega) _ _ v hj
  have hone : ∀ v ∈ (Builtin.zeroCells z.cells k).toList, v.oneCell' = true := fun v hv => by
    obtain ⟨j, hj⟩ := List.getElem?_of_mem hv
    exact one_of_leaf (hlf j v (by rw [← Array.getElem?_toList]; exact hj))
  have hCL := rep_CL (M := M) he hs0 i5 (k * ti.size)
  refine ⟨by rw [hcl]; simpa using hlen, fun j v hj => hlf j v (by rw [← Array.getElem?_toList]; exact hj), fun j c v hc hv => ?_, chunk_rows ti.size k _ (by rw [repZero_length]), fun base sLen sCap olds hold hg h63' hfit => ?_, fun g sLen sCap cur hg hroom hfit => ?_⟩
  · rw [chunk_flatten _ _ _ (repZero_length _ _)] at hc
    have hz2 : Builtin.zeroCells z.cells k = (Array.range (k * ti.size)).map (z.cells[· % z.cells.size]!) := by unfold Builtin.zeroCells; rw [hzl]
    rw [hz2, Array.getElem?_toList] at hv
    exact hCL.2.2 j c v hc hv
  · rw [hcl] at hg h63' hfit ⊢
    have h := Lib.run_append_grow_zeros M.w t u ty e i z kq kn ht hu i1 i4 base sLen sCap olds hold k h0 (by omega) hg h63' (by rw [i3]; omega) hfit
    rw [h]
    congr 4
    simp
  · rw [hcl] at hroom ⊢
    exact run_append_room_zeros M.w t u ty e i z kq kn ht hu i1 i4 g sLen sCap cur hg k h0 (by omega) h63 (by rw [i3]; omega) hroom hfit hone

/-- append of so many noughts onto the newest slice of a row. -/
theorem aok_append_zeros {t u e : TypeId} {kn kq : IntKind} {ti : TI} (ht : P.underlying t = some (.slice e)) (hu : P.underlying u = some (.int kn)) (he : TIok P e ti) (hs0 : 0 < ti.size) {x y : Operand} {els : List (List AV)} {k : Nat} {c : Int}
    (hx : ρA x = .sl ti.size els (.own k)) (hy : ρA y = .val (.int kq c)) (h0 : 0 < c) (hbytes : (els.length + c.toNat) * ti.bytes ≤ 140737488355328) (h63 : els.length + c.toNat ≤ 9223372036854775807) :
    AOk P ⟨d, .call { callee := .builtin .append, args := #[x, y], argTypes := #[t, u] }, ty, pos, aft, gd⟩ ρA [(k, some (.row e ti.size els.length))] (.sl ti.size (els ++ chunk ti.size c.toNat (repZero ti.zero (c.toNat * ti.size))) (.own k)) [(k, .row e ti.size (els.length + c.toNat))] := by
  have hcl := chunk_length ti.size c.toNat (repZero ti.zero (c.toNat * ti.size))
  have hmul : c.toNat * ti.bytes ≤ (els.length + c.toNat) * ti.bytes := Nat.mul_le_mul_right _ (by omega)
  have key := aok_append_by (P := P) (d := d) (ty := ty) (pos := pos) (aft := aft) (gd := gd) (ρA := ρA) (u := u) (y := y) ht he hs0 (els' := chunk ti.size c.toNat (repZero ti.zero (c.toNat * ti.size)))
    (by intro h; rw [h] at hcl; simp at hcl; omega) hx (fun M ρ hr i z i1 i4 i2 i5 i3 => by
      rw [hy] at hr
      rw [val_of hr]
      have hcc : c = ((c.toNat : Nat) : Int) := by omega
      rw [hcc]
      exact ⟨_, appends_zeros (ty := ty) ht hu he hs0 (by omega) (by omega) (by omega) i1 i4 i2 i5 i3⟩)
    (by rw [hcl]; exact hbytes) (by rw [hcl]; exact h63)
  rw [hcl] at key
  exact key

theorem aok_append_zero0 {t u e : TypeId} {kn kq : IntKind} {ti : TI} (ht : P.underlying t = some (.slice e)) (hu : P.underlying u = some (.int kn)) (he : TIok P e ti) {x y : Operand} {sz : Nat} {els : List (List AV)} {md : Md}
    (hx : ρA x = .sl sz els md) (hy : ρA y = .val (.int kq 0)) :
    AOk P ⟨d, .call { callee := .builtin .append, args := #[x, y], argTypes := #[t, u] }, ty, pos, aft, gd⟩ ρA [] (.sl sz els md) [] :=
  ⟨(by intro _ _ h; cases h), fun M N ρ hI hρ _ _ hn _ _ => by
    have h1 := hρ x (by simp [Op.operands, Call.operands])
    have h2 := hρ y (by simp [Op.operands, Call.operands])
    rw [hx] at h1; rw [hy] at h2
    obtain ⟨i, z, i1, i2, i3, i4, i5⟩ := he.info
    obtain ⟨a, n, c, hv, hle⟩ : ∃ a n c, ρ x = .slice a n c ∧ n ≤ c := by
      generalize ρ x = v at h1
      cases h1
      · exact ⟨_, _, _, rfl, Nat.le_refl _⟩
      · exact ⟨_, _, _, rfl, by assumption⟩
    have hw : IntKind.i64.wrap 0 = 0 := by decide
    have hrun : (Builtin.append_ #[t, u] ty #[.slice a n c, .int kq 0]).run P M.w = .ok (.slice a n c) M.w := by
      cases a <;> simp [Builtin.append_, run_underlying ht, run_underlying hu, sizeOf, typeInfo, i1, asInt, asIntOf, hw, hle, storeCells]
    rw [← val_of h2, ← hv] at hrun
    rw [exec_append hrun]
    exact ⟨M, rfl, Ext.refl M, hI, fun j _ => rfl, h1⟩⟩

end
end Go.VS
