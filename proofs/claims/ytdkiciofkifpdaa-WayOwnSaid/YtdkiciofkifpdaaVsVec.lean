/-
  The value-semantics layer: blocks of one's own that grow, and may be written once they grow no more.
-/
import Derived.Test.YtdkiciofkifpdaaVsOps6
namespace Go.VS
set_option linter.unusedVariables false
set_option linter.unusedSimpArgs false
open Go Go.RowKit

section
variable {M : Mem}

theorem upd1_other {s : Nat → Option Res} {k j : Nat} {r x : Res} (h : upd1 s k r j = some x) (hx : r ≠ x) : s j = some x ∧ j ≠ k := by
  unfold upd1 at h
  split at h
  · injection h with h; exact (hx h).elim
  · rename_i hne; exact ⟨h, hne⟩

/-! A growing block that has no memory yet. -/
def Mem.newVec (M : Mem) (k : Nat) (e : TypeId) (sz : Nat) : Mem :=
  { M with cap := fun j => if j = k then none else M.cap j, st := upd1 M.st k (.vec e sz 0 []) }

theorem Ext.newVec (M : Mem) {k : Nat} (hk : M.st k = none) (e : TypeId) (sz : Nat) : Ext M (M.newVec k e sz) := by
  refine ⟨rfl, fun _ _ h => h, fun _ _ _ => rfl, fun j hj => ?_, fun j t s m hj => ?_, fun j t s m cs hj => ?_⟩
  · have hne : j ≠ k := by rintro rfl; rw [hk] at hj; exact hj
    simp [Mem.newVec, upd1, hne, hj]
  · have hne : j ≠ k := by rintro rfl; rw [hk] at hj; cases hj
    exact ⟨m, by simp [Mem.newVec, upd1, hne, hj], Nat.le_refl _, fun _ => by simp [Mem.newVec, hne]⟩
  · have hne : j ≠ k := by rintro rfl; rw [hk] at hj; cases hj
    exact .inl ⟨m, cs, by simp [Mem.newVec, upd1, hne, hj], Nat.le_refl _, fun _ => by simp [Mem.newVec, hne]⟩

theorem Inv.newVec (hI : Inv M) {k : Nat} (hk : M.st k = none) (e : TypeId) (sz : Nat) : Inv (M.newVec k e sz) := by
  have ex := Ext.newVec M hk e sz
  have hown : ∀ j, (M.newVec k e sz).owns j → j ≠ k ∧ M.owns j := fun j hj => by
    by_cases e' : j = k
    · subst e'; simp [Mem.owns, Mem.newVec, upd1] at hj
    · exact ⟨e', by simpa [Mem.owns, Mem.newVec, upd1, e'] using hj⟩
  refine ⟨hI.below, ?_, fun j hj => hI.new j (hown j hj).2, fun i j hi hj => hI.inj i j (hown i hi).2 (hown j hj).2, hI.stb, fun j t ds hj => ?_, fun j t s m c hj hcap => ?_, fun j b o fr hj => (hI.pin j b o fr (upd1_pin hj (by simp))).ext ex (hI.pin j b o fr (upd1_pin hj (by simp))).1, fun i j b o fr o' fr' hi hj => hI.pinj i j b o fr o' fr' (upd1_pin hi (by simp)) (upd1_pin hj (by simp)), fun j t s m cs hj => ?_⟩
  · obtain ⟨N, hN⟩ := hI.fin
    exact ⟨max N (k + 1), fun j hj => by
      have : j ≠ k := by omega
      simp [Mem.newVec, upd1, this, hN j (by omega)]⟩
  · obtain ⟨hj', _⟩ := upd1_other hj (by simp)
    obtain ⟨ws, g1, g2, g3, g4, g5⟩ := hI.box j t ds hj'
    exact ⟨ws, g1, g2, g3, fun i c v hi hv => (g4 i c v hi hv).ext ex, g5⟩
  · obtain ⟨hj', e'⟩ := upd1_other hj (by simp)
    exact hI.row j t s m c hj' (by simpa [Mem.newVec, e'] using hcap)
  · by_cases e' : j = k
    · subst e'
      simp only [Mem.newVec, upd1_same, Option.some.injEq, Res.vec.injEq] at hj
      obtain ⟨rfl, rfl, rfl, rfl⟩ := hj
      exact ⟨by simp, fun _ => rfl, fun cap hc => by simp [Mem.newVec] at hc⟩
    · have hj' : M.st j = some (.vec t s m cs) := by simpa [Mem.newVec, upd1, e'] using hj
      exact hI.vec_keep ex hj' (by simp [Mem.newVec, e']) rfl (fun _ => rfl) (fun _ _ h => h)

/-! A growing block whose memory lies new. -/
def Mem.moveVec (M : Mem) (k : Nat) (e : TypeId) (sz : Nat) (vs : Array Value) (m cap : Nat) (cs : List AV) : Mem :=
  { M with w := M.w.alloc (.cells vs e), β := fun j => if j = k then M.w.heap.size else M.β j, cap := fun j => if j = k then some cap else M.cap j, st := upd1 M.st k (.vec e sz m cs) }

theorem Ext.moveVec (hI : Inv M) {k : Nat} {e : TypeId} {sz m m' : Nat} {cs' : List AV} (hk : M.st k = some (.vec e sz m' cs')) (hm : m' < m) (vs : Array Value) (cap : Nat) (cs : List AV) : Ext M (M.moveVec k e sz vs m cap cs) := by
  refine ⟨rfl, fun _ _ h => h, fun b o h => cell_alloc_lt _ _ _ _ (hI.lt_stb h), fun j hj => ?_, fun j t s n hj => ?_, fun j t s n ds hj => ?_⟩
  · have hne : j ≠ k := by rintro rfl; rw [hk] at hj; exact hj
    simp [Mem.moveVec, upd1, hne, hj]
  · have hne : j ≠ k := by rintro rfl; rw [hk] at hj; cases hj
    exact ⟨n, by simp [Mem.moveVec, upd1, hne, hj], Nat.le_refl _, fun _ => by simp [Mem.moveVec, hne]⟩
  · by_cases e' : j = k
    · subst e'
      rw [hk] at hj
      simp only [Option.some.injEq, Res.vec.injEq] at hj
      obtain ⟨rfl, rfl, rfl, rfl⟩ := hj
      exact .inl ⟨m, cs, by simp [Mem.moveVec, upd1], by omega, fun h => by omega⟩
    · exact .inl ⟨n, ds, by simp [Mem.moveVec, upd1, e', hj], Nat.le_refl _, fun _ => by simp [Mem.moveVec, e']⟩

theorem Inv.moveVec (hI : Inv M) {k : Nat} {e : TypeId} {sz m m' : Nat} {cs' : List AV} (hk : M.st k = some (.vec e sz m' cs')) (hmm : m' < m) {vs : Array Value} {cap : Nat} {cs : List AV} (hv : vs.size = cap * sz) (hm : m ≤ cap) (hl : cs.length = m * sz)
    (hf : ∀ (i : Nat) (v : Value), vs[i]? = some v → leaf v) (hc : ∀ (i : Nat) (c : AV) (v : Value), cs[i]? = some c → vs[i]? = some v → R M c v) : Inv (M.moveVec k e sz vs m cap cs) := by
  have ex := Ext.moveVec hI hk hmm vs cap cs
  have hown : ∀ j, j ≠ k → ((M.moveVec k e sz vs m cap cs).owns j ↔ M.owns j) := fun j hj => by
    simp [Mem.owns, Mem.moveVec, upd1, hj]
  have hβ : ∀ j, j ≠ k → (M.moveVec k e sz vs m cap cs).β j = M.β j := fun j hj => by simp [Mem.moveVec, hj]
  have hβk : (M.moveVec k e sz vs m cap cs).β k = M.w.heap.size := by simp [Mem.moveVec]
  have hsz := hI.below.size
  refine ⟨hI.below.alloc hsz _, ?_, fun j hj => ?_, fun i j hi hj hij => ?_, fun b o hs => ?_, fun j t ds hj => ?_, fun j t s n c hj hcap => ?_, fun j b o fr hj => pin_new hI (upd1_pin hj (by simp)) ex rfl, fun i j b o fr o' fr' hi hj => hI.pinj i j b o fr o' fr' (upd1_pin hi (by simp)) (upd1_pin hj (by simp)), fun j t s n ds hj => ?_⟩
  · obtain ⟨N, hN⟩ := hI.fin
    exact ⟨max N (k + 1), fun j hj => by
      have : j ≠ k := by omega
      simp [Mem.moveVec, upd1, this, hN j (by omega)]⟩
  · by_cases e' : j = k
    · subst e'; rw [hβk]; exact hsz
    · rw [hβ j e']; exact hI.new j ((hown j e').1 hj)
  · by_cases ei : i = k <;> by_cases ej : j = k
    · omega
    · subst ei
      rw [hβk, hβ j ej] at hij
      have := hI.lt_owns ((hown j ej).1 hj); omega
    · subst ej
      rw [hβk, hβ i ei] at hij
      have := hI.lt_owns ((hown i ei).1 hi); omega
    · rw [hβ i ei, hβ j ej] at hij
      exact hI.inj i j ((hown i ei).1 hi) ((hown j ej).1 hj) hij
  · obtain ⟨v, hv, hl⟩ := hI.stb b o hs
    exact ⟨v, (ex.cell b o hs).trans hv, hl⟩
  · obtain ⟨hj', e'⟩ := upd1_other hj (by simp)
    rw [hβ j e']
    obtain ⟨us, h1, h2, h3, h4, h5⟩ := hI.box j t ds hj'
    exact ⟨us, (heap_old _ _ _ (lt_of_heap h1)).trans h1, h2, h3, fun i c v hi hv => (h4 i c v hi hv).ext ex, h5⟩
  · obtain ⟨hj', e'⟩ := upd1_other hj (by simp)
    rw [hβ j e']
    have hcap' : M.cap j = some c := by simpa [Mem.moveVec, e'] using hcap
    obtain ⟨us, h1, h2, h3, h4, h5⟩ := hI.row j t s n c hj' hcap'
    exact ⟨us, (heap_old _ _ _ (lt_of_heap h1)).trans h1, h2, h3, h4, h5⟩
  · by_cases e' : j = k
    · subst e'
      have hst : (M.moveVec j e sz vs m cap cs).st j = some (.vec e sz m cs) := by simp [Mem.moveVec, upd1]
      rw [hst] at hj
      simp only [Option.some.injEq, Res.vec.injEq] at hj
      obtain ⟨rfl, rfl, rfl, rfl⟩ := hj
      have hcc : (M.moveVec j e sz vs m cap cs).cap j = some cap := by simp [Mem.moveVec]
      refine ⟨hl, fun h => (by rw [hcc] at h; cases h), fun c hc' => ?_⟩
      rw [hcc] at hc'
      obtain rfl : cap = c := by injection hc'
      refine ⟨vs, by rw [hβk]; exact heap_new _ _, hv, hm, hf, fun i c v hi hv => (hc i c v hi hv).ext ex, fun o ho => ?_⟩
      rw [hβk] at ho
      have := hI.lt_stb ho; omega
    · have hj' : M.st j = some (.vec t s n ds) := by simpa [Mem.moveVec, upd1, e'] using hj
      exact hI.vec_keep ex hj' (by simp [Mem.moveVec, e']) (hβ j e') (fun ho => heap_old _ _ _ (hI.lt_owns ho)) (fun _ _ h => h)

/-! A growing block that grows where it lies. -/
def Mem.growVec (M : Mem) (k : Nat) (e : TypeId) (sz : Nat) (vs : Array Value) (m : Nat) (cs : List AV) : Mem :=
  { M with w := M.w.setRow (M.β k) vs, st := upd1 M.st k (.vec e sz m cs) }

theorem Ext.growVec (hI : Inv M) {k : Nat} {e : TypeId} {sz m m' cap : Nat} {cs' : List AV} (hk : M.st k = some (.vec e sz m' cs')) (hcap : M.cap k = some cap) (hm : m' ≤ m) (vs : Array Value) (cs : List AV) : Ext M (M.growVec k e sz vs m cs) := by
  obtain ⟨us, h1, h2, h3, h4, h5, h6⟩ := (hI.vec k e sz m' cs' hk).2.2 cap hcap
  refine ⟨rfl, fun _ _ h => h, fun b o h => setRow_cell_ne (fun hb => h6 o (by rw [← hb]; exact h)), fun j hj => ?_, fun j t s n hj => ?_, fun j t s n ds hj => ?_⟩
  · have hne : j ≠ k := by rintro rfl; rw [hk] at hj; exact hj
    simp [Mem.growVec, upd1, hne, hj]
  · have hne : j ≠ k := by rintro rfl; rw [hk] at hj; cases hj
    exact ⟨n, by simp [Mem.growVec, upd1, hne, hj], Nat.le_refl _, fun _ => by simp [Mem.growVec]⟩
  · by_cases e' : j = k
    · subst e'
      rw [hk] at hj
      simp only [Option.some.injEq, Res.vec.injEq] at hj
      obtain ⟨rfl, rfl, rfl, rfl⟩ := hj
      exact .inl ⟨m, cs, by simp [Mem.growVec, upd1], hm, fun _ => by simp [Mem.growVec]⟩
    · exact .inl ⟨n, ds, by simp [Mem.growVec, upd1, e', hj], Nat.le_refl _, fun _ => by simp [Mem.growVec]⟩

theorem Inv.growVec (hI : Inv M) {k : Nat} {e : TypeId} {sz m m' cap : Nat} {cs' : List AV} (hk : M.st k = some (.vec e sz m' cs')) (hcap : M.cap k = some cap) (hmm : m' ≤ m) (hm : m ≤ cap) {us vs : Array Value} {cs : List AV}
    (hu : M.w.heap[M.β k]? = some (.cells us e (0, 0))) (hv : vs.size = us.size) (hl : cs.length = m * sz)
    (hf : ∀ (i : Nat) (v : Value), vs[i]? = some v → leaf v) (hc : ∀ (i : Nat) (c : AV) (v : Value), cs[i]? = some c → vs[i]? = some v → R M c v) : Inv (M.growVec k e sz vs m cs) := by
  have ex := Ext.growVec hI hk hcap hmm vs cs
  have hok : M.owns k := by simp [Mem.owns, hk, hcap]
  have hown : ∀ j, (M.growVec k e sz vs m cs).owns j ↔ M.owns j := fun j => by
    by_cases e' : j = k
    · subst e'; simp [Mem.owns, Mem.growVec, upd1, hk]
    · simp [Mem.owns, Mem.growVec, upd1, e']
  obtain ⟨us', h1, h2, h3, h4, h5, h6⟩ := (hI.vec k e sz m' cs' hk).2.2 cap hcap
  rw [hu] at h1
  simp only [Option.some.injEq, Obj.cells.injEq, and_true] at h1
  subst h1
  refine ⟨setRow_below hI.below (hI.new k hok) _, ?_, fun j hj => hI.new j ((hown j).1 hj), fun i j hi hj => hI.inj i j ((hown i).1 hi) ((hown j).1 hj), fun b o hs => ?_, fun j t ds hj => ?_, fun j t s n c hj hcap' => ?_, fun j b o fr hj => pin_row hI (upd1_pin hj (by simp)) ex hu rfl, fun i j b o fr o' fr' hi hj => hI.pinj i j b o fr o' fr' (upd1_pin hi (by simp)) (upd1_pin hj (by simp)), fun j t s n ds hj => ?_⟩
  · obtain ⟨N, hN⟩ := hI.fin
    exact ⟨max N (k + 1), fun j hj => by
      have : j ≠ k := by omega
      simp [Mem.growVec, upd1, this, hN j (by omega)]⟩
  · obtain ⟨v, hv, hl⟩ := hI.stb b o hs
    exact ⟨v, (ex.cell b o hs).trans hv, hl⟩
  · obtain ⟨hj', e'⟩ := upd1_other hj (by simp)
    obtain ⟨ws, g1, g2, g3, g4, g5⟩ := hI.box j t ds hj'
    exact ⟨ws, (setRow_heap_ne fun hb => e' (hI.inj j k (by simp [Mem.owns, hj']) hok hb)).trans g1, g2, g3, fun i c v hi hv => (g4 i c v hi hv).ext ex, g5⟩
  · obtain ⟨hj', e'⟩ := upd1_other hj (by simp)
    obtain ⟨ws, g1, g2⟩ := hI.row j t s n c hj' hcap'
    have hcj : M.cap j = some c := hcap'
    exact ⟨ws, (setRow_heap_ne fun hb => e' (hI.inj j k (by simp [Mem.owns, hj', hcj]) hok hb)).trans g1, g2⟩
  · by_cases e' : j = k
    · subst e'
      have hst : (M.growVec j e sz vs m cs).st j = some (.vec e sz m cs) := by simp [Mem.growVec, upd1]
      rw [hst] at hj
      simp only [Option.some.injEq, Res.vec.injEq] at hj
      obtain ⟨rfl, rfl, rfl, rfl⟩ := hj
      refine ⟨hl, fun h => (by have : M.cap j = none := h; rw [hcap] at this; cases this), fun c hc' => ?_⟩
      have hc2 : M.cap j = some c := hc'
      rw [hcap] at hc2
      obtain rfl : cap = c := by injection hc2
      exact ⟨vs, setRow_heap_same hu, by rw [hv, h2], hm, hf, fun i c v hi hv => (hc i c v hi hv).ext ex, h6⟩
    · have hj' : M.st j = some (.vec t s n ds) := by simpa [Mem.growVec, upd1, e'] using hj
      exact hI.vec_keep ex hj' rfl rfl (fun ho => setRow_heap_ne fun hb => e' (hI.inj j k ho hok hb)) (fun _ _ h => h)

/-! A growing block that grows no more: it may be written. -/
def Mem.boxVec (M : Mem) (k : Nat) (e : TypeId) (cs : List AV) : Mem := { M with st := upd1 M.st k (.box e cs) }

theorem Ext.boxVec {k : Nat} {e : TypeId} {sz m : Nat} {cs : List AV} (hk : M.st k = some (.vec e sz m cs)) : Ext M (M.boxVec k e cs) := by
  refine ⟨rfl, fun _ _ h => h, fun _ _ _ => rfl, fun j hj => ?_, fun j t s n hj => ?_, fun j t s n ds hj => ?_⟩
  · have hne : j ≠ k := by rintro rfl; rw [hk] at hj; exact hj
    simp [Mem.boxVec, upd1, hne, hj]
  · have hne : j ≠ k := by rintro rfl; rw [hk] at hj; cases hj
    exact ⟨n, by simp [Mem.boxVec, upd1, hne, hj], Nat.le_refl _, fun _ => ⟨rfl, rfl⟩⟩
  · by_cases e' : j = k
    · subst e'; exact .inr (by simp [Mem.boxVec, upd1, isBox])
    · exact .inl ⟨n, ds, by simp [Mem.boxVec, upd1, e', hj], Nat.le_refl _, fun _ => ⟨rfl, rfl⟩⟩

theorem Inv.boxVec (hI : Inv M) {k : Nat} {e : TypeId} {sz m cap : Nat} {cs : List AV} (hk : M.st k = some (.vec e sz m cs)) (hcap : M.cap k = some cap) : Inv (M.boxVec k e cs) := by
  have ex := Ext.boxVec hk
  have hok : M.owns k := by simp [Mem.owns, hk, hcap]
  have hown : ∀ j, (M.boxVec k e cs).owns j ↔ M.owns j := fun j => by
    by_cases e' : j = k
    · subst e'; simp [Mem.owns, Mem.boxVec, upd1, hk, hcap]
    · simp [Mem.owns, Mem.boxVec, upd1, e']
  obtain ⟨g0, _, g⟩ := hI.vec k e sz m cs hk
  obtain ⟨us, h1, h2, h3, h4, h5, h6⟩ := g cap hcap
  refine ⟨hI.below, ?_, fun j hj => hI.new j ((hown j).1 hj), fun i j hi hj => hI.inj i j ((hown i).1 hi) ((hown j).1 hj), hI.stb, fun j t ds hj => ?_, fun j t s n c hj hcap' => ?_, fun j b o fr hj => (hI.pin j b o fr (upd1_pin hj (by simp))).ext ex (hI.pin j b o fr (upd1_pin hj (by simp))).1, fun i j b o fr o' fr' hi hj => hI.pinj i j b o fr o' fr' (upd1_pin hi (by simp)) (upd1_pin hj (by simp)), fun j t s n ds hj => hI.vec_keep ex (upd1_vec hj (by simp)).1 rfl rfl (fun _ => rfl) (fun _ _ h => h)⟩
  · obtain ⟨N, hN⟩ := hI.fin
    exact ⟨max N (k + 1), fun j hj => by
      have : j ≠ k := by omega
      simp [Mem.boxVec, upd1, this, hN j (by omega)]⟩
  · by_cases e' : j = k
    · subst e'
      simp only [Mem.boxVec, upd1_same, Option.some.injEq, Res.box.injEq] at hj
      obtain ⟨rfl, rfl⟩ := hj
      exact ⟨us, h1, by rw [g0, h2]; exact Nat.mul_le_mul_right _ h3, h4, fun i c v hi hv => (h5 i c v hi hv).ext ex, h6⟩
    · have hj' : M.st j = some (.box t ds) := by simpa [Mem.boxVec, upd1, e'] using hj
      obtain ⟨ws, w1, w2, w3, w4, w5⟩ := hI.box j t ds hj'
      exact ⟨ws, w1, w2, w3, fun i c v hi hv => (w4 i c v hi hv).ext ex, w5⟩
  · obtain ⟨hj', e'⟩ := upd1_other hj (by simp)
    exact hI.row j t s n c hj' hcap'
end

section
variable {P : Program} {d : Option Tmp} {ty : TypeId} {pos : String} {aft : Array Edge} {gd : Option (Nat × Bool)} {ρA : Operand → AV}

theorem vsl_form {M : Mem} {k m : Nat} {e : TypeId} {sz : Nat} {cs : List AV} {v : Value} (hk : M.st k = some (.vec e sz m cs)) (h : R M (.vsl k m) v) :
    (m = 0 ∧ (∃ a, v = .slice a 0 0) ∧ M.cap k = none) ∨ ∃ cap, M.cap k = some cap ∧ v = .slice (some ⟨M.β k, 0, none⟩) m cap := by
  cases h with
  | vsl k n a l c h =>
    unfold VecOk at h
    rw [hk] at h
    exact h.2 rfl

/-- append onto a growing block. -/
theorem aok_append_vec {t u e : TypeId} {ti : TI} (he : TIok P e ti) (hs0 : 0 < ti.size) {x y : Operand} {els' : List (List AV)} {k m : Nat} {cs : List AV} (hnil : els' ≠ []) (hx : ρA x = .vsl k m)
    (h2g : ∀ (M : Mem) (ρ : Operand → Value), Inv M → R M (ρA y) (ρ y) → ∀ i z, P.info? e = some i → i.zero = some z → i.size = ti.size → z.cells.toList = ti.zero → i.bytes = ti.bytes → ∃ news, Appends P M t u e ty ti (ρ y) els' i z news)
    (hbytes : (m + els'.length) * ti.bytes ≤ 140737488355328) (h63 : m + els'.length ≤ 9223372036854775807) :
    AOk P ⟨d, .call { callee := .builtin .append, args := #[x, y], argTypes := #[t, u] }, ty, pos, aft, gd⟩ ρA [(k, some (.vec e ti.size m cs))] (.vsl k (m + els'.length)) [(k, .vec e ti.size (m + els'.length) (cs ++ els'.flatten))] :=
  ⟨(by intro _ _ h; cases h), fun M N ρ hI hρ _ _ hn _ _ => by
    have h1 := hρ x (by simp [Op.operands, Call.operands])
    rw [hx] at h1
    have hk := hn.1
    have hpos : 0 < els'.length := List.length_pos_iff.2 hnil
    obtain ⟨i, z, i1, i2, i3, i4, i5⟩ := he.info
    obtain ⟨news, hs⟩ := h2g M ρ hI (hρ y (by simp [Op.operands, Call.operands])) i z i1 i4 i2 i5 i3
    obtain ⟨hcl, hc0, hcap⟩ := hI.vec k e ti.size m cs hk
    have hnewl := hs.len
    have hfl : els'.flatten.length = news.length := by rw [flat_length hs.rows, hnewl]
    have hlen : (cs ++ els'.flatten).length = (m + els'.length) * ti.size := by rw [List.length_append, hcl, hfl, hnewl, Nat.add_mul]
    -- where there is no room
    have moves : ∀ (a : Option Addr) (c : Nat) (olds : List Value), ρ x = .slice a m c → c < m + els'.length → olds.length = m * ti.size →
        (Builtin.firstCells i.size m (.slice a m c)).run P M.w.drew = .ok olds.toArray M.w.drew → (∀ (j : Nat) (v : Value), olds[j]? = some v → leaf v) →
        (∀ (j : Nat) (c : AV) (v : Value), cs[j]? = some c → olds[j]? = some v → R M c v) →
        OpRes P (fun v w' => Done M N [(k, .vec e ti.size (m + els'.length) (cs ++ els'.flatten))] (.vsl k (m + els'.length)) v w')
          ((execOp ρ ⟨d, .call { callee := .builtin .append, args := #[x, y], argTypes := #[t, u] }, ty, pos, aft, gd⟩).run P M.w) := by
      intro a c olds hv hlt holdlen hold holf holR
      have hrun := hs.grow a m c olds hold hlt (by omega) (by rw [i3]; exact growslice_fits hlt hbytes)
      rw [← hv] at hrun
      rw [exec_append hrun]
      have hcapge := VS.grownCap_ge M.w (m + els'.length) c e
      generalize hcp : grownCap M.w (m + els'.length) c e = cp at hcapge
      have hzl : z.cells.size = ti.size := by rw [← he.len, ← i5]; simp
      have e0 := Ext.withW (M := M) (w' := M.w.drew) rfl
      have hI0 : Inv (M.withW M.w.drew) := hI.withW rfl rfl rfl rfl
      obtain ⟨vs, hvs⟩ : ∃ vs : Array Value, vs = (olds ++ news).toArray ++ Builtin.zeroCells z.cells (cp - (m + els'.length)) := ⟨_, rfl⟩
      have hvsize : vs.size = cp * ti.size := by
        rw [hvs]; simp only [Array.size_append, List.size_toArray, List.length_append, VS.zeroCells_size, hzl, holdlen, hnewl]
        rw [← Nat.add_mul, ← Nat.add_mul]; congr 1; omega
      have hget : ∀ (j : Nat) (v : Value), vs[j]? = some v → olds[j]? = some v ∨ (olds.length ≤ j ∧ news[j - olds.length]? = some v) ∨ (olds.length + news.length ≤ j ∧ leaf v) := fun j v hj => by
        rw [hvs, ← Array.getElem?_toList] at hj
        simp only [Array.toList_append] at hj
        rcases app_get hj with h | h | h
        · exact .inl h
        · exact .inr (.inl h)
        · refine .inr (.inr ⟨h.1, zeroCells_leaf (z := z.cells) (fun v hv => ?_) (by omega) _ _ v (by rw [← Array.getElem?_toList]; exact h.2)⟩)
          rw [i5] at hv
          exact leaf_of_B (List.all_eq_true.1 he.leafs v hv)
      have hleaf : ∀ (j : Nat) (v : Value), vs[j]? = some v → leaf v := fun j v hj => by
        rcases hget j v hj with h | h | h
        · exact holf j v h
        · exact hs.leafs _ v h.2
        · exact h.2
      have hR : ∀ (j : Nat) (c : AV) (v : Value), (cs ++ els'.flatten)[j]? = some c → vs[j]? = some v → R (M.withW M.w.drew) c v := fun j c v hc hj => by
        have hb := (List.getElem?_eq_some_iff.1 hc).1
        rw [List.length_append, hcl, hfl] at hb
        refine R.ext e0 ?_
        rcases hget j v hj with h | h | h
        · have hlt' := (List.getElem?_eq_some_iff.1 h).1
          rw [List.getElem?_append_left (by omega)] at hc
          exact holR j c v hc h
        · rw [List.getElem?_append_right (by omega), hcl, ← holdlen] at hc
          exact hs.rs _ c v hc h.2
        · omega
      have hk0 : (M.withW M.w.drew).st k = some (.vec e ti.size m cs) := hk
      have ex := Ext.moveVec hI0 hk0 (show m < m + els'.length by omega) vs cp (cs ++ els'.flatten)
      have hI1 := hI0.moveVec hk0 (show m < m + els'.length by omega) hvsize hcapge hlen hleaf hR
      rw [← hvs]
      refine ⟨(M.withW M.w.drew).moveVec k e ti.size vs (m + els'.length) cp (cs ++ els'.flatten), rfl, e0.trans ex, hI1, fun j _ => rfl, .vsl _ _ _ _ _ ?_⟩
      unfold VecOk
      rw [show ((M.withW M.w.drew).moveVec k e ti.size vs (m + els'.length) cp (cs ++ els'.flatten)).st k = some (.vec e ti.size (m + els'.length) (cs ++ els'.flatten)) by simp [Mem.moveVec, upd1]]
      exact ⟨Nat.le_refl _, fun _ => .inr ⟨cp, by simp [Mem.moveVec], by simp [Mem.moveVec]; rfl⟩⟩
    rcases vsl_form hk h1 with ⟨rfl, ⟨a, hv⟩, hcn⟩ | ⟨cap, hcapk, hv⟩
    · refine moves a 0 [] hv (by omega) (by simp) ?_ (fun j v h => by simp at h) (fun j c v hc h => by simp at h)
      cases a with
      | none => exact run_firstCells_none _ _ _ _ _
      | some a => exact run_firstCells_some _ _ _ _ _ _ _ (by simp) (fun j v hj => by simp at hj)
    · obtain ⟨us, g1, g2, g3, g4, g5, g6⟩ := hcap cap hcapk
      have hfit0 : m * ti.size ≤ us.size := by rw [g2]; exact Nat.mul_le_mul_right _ g3
      by_cases hroom : m + els'.length ≤ cap
      · have hfit : m * i.size + news.length ≤ us.size := by
          rw [i2, hnewl, g2, ← Nat.add_mul]; exact Nat.mul_le_mul_right _ hroom
        have hrun := hs.room (M.β k) m cap us g1 hroom hfit
        rw [← hv] at hrun
        rw [exec_append hrun]
        obtain ⟨vs, hvs⟩ : ∃ vs : Array Value, vs = (us.toList.take (m * i.size) ++ news ++ us.toList.drop (m * i.size + news.length)).toArray := ⟨_, rfl⟩
        have hcl2 : us.toList.length = us.size := by simp
        have htk : (us.toList.take (m * i.size)).length = m * ti.size := by
          rw [List.length_take, hcl2, i2]; rw [i2] at hfit; omega
        have hvsz : vs.size = us.size := by
          rw [hvs]; simp only [List.size_toArray, List.length_append, List.length_drop, htk, hcl2]
          rw [i2] at hfit ⊢; omega
        have hget : ∀ (j : Nat) (v : Value), vs[j]? = some v → (j < m * ti.size ∧ us[j]? = some v) ∨ (m * ti.size ≤ j ∧ news[j - m * ti.size]? = some v) ∨ (m * ti.size + news.length ≤ j ∧ leaf v) := fun j v hj => by
          rw [hvs, List.getElem?_toArray] at hj
          rcases app_get hj with h | h | h
          · have hlt := (List.getElem?_eq_some_iff.1 h).1
            rw [List.getElem?_take_of_lt (by rw [i2]; omega), Array.getElem?_toList] at h
            exact .inl ⟨by omega, h⟩
          · rw [htk] at h; exact .inr (.inl h)
          · rw [htk] at h
            refine .inr (.inr ⟨h.1, ?_⟩)
            have := h.2
            rw [List.getElem?_drop, Array.getElem?_toList] at this
            exact g4 _ v this
        have hleaf : ∀ (j : Nat) (v : Value), vs[j]? = some v → leaf v := fun j v hj => by
          rcases hget j v hj with h | h | h
          · exact g4 j v h.2
          · exact hs.leafs _ v h.2
          · exact h.2
        have hR : ∀ (j : Nat) (c : AV) (v : Value), (cs ++ els'.flatten)[j]? = some c → vs[j]? = some v → R M c v := fun j c v hc hj => by
          have hb := (List.getElem?_eq_some_iff.1 hc).1
          rw [List.length_append, hcl, hfl] at hb
          rcases hget j v hj with h | h | h
          · rw [List.getElem?_append_left (by omega)] at hc
            exact g5 j c v hc h.2
          · rw [List.getElem?_append_right (by omega), hcl] at hc
            exact hs.rs _ c v hc h.2
          · omega
        have ex := Ext.growVec hI hk hcapk (Nat.le_add_right m els'.length) vs (cs ++ els'.flatten)
        have hI1 := hI.growVec hk hcapk (Nat.le_add_right m els'.length) hroom g1 hvsz hlen hleaf hR
        rw [← hvs]
        refine ⟨M.growVec k e ti.size vs (m + els'.length) (cs ++ els'.flatten), rfl, ex, hI1, fun j _ => rfl, .vsl _ _ _ _ _ ?_⟩
        unfold VecOk
        rw [show (M.growVec k e ti.size vs (m + els'.length) (cs ++ els'.flatten)).st k = some (.vec e ti.size (m + els'.length) (cs ++ els'.flatten)) by simp [Mem.growVec, upd1]]
        exact ⟨Nat.le_refl _, fun _ => .inr ⟨cap, hcapk, rfl⟩⟩
      · refine moves (some ⟨M.β k, 0, none⟩) cap (us.toList.take (m * ti.size)) hv (by omega) (by rw [List.length_take]; simp; omega) ?_ (fun j v h => ?_) (fun j c v hc h => ?_)
        · exact run_firstCells_some _ _ _ _ _ _ _ (by rw [List.length_take, i2]; simp; omega) (fun j v hj => by
            have hlt := (List.getElem?_eq_some_iff.1 hj).1
            rw [List.length_take] at hlt
            rw [List.getElem?_take_of_lt (by omega), Array.getElem?_toList] at hj
            rw [add_at, Nat.zero_add, World.cell?_drew, cell_row g1]; exact hj)
        · have hlt := (List.getElem?_eq_some_iff.1 h).1
          rw [List.length_take] at hlt
          rw [List.getElem?_take_of_lt (by omega), Array.getElem?_toList] at h
          exact g4 j v h
        · have hlt := (List.getElem?_eq_some_iff.1 h).1
          rw [List.length_take] at hlt
          rw [List.getElem?_take_of_lt (by omega), Array.getElem?_toList] at h
          exact g5 j c v hc h⟩

theorem sz_eq {M : Mem} {sz sz2 : Nat} {els : List (List AV)} {md : Md} {v : Value} (h : md = .nil ∨ sz = sz2) (hr : R M (.sl sz els md) v) : R M (.sl sz2 els md) v := by
  rcases h with rfl | rfl
  · cases hr with
    | nil _ _ a hn hn' => exact .nil _ _ a hn hn'
    | slice _ _ _ a cap hs hcap hsz hst hc hmd => exact hmd.elim
  · exact hr

theorem appends_src {M : Mem} (hI : Inv M) {t u e e' : TypeId} {ti : TI} (ht : P.underlying t = some (.slice e)) (hu : P.underlying u = some (.slice e')) {ρ : Operand → Value} {y : Operand} {els' : List (List AV)} {md : Md}
    (hr : R M (.sl ti.size els' md) (ρ y)) {i : TypeInfo} {z : Value} (i1 : P.info? e = some i) (i4 : i.zero = some z) (i2 : i.size = ti.size) : ∃ news, Appends P M t u e ty ti (ρ y) els' i z news := by
  obtain ⟨news, hs, hnl, hnR, hsz⟩ := src_of (P := P) hI hu hr
  exact ⟨news, hs.newsLen, hnl, hnR, hsz,
    fun base sLen sCap olds hold hg h63 hfit => run_append_grow_src (P := P) M.w t u ty e i z ht i1 i4 base sLen sCap olds hold (ρ y) els'.length news (by rw [i2]; exact hs) hg h63 hfit,
    fun g sLen sCap cur hg hroom hfit => run_append_room_row (P := P) M.w t u ty e i ht i1 g sLen sCap cur hg (ρ y) els'.length news (by rw [i2]; exact hs) hroom hfit⟩

/-- append of a stable slice onto a growing block. -/
theorem aok_append_vecs {t u e e' : TypeId} {ti : TI} (ht : P.underlying t = some (.slice e)) (hu : P.underlying u = some (.slice e')) (he : TIok P e ti) (hs0 : 0 < ti.size) {x y : Operand} {sz' : Nat} {els' : List (List AV)} {md : Md} {k m : Nat} {cs : List AV}
    (hx : ρA x = .vsl k m) (hy : ρA y = .sl sz' els' md) (hsz : md = .nil ∨ sz' = ti.size) (hbytes : (m + els'.length) * ti.bytes ≤ 140737488355328) (h63 : m + els'.length ≤ 9223372036854775807) :
    AOk P ⟨d, .call { callee := .builtin .append, args := #[x, y], argTypes := #[t, u] }, ty, pos, aft, gd⟩ ρA [(k, some (.vec e ti.size m cs))] (.vsl k (m + els'.length)) [(k, .vec e ti.size (m + els'.length) (cs ++ els'.flatten))] := by
  by_cases hnil : els' = []
  · subst hnil
    refine ⟨(by intro _ _ h; cases h), fun M N ρ hI hρ _ _ hn _ _ => ?_⟩
    have h1 := hρ x (by simp [Op.operands, Call.operands])
    have h2 := hρ y (by simp [Op.operands, Call.operands])
    rw [hx] at h1; rw [hy] at h2
    have h2' := sz_eq hsz h2
    have hk := hn.1
    obtain ⟨i, z, i1, i2, i3, i4, i5⟩ := he.info
    obtain ⟨news, hs, _, _, _⟩ := src_of (P := P) hI hu h2'
    have hnn : news = [] := List.eq_nil_of_length_eq_zero (by rw [hs.newsLen]; simp)
    subst hnn
    obtain ⟨a, c, hv, hle⟩ : ∃ a c, ρ x = .slice a m c ∧ m ≤ c := by
      rcases vsl_form hk h1 with ⟨rfl, ⟨a, hv⟩, _⟩ | ⟨cap, hc, hv⟩
      · exact ⟨_, _, hv, Nat.le_refl _⟩
      · obtain ⟨us, _, _, g3, _⟩ := (hI.vec k e ti.size m cs hk).2.2 cap hc
        exact ⟨_, _, hv, g3⟩
    have hrun := run_append_none (P := P) M.w t u ty e i ht i1 a m c hle (ρ y) (by rw [i2]; exact hs)
    rw [← hv] at hrun
    rw [exec_append hrun]
    refine ⟨M, rfl, Ext.refl M, hI, fun j _ => ?_, by simpa using h1⟩
    simp only [upd, upd1, List.length_nil, Nat.add_zero, List.flatten_nil, List.append_nil]
    split
    · rename_i hj; subst hj; exact hk
    · rfl
  · exact aok_append_vec he hs0 hnil hx (fun M ρ hI hr i z i1 i4 i2 i5 i3 => by
      rw [hy] at hr
      exact appends_src hI ht hu (sz_eq hsz hr) i1 i4 i2) hbytes h63

/-- append onto an empty slice without room: a growing block begins. -/
theorem aok_append_newvec {t u e e' : TypeId} {ti : TI} (ht : P.underlying t = some (.slice e)) (hu : P.underlying u = some (.slice e')) (he : TIok P e ti) (hs0 : 0 < ti.size) {x y : Operand} {sz sz' : Nat} {els' : List (List AV)} {md md' : Md} (k : Nat)
    (hx : ρA x = .sl sz [] md) (hf : md = .nil ∨ md = .full) (hy : ρA y = .sl sz' els' md') (hsz : md' = .nil ∨ sz' = ti.size) (hne : els' ≠ []) (hbytes : els'.length * ti.bytes ≤ 140737488355328) (h63 : els'.length ≤ 9223372036854775807) :
    AOk P ⟨d, .call { callee := .builtin .append, args := #[x, y], argTypes := #[t, u] }, ty, pos, aft, gd⟩ ρA [(k, none)] (.vsl k els'.length) [(k, .vec e ti.size els'.length els'.flatten)] := by
  classical
  have hxy : y ≠ x := by
    rintro rfl
    rw [hx] at hy
    injection hy with _ h _
    exact hne h.symm
  have hy' : (fun z => if z = x then AV.vsl k 0 else ρA z) y = .sl sz' els' md' := by show (if y = x then _ else _) = _; rw [if_neg hxy]; exact hy
  have hx' : (fun z => if z = x then AV.vsl k 0 else ρA z) x = .vsl k 0 := if_pos rfl
  have key := aok_append_vecs (P := P) (d := d) (ty := ty) (pos := pos) (aft := aft) (gd := gd) (ρA := fun z => if z = x then .vsl k 0 else ρA z) (x := x) (y := y) (k := k) (m := 0) (cs := []) ht hu he hs0 hx' hy' hsz (by simpa using hbytes) (by simpa using h63)
  simp only [Nat.zero_add, List.nil_append] at key
  refine ⟨(by intro _ _ h; cases h), fun M N ρ hI hρ hc hfn hn hN hu' => ?_⟩
  have hk : M.st k = none := hn.1
  have ex := Ext.newVec M hk e ti.size
  have hI1 := hI.newVec hk e ti.size
  have hr := hρ x (by simp [Op.operands, Call.operands])
  rw [hx] at hr
  obtain ⟨a0, hv0⟩ : ∃ a, ρ x = .slice a 0 0 := by
    generalize ρ x = v at hr
    rcases hf with rfl | rfl
    · cases hr with
      | nil => exact ⟨_, rfl⟩
      | slice _ _ _ a cap hs hcap hsz hst hc hmd => exact hmd.elim
    · cases hr with
      | nil => exact ⟨_, rfl⟩
      | slice _ _ _ a cap hs hcap hsz hst hc hmd =>
        have : cap = 0 := hmd
        subst this
        exact ⟨_, rfl⟩
  have hst1 : (M.newVec k e ti.size).st k = some (.vec e ti.size 0 []) := by simp [Mem.newVec, upd1]
  have := key.2 (M.newVec k e ti.size) (max N (k + 1)) ρ hI1 (fun z hz => by
    by_cases hzx : z = x
    · subst hzx
      show R _ (if z = z then _ else _) _
      rw [if_pos rfl, hv0]
      refine .vsl _ _ _ _ _ ?_
      unfold VecOk
      rw [hst1]
      exact ⟨Nat.le_refl _, fun _ => .inl ⟨rfl, ⟨a0, rfl⟩, by simp [Mem.newVec]⟩⟩
    · show R _ (if z = x then _ else _) _
      rw [if_neg hzx]; exact (hρ z hz).ext ex) hc hfn ⟨hst1, trivial⟩ (fun j hj => by
      have hjk : j ≠ k := by omega
      simp [Mem.newVec, upd1, hjk]; exact hN j (by omega)) ⟨by omega, trivial⟩
  refine this.mono fun v w' ⟨M', h1, h2, h3, h4, h5⟩ => ⟨M', h1, ex.trans h2, h3, fun j hj => ?_, h5⟩
  rw [h4 j (by omega)]
  simp only [upd, upd1, Mem.newVec]
  split <;> rfl

theorem aok_len_vec {t e : TypeId} (ht : P.underlying t = some (.slice e)) {x : Operand} {k m : Nat} {e2 : TypeId} {sz : Nat} {cs : List AV} (hx : ρA x = .vsl k m) :
    AOk P ⟨d, .call { callee := .builtin .len, args := #[x], argTypes := #[t] }, ty, pos, aft, gd⟩ ρA [(k, some (.vec e2 sz m cs))] (.val (.int .i64 m)) [] :=
  aok_value (by intro _ _ h; cases h) fun M ρ hI hρ _ _ hn => by
    have h1 := hρ x (by simp [Op.operands, Call.operands])
    rw [hx] at h1
    obtain ⟨a, c, hv⟩ : ∃ a c, ρ x = .slice a m c := by
      rcases vsl_form hn.1 h1 with ⟨rfl, ⟨a, hv⟩, _⟩ | ⟨cap, _, hv⟩
      · exact ⟨_, _, hv⟩
      · exact ⟨_, _, hv⟩
    exact ⟨_, by simp [execOp, resolve, invoke, builtin, Builtin.len_, run_underlying ht, hv, goInt], .val _ trivial⟩

/-- The text of a box's bytes. -/
theorem aok_bsl_string {s t e eb : TypeId} (hs : P.underlying s = some (.slice e)) (he : P.underlying e = some (.int .u8)) (ht : P.underlying t = some .string) {x : Operand} {k off len : Nat} {fl : Bool} {cs : List AV} {l : List UInt8}
    (hx : ρA x = .bsl k off len fl) (h0 : 0 < len) (hb : off + len ≤ cs.length) (hl : (cs.drop off).take len = l.map fun b => .val (.int .u8 b.toNat)) :
    AOk P ⟨d, .convert s t x, ty, pos, aft, gd⟩ ρA [(k, some (.box eb cs))] (.val (.string ⟨l.toArray⟩)) [] :=
  aok_value (by intro _ _ h; cases h) fun M ρ hI hρ _ _ hn => by
    have h1 := hρ x (by simp [Op.operands])
    rw [hx] at h1
    obtain ⟨vs, g1, g2, g3, g4, g5⟩ := hI.box k eb cs hn.1
    have hll : l.length = len := by
      have := congrArg List.length hl
      rw [List.length_take, List.length_drop, List.length_map] at this; omega
    obtain ⟨cap, hv, hle, _⟩ := bsl_form h1 h0
    refine ⟨.string ⟨l.toArray⟩, ?_, .val _ trivial⟩
    have key := run_convert_bytes_back (P := P) M.w s t e ⟨M.β k, off, none⟩ cap l hs he ht (fun j hj => by
      rw [add_at]
      have hj' : off + j < vs.size := by omega
      have hc : cs[off + j]? = some (.val (.int .u8 (l[j].toNat : Int))) := by
        have h2 : ((cs.drop off).take len)[j]? = some (.val (.int .u8 (l[j].toNat : Int))) := by rw [hl]; simp [hj]
        rwa [List.getElem?_take_of_lt (by omega), List.getElem?_drop] at h2
      have hR := g4 (off + j) _ vs[off + j] hc (by simp [hj'])
      rw [cell_row g1, Array.getElem?_eq_getElem hj', val_of hR])
    rw [hll, ← hv] at key
    simp only [execOp, Sem.run_bind, key, Result.andThen_ok]
    rfl
end

/-! States. -/
/-- What a value of a growing block that grows no more is seen as. -/
def AV.bxv (k m : Nat) : AV → AV
  | .vsl j n => if j = k then (if n = m then .bsl k 0 m false else .top) else .vsl j n
  | x => x

theorem R.bxv {M : Mem} (hI : Inv M) {k : Nat} {e : TypeId} {sz m : Nat} {cs : List AV} (hk : M.st k = some (.vec e sz m cs)) (hm : 0 < m) {x : AV} {v : Value} (h : R M x v) : R (M.boxVec k e cs) (x.bxv k m) v := by
  have ex := Ext.boxVec hk
  cases h with
  | vsl j n a l c h =>
    simp only [AV.bxv]
    split
    · rename_i hj; subst hj
      split
      · rename_i hn; subst hn
        rcases vsl_form hk (.vsl _ _ _ _ _ h) with ⟨h0, _, _⟩ | ⟨cap, hc, hv⟩
        · omega
        · rw [hv]
          obtain ⟨us, _, _, g3, _⟩ := (hI.vec j e sz n cs hk).2.2 cap hc
          exact .bsl (M := M.boxVec j e cs) j 0 n cap false (by simp [Mem.boxVec, upd1, isBox]) g3 (fun h => by cases h)
      · exact .top _
    · exact (R.vsl j n a l c h).ext ex
  | top v => exact .top v
  | val v h => exact .val v h
  | agg cs vs hl hf hc => exact (R.agg cs vs hl hf hc).ext ex
  | nil sz md a hn hn' => exact .nil sz md a hn hn'
  | slice sz els md a cap hs hcap hsz hst hc hmd => exact (R.slice sz els md a cap hs hcap hsz hst hc hmd).ext ex
  | ptr k off h => exact (R.ptr k off h).ext ex
  | bsl k off len cap fl h hc hf => exact (R.bsl k off len cap fl h hc hf).ext ex
  | bsl0 k off a cap => exact .bsl0 k off a cap
  | ref cs a hs hst hc => exact (R.ref cs a hs hst hc).ext ex
  | fn f caps vs hl hc => exact (R.fn f caps vs hl hc).ext ex
  | iface t x v h => exact (R.iface t x v h).ext ex
  | tup l vs hl hc => exact (R.tup l vs hl hc).ext ex

/-- A growing block grows no more: it may be written. -/
theorem le_box {σ : AState} {i : Nat} {e : TypeId} {sz m : Nat} {cs : List AV} (hi : σ.lo[i]? = some (some (.vec e sz m cs))) (hm : 0 < m) :
    σ.le { σ with fr := σ.fr.map (AV.bxv (σ.n + i) m), lo := σ.lo.set i (some (.box e cs)) } := fun M a hI hs => by
  have hlt : i < σ.lo.length := (List.getElem?_eq_some_iff.1 hi).1
  have hk : M.st (σ.n + i) = some (.vec e sz m cs) := by
    rw [hs.st (σ.n + i) (dom_loc σ hlt), look_loc σ hs.le, hi]; rfl
  have ex := Ext.boxVec hk
  obtain ⟨_, hc0, _⟩ := hI.vec _ e sz m cs hk
  obtain ⟨cap, hcap⟩ : ∃ cap, M.cap (σ.n + i) = some cap := by
    cases hc : M.cap (σ.n + i) with
    | none => have := hc0 hc; omega
    | some c => exact ⟨c, rfl⟩
  refine ⟨M.boxVec (σ.n + i) e cs, rfl, ex, hI.boxVec hk hcap, hs.df, ⟨by simp [hs.fr.1], fun j c v hj hv => ?_⟩, hs.le, fun k hk' => ?_⟩
  · simp only [List.getElem?_map] at hj
    cases hx : σ.fr[j]? with
    | none => rw [hx] at hj; cases hj
    | some x =>
      rw [hx] at hj; injection hj with hj; subst hj
      exact (hs.fr.2 j x v hx hv).bxv hI hk hm
  · have hk2 : σ.dom k := by simpa [AState.dom] using hk'
    rw [look_set hs.le hk2 hlt]
    simp only [Mem.boxVec, upd1]
    split
    · rfl
    · exact hs.st k hk2

theorem empty_form {M : Mem} {sz : Nat} {md : Md} {v : Value} (hf : md = .nil ∨ md = .full) (h : R M (.sl sz [] md) v) : ∃ a, v = .slice a 0 0 := by
  rcases hf with rfl | rfl
  · cases h with
    | nil => exact ⟨_, rfl⟩
    | slice _ _ _ a cap hs hcap hsz hst hc hmd => exact hmd.elim
  · cases h with
    | nil => exact ⟨_, rfl⟩
    | slice _ _ _ a cap hs hcap hsz hst hc hmd =>
      have : cap = 0 := hmd
      subst this
      exact ⟨_, rfl⟩
/-- An empty slice without room begins a growing block, under a local name. -/
theorem le_vec {σ : AState} {i t sz sz' : Nat} {md : Md} (e : TypeId) (hi : σ.lo[i]? = some none) (ht : σ.fr[t]? = some (.sl sz' [] md)) (hf : md = .nil ∨ md = .full) :
    σ.le { σ with fr := σ.fr.set t (.vsl (σ.n + i) 0), lo := σ.lo.set i (some (.vec e sz 0 [])) } := fun M a hI hs => by
  have hlt : i < σ.lo.length := (List.getElem?_eq_some_iff.1 hi).1
  have hk : M.st (σ.n + i) = none := by
    rw [hs.st (σ.n + i) (dom_loc σ hlt), look_loc σ hs.le, hi]; rfl
  have ex := Ext.newVec M hk e sz
  refine ⟨M.newVec (σ.n + i) e sz, rfl, ex, hI.newVec hk e sz, hs.df, ⟨by simp [hs.fr.1], fun j c v hj hv => ?_⟩, hs.le, fun k hk' => ?_⟩
  · by_cases hjt : t = j
    · subst hjt
      have hl : t < σ.fr.length := (List.getElem?_eq_some_iff.1 ht).1
      simp only [List.getElem?_set_self hl, Option.some.injEq] at hj
      subst hj
      obtain ⟨a0, hv0⟩ := empty_form hf (hs.fr.2 t _ v ht hv)
      subst hv0
      refine .vsl _ _ _ _ _ ?_
      unfold VecOk
      rw [show (M.newVec (σ.n + i) e sz).st (σ.n + i) = some (.vec e sz 0 []) by simp [Mem.newVec, upd1]]
      exact ⟨Nat.le_refl _, fun _ => .inl ⟨rfl, ⟨a0, rfl⟩, by simp [Mem.newVec]⟩⟩
    · simp only [List.getElem?_set_ne hjt] at hj
      exact (hs.fr.2 j c v hj hv).ext ex
  · have hk2 : σ.dom k := by simpa [AState.dom] using hk'
    rw [look_set hs.le hk2 hlt]
    simp only [Mem.newVec, upd1]
    split
    · rfl
    · exact hs.st k hk2

/-- A nil slice begins a growing block, under a name that is free. -/
theorem le_vecN {σ : AState} {k t sz sz' : Nat} {md : Md} (e : TypeId) (hd : σ.dom k) (hl : σ.look k = none) (ht : σ.fr[t]? = some (.sl sz' [] md)) (hf : md = .nil ∨ md = .full) :
    σ.le { σ.give [(k, .vec e sz 0 [])] with fr := σ.fr.set t (.vsl k 0) } := fun M a hI hs => by
  have hk : M.st k = none := by rw [hs.st k hd]; exact hl
  have ex := Ext.newVec M hk e sz
  have hu : domG σ [(k, .vec e sz 0 [])] := ⟨hd, trivial⟩
  refine ⟨M.newVec k e sz, rfl, ex, hI.newVec hk e sz, hs.df.trans (give_df [(k, .vec e sz 0 [])] σ).symm, ⟨by simp [hs.fr.1], fun j c v hj hv => ?_⟩, by show (σ.give [(k, .vec e sz 0 [])]).n0 ≤ (σ.give [(k, .vec e sz 0 [])]).n; rw [give_n0, give_n]; exact hs.le, fun j hj => ?_⟩
  · by_cases hjt : t = j
    · subst hjt
      have hl : t < σ.fr.length := (List.getElem?_eq_some_iff.1 ht).1
      simp only [List.getElem?_set_self hl, Option.some.injEq] at hj
      subst hj
      obtain ⟨a0, hv0⟩ := empty_form hf (hs.fr.2 t _ v ht hv)
      subst hv0
      refine .vsl _ _ _ _ _ ?_
      unfold VecOk
      rw [show (M.newVec k e sz).st k = some (.vec e sz 0 []) by simp [Mem.newVec, upd1]]
      exact ⟨Nat.le_refl _, fun _ => .inl ⟨rfl, ⟨a0, rfl⟩, by simp [Mem.newVec]⟩⟩
    · simp only [List.getElem?_set_ne hjt] at hj
      exact (hs.fr.2 j c v hj hv).ext ex
  · have hj' := (give_dom _ _ _).1 (show (σ.give [(k, .vec e sz 0 [])]).dom j from hj)
    show (M.newVec k e sz).st j = (σ.give [(k, .vec e sz 0 [])]).look j
    rw [look_give _ _ hu j hj']
    show upd1 M.st k _ j = upd1 σ.look k _ j
    unfold upd1
    split
    · rfl
    · exact hs.st j hj'
end Go.VS
