/-
  The value-semantics layer, part 2: what each step does to memory (a draw, a new block, a store, an append), said of Mem.
-/
import Derived.Test.YtdkiciofkifpdaaVsCore
namespace Go.VS
set_option linter.unusedVariables false
set_option linter.unusedSimpArgs false
open Go Go.RowKit

def upd1 (s : Nat → Option Res) (k : Nat) (r : Res) : Nat → Option Res := fun j => if j = k then some r else s j
def upd (s : Nat → Option Res) : List (Nat × Res) → Nat → Option Res
  | [] => s
  | (k, r) :: l => upd (upd1 s k r) l
theorem upd1_same (s : Nat → Option Res) (k : Nat) (r : Res) : upd1 s k r k = some r := by simp [upd1]
theorem upd1_ne (s : Nat → Option Res) {k j : Nat} (r : Res) (h : j ≠ k) : upd1 s k r j = s j := by simp [upd1, h]

theorem cell_alloc_lt (w : World) (o : Obj) (b i : Nat) (h : b < w.heap.size) : (w.alloc o).cell? ⟨b, i, none⟩ = w.cell? ⟨b, i, none⟩ :=
  World.cell?_alloc_lt w o ⟨b, i, none⟩ h
theorem lt_of_cell {w : World} {b i : Nat} {v : Value} (h : w.cell? ⟨b, i, none⟩ = some v) : b < w.heap.size :=
  World.block_lt_of_cell? w ⟨b, i, none⟩ h
theorem heap_new (w : World) (o : Obj) : (w.alloc o).heap[w.heap.size]? = some o := by
  show (w.heap.push o)[w.heap.size]? = some o
  simp
theorem heap_old (w : World) (o : Obj) (b : Nat) (h : b < w.heap.size) : (w.alloc o).heap[b]? = w.heap[b]? := Below.heap_alloc w o b h
theorem cell_row {w : World} {b i : Nat} {vs : Array Value} {e : TypeId} {fz : Nat × Nat} (h : w.heap[b]? = some (.cells vs e fz)) : w.cell? ⟨b, i, none⟩ = vs[i]? := by
  simp [World.cell?, h]
theorem lt_of_heap {w : World} {b : Nat} {o : Obj} (h : w.heap[b]? = some o) : b < w.heap.size := (Array.getElem?_eq_some_iff.1 h).1

section
variable {M : Mem}

theorem Inv.lt_owns (hI : Inv M) {k : Nat} (h : M.owns k) : M.β k < M.w.heap.size := by
  unfold Mem.owns at h
  split at h
  · rename_i e cs hk
    obtain ⟨vs, hv, _⟩ := hI.box k e cs hk
    exact lt_of_heap hv
  · rename_i e sz m hk
    obtain ⟨c, hc⟩ := Option.isSome_iff_exists.1 h
    obtain ⟨vs, hv, _⟩ := hI.row k e sz m c hk hc
    exact lt_of_heap hv
  · rename_i e sz m cs hk
    obtain ⟨c, hc⟩ := Option.isSome_iff_exists.1 h
    obtain ⟨vs, hv, _⟩ := (hI.vec k e sz m cs hk).2.2 c hc
    exact lt_of_heap hv
  · exact h.elim

theorem Inv.lt_stb (hI : Inv M) {b o : Nat} (h : M.stb b o) : b < M.w.heap.size := by
  obtain ⟨v, hv, _⟩ := hI.stb b o h
  exact lt_of_cell hv

theorem upd1_pin {s : Nat → Option Res} {k j b : Nat} {r : Res} {o : Obj} {fr : List AV} (h : upd1 s k r j = some (.pin b o fr)) (hr : r ≠ .pin b o fr) : s j = some (.pin b o fr) := by
  unfold upd1 at h
  split at h
  · injection h with h; exact (hr h).elim
  · exact h
theorem upd1_vec {s : Nat → Option Res} {k j : Nat} {r : Res} {e : TypeId} {sz m : Nat} {cs : List AV} (h : upd1 s k r j = some (.vec e sz m cs)) (hr : ∀ e sz m cs, r ≠ .vec e sz m cs) : s j = some (.vec e sz m cs) ∧ j ≠ k := by
  unfold upd1 at h
  split at h
  · injection h with h; exact (hr _ _ _ _ h).elim
  · rename_i hne; exact ⟨h, hne⟩
/-- A growing block that is left alone. -/
theorem Inv.vec_keep {M' : Mem} (hI : Inv M) (ex : Ext M M') {j : Nat} {e : TypeId} {sz m : Nat} {cs : List AV} (hj : M.st j = some (.vec e sz m cs)) (hcap : M'.cap j = M.cap j) (hβ : M'.β j = M.β j)
    (hh : M.owns j → M'.w.heap[M.β j]? = M.w.heap[M.β j]?) (hs : M.owns j → ∀ o, M'.stb (M.β j) o → M.stb (M.β j) o) :
    cs.length = m * sz ∧ (M'.cap j = none → m = 0) ∧ ∀ cap, M'.cap j = some cap → ∃ vs : Array Value, M'.w.heap[M'.β j]? = some (.cells vs e (0, 0)) ∧ vs.size = cap * sz ∧ m ≤ cap ∧
      (∀ (i : Nat) (v : Value), vs[i]? = some v → leaf v) ∧ (∀ (i : Nat) (c : AV) (v : Value), cs[i]? = some c → vs[i]? = some v → R M' c v) ∧ (∀ o, ¬ M'.stb (M'.β j) o) := by
  obtain ⟨h1, h2, h3⟩ := hI.vec j e sz m cs hj
  refine ⟨h1, fun h => h2 (by rw [← hcap]; exact h), fun cap hc => ?_⟩
  rw [hcap] at hc
  have ho : M.owns j := by simp [Mem.owns, hj, hc]
  obtain ⟨vs, g1, g2, g3, g4, g5, g6⟩ := h3 cap hc
  exact ⟨vs, by rw [hβ, hh ho]; exact g1, g2, g3, g4, fun i c v hi hv => (g5 i c v hi hv).ext ex, fun o hs' => g6 o (hs ho o (by rw [← hβ]; exact hs'))⟩
theorem pin_new (hI : Inv M) {k b : Nat} {o : Obj} {fr : List AV} (h : M.st k = some (.pin b o fr)) {M' : Mem} (e : Ext M M') {x : Obj} (hw : M'.w = M.w.alloc x) : PinOk M' b o fr := by
  have h1 := hI.pin k b o fr h
  exact h1.ext e (by rw [hw]; exact (heap_old _ _ _ (lt_of_heap h1.1)).trans h1.1)
theorem pin_row (hI : Inv M) {k b : Nat} {o : Obj} {fr : List AV} (h : M.st k = some (.pin b o fr)) {M' : Mem} (e : Ext M M') {c : Nat} {us : Array Value} {t : TypeId} {fz : Nat × Nat} (hc : M.w.heap[c]? = some (.cells us t fz))
    {vs : Array Value} (hw : M'.w = M.w.setRow c vs) : PinOk M' b o fr := by
  have h1 := hI.pin k b o fr h
  refine h1.ext e ?_
  have hne : b ≠ c := by
    rintro rfl
    have h2 := h1.1
    rw [hc] at h2; injection h2 with h2; have := h1.2.1; rw [← h2] at this; cases this
  rw [hw]
  show (M.w.heap.modify c _)[b]? = some o
  rw [Array.getElem?_modify, if_neg (by omega)]; exact h1.1

/-! A draw. -/
def Mem.withW (M : Mem) (w' : World) : Mem := { M with w := w' }
theorem Ext.withW {w' : World} (h : w'.heap = M.w.heap) : Ext M (M.withW w') :=
  ⟨rfl, fun _ _ h => h, fun b o _ => by simp [Mem.withW, World.cell?, h], fun _ h => ⟨h, rfl⟩, fun _ _ _ m h => ⟨m, h, Nat.le_refl _, fun _ => ⟨rfl, rfl⟩⟩, fun _ _ _ m cs h => .inl ⟨m, cs, h, Nat.le_refl _, fun _ => ⟨rfl, rfl⟩⟩⟩
theorem Inv.withW (hI : Inv M) {w' : World} (h : w'.heap = M.w.heap) (h1 : w'.os = M.w.os) (h2 : w'.tape = M.w.tape) (h3 : w'.output = M.w.output) : Inv (M.withW w') := by
  have e := Ext.withW (M := M) h
  refine ⟨?_, hI.fin, hI.new, hI.inj, fun b o hs => ?_, fun k t cs hk => ?_, fun k t sz m c hk hc => ?_, fun k b o fr hk => ?_, hI.pinj, fun k t sz m cs hk => hI.vec_keep e hk rfl rfl (fun _ => by simp [Mem.withW, h]) (fun _ _ h => h)⟩
  · have b := hI.below
    exact ⟨h1.trans b.os, h2.trans b.tape, h3.trans b.output, by simpa [Mem.withW, h] using b.size, fun k hk => by simpa [Mem.withW, h] using b.block k hk⟩
  · obtain ⟨v, hv, hl⟩ := hI.stb b o hs
    exact ⟨v, (e.cell b o hs).trans hv, hl⟩
  · obtain ⟨vs, h1, h2, h3, h4, h5⟩ := hI.box k t cs hk
    exact ⟨vs, by simpa [Mem.withW, h] using h1, h2, h3, fun i c v hi hv => (h4 i c v hi hv).ext e, h5⟩
  · obtain ⟨vs, h1, h2⟩ := hI.row k t sz m c hk hc
    exact ⟨vs, by simpa [Mem.withW, h] using h1, h2⟩
  · have h1 := hI.pin k b o fr hk
    exact h1.ext e (by simpa [Mem.withW, h] using h1.1)

/-! A new block that is a box. -/
def Mem.newBox (M : Mem) (k : Nat) (e : TypeId) (vs : Array Value) (cs : List AV) : Mem :=
  { M with w := M.w.alloc (.cells vs e), β := fun j => if j = k then M.w.heap.size else M.β j, st := upd1 M.st k (.box e cs) }

theorem Ext.newBox (hI : Inv M) {k : Nat} (hk : M.st k = none) (e : TypeId) (vs : Array Value) (cs : List AV) : Ext M (M.newBox k e vs cs) := by
  refine ⟨rfl, fun _ _ h => h, fun b o h => ?_, fun j hj => ?_, fun j t sz m hj => ?_, fun j t s m cs hj => by
    have hne : j ≠ k := by rintro rfl; rw [hk] at hj; cases hj
    exact .inl ⟨m, cs, by simp [Mem.newBox, upd1, hne, hj], Nat.le_refl _, fun _ => by simp [Mem.newBox, hne]⟩⟩
  · exact cell_alloc_lt _ _ _ _ (hI.lt_stb h)
  · have hne : j ≠ k := by rintro rfl; rw [hk] at hj; exact hj
    simp [Mem.newBox, upd1, hne, hj]
  · have hne : j ≠ k := by rintro rfl; rw [hk] at hj; cases hj
    exact ⟨m, by simp [Mem.newBox, upd1, hne, hj], Nat.le_refl _, fun _ => by simp [Mem.newBox, hne]⟩

theorem Inv.newBox (hI : Inv M) {k : Nat} (hk : M.st k = none) (e : TypeId) {vs : Array Value} {cs : List AV} (hl : cs.length ≤ vs.size)
    (hf : ∀ (i : Nat) (v : Value), vs[i]? = some v → leaf v)
    (hc : ∀ (i : Nat) (c : AV) (v : Value), cs[i]? = some c → vs[i]? = some v → R M c v) : Inv (M.newBox k e vs cs) := by
  have ex := Ext.newBox hI hk e vs cs
  have hown : ∀ j, j ≠ k → ((M.newBox k e vs cs).owns j ↔ M.owns j) := fun j hj => by
    simp [Mem.owns, Mem.newBox, upd1, hj]
  have hβ : ∀ j, j ≠ k → (M.newBox k e vs cs).β j = M.β j := fun j hj => by simp [Mem.newBox, hj]
  have hβk : (M.newBox k e vs cs).β k = M.w.heap.size := by simp [Mem.newBox]
  have hsz := hI.below.size
  refine ⟨?_, ?_, fun j hj => ?_, fun i j hi hj hij => ?_, fun b o hs => ?_, fun j t ds hj => ?_, fun j t sz m c hj hcap => ?_, fun j b o fr hj => pin_new hI (upd1_pin hj (by simp)) ex rfl, fun i j b o fr o' fr' hi hj => hI.pinj i j b o fr o' fr' (upd1_pin hi (by simp)) (upd1_pin hj (by simp)), fun j t sz m cs hj => hI.vec_keep ex (upd1_vec hj (by simp)).1 rfl (hβ j (upd1_vec hj (by simp)).2) (fun ho => heap_old _ _ _ (hI.lt_owns ho)) (fun _ _ h => h)⟩
  · exact hI.below.alloc hsz _
  · obtain ⟨N, hN⟩ := hI.fin
    exact ⟨max N (k + 1), fun j hj => by
      have : j ≠ k := by omega
      simp [Mem.newBox, upd1, this, hN j (by omega)]⟩
  · by_cases e' : j = k
    · subst e'; rw [hβk]; exact hsz
    · rw [hβ j e']; exact hI.new j ((hown j e').1 hj)
  · by_cases ei : i = k <;> by_cases ej : j = k
    · omega
    · subst ei
      rw [hβk, hβ j ej] at hij
      have := hI.lt_owns ((hown j ej).1 hj); omega
    · subst ej
      rw [hβk, hβ i ei] at hij
      have := hI.lt_owns ((hown i ei).1 hi); omega
    · rw [hβ i ei, hβ j ej] at hij
      exact hI.inj i j ((hown i ei).1 hi) ((hown j ej).1 hj) hij
  · obtain ⟨v, hv, hl⟩ := hI.stb b o hs
    exact ⟨v, (ex.cell b o hs).trans hv, hl⟩
  · by_cases e' : j = k
    · subst e'
      simp only [Mem.newBox, upd1_same, Option.some.injEq, Res.box.injEq] at hj
      obtain ⟨rfl, rfl⟩ := hj
      refine ⟨vs, by rw [hβk]; exact heap_new _ _, hl, hf, fun i c v hi hv => (hc i c v hi hv).ext ex, fun o ho => ?_⟩
      rw [hβk] at ho
      have := hI.lt_stb ho; omega
    · rw [hβ j e']
      have hj' : M.st j = some (.box t ds) := by simpa [Mem.newBox, upd1, e'] using hj
      obtain ⟨us, h1, h2, h3, h4, h5⟩ := hI.box j t ds hj'
      exact ⟨us, (heap_old _ _ _ (lt_of_heap h1)).trans h1, h2, h3, fun i c v hi hv => (h4 i c v hi hv).ext ex, h5⟩
  · have e' : j ≠ k := by rintro rfl; simp [Mem.newBox, upd1_same] at hj
    rw [hβ j e']
    have hj' : M.st j = some (.row t sz m) := by simpa [Mem.newBox, upd1, e'] using hj
    obtain ⟨us, h1, h2⟩ := hI.row j t sz m c hj' hcap
    exact ⟨us, (heap_old _ _ _ (lt_of_heap h1)).trans h1, h2⟩

/-! A new block that nobody will write. -/
def Mem.newStb (M : Mem) (e : TypeId) (vs : Array Value) (n : Nat) : Mem :=
  { M with w := M.w.alloc (.cells vs e), stb := fun b o => M.stb b o ∨ (b = M.w.heap.size ∧ o < n) }

theorem Ext.newStb (hI : Inv M) (e : TypeId) (vs : Array Value) (n : Nat) : Ext M (M.newStb e vs n) :=
  ⟨rfl, fun _ _ h => .inl h, fun b o h => cell_alloc_lt _ _ _ _ (hI.lt_stb h), fun _ h => ⟨h, rfl⟩, fun _ _ _ m h => ⟨m, h, Nat.le_refl _, fun _ => ⟨rfl, rfl⟩⟩, fun _ _ _ m cs h => .inl ⟨m, cs, h, Nat.le_refl _, fun _ => ⟨rfl, rfl⟩⟩⟩

theorem Inv.newStb (hI : Inv M) (e : TypeId) {vs : Array Value} {n : Nat} (hn : n ≤ vs.size) (hf : ∀ (i : Nat) (v : Value), vs[i]? = some v → leaf v) : Inv (M.newStb e vs n) := by
  have ex := Ext.newStb hI e vs n
  refine ⟨hI.below.alloc hI.below.size _, hI.fin, hI.new, hI.inj, fun b o hs => ?_, fun j t ds hj => ?_, fun j t sz m c hj hcap => ?_, fun j b o fr hj => pin_new hI hj ex rfl, hI.pinj, fun j t sz m cs hj => hI.vec_keep ex hj rfl rfl (fun ho => heap_old _ _ _ (hI.lt_owns ho)) (fun ho o h => h.elim id fun h => by have := hI.lt_owns ho; omega)⟩
  · rcases hs with hs | ⟨rfl, ho⟩
    · obtain ⟨v, hv, hl⟩ := hI.stb b o hs
      exact ⟨v, (ex.cell b o hs).trans hv, hl⟩
    · have ho' : o < vs.size := by omega
      exact ⟨vs[o], by show (M.w.alloc _).cell? _ = _; rw [cell_row (heap_new _ _)]; simp [ho'], hf o _ (by simp [ho'])⟩
  · obtain ⟨us, h1, h2, h3, h4, h5⟩ := hI.box j t ds hj
    refine ⟨us, (heap_old _ _ _ (lt_of_heap h1)).trans h1, h2, h3, fun i c v hi hv => (h4 i c v hi hv).ext ex, fun o ho => ?_⟩
    rcases ho with ho | ⟨hb, _⟩
    · exact h5 o ho
    · have := lt_of_heap h1
      have hb' : M.β j = M.w.heap.size := hb
      omega
  · obtain ⟨us, h1, h2, h3, h4, h5⟩ := hI.row j t sz m c hj hcap
    refine ⟨us, (heap_old _ _ _ (lt_of_heap h1)).trans h1, h2, h3, fun o ho hs => ?_, fun o ho => .inl (h5 o ho)⟩
    rcases hs with hs | ⟨hb, _⟩
    · exact h4 o ho hs
    · have := lt_of_heap h1
      have hb' : M.β j = M.w.heap.size := hb
      omega

/-- What is asked of another box or row than k where block β k alone is turned. -/
def Mem.setBox (M : Mem) (k : Nat) (e : TypeId) (vs : Array Value) (cs : List AV) : Mem :=
  { M with w := M.w.setRow (M.β k) vs, st := upd1 M.st k (.box e cs) }

theorem setRow_heap_same {w : World} {b : Nat} {us vs : Array Value} {e : TypeId} (h : w.heap[b]? = some (.cells us e (0, 0))) :
    (w.setRow b vs).heap[b]? = some (.cells vs e (0, 0)) := by
  simp [World.setRow, Array.getElem?_modify, h]
theorem setRow_heap_ne {w : World} {b c : Nat} {vs : Array Value} (h : c ≠ b) : (w.setRow b vs).heap[c]? = w.heap[c]? := by
  simp only [World.setRow, Array.getElem?_modify]
  rw [if_neg (by omega)]
theorem setRow_cell_ne {w : World} {b c i : Nat} {vs : Array Value} (h : c ≠ b) : (w.setRow b vs).cell? ⟨c, i, none⟩ = w.cell? ⟨c, i, none⟩ := by
  simp only [World.cell?]
  rw [setRow_heap_ne h]

theorem Ext.setBox (hI : Inv M) {k : Nat} {e : TypeId} {cs' : List AV} (hk : M.st k = some (.box e cs')) (vs : Array Value) (cs : List AV) : Ext M (M.setBox k e vs cs) := by
  obtain ⟨us, h1, h2, h3, h4, h5⟩ := hI.box k e cs' hk
  refine ⟨rfl, fun _ _ h => h, fun b o h => ?_, fun j hj => ?_, fun j t sz m hj => ?_, fun j t s m cs hj => by
    have hne : j ≠ k := by rintro rfl; rw [hk] at hj; cases hj
    exact .inl ⟨m, cs, by simp [Mem.setBox, upd1, hne, hj], Nat.le_refl _, fun _ => by simp [Mem.setBox, hne]⟩⟩
  · refine setRow_cell_ne ?_
    rintro rfl
    exact h5 o h
  · by_cases e' : j = k
    · subst e'; simp [Mem.setBox, upd1, isBox]
    · simp [Mem.setBox, upd1, e', hj]
  · have hne : j ≠ k := by rintro rfl; rw [hk] at hj; cases hj
    exact ⟨m, by simp [Mem.setBox, upd1, hne, hj], Nat.le_refl _, fun _ => by simp [Mem.setBox]⟩

theorem setRow_below {B : Nat} {a w : World} (h : Below B a w) {b : Nat} (hb : B ≤ b) (vs : Array Value) : Below B a (w.setRow b vs) :=
  h.trans ⟨rfl, rfl, rfl, by simp [World.setRow], fun k hk => setRow_heap_ne (by omega)⟩

theorem Inv.setBox (hI : Inv M) {k : Nat} {e : TypeId} {cs' : List AV} (hk : M.st k = some (.box e cs')) {vs : Array Value} {cs : List AV} (hl : cs.length ≤ vs.size)
    (hf : ∀ (i : Nat) (v : Value), vs[i]? = some v → leaf v)
    (hc : ∀ (i : Nat) (c : AV) (v : Value), cs[i]? = some c → vs[i]? = some v → R M c v) : Inv (M.setBox k e vs cs) := by
  have ex := Ext.setBox hI hk vs cs
  have hok : M.owns k := by simp [Mem.owns, hk]
  have hown : ∀ j, (M.setBox k e vs cs).owns j ↔ M.owns j := fun j => by
    by_cases e' : j = k
    · subst e'; simp [Mem.owns, Mem.setBox, upd1, hk]
    · simp [Mem.owns, Mem.setBox, upd1, e']
  obtain ⟨us, h1, h2, h3, h4, h5⟩ := hI.box k e cs' hk
  refine ⟨setRow_below hI.below (hI.new k hok) _, ?_, fun j hj => hI.new j ((hown j).1 hj), fun i j hi hj => hI.inj i j ((hown i).1 hi) ((hown j).1 hj), fun b o hs => ?_, fun j t ds hj => ?_, fun j t sz m c hj hcap => ?_, fun j b o fr hj => pin_row hI (upd1_pin hj (by simp)) ex h1 rfl, fun i j b o fr o' fr' hi hj => hI.pinj i j b o fr o' fr' (upd1_pin hi (by simp)) (upd1_pin hj (by simp)), fun j t sz m cs hj => hI.vec_keep ex (upd1_vec hj (by simp)).1 rfl rfl (fun ho => setRow_heap_ne fun hb => (upd1_vec hj (by simp)).2 (hI.inj j k ho hok hb)) (fun _ _ h => h)⟩
  · obtain ⟨N, hN⟩ := hI.fin
    exact ⟨max N (k + 1), fun j hj => by
      have : j ≠ k := by omega
      simp [Mem.setBox, upd1, this, hN j (by omega)]⟩
  · obtain ⟨v, hv, hl⟩ := hI.stb b o hs
    exact ⟨v, (ex.cell b o hs).trans hv, hl⟩
  · by_cases e' : j = k
    · subst e'
      simp only [Mem.setBox, upd1_same, Option.some.injEq, Res.box.injEq] at hj
      obtain ⟨rfl, rfl⟩ := hj
      exact ⟨vs, setRow_heap_same h1, hl, hf, fun i c v hi hv => (hc i c v hi hv).ext ex, h5⟩
    · have hj' : M.st j = some (.box t ds) := by simpa [Mem.setBox, upd1, e'] using hj
      obtain ⟨ws, g1, g2, g3, g4, g5⟩ := hI.box j t ds hj'
      refine ⟨ws, (setRow_heap_ne fun hb => e' ?_).trans g1, g2, g3, fun i c v hi hv => (g4 i c v hi hv).ext ex, g5⟩
      exact hI.inj j k (by simp [Mem.owns, hj']) hok hb
  · have e' : j ≠ k := by rintro rfl; simp [Mem.setBox, upd1_same] at hj
    have hj' : M.st j = some (.row t sz m) := by simpa [Mem.setBox, upd1, e'] using hj
    obtain ⟨ws, g1, g2⟩ := hI.row j t sz m c hj' hcap
    refine ⟨ws, (setRow_heap_ne fun hb => e' ?_).trans g1, g2⟩
    have hcap' : M.cap j = some c := hcap
    exact hI.inj j k (by simp [Mem.owns, hj', hcap']) hok hb

/-! A box that is written no more. -/
def Mem.freeze (M : Mem) (k n : Nat) : Mem :=
  { M with st := upd1 M.st k .dead, stb := fun b o => M.stb b o ∨ (b = M.β k ∧ o < n) }

theorem Ext.freeze (M : Mem) {k n : Nat} {e : TypeId} {cs : List AV} (hk : M.st k = some (.box e cs)) : Ext M (M.freeze k n) := by
  refine ⟨rfl, fun _ _ h => .inl h, fun _ _ _ => rfl, fun j hj => ?_, fun j t sz m hj => ?_, fun j t s m cs hj => by
    have hne : j ≠ k := by rintro rfl; rw [hk] at hj; cases hj
    exact .inl ⟨m, cs, by simp [Mem.freeze, upd1, hne, hj], Nat.le_refl _, fun _ => by simp [Mem.freeze, hne]⟩⟩
  · by_cases e' : j = k
    · subst e'; simp [Mem.freeze, upd1, isBox]
    · simp [Mem.freeze, upd1, e', hj]
  · have hne : j ≠ k := by rintro rfl; rw [hk] at hj; cases hj
    exact ⟨m, by simp [Mem.freeze, upd1, hne, hj], Nat.le_refl _, fun _ => by simp [Mem.freeze]⟩

theorem Inv.freeze (hI : Inv M) {k : Nat} {e : TypeId} {cs : List AV} (hk : M.st k = some (.box e cs)) : Inv (M.freeze k cs.length) := by
  have ex := Ext.freeze M (n := cs.length) hk
  have hok : M.owns k := by simp [Mem.owns, hk]
  have hown : ∀ j, (M.freeze k cs.length).owns j → j ≠ k ∧ M.owns j := fun j hj => by
    by_cases e' : j = k
    · subst e'; simp [Mem.owns, Mem.freeze, upd1] at hj
    · exact ⟨e', by simpa [Mem.owns, Mem.freeze, upd1, e'] using hj⟩
  obtain ⟨us, h1, h2, h3, h4, h5⟩ := hI.box k e cs hk
  refine ⟨hI.below, ?_, fun j hj => hI.new j (hown j hj).2, fun i j hi hj => hI.inj i j (hown i hi).2 (hown j hj).2, fun b o hs => ?_, fun j t ds hj => ?_, fun j t sz m c hj hcap => ?_, fun j b o fr hj => (hI.pin j b o fr (upd1_pin hj (by simp))).ext ex (hI.pin j b o fr (upd1_pin hj (by simp))).1, fun i j b o fr o' fr' hi hj => hI.pinj i j b o fr o' fr' (upd1_pin hi (by simp)) (upd1_pin hj (by simp)), fun j t sz m cs hj => hI.vec_keep ex (upd1_vec hj (by simp)).1 rfl rfl (fun _ => rfl) (fun ho o h => h.elim id fun h => ((upd1_vec hj (by simp)).2 (hI.inj j k ho hok h.1)).elim)⟩
  · obtain ⟨N, hN⟩ := hI.fin
    exact ⟨max N (k + 1), fun j hj => by
      have : j ≠ k := by omega
      simp [Mem.freeze, upd1, this, hN j (by omega)]⟩
  · rcases hs with hs | ⟨rfl, ho⟩
    · exact hI.stb b o hs
    · have ho' : o < us.size := by omega
      exact ⟨us[o], by show M.w.cell? _ = _; rw [cell_row h1]; simp [ho'], h3 o _ (by simp [ho'])⟩
  · have e' : j ≠ k := by rintro rfl; simp [Mem.freeze, upd1_same] at hj
    have hj' : M.st j = some (.box t ds) := by simpa [Mem.freeze, upd1, e'] using hj
    obtain ⟨ws, g1, g2, g3, g4, g5⟩ := hI.box j t ds hj'
    refine ⟨ws, g1, g2, g3, fun i c v hi hv => (g4 i c v hi hv).ext ex, fun o ho => ?_⟩
    rcases ho with ho | ⟨hb, _⟩
    · exact g5 o ho
    · exact e' (hI.inj j k (by simp [Mem.owns, hj']) hok hb)
  · have e' : j ≠ k := by rintro rfl; simp [Mem.freeze, upd1_same] at hj
    have hj' : M.st j = some (.row t sz m) := by simpa [Mem.freeze, upd1, e'] using hj
    obtain ⟨ws, g1, g2, g3, g4, g5⟩ := hI.row j t sz m c hj' hcap
    refine ⟨ws, g1, g2, g3, fun o ho hs => ?_, fun o ho => .inl (g5 o ho)⟩
    rcases hs with hs | ⟨hb, _⟩
    · exact g4 o ho hs
    · have hcap' : M.cap j = some c := hcap
      exact e' (hI.inj j k (by simp [Mem.owns, hj', hcap']) hok hb)

/-! A row that has no block yet. -/
def Mem.newRow (M : Mem) (k : Nat) (e : TypeId) (sz : Nat) : Mem :=
  { M with cap := fun j => if j = k then none else M.cap j, st := upd1 M.st k (.row e sz 0) }

theorem Ext.newRow (M : Mem) {k : Nat} (hk : M.st k = none) (e : TypeId) (sz : Nat) : Ext M (M.newRow k e sz) := by
  refine ⟨rfl, fun _ _ h => h, fun _ _ _ => rfl, fun j hj => ?_, fun j t s m hj => ?_, fun j t s m cs hj => by
    have hne : j ≠ k := by rintro rfl; rw [hk] at hj; cases hj
    exact .inl ⟨m, cs, by simp [Mem.newRow, upd1, hne, hj], Nat.le_refl _, fun _ => by simp [Mem.newRow, hne]⟩⟩
  · have hne : j ≠ k := by rintro rfl; rw [hk] at hj; exact hj
    simp [Mem.newRow, upd1, hne, hj]
  · have hne : j ≠ k := by rintro rfl; rw [hk] at hj; cases hj
    exact ⟨m, by simp [Mem.newRow, upd1, hne, hj], Nat.le_refl _, fun _ => by simp [Mem.newRow, hne]⟩

theorem Inv.newRow (hI : Inv M) {k : Nat} (hk : M.st k = none) (e : TypeId) (sz : Nat) : Inv (M.newRow k e sz) := by
  have ex := Ext.newRow M hk e sz
  have hown : ∀ j, (M.newRow k e sz).owns j → j ≠ k ∧ M.owns j := fun j hj => by
    by_cases e' : j = k
    · subst e'; simp [Mem.owns, Mem.newRow, upd1] at hj
    · exact ⟨e', by simpa [Mem.owns, Mem.newRow, upd1, e'] using hj⟩
  refine ⟨hI.below, ?_, fun j hj => hI.new j (hown j hj).2, fun i j hi hj => hI.inj i j (hown i hi).2 (hown j hj).2, hI.stb, fun j t ds hj => ?_, fun j t s m c hj hcap => ?_, fun j b o fr hj => (hI.pin j b o fr (upd1_pin hj (by simp))).ext ex (hI.pin j b o fr (upd1_pin hj (by simp))).1, fun i j b o fr o' fr' hi hj => hI.pinj i j b o fr o' fr' (upd1_pin hi (by simp)) (upd1_pin hj (by simp)), fun j t sz m cs hj => hI.vec_keep ex (upd1_vec hj (by simp)).1 (by simp [Mem.newRow, (upd1_vec hj (by simp)).2]) rfl (fun _ => rfl) (fun _ _ h => h)⟩
  · obtain ⟨N, hN⟩ := hI.fin
    exact ⟨max N (k + 1), fun j hj => by
      have : j ≠ k := by omega
      simp [Mem.newRow, upd1, this, hN j (by omega)]⟩
  · have e' : j ≠ k := by rintro rfl; simp [Mem.newRow, upd1_same] at hj
    have hj' : M.st j = some (.box t ds) := by simpa [Mem.newRow, upd1, e'] using hj
    obtain ⟨ws, g1, g2, g3, g4, g5⟩ := hI.box j t ds hj'
    exact ⟨ws, g1, g2, g3, fun i c v hi hv => (g4 i c v hi hv).ext ex, g5⟩
  · by_cases e' : j = k
    · subst e'; simp [Mem.newRow] at hcap
    · have hj' : M.st j = some (.row t s m) := by simpa [Mem.newRow, upd1, e'] using hj
      exact hI.row j t s m c hj' (by simpa [Mem.newRow, e'] using hcap)

/-! A row whose block lies new, its first n elements read as stable. -/
def Mem.moveRow (M : Mem) (k : Nat) (e : TypeId) (sz : Nat) (vs : Array Value) (m cap : Nat) : Mem :=
  { M with w := M.w.alloc (.cells vs e), β := fun j => if j = k then M.w.heap.size else M.β j, cap := fun j => if j = k then some cap else M.cap j,
           st := upd1 M.st k (.row e sz m), stb := fun b o => M.stb b o ∨ (b = M.w.heap.size ∧ o < m * sz) }

/-- The row k is not yet, or is shorter. -/
def rowBelow (M : Mem) (k : Nat) (e : TypeId) (sz m : Nat) : Prop := M.st k = none ∨ ∃ m', M.st k = some (.row e sz m') ∧ m' < m

theorem Ext.moveRow (hI : Inv M) {k : Nat} {e : TypeId} {sz m : Nat} (hk : rowBelow M k e sz m) (vs : Array Value) (cap : Nat) : Ext M (M.moveRow k e sz vs m cap) := by
  refine ⟨rfl, fun _ _ h => .inl h, fun b o h => cell_alloc_lt _ _ _ _ (hI.lt_stb h), fun j hj => ?_, fun j t s n hj => ?_, fun j t s m cs hj => by
    have hne : j ≠ k := by rintro rfl; rcases hk with hk | ⟨m', hk, _⟩ <;> (rw [hk] at hj; cases hj)
    exact .inl ⟨m, cs, by simp [Mem.moveRow, upd1, hne, hj], Nat.le_refl _, fun _ => by simp [Mem.moveRow, hne]⟩⟩
  · have hne : j ≠ k := by
      rintro rfl
      rcases hk with hk | ⟨m', hk, _⟩ <;> (rw [hk] at hj; exact hj)
    simp [Mem.moveRow, upd1, hne, hj]
  · by_cases e' : j = k
    · subst e'
      rcases hk with hk | ⟨m', hk, hm⟩
      · rw [hk] at hj; cases hj
      · rw [hk] at hj
        simp only [Option.some.injEq, Res.row.injEq] at hj
        obtain ⟨rfl, rfl, rfl⟩ := hj
        exact ⟨m, by simp [Mem.moveRow, upd1], by omega, fun h => by omega⟩
    · exact ⟨n, by simp [Mem.moveRow, upd1, e', hj], Nat.le_refl _, fun _ => by simp [Mem.moveRow, e']⟩

theorem Inv.moveRow (hI : Inv M) {k : Nat} {e : TypeId} {sz m : Nat} (hk : rowBelow M k e sz m) {vs : Array Value} {cap : Nat} (hv : vs.size = cap * sz) (hm : m ≤ cap)
    (hf : ∀ (i : Nat) (v : Value), vs[i]? = some v → leaf v) : Inv (M.moveRow k e sz vs m cap) := by
  have ex := Ext.moveRow hI hk vs cap
  have hown : ∀ j, j ≠ k → ((M.moveRow k e sz vs m cap).owns j ↔ M.owns j) := fun j hj => by
    simp [Mem.owns, Mem.moveRow, upd1, hj]
  have hβ : ∀ j, j ≠ k → (M.moveRow k e sz vs m cap).β j = M.β j := fun j hj => by simp [Mem.moveRow, hj]
  have hβk : (M.moveRow k e sz vs m cap).β k = M.w.heap.size := by simp [Mem.moveRow]
  have hsz := hI.below.size
  refine ⟨hI.below.alloc hsz _, ?_, fun j hj => ?_, fun i j hi hj hij => ?_, fun b o hs => ?_, fun j t ds hj => ?_, fun j t s n c hj hcap => ?_, fun j b o fr hj => pin_new hI (upd1_pin hj (by simp)) ex rfl, fun i j b o fr o' fr' hi hj => hI.pinj i j b o fr o' fr' (upd1_pin hi (by simp)) (upd1_pin hj (by simp)), fun j t s n cs hj => hI.vec_keep ex (upd1_vec hj (by simp)).1 (by simp [Mem.moveRow, (upd1_vec hj (by simp)).2]) (hβ j (upd1_vec hj (by simp)).2) (fun ho => heap_old _ _ _ (hI.lt_owns ho)) (fun ho o h => h.elim id fun h => by have := hI.lt_owns ho; omega)⟩
  · obtain ⟨N, hN⟩ := hI.fin
    exact ⟨max N (k + 1), fun j hj => by
      have : j ≠ k := by omega
      simp [Mem.moveRow, upd1, this, hN j (by omega)]⟩
  · by_cases e' : j = k
    · subst e'; rw [hβk]; exact hsz
    · rw [hβ j e']; exact hI.new j ((hown j e').1 hj)
  · by_cases ei : i = k <;> by_cases ej : j = k
    · omega
    · subst ei
      rw [hβk, hβ j ej] at hij
      have := hI.lt_owns ((hown j ej).1 hj); omega
    · subst ej
      rw [hβk, hβ i ei] at hij
      have := hI.lt_owns ((hown i ei).1 hi); omega
    · rw [hβ i ei, hβ j ej] at hij
      exact hI.inj i j ((hown i ei).1 hi) ((hown j ej).1 hj) hij
  · rcases hs with hs | ⟨rfl, ho⟩
    · obtain ⟨v, hv, hl⟩ := hI.stb b o hs
      exact ⟨v, (ex.cell b o (by exact hs)).trans hv, hl⟩
    · have ho' : o < vs.size := by
        rw [hv]; exact Nat.lt_of_lt_of_le ho (Nat.mul_le_mul_right _ hm)
      exact ⟨vs[o], by show (M.w.alloc _).cell? _ = _; rw [cell_row (heap_new _ _)]; simp [ho'], hf o _ (by simp [ho'])⟩
  · have e' : j ≠ k := by rintro rfl; simp [Mem.moveRow, upd1_same] at hj
    rw [hβ j e']
    have hj' : M.st j = some (.box t ds) := by simpa [Mem.moveRow, upd1, e'] using hj
    obtain ⟨us, h1, h2, h3, h4, h5⟩ := hI.box j t ds hj'
    refine ⟨us, (heap_old _ _ _ (lt_of_heap h1)).trans h1, h2, h3, fun i c v hi hv => (h4 i c v hi hv).ext ex, fun o ho => ?_⟩
    rcases ho with ho | ⟨hb, _⟩
    · exact h5 o ho
    · have := lt_of_heap h1; omega
  · by_cases e' : j = k
    · subst e'
      have hst : (M.moveRow j e sz vs m cap).st j = some (.row e sz m) := by simp [Mem.moveRow, upd1]
      rw [hst] at hj
      simp only [Option.some.injEq, Res.row.injEq] at hj
      obtain ⟨rfl, rfl, rfl⟩ := hj
      have hcc : (M.moveRow j e sz vs m cap).cap j = some cap := by simp [Mem.moveRow]
      rw [hcc] at hcap
      obtain rfl : cap = c := by injection hcap
      refine ⟨vs, by rw [hβk]; exact heap_new _ _, hv, hm, fun o ho hs => ?_, fun o ho => .inr ⟨hβk, ho⟩⟩
      rw [hβk] at hs
      rcases hs with hs | ⟨_, hlt⟩
      · have := hI.lt_stb hs; omega
      · omega
    · rw [hβ j e']
      have hj' : M.st j = some (.row t s n) := by simpa [Mem.moveRow, upd1, e'] using hj
      have hcap' : M.cap j = some c := by simpa [Mem.moveRow, e'] using hcap
      obtain ⟨us, h1, h2, h3, h4, h5⟩ := hI.row j t s n c hj' hcap'
      refine ⟨us, (heap_old _ _ _ (lt_of_heap h1)).trans h1, h2, h3, fun o ho hs => ?_, fun o ho => .inl (h5 o ho)⟩
      rcases hs with hs | ⟨hb, _⟩
      · exact h4 o ho hs
      · have := lt_of_heap h1; omega

/-! A row that grows where it lies. -/
def Mem.growRow (M : Mem) (k : Nat) (e : TypeId) (sz : Nat) (vs : Array Value) (m : Nat) : Mem :=
  { M with w := M.w.setRow (M.β k) vs, st := upd1 M.st k (.row e sz m), stb := fun b o => M.stb b o ∨ (b = M.β k ∧ o < m * sz) }

theorem Ext.growRow (hI : Inv M) {k : Nat} {e : TypeId} {sz m m' cap : Nat} (hk : M.st k = some (.row e sz m')) (hcap : M.cap k = some cap) (hm : m' ≤ m)
    {us vs : Array Value} (hu : M.w.heap[M.β k]? = some (.cells us e (0, 0)))
    (hsame : ∀ o, o < m' * sz → vs[o]? = us[o]?) : Ext M (M.growRow k e sz vs m) := by
  obtain ⟨us', h1, h2, h3, h4, h5⟩ := hI.row k e sz m' cap hk hcap
  refine ⟨rfl, fun _ _ h => .inl h, fun b o h => ?_, fun j hj => ?_, fun j t s n hj => ?_, fun j t s m cs hj => by
    have hne : j ≠ k := by rintro rfl; rw [hk] at hj; cases hj
    exact .inl ⟨m, cs, by simp [Mem.growRow, upd1, hne, hj], Nat.le_refl _, fun _ => by simp [Mem.growRow, hne]⟩⟩
  · by_cases hb : b = M.β k
    · subst hb
      have ho : o < m' * sz := by
        rcases Nat.lt_or_ge o (m' * sz) with h' | h'
        · exact h'
        · exact (h4 o h' h).elim
      show (M.w.setRow _ _).cell? _ = _
      rw [cell_row (setRow_heap_same hu), cell_row hu, hsame o ho]
    · exact setRow_cell_ne hb
  · have hne : j ≠ k := by rintro rfl; rw [hk] at hj; exact hj
    simp [Mem.growRow, upd1, hne, hj]
  · by_cases e' : j = k
    · subst e'
      rw [hk] at hj
      simp only [Option.some.injEq, Res.row.injEq] at hj
      obtain ⟨rfl, rfl, rfl⟩ := hj
      exact ⟨m, by simp [Mem.growRow, upd1], hm, fun _ => by simp [Mem.growRow]⟩
    · exact ⟨n, by simp [Mem.growRow, upd1, e', hj], Nat.le_refl _, fun _ => by simp [Mem.growRow]⟩

theorem Inv.growRow (hI : Inv M) {k : Nat} {e : TypeId} {sz m m' cap : Nat} (hk : M.st k = some (.row e sz m')) (hcap : M.cap k = some cap) (hm : m' ≤ m) (hmc : m ≤ cap)
    {us vs : Array Value} (hu : M.w.heap[M.β k]? = some (.cells us e (0, 0))) (hv : vs.size = us.size)
    (hsame : ∀ o, o < m' * sz → vs[o]? = us[o]?) (hf : ∀ o v, o < m * sz → m' * sz ≤ o → vs[o]? = some v → leaf v) : Inv (M.growRow k e sz vs m) := by
  have ex := Ext.growRow hI hk hcap hm hu hsame
  have hok : M.owns k := by simp [Mem.owns, hk, hcap]
  have hown : ∀ j, (M.growRow k e sz vs m).owns j ↔ M.owns j := fun j => by
    by_cases e' : j = k
    · subst e'; simp [Mem.owns, Mem.growRow, upd1, hk]
    · simp [Mem.owns, Mem.growRow, upd1, e']
  obtain ⟨us', h1, h2, h3, h4, h5⟩ := hI.row k e sz m' cap hk hcap
  rw [hu] at h1
  simp only [Option.some.injEq, Obj.cells.injEq, and_true] at h1
  subst h1
  refine ⟨setRow_below hI.below (hI.new k hok) _, ?_, fun j hj => hI.new j ((hown j).1 hj), fun i j hi hj => hI.inj i j ((hown i).1 hi) ((hown j).1 hj), fun b o hs => ?_, fun j t ds hj => ?_, fun j t s n c hj hcap' => ?_, fun j b o fr hj => pin_row hI (upd1_pin hj (by simp)) ex hu rfl, fun i j b o fr o' fr' hi hj => hI.pinj i j b o fr o' fr' (upd1_pin hi (by simp)) (upd1_pin hj (by simp)), fun j t s n cs hj => hI.vec_keep ex (upd1_vec hj (by simp)).1 rfl rfl (fun ho => setRow_heap_ne fun hb => (upd1_vec hj (by simp)).2 (hI.inj j k ho hok hb)) (fun ho o h => h.elim id fun h => ((upd1_vec hj (by simp)).2 (hI.inj j k ho hok h.1)).elim)⟩
  · obtain ⟨N, hN⟩ := hI.fin
    exact ⟨max N (k + 1), fun j hj => by
      have : j ≠ k := by omega
      simp [Mem.growRow, upd1, this, hN j (by omega)]⟩
  · by_cases hs' : M.stb b o
    · obtain ⟨v, hv, hl⟩ := hI.stb b o hs'
      exact ⟨v, (ex.cell b o hs').trans hv, hl⟩
    · rcases hs with hs | ⟨rfl, ho⟩
      · exact absurd hs hs'
      · have ho' : o < vs.size := by
          rw [hv, h2]; exact Nat.lt_of_lt_of_le ho (Nat.mul_le_mul_right _ hmc)
        have hcell : (M.growRow k e sz vs m).w.cell? ⟨M.β k, o, none⟩ = some vs[o] := by
          show (M.w.setRow _ _).cell? _ = _
          rw [cell_row (setRow_heap_same hu)]; simp [ho']
        by_cases hlo : m' * sz ≤ o
        · exact ⟨vs[o], hcell, hf o _ ho hlo (by simp [ho'])⟩
        · exact absurd (h5 o (by omega)) hs'
  · have e' : j ≠ k := by rintro rfl; simp [Mem.growRow, upd1_same] at hj
    have hj' : M.st j = some (.box t ds) := by simpa [Mem.growRow, upd1, e'] using hj
    obtain ⟨ws, g1, g2, g3, g4, g5⟩ := hI.box j t ds hj'
    have hne : M.β j ≠ M.β k := fun hb => e' (hI.inj j k (by simp [Mem.owns, hj']) hok hb)
    refine ⟨ws, (setRow_heap_ne hne).trans g1, g2, g3, fun i c v hi hv => (g4 i c v hi hv).ext ex, fun o ho => ?_⟩
    rcases ho with ho | ⟨hb, _⟩
    · exact g5 o ho
    · exact hne hb
  · by_cases e' : j = k
    · subst e'
      have hst : (M.growRow j e sz vs m).st j = some (.row e sz m) := by simp [Mem.growRow, upd1]
      rw [hst] at hj
      simp only [Option.some.injEq, Res.row.injEq] at hj
      obtain ⟨rfl, rfl, rfl⟩ := hj
      have hcc : (M.growRow j e sz vs m).cap j = some cap := hcap
      rw [hcc] at hcap'
      obtain rfl : cap = c := by injection hcap'
      refine ⟨vs, setRow_heap_same hu, by rw [hv, h2], hmc, fun o ho hs => ?_, fun o ho => .inr ⟨rfl, ho⟩⟩
      rcases hs with hs | ⟨_, hlt⟩
      · exact h4 o (Nat.le_trans (Nat.mul_le_mul_right _ hm) ho) hs
      · omega
    · have hj' : M.st j = some (.row t s n) := by simpa [Mem.growRow, upd1, e'] using hj
      have hcap2 : M.cap j = some c := hcap'
      obtain ⟨ws, g1, g2, g3, g4, g5⟩ := hI.row j t s n c hj' hcap2
      have hne : M.β j ≠ M.β k := fun hb => e' (hI.inj j k (by simp [Mem.owns, hj', hcap2]) hok hb)
      refine ⟨ws, (setRow_heap_ne hne).trans g1, g2, g3, fun o ho hs => ?_, fun o ho => .inl (g5 o ho)⟩
      rcases hs with hs | ⟨hb, _⟩
      · exact g4 o ho hs
      · exact hne hb
end
end Go.VS
