/-
  The value-semantics layer, part 1: abstract values, resources, how they stand to memory. Program-generic; nothing of the seat is used.
-/
import Derived.WalkKit
import Derived.RangeFuncIn
import Derived.RangeFuncOwn
import Derived.OrdersIn
import Derived.TacticsIn
namespace Go.VS
set_option linter.unusedVariables false
set_option linter.unusedSimpArgs false
open Go Go.RowKit

/-- How a slice value may be grown: not known; its capacity is its length; it is the newest slice of the row named k; it is nil; it is not nil. -/
inductive Md where
  | sh
  | full
  | own (k : Nat)
  | nil
  | nn

/-- Abstract values. Aggregates and elements are flat lists of one-cell values. -/
inductive AV where
  | val (v : Value)
  | agg (cs : List AV)
  | sl (sz : Nat) (els : List (List AV)) (md : Md)
  | ptr (k off : Nat)
  | bsl (k off len : Nat) (fl : Bool)
  | vsl (k n : Nat)
  | ref (cs : List AV)
  | fn (f : Fn) (caps : List AV)
  | iface (t : TypeId) (x : AV)
  | tup (l : List AV)
  | top

/-- Named resources: a mutable block, a row that is only appended to, a block that has become immutable. -/
inductive Res where
  | box (e : TypeId) (cs : List AV)
  | row (e : TypeId) (sz n : Nat)
  /-- A block of its own that grows: n elements; may be written once it grows no more. -/
  | vec (e : TypeId) (sz n : Nat) (cs : List AV)
  | dead
  /-- Block b holds o, which is no cells: the records that a range over a function keeps. -/
  | pin (b : Nat) (o : Obj) (fr : List AV)

def isBox : Option Res → Prop
  | some (.box _ _) => True
  | some .dead => True
  | _ => False

def leaf : Value → Prop
  | .agg _ => False
  | .tuple _ => False
  | _ => True

structure Mem where
  w : World
  stb : Nat → Nat → Prop
  β : Nat → Nat
  cap : Nat → Option Nat
  st : Nat → Option Res
  base : World

/-- The whole of the growing block k, as it was with n elements. -/
def VecOk (M : Mem) (k n : Nat) (v : Value) : Prop :=
  match M.st k with
  | some (.vec _ _ m _) => n ≤ m ∧ (m = n → (n = 0 ∧ (∃ a, v = .slice a 0 0) ∧ M.cap k = none) ∨ ∃ cap, M.cap k = some cap ∧ v = .slice (some ⟨M.β k, 0, none⟩) n cap)
  | some (.box _ _) => True
  | some .dead => True
  | _ => False

def MdOk (M : Mem) (md : Md) (sz n : Nat) (a : Addr) (cap : Nat) : Prop :=
  match md with
  | .sh => True
  | .full => cap = n
  | .nil => False
  | .nn => True
  | .own k => ∃ e m, M.st k = some (.row e sz m) ∧ n ≤ m ∧ (m = n → cap = 0 ∨ (a.off = 0 ∧ a.block = M.β k ∧ M.cap k = some cap))

inductive R (M : Mem) : AV → Value → Prop
  | top (v : Value) : R M .top v
  | val (v : Value) (h : leaf v) : R M (.val v) v
  | agg (cs : List AV) (vs : Array Value) (hl : cs.length = vs.size)
      (hf : ∀ (i : Nat) (v : Value), vs[i]? = some v → leaf v)
      (hc : ∀ (i : Nat) (c : AV) (v : Value), cs[i]? = some c → vs[i]? = some v → R M c v) : R M (.agg cs) (.agg vs)
  | nil (sz : Nat) (md : Md) (a : Option Addr) (h : md = .nn → a ≠ none) (h' : md = .nil → a = none) : R M (.sl sz [] md) (.slice a 0 0)
  | slice (sz : Nat) (els : List (List AV)) (md : Md) (a : Addr) (cap : Nat) (hs : a.spot = none) (hcap : els.length ≤ cap)
      (hsz : ∀ row, row ∈ els → row.length = sz)
      (hst : ∀ o, o < els.length * sz → M.stb a.block (a.off + o))
      (hc : ∀ (i j : Nat) (row : List AV) (c : AV) (v : Value), els[i]? = some row → row[j]? = some c →
        M.w.cell? ⟨a.block, a.off + (i * sz + j), none⟩ = some v → R M c v)
      (hmd : MdOk M md sz els.length a cap) : R M (.sl sz els md) (.slice (some a) els.length cap)
  | ptr (k off : Nat) (h : isBox (M.st k)) : R M (.ptr k off) (.pointer (some ⟨M.β k, off, none⟩))
  | bsl (k off len cap : Nat) (fl : Bool) (h : isBox (M.st k)) (hc : len ≤ cap) (hf : fl = true → cap = len) : R M (.bsl k off len fl) (.slice (some ⟨M.β k, off, none⟩) len cap)
  | bsl0 (k off : Nat) (a : Option Addr) (cap : Nat) : R M (.bsl k off 0 false) (.slice a 0 cap)
  | vsl (k n : Nat) (a : Option Addr) (l c : Nat) (h : VecOk M k n (.slice a l c)) : R M (.vsl k n) (.slice a l c)
  | ref (cs : List AV) (a : Addr) (hs : a.spot = none) (hst : ∀ j, j < cs.length → M.stb a.block (a.off + j))
      (hc : ∀ (j : Nat) (c : AV) (v : Value), cs[j]? = some c → M.w.cell? ⟨a.block, a.off + j, none⟩ = some v → R M c v) :
      R M (.ref cs) (.pointer (some a))
  | fn (f : Fn) (caps : List AV) (vs : Array Value) (hl : caps.length = vs.size)
      (hc : ∀ (i : Nat) (c : AV) (v : Value), caps[i]? = some c → vs[i]? = some v → R M c v) : R M (.fn f caps) (.func f #[] vs)
  | iface (t : TypeId) (x : AV) (v : Value) (h : R M x v) : R M (.iface t x) (.iface t v)
  | tup (l : List AV) (vs : Array Value) (hl : l.length = vs.size)
      (hc : ∀ (i : Nat) (c : AV) (v : Value), l[i]? = some c → vs[i]? = some v → R M c v) : R M (.tup l) (.tuple vs)

structure Ext (M M' : Mem) : Prop where
  base : M'.base = M.base
  stb : ∀ b o, M.stb b o → M'.stb b o
  cell : ∀ b o, M.stb b o → M'.w.cell? ⟨b, o, none⟩ = M.w.cell? ⟨b, o, none⟩
  box : ∀ k, isBox (M.st k) → isBox (M'.st k) ∧ M'.β k = M.β k
  row : ∀ k e sz m, M.st k = some (.row e sz m) → ∃ m', M'.st k = some (.row e sz m') ∧ m ≤ m' ∧ (m' = m → M'.β k = M.β k ∧ M'.cap k = M.cap k)
  vec : ∀ k e sz m cs, M.st k = some (.vec e sz m cs) → (∃ m' cs', M'.st k = some (.vec e sz m' cs') ∧ m ≤ m' ∧ (m' = m → M'.β k = M.β k ∧ M'.cap k = M.cap k)) ∨ isBox (M'.st k)

theorem Ext.refl (M : Mem) : Ext M M :=
  ⟨rfl, fun _ _ h => h, fun _ _ _ => rfl, fun _ h => ⟨h, rfl⟩, fun _ _ _ m h => ⟨m, h, Nat.le_refl _, fun _ => ⟨rfl, rfl⟩⟩, fun _ _ _ m cs h => .inl ⟨m, cs, h, Nat.le_refl _, fun _ => ⟨rfl, rfl⟩⟩⟩

theorem Ext.trans {A B C : Mem} (h : Ext A B) (k : Ext B C) : Ext A C := by
  refine ⟨k.base.trans h.base, fun b o hs => k.stb b o (h.stb b o hs), fun b o hs => (k.cell b o (h.stb b o hs)).trans (h.cell b o hs), fun n hn => ?_, fun n e sz m hn => ?_, fun n e sz m cs hn => ?_⟩
  · have h1 := h.box n hn
    have h2 := k.box n h1.1
    exact ⟨h2.1, h2.2.trans h1.2⟩
  · obtain ⟨m1, e1, l1, q1⟩ := h.row n e sz m hn
    obtain ⟨m2, e2, l2, q2⟩ := k.row n e sz m1 e1
    refine ⟨m2, e2, Nat.le_trans l1 l2, fun hm => ?_⟩
    have hm1 : m1 = m := by omega
    have hm2 : m2 = m1 := by omega
    exact ⟨(q2 hm2).1.trans (q1 hm1).1, (q2 hm2).2.trans (q1 hm1).2⟩
  · rcases h.vec n e sz m cs hn with ⟨m1, c1, e1, l1, q1⟩ | hb
    · rcases k.vec n e sz m1 c1 e1 with ⟨m2, c2, e2, l2, q2⟩ | hb
      · refine .inl ⟨m2, c2, e2, Nat.le_trans l1 l2, fun hm => ?_⟩
        have hm1 : m1 = m := by omega
        have hm2 : m2 = m1 := by omega
        exact ⟨(q2 hm2).1.trans (q1 hm1).1, (q2 hm2).2.trans (q1 hm1).2⟩
      · exact .inr hb
    · exact .inr (k.box n hb).1

theorem MdOk.ext {M M' : Mem} (e : Ext M M') {md : Md} {sz n : Nat} {a : Addr} {cap : Nat} (h : MdOk M md sz n a cap) : MdOk M' md sz n a cap := by
  cases md with
  | sh => trivial
  | full => exact h
  | nil => exact h.elim
  | nn => trivial
  | own k =>
    obtain ⟨t, m, h1, h2, h3⟩ := h
    obtain ⟨m', e1, l1, q1⟩ := e.row k t sz m h1
    refine ⟨t, m', e1, Nat.le_trans h2 l1, fun hm => ?_⟩
    have hmn : m = n := by omega
    have hm' : m' = m := by omega
    rcases h3 hmn with h0 | ⟨p0, p1, p2⟩
    · exact .inl h0
    · obtain ⟨q2, q3⟩ := q1 hm'
      exact .inr ⟨p0, p1.trans q2.symm, q3.trans p2⟩

theorem VecOk.of_box {M : Mem} {k n : Nat} {v : Value} (h : isBox (M.st k)) : VecOk M k n v := by
  unfold VecOk
  revert h
  cases M.st k with
  | none => exact fun h => h.elim
  | some r => cases r <;> intro h <;> first | trivial | exact h.elim
theorem VecOk.ext {M M' : Mem} (e : Ext M M') {k n : Nat} {v : Value} (h : VecOk M k n v) : VecOk M' k n v := by
  unfold VecOk at h
  split at h
  · rename_i t sz m cs hk
    rcases e.vec k t sz m cs hk with ⟨m', cs', hk', hle, hq⟩ | hb
    · unfold VecOk
      rw [hk']
      refine ⟨Nat.le_trans h.1 hle, fun hm => ?_⟩
      have hm1 : m = n := by have := h.1; omega
      obtain ⟨q1, q2⟩ := hq (by omega)
      rcases h.2 hm1 with ⟨h1, h2, h3⟩ | ⟨cap, h1, h2⟩
      · exact .inl ⟨h1, h2, q2.trans h3⟩
      · exact .inr ⟨cap, q2.trans h1, by rw [q1]; exact h2⟩
    · exact .of_box hb
  · rename_i t cs hk
    exact .of_box (e.box k (by rw [hk]; trivial)).1
  · rename_i hk
    exact .of_box (e.box k (by rw [hk]; trivial)).1
  · exact h.elim

/-- What is known of a value stays known. -/
theorem R.ext {M M' : Mem} (e : Ext M M') {x : AV} {v : Value} (h : R M x v) : R M' x v := by
  induction h with
  | top v => exact .top v
  | val v h => exact .val v h
  | agg cs vs hl hf hc ih => exact .agg cs vs hl hf ih
  | nil sz md a h h' => exact .nil sz md a h h'
  | slice sz els md a cap hs hcap hsz hst hc hmd ih =>
    refine .slice sz els md a cap hs hcap hsz (fun o ho => e.stb _ _ (hst o ho)) (fun i j row c v hi hj hv => ?_) (hmd.ext e)
    refine ih i j row c v hi hj ?_
    rw [← e.cell]
    · exact hv
    · have h1 := hsz row (List.mem_of_getElem? hi)
      have hi' : i < els.length := (List.getElem?_eq_some_iff.1 hi).1
      have hj' : j < row.length := (List.getElem?_eq_some_iff.1 hj).1
      refine hst _ ?_
      calc i * sz + j < i * sz + sz := by omega
        _ = (i + 1) * sz := by rw [Nat.succ_mul]
        _ ≤ els.length * sz := Nat.mul_le_mul_right _ hi'
  | ptr k off h =>
    have := e.box k h
    rw [← this.2]
    exact .ptr k off this.1
  | bsl k off len cap fl h hc hf =>
    have := e.box k h
    rw [← this.2]
    exact .bsl k off len cap fl this.1 hc hf
  | bsl0 k off a cap => exact .bsl0 k off a cap
  | vsl k n a l c h => exact .vsl k n a l c (h.ext e)
  | ref cs a hs hst hc ih =>
    refine .ref cs a hs (fun j hj => e.stb _ _ (hst j hj)) (fun j c v hj hv => ih j c v hj ?_)
    rw [← e.cell]
    · exact hv
    · exact hst j (List.getElem?_eq_some_iff.1 hj).1
  | fn f caps vs hl hc ih => exact .fn f caps vs hl ih
  | iface t x v h ih => exact .iface t x v ih
  | tup l vs hl hc ih => exact .tup l vs hl ih

def live : Option Res → Prop
  | some (.box _ _) => True
  | some (.row _ _ _) => True
  | some (.vec _ _ _ _) => True
  | _ => False

/-- Values that read as abstract ones, of one number. -/
def RL (M : Mem) (l : List AV) (vs : Array Value) : Prop :=
  l.length = vs.size ∧ ∀ (i : Nat) (c : AV) (v : Value), l[i]? = some c → vs[i]? = some v → R M c v
theorem RL.ext {M M' : Mem} (e : Ext M M') {l : List AV} {vs : Array Value} (h : RL M l vs) : RL M' l vs := ⟨h.1, fun i c v hi hv => (h.2 i c v hi hv).ext e⟩

/-- Block b holds o, no cells; where it is a loop's record, its slots read as fr. -/
def PinOk (M : Mem) (b : Nat) (o : Obj) (fr : List AV) : Prop :=
  M.w.heap[b]? = some o ∧ o.isCells = false ∧ M.base.heap.size ≤ b ∧ ∀ rec, o = .loop rec → RL M fr rec.tmps
theorem PinOk.ext {M M' : Mem} (e : Ext M M') {b : Nat} {o : Obj} {fr : List AV} (h : PinOk M b o fr) (hh : M'.w.heap[b]? = some o) : PinOk M' b o fr :=
  ⟨hh, h.2.1, by rw [e.base]; exact h.2.2.1, fun rec hr => (h.2.2.2 rec hr).ext e⟩

/-- The name k stands for a block of its own. -/
def Mem.owns (M : Mem) (k : Nat) : Prop :=
  match M.st k with
  | some (.box _ _) => True
  | some (.row _ _ _) => (M.cap k).isSome
  | some (.vec _ _ _ _) => (M.cap k).isSome
  | _ => False

structure Inv (M : Mem) : Prop where
  below : Below M.base.heap.size M.base M.w
  fin : ∃ N, ∀ k, N ≤ k → M.st k = none
  new : ∀ k, M.owns k → M.base.heap.size ≤ M.β k
  inj : ∀ j k, M.owns j → M.owns k → M.β j = M.β k → j = k
  stb : ∀ b o, M.stb b o → ∃ v, M.w.cell? ⟨b, o, none⟩ = some v ∧ leaf v
  box : ∀ k e cs, M.st k = some (.box e cs) → ∃ vs : Array Value, M.w.heap[M.β k]? = some (.cells vs e (0, 0)) ∧ cs.length ≤ vs.size ∧
    (∀ (i : Nat) (v : Value), vs[i]? = some v → leaf v) ∧
    (∀ (i : Nat) (c : AV) (v : Value), cs[i]? = some c → vs[i]? = some v → R M c v) ∧ (∀ o, ¬ M.stb (M.β k) o)
  row : ∀ k e sz m cap, M.st k = some (.row e sz m) → M.cap k = some cap → ∃ vs : Array Value, M.w.heap[M.β k]? = some (.cells vs e (0, 0)) ∧ vs.size = cap * sz ∧ m ≤ cap ∧
    (∀ o, m * sz ≤ o → ¬ M.stb (M.β k) o) ∧ (∀ o, o < m * sz → M.stb (M.β k) o)
  pin : ∀ k b o fr, M.st k = some (.pin b o fr) → PinOk M b o fr
  pinj : ∀ j k b o fr o' fr', M.st j = some (.pin b o fr) → M.st k = some (.pin b o' fr') → j = k
  vec : ∀ k e sz m cs, M.st k = some (.vec e sz m cs) → cs.length = m * sz ∧ (M.cap k = none → m = 0) ∧ ∀ cap, M.cap k = some cap → ∃ vs : Array Value, M.w.heap[M.β k]? = some (.cells vs e (0, 0)) ∧ vs.size = cap * sz ∧ m ≤ cap ∧
    (∀ (i : Nat) (v : Value), vs[i]? = some v → leaf v) ∧ (∀ (i : Nat) (c : AV) (v : Value), cs[i]? = some c → vs[i]? = some v → R M c v) ∧ (∀ o, ¬ M.stb (M.β k) o)

end Go.VS
