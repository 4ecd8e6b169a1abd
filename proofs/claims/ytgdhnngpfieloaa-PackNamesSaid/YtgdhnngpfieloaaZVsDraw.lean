/-
  The value-semantics layer: regions that draw their order, with local and outer resources (an outer one is named by 100 and its place in a list).
-/
import Derived.Test.YtgdhnngpfieloaaZVsBits
namespace Go.VS
set_option linter.unusedVariables false
set_option linter.unusedSimpArgs false
open Go
def nameO (n : Nat) (outs : List Nat) (x : Nat) : Nat := if x < 100 then n + x else outs.getD (x - 100) 0
def okO (outs : List Nat) (x : Nat) : Prop := x < 100 ∨ x - 100 < outs.length
def LocO (n : Nat) (outs : List Nat) (l : List (List Nat)) : Nat → Nat → Prop := fun i k => ∃ x, x ∈ l.getD i [] ∧ okO outs x ∧ k = nameO n outs x
theorem nameO_inj {n : Nat} {outs : List Nat} (hnd : outs.Nodup) (hlt : ∀ k, k ∈ outs → k < n) {x y : Nat} (hx : okO outs x) (hy : okO outs y) (h : nameO n outs x = nameO n outs y) : x = y := by
  have out : ∀ z, okO outs z → ¬ z < 100 → ∃ hz : z - 100 < outs.length, nameO n outs z = outs[z - 100] ∧ outs[z - 100] < n := fun z hz h100 => by
    have hz' : z - 100 < outs.length := hz.resolve_left h100
    refine ⟨hz', ?_, hlt _ (List.getElem_mem hz')⟩
    unfold nameO
    rw [if_neg h100]; simp [List.getD_eq_getElem?_getD, hz']
  by_cases h1 : x < 100
  · have ex : nameO n outs x = n + x := by unfold nameO; rw [if_pos h1]
    by_cases h2 : y < 100
    · have ey : nameO n outs y = n + y := by unfold nameO; rw [if_pos h2]
      omega
    · obtain ⟨_, e, l⟩ := out y hy h2
      omega
  · obtain ⟨hx', ex, lx⟩ := out x hx h1
    by_cases h2 : y < 100
    · have ey : nameO n outs y = n + y := by unfold nameO; rw [if_pos h2]
      omega
    · obtain ⟨hy', ey, ly⟩ := out y hy h2
      rw [ex, ey] at h
      have := (List.getElem_inj hnd).1 h
      omega
theorem disj_ofO {md : Region.Mode} {ops : Array Oper} {rd wr : List (List Nat)} (n : Nat) {outs : List Nat} (hnd : outs.Nodup) (hlt : ∀ k, k ∈ outs → k < n) (h1 : rd.length ≤ ops.size) (h2 : wr.length ≤ ops.size) (h : disjB ops.size (depB md ops) rd wr = true) :
    Disj md ops (LocO n outs rd) (LocO n outs wr) := by
  rintro i j k hij d1 d2 ⟨x, hx, ox, rfl⟩
  have lt : ∀ {l : List (List Nat)} {i x : Nat}, x ∈ l.getD i [] → i < l.length := by
    intro l i x hx
    rcases Nat.lt_or_ge i l.length with h | h
    · exact h
    · rw [List.getD_eq_getElem?_getD, List.getElem?_eq_none h] at hx; cases hx
  have hi := Nat.lt_of_lt_of_le (lt hx) h2
  have key : ∀ y, j < ops.size → y ∈ wr.getD i [] → (rd.getD j []).contains y = false ∧ (wr.getD j []).contains y = false := by
    intro y hj hy
    have a := List.all_eq_true.1 h i (List.mem_range.2 hi)
    simp only [Bool.or_eq_true] at a
    rcases a with a | a
    · rw [List.isEmpty_iff] at a; rw [a] at hy; cases hy
    · have b := List.all_eq_true.1 a j (List.mem_range.2 hj)
      simp only [Bool.or_eq_true] at b
      rcases b with ((b | b) | b) | b
      · exact (hij (by simpa using b)).elim
      · exact (d1 (depB_ok (by simpa using b))).elim
      · exact (d2 (depB_ok (by simpa using b))).elim
      · have c := List.all_eq_true.1 b y hy
        simpa [Bool.and_eq_true, Bool.not_eq_true'] using c
  constructor
  · rintro ⟨z, hz, oz, e⟩
    have := (key x (Nat.lt_of_lt_of_le (lt hz) h1) hx).1
    have e' := nameO_inj hnd hlt ox oz e
    subst e'
    rw [List.contains_iff_mem.2 hz] at this; cases this
  · rintro ⟨z, hz, oz, e⟩
    have := (key x (Nat.lt_of_lt_of_le (lt hz) h2) hx).2
    have e' := nameO_inj hnd hlt ox oz e
    subst e'
    rw [List.contains_iff_mem.2 hz] at this; cases this
def seenOut (rd : List Nat) : Nat → List Nat → (Nat → Option Res) → Nat → Option Res
  | _, [], _, _ => some .dead
  | i, a :: l, o, k => if k = a then (if rd.contains (100 + i) then o k else some .dead) else seenOut rd (i + 1) l o k
theorem seenOut_get {rd : List Nat} {o : Nat → Option Res} {k : Nat} {q : Option Res} (hq : q ≠ some .dead) : ∀ (l : List Nat) (i : Nat), seenOut rd i l o k = q → o k = q ∧ ∃ j, ∃ h : j < l.length, l[j] = k ∧ rd.contains (100 + (i + j)) = true
  | [], _, h => (hq h.symm).elim
  | a :: l, i, h => by
    unfold seenOut at h
    split at h
    · rename_i e
      split at h
      · exact ⟨h, 0, by simp, by simp [e], by assumption⟩
      · exact (hq h.symm).elim
    · obtain ⟨h1, j, h2, h3, h4⟩ := seenOut_get hq l (i + 1) h
      exact ⟨h1, j + 1, by simp; omega, by simpa using h3, by rw [show i + (j + 1) = i + 1 + j by omega]; exact h4⟩
def AState.seenO (σ : AState) (outs : List Nat) (rd : List Nat) : AState := { σ with lo := seenL (rd.filter fun x => decide (x < 100)) 0 σ.lo, out := seenOut rd 0 outs σ.out }
theorem seenO_look {σ : AState} {outs rd : List Nat} {k : Nat} {q : Option Res} (hle : σ.n0 ≤ σ.n) (hd : σ.dom k) (h : (σ.seenO outs rd).look k = q) (hq : q ≠ some .dead) : σ.look k = q ∧ ∃ x, x ∈ rd ∧ okO outs x ∧ k = nameO σ.n outs x := by
  have e : (σ.seenO outs rd).look k = if k < σ.n0 then seenOut rd 0 outs σ.out k else ((seenL (rd.filter fun x => decide (x < 100)) 0 σ.lo)[k - σ.n]?).join := rfl
  rw [e] at h
  simp only [AState.look]
  by_cases hk : k < σ.n0
  · rw [if_pos hk] at h ⊢
    obtain ⟨h1, j, h2, h3, h4⟩ := seenOut_get hq outs 0 h
    refine ⟨h1, 100 + j, ?_, .inr (by omega), ?_⟩
    · rw [Nat.zero_add] at h4; exact List.contains_iff_mem.1 h4
    · unfold nameO
      rw [if_neg (by omega), show 100 + j - 100 = j by omega]
      simp [List.getD_eq_getElem?_getD, h2, h3]
  · rw [if_neg hk] at h
    rw [if_neg hk]
    rcases hd with hd | ⟨hd1, hd2⟩
    · exact (hk hd).elim
    · rw [seenL_get] at h
      have hlt : k - σ.n < σ.lo.length := by omega
      rw [List.getElem?_eq_getElem hlt] at h ⊢
      simp only [Option.map_some, Option.join_some, Nat.zero_add] at h ⊢
      split at h
      · rename_i hc
        have hm := List.contains_iff_mem.1 hc
        rw [List.mem_filter, decide_eq_true_eq] at hm
        refine ⟨h, k - σ.n, hm.1, .inl hm.2, ?_⟩
        unfold nameO
        rw [if_pos hm.2]; omega
      · exact (hq h.symm).elim
def contO (outs wr : List Nat) (R : AState → Prop) (σ : AState) (d : Option Tmp) (r : AV) (g : List (Nat × Res)) : Prop := (∀ y, y ∈ g → ∃ x, x ∈ wr ∧ okO outs x ∧ y.1 = nameO σ.n outs x) ∧ R (σ.next d r g)
theorem contO_nil (outs wr : List Nat) (R : AState → Prop) (σ : AState) (d : Option Tmp) (r : AV) : contO outs wr R σ d r [] = R (σ.next d r []) := by simp [contO]
theorem contO_loc {outs wr : List Nat} {R : AState → Prop} {fr : List AV} {lo : List (Option Res)} {out : Nat → Option Res} {n0 n : Nat} {df : List Deferred} {d : Option Tmp} {r : AV} {x : Nat} {q : Res} (h : (wr.contains x && decide (x < 100)) = true) :
    contO outs wr R ⟨fr, lo, out, n0, n, df⟩ d r [(n + x, q)] = R (AState.next ⟨fr, lo, out, n0, n, df⟩ d r [(n + x, q)]) := by
  rw [Bool.and_eq_true, decide_eq_true_eq] at h
  refine propext ⟨fun h' => h'.2, fun h' => ⟨fun y hy => ?_, h'⟩⟩
  rw [List.mem_singleton] at hy
  subst hy
  exact ⟨x, List.contains_iff_mem.1 h.1, .inl h.2, by unfold nameO; rw [if_pos h.2]⟩
theorem contO_a {a : Nat} {l wr : List Nat} {R : AState → Prop} {σ : AState} {d : Option Tmp} {r : AV} {q : Res} (h : wr.contains 100 = true) :
    contO (a :: l) wr R σ d r [(a, q)] = R (σ.next d r [(a, q)]) := by
  refine propext ⟨fun h' => h'.2, fun h' => ⟨fun y hy => ?_, h'⟩⟩
  rw [List.mem_singleton] at hy
  subst hy
  exact ⟨100, List.contains_iff_mem.1 h, .inr (by simp), rfl⟩
theorem contO_b {a b : Nat} {l wr : List Nat} {R : AState → Prop} {σ : AState} {d : Option Tmp} {r : AV} {q : Res} (h : wr.contains 101 = true) :
    contO (a :: b :: l) wr R σ d r [(b, q)] = R (σ.next d r [(b, q)]) := by
  refine propext ⟨fun h' => h'.2, fun h' => ⟨fun y hy => ?_, h'⟩⟩
  rw [List.mem_singleton] at hy
  subst hy
  exact ⟨101, List.contains_iff_mem.1 h, .inr (by simp), rfl⟩
def evRunO (P : Program) (T : TypeId → Option TI) (bx : List (Nat × Option Nat)) (outs : List Nat) (ops : Array Oper) (K : AState → Prop) : List (List Nat) → List (List Nat) → List Oper → AState → Prop
  | _, _, [], σ => K σ
  | rd, wr, o :: l, σ => match wantedA ops σ o with
    | some true => evOp P T bx (σ.seenO outs rd.head!) (contO outs wr.head! (evRunO P T bx outs ops K rd.tail wr.tail l) σ o.dst) o.dst o.op
    | some false => evRunO P T bx outs ops K rd.tail wr.tail l (σ.next o.dst (.tup []) [])
    | none => False
theorem ro_nil {P : Program} {T : TypeId → Option TI} {bx : List (Nat × Option Nat)} {outs : List Nat} {σ : AState} (rd wr : List (List Nat)) (ops : Array Oper) (K : AState → Prop) : evRunO P T bx outs ops K rd wr [] σ = K σ := by cases rd <;> cases wr <;> rfl
theorem ro_cons {P : Program} {T : TypeId → Option TI} {bx : List (Nat × Option Nat)} {outs : List Nat} {σ : AState} {d : Option Tmp} (a b : List Nat) (rd wr : List (List Nat)) (ops : Array Oper) (K : AState → Prop) (op : Op) (ty : TypeId) (pos : String) (aft : Array Edge) (l : List Oper) :
    evRunO P T bx outs ops K (a :: rd) (b :: wr) (⟨d, op, ty, pos, aft, none⟩ :: l) σ = evOp P T bx (σ.seenO outs a) (contO outs b (evRunO P T bx outs ops K rd wr l) σ d) d op := rfl
theorem so_eq {fr : List AV} {lo : List (Option Res)} {out : Nat → Option Res} {n0 n : Nat} {df : List Deferred} (outs a : List Nat) : AState.seenO ⟨fr, lo, out, n0, n, df⟩ outs a = ⟨fr, seenL (a.filter fun x => decide (x < 100)) 0 lo, seenOut a 0 outs out, n0, n, df⟩ := rfl
theorem so_nil (rd : List Nat) (i : Nat) (o : Nat → Option Res) (k : Nat) : seenOut rd i [] o k = some .dead := rfl
theorem so_cons (rd : List Nat) (i a : Nat) (l : List Nat) (o : Nat → Option Res) (k : Nat) : seenOut rd i (a :: l) o k = if k = a then (if rd.contains (100 + i) then o k else some .dead) else seenOut rd (i + 1) l o k := rfl
theorem arun_of_evO {P : Program} {T : TypeId → Option TI} (hT : TabOk P T) {bx : List (Nat × Option Nat)} {outs : List Nat} {ops : Array Oper} {K : AState → Prop} {rd wr : List (List Nat)} {n : Nat} : ∀ (l : List Oper) (i : Nat) (σ : AState), σ.n = n → σ.n0 ≤ σ.n →
    evRunO P T bx outs ops K (rd.drop i) (wr.drop i) l σ → ARun P ops (LocO n outs rd) (LocO n outs wr) K i l σ
  | [], _, _, _, _, h => by simp only [evRunO] at h; exact h
  | o :: l, i, σ, hn, hle, h => by
    have hd : ∀ (x : List (List Nat)), (x.drop i).head! = x.getD i [] := fun x => by
      rw [List.getD_eq_getElem?_getD, ← List.head?_drop]
      cases x.drop i <;> rfl
    have ht : ∀ (x : List (List Nat)), (x.drop i).tail = x.drop (i + 1) := fun x => by simp
    unfold evRunO at h
    rw [hd, hd, ht, ht] at h
    split at h
    · rename_i hw
      obtain ⟨needs, r, g, h1, h2, h3, h4, h5, h6⟩ := ev_ok hT (σ := σ.seenO outs (rd.getD i [])) (by exact hle) h
      have hdom : ∀ k, (σ.seenO outs (rd.getD i [])).dom k → σ.dom k := fun k hk => by
        simpa [AState.dom, AState.seenO, seenL_length] using hk
      have hsee : ∀ x, x ∈ needs → σ.look x.1 = x.2 ∧ ∃ y, y ∈ rd.getD i [] ∧ okO outs y ∧ x.1 = nameO σ.n outs y := fun x hx =>
        seenO_look hle (hdom _ (h4 x hx).1) (holds_iff.1 h2 x hx) (h4 x hx).2
      refine ⟨r, g, .inl ⟨hw, needs, h1, holds_iff.2 fun x hx => (hsee x hx).1, domG_iff.2 fun x hx => hdom _ (domG_iff.1 h3 x hx), fun x hx => hdom _ (h4 x hx).1, fun x hx => ?_, fun x hx => ?_⟩, arun_of_evO hT l (i + 1) _ (by rw [next_n]; exact hn) (next_le hle) h6⟩
      · obtain ⟨y, hy, oy, e⟩ := (hsee x hx).2
        exact ⟨y, hy, oy, by rw [e, hn]⟩
      · obtain ⟨y, hy, oy, e⟩ := h5 x hx
        exact ⟨y, hy, oy, by rw [e, hn]⟩
    · rename_i hw
      exact ⟨.tup [], [], .inr ⟨hw, rfl, rfl⟩, arun_of_evO hT l (i + 1) _ (by rw [next_n]; exact hn) (next_le hle) h⟩
    · exact h.elim
theorem awp_ev_drawO {P : Program} {T : TypeId → Option TI} (hT : TabOk P T) (bx : List (Nat × Option Nat)) (outs : List Nat) (rd wr : List (List Nat)) {Q : Exit → AState → Prop} {σ : AState} {id : Nat} {l : List Oper} (hnd : outs.Nodup) (hlt : ∀ k, k ∈ outs → k < σ.n0) (hm : P.follows .mixedOrders = true)
    (hB : Region.lexB .any l.toArray = true) (h1 : rd.length ≤ l.toArray.size) (h2 : wr.length ≤ l.toArray.size) (hD : disjB l.toArray.size (depB .any l.toArray) rd wr = true)
    (h : evRunO P T bx outs l.toArray (Q .normal) rd wr l σ) : AWp P (.region id l.toArray true) Q σ := fun ro n M a hI hs =>
  awp_region_draw hm hB (disj_ofO σ.n hnd (fun k hk => Nat.lt_of_lt_of_le (hlt k hk) hs.le) h1 h2 hD) (arun_of_evO hT l 0 σ rfl hs.le h) ro n M a hI hs
set_option linter.defProp false
def so := And.intro @ro_nil <| And.intro @ro_cons <| And.intro @so_eq <| And.intro @so_nil <| And.intro @so_cons <| And.intro @contO_nil <| And.intro @contO_loc <| And.intro @contO_a <| And.intro @contO_b <| And.intro @List.filter_cons.{0} <| @List.filter_nil.{0}
end Go.VS
