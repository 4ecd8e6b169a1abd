/-
  The value-semantics layer, part 13: equations by which states are reckoned.
-/
import Derived.Test.YtgdhnngpfieloaaZVsMove2
namespace Go.VS
set_option linter.unusedVariables false
set_option linter.unusedSimpArgs false
open Go Go.RowKit
section
variable {P : Program} {T : TypeId → Option TI} {bx : List (Nat × Option Nat)} {σ : AState} {K : AV → List (Nat × Res) → Prop} {d : Option Tmp}
variable {fr : List AV} {lo : List (Option Res)} {out : Nat → Option Res} {n0 n : Nat} {df : List Deferred}
theorem r_nil (q : Bool) (ops : Array Oper) (K : AState → Prop) : evRun P T bx q ops K [] σ = K σ := rfl
theorem r_cons (q : Bool) (ops : Array Oper) (K : AState → Prop) (op : Op) (ty : TypeId) (pos : String) (aft : Array Edge) (l : List Oper) :
    evRun P T bx q ops K (⟨d, op, ty, pos, aft, none⟩ :: l) σ = evOp P T bx σ (contR q (evRun P T bx q ops K l) σ d) d op := rfl
def gsel (P : Program) (T : TypeId → Option TI) (bx : List (Nat × Option Nat)) (q : Bool) (ops : Array Oper) (K : AState → Prop) (d : Option Tmp) (op : Op) (l : List Oper) (σ : AState) (o : Option Bool) : Prop := match o with
  | some true => evOp P T bx σ (contR q (evRun P T bx q ops K l) σ d) d op
  | some false => evRun P T bx q ops K l (σ.next d (.tup []) [])
  | none => False
theorem r_guard (q : Bool) (ops : Array Oper) (K : AState → Prop) (op : Op) (ty : TypeId) (pos : String) (aft : Array Edge) (l : List Oper) (g : Nat × Bool) :
    evRun P T bx q ops K (⟨d, op, ty, pos, aft, some g⟩ :: l) σ = gsel P T bx q ops K d op l σ (wantedA ops σ ⟨d, op, ty, pos, aft, some g⟩) := rfl
theorem gsel_t (q : Bool) (ops : Array Oper) (K : AState → Prop) (op : Op) (l : List Oper) : gsel P T bx q ops K d op l σ (some true) = evOp P T bx σ (contR q (evRun P T bx q ops K l) σ d) d op := rfl
theorem gsel_f (q : Bool) (ops : Array Oper) (K : AState → Prop) (op : Op) (l : List Oper) : gsel P T bx q ops K d op l σ (some false) = evRun P T bx q ops K l (σ.next d (.tup []) []) := rfl
theorem gsel_case {q : Bool} {ops : Array Oper} {K : AState → Prop} {op : Op} {l : List Oper} {b w : Bool} (ht : b = true → gsel P T bx q ops K d op l σ (some (true == w))) (hf : b = false → gsel P T bx q ops K d op l σ (some (false == w))) :
    gsel P T bx q ops K d op l σ (some (b == w)) := by
  cases b
  · exact hf rfl
  · exact ht rfl
theorem awp_block_s {Q : Exit → AState → Prop} {id : Nat} {x y : Code} (h : AWp P (.seq x y) (blockA id Q) σ) : AWp P (.block id (.seq x y)) Q σ := awp_block h
theorem awp_block_c {Q : Exit → AState → Prop} {id : Nat} {c : Operand} {x y : Code} (h : AWp P (.cond c x y) (blockA id Q) σ) : AWp P (.block id (.cond c x y)) Q σ := awp_block h
theorem awp_block_r {Q : Exit → AState → Prop} {id i : Nat} {l : Array Oper} {w : Bool} (h : AWp P (.region i l w) (blockA id Q) σ) : AWp P (.block id (.region i l w)) Q σ := awp_block h
def wgd (x : AV) (w : Bool) : Option Bool := match some x with
  | some (.val (.bool b)) => some (b == w)
  | some (.tup []) => some false
  | _ => none
def gslot (ops : List Oper) (j : Nat) : Option Tmp := match ops, j with
  | [], _ => none
  | o :: _, 0 => o.dst
  | _ :: l, j + 1 => gslot l j
theorem gs_0 (d : Option Tmp) (op : Op) (ty : TypeId) (pos : String) (aft : Array Edge) (g : Option (Nat × Bool)) (l : List Oper) : gslot (⟨d, op, ty, pos, aft, g⟩ :: l) 0 = d := rfl
theorem gs_s (o : Oper) (l : List Oper) (j : Nat) : gslot (o :: l) (j + 1) = gslot l j := rfl
theorem gslot_eq : ∀ (ops : List Oper) (j : Nat), gslot ops j = (ops[j]?).bind (·.dst)
  | [], _ => rfl
  | _ :: _, 0 => rfl
  | _ :: l, j + 1 => gslot_eq l j
def wgo (fr : List AV) (o : Option Tmp) (w : Bool) : Option Bool := match o with
  | some d => wgd (fr.getD d .top) w
  | none => some false
theorem wgo_some (fr : List AV) (d : Tmp) (w : Bool) : wgo fr (some d) w = wgd (fr.getD d .top) w := rfl
theorem w_of (ops : List Oper) (op : Op) (ty : TypeId) (pos : String) (aft : Array Edge) (j : Nat) (w : Bool) :
    wantedA ops.toArray ⟨fr, lo, out, n0, n, df⟩ ⟨d, op, ty, pos, aft, some (j, w)⟩ = wgo fr (gslot ops j) w := by
  unfold wantedA wgo
  rw [gslot_eq]
  simp only [List.getElem?_toArray]
  cases (ops[j]?).bind (·.dst) with
  | none => rfl
  | some t =>
    simp only [List.getD_eq_getElem?_getD]
    cases fr[t]? with
    | none => rfl
    | some x =>
      simp only [Option.getD_some]
      unfold wgd
      rfl
theorem wgd_t (b w : Bool) : wgd (.val (.bool b)) w = some (b == w) := rfl
theorem wgd_n (w : Bool) : wgd (.tup []) w = some false := rfl
theorem rd_nil (rd wr : List (List Nat)) (ops : Array Oper) (K : AState → Prop) : evRunD P T bx ops K rd wr [] σ = K σ := by cases rd <;> cases wr <;> rfl
theorem rd_cons (a b : List Nat) (rd wr : List (List Nat)) (ops : Array Oper) (K : AState → Prop) (op : Op) (ty : TypeId) (pos : String) (aft : Array Edge) (l : List Oper) :
    evRunD P T bx ops K (a :: rd) (b :: wr) (⟨d, op, ty, pos, aft, none⟩ :: l) σ = evOp P T bx (σ.seen a) (contD b (evRunD P T bx ops K rd wr l) σ d) d op := rfl
theorem rt_nil (lst : Nat) (anc : List Nat) (ops : Array Oper) (K : AState → Prop) (i : Nat) : evRunT P T bx ops lst anc K i [] σ = K σ := rfl
theorem rt_cons (lst : Nat) (anc : List Nat) (ops : Array Oper) (K : AState → Prop) (i : Nat) (op : Op) (ty : TypeId) (pos : String) (aft : Array Edge) (l : List Oper) :
    evRunT P T bx ops lst anc K i (⟨d, op, ty, pos, aft, none⟩ :: l) σ = evOp P T bx (if (i == lst || anc.contains i) = true then σ else σ.seen []) (contT (i == lst) (evRunT P T bx ops lst anc K (i + 1) l) σ d) d op := rfl
theorem seen_eq (a : List Nat) : AState.seen ⟨fr, lo, out, n0, n, df⟩ a = ⟨fr, seenL a 0 lo, fun _ => some .dead, n0, n, df⟩ := rfl
theorem e_tmp (t : Tmp) : AState.ev ⟨fr, lo, out, n0, n, df⟩ (.tmp t) = fr.getD t .top := rfl
theorem e_const (v : Value) : AState.ev σ (.const v) = constAV v := rfl
theorem e_func (f : FuncId) : AState.ev σ (.func f) = .fn (.func f) [] := rfl
theorem c_int (k : IntKind) (a : Int) : constAV (.int k a) = .val (.int k a) := rfl
theorem c_bool (a : Bool) : constAV (.bool a) = .val (.bool a) := rfl
theorem c_string (a : ByteArray) : constAV (.string a) = .val (.string a) := rfl
theorem c_nil : constAV (.slice none 0 0) = .sl 0 [] .nil := rfl
theorem c_nilf : constAV .nilFunc = .val .nilFunc := rfl
theorem c_nili : constAV .nilIface = .val .nilIface := rfl
theorem g_0 (a : AV) (l : List AV) : (a :: l).getD 0 .top = a := rfl
theorem g_s (a : AV) (l : List AV) (i : Nat) : (a :: l).getD (i + 1) .top = l.getD i .top := rfl
theorem s_0 {α : Type} (a x : α) (l : List α) : (a :: l).set 0 x = x :: l := rfl
theorem s_s {α : Type} (a x : α) (l : List α) (i : Nat) : (a :: l).set (i + 1) x = a :: l.set i x := rfl
theorem n_none (x : AV) : AState.next ⟨fr, lo, out, n0, n, df⟩ none x [] = ⟨fr, lo, out, n0, n, df⟩ := rfl
theorem n_some (t : Tmp) (x : AV) : AState.next ⟨fr, lo, out, n0, n, df⟩ (some t) x [] = ⟨fr.set t x, lo, out, n0, n, df⟩ := rfl
theorem n_loc0 (t : Tmp) (x : AV) (i : Nat) (r : Res) : AState.next ⟨fr, lo, out, n, n, df⟩ (some t) x [(n + i, r)] = ⟨fr.set t x, lo.set i (some r), out, n, n, df⟩ := by
  have h : ¬ n + i < n := by omega
  simp [AState.next, AState.put, AState.give, h]
theorem n_loc1 (x : AV) (i : Nat) (r : Res) : AState.next ⟨fr, lo, out, n, n, df⟩ none x [(n + i, r)] = ⟨fr, lo.set i (some r), out, n, n, df⟩ := by
  have h : ¬ n + i < n := by omega
  simp [AState.next, AState.put, AState.give, h]
theorem lk_loc (i : Nat) : AState.look ⟨fr, lo, out, n, n, df⟩ (n + i) = (lo[i]?).join := by
  have h : ¬ n + i < n := by omega
  simp [AState.look, h]
theorem dm_loc (i : Nat) : AState.dom ⟨fr, lo, out, n, n, df⟩ (n + i) = (i < lo.length) := by
  have h : ¬ n + i < n := by omega
  simp [AState.dom, h]
theorem cD_one (wr : List Nat) (R : AState → Prop) (r : AV) (x : Nat) (q : Res) : contD wr R ⟨fr, lo, out, n0, n, df⟩ d r [(n + x, q)] = (wr.contains x = true ∧ R (AState.next ⟨fr, lo, out, n0, n, df⟩ d r [(n + x, q)])) := contD_one wr R _ d r x q
theorem locM {n0 n : Nat} (h : n0 ≤ n) : (∀ (fr : List AV) (lo : List (Option Res)) (out : Nat → Option Res) (df : List Deferred) (i : Nat), AState.look ⟨fr, lo, out, n0, n, df⟩ (n + i) = (lo[i]?).join) ∧
    (∀ (fr : List AV) (lo : List (Option Res)) (out : Nat → Option Res) (df : List Deferred) (i : Nat), AState.dom ⟨fr, lo, out, n0, n, df⟩ (n + i) = (i < lo.length)) ∧
    (∀ (fr : List AV) (lo : List (Option Res)) (out : Nat → Option Res) (df : List Deferred) (t : Tmp) (x : AV) (i : Nat) (r : Res), AState.next ⟨fr, lo, out, n0, n, df⟩ (some t) x [(n + i, r)] = ⟨fr.set t x, lo.set i (some r), out, n0, n, df⟩) ∧
    (∀ (fr : List AV) (lo : List (Option Res)) (out : Nat → Option Res) (df : List Deferred) (x : AV) (i : Nat) (r : Res), AState.next ⟨fr, lo, out, n0, n, df⟩ none x [(n + i, r)] = ⟨fr, lo.set i (some r), out, n0, n, df⟩) ∧
    (∀ (fr : List AV) (lo : List (Option Res)) (out : Nat → Option Res) (df : List Deferred) (i : Nat) (r : Res), AState.give ⟨fr, lo, out, n0, n, df⟩ [(n + i, r)] = ⟨fr, lo.set i (some r), out, n0, n, df⟩) := by
  refine ⟨?_, ?_, ?_, ?_, ?_⟩ <;> intro fr lo out df
  all_goals intros
  all_goals (have hq : ∀ i, ¬ n + i < n0 := fun i => by omega)
  all_goals simp [AState.look, AState.dom, AState.next, AState.put, AState.give, hq]
theorem lk_out {k : Nat} (h : k < n) : AState.look ⟨fr, lo, out, n, n0, df⟩ k = out k := by simp [AState.look, h]
theorem dm_out {k : Nat} (h : k < n) : AState.dom ⟨fr, lo, out, n, n0, df⟩ k = True := by simp [AState.dom, h]
theorem nx_out0 {k : Nat} (h : k < n) (t : Tmp) (x : AV) (r : Res) : AState.next ⟨fr, lo, out, n, n0, df⟩ (some t) x [(k, r)] = ⟨fr.set t x, lo, upd1 out k r, n, n0, df⟩ := by simp [AState.next, AState.put, AState.give, h]
theorem nx_out1 {k : Nat} (h : k < n) (x : AV) (r : Res) : AState.next ⟨fr, lo, out, n, n0, df⟩ none x [(k, r)] = ⟨fr, lo, upd1 out k r, n, n0, df⟩ := by simp [AState.next, AState.put, AState.give, h]
theorem gv_out {k : Nat} (h : k < n) (r : Res) : AState.give ⟨fr, lo, out, n, n0, df⟩ [(k, r)] = ⟨fr, lo, upd1 out k r, n, n0, df⟩ := by simp [AState.give, h]
theorem gv_loc (i : Nat) (r : Res) : AState.give ⟨fr, lo, out, n, n, df⟩ [(n + i, r)] = ⟨fr, lo.set i (some r), out, n, n, df⟩ := by
  have h : ¬ n + i < n := by omega
  simp [AState.give, h]
theorem upd1_upd1 (s : Nat → Option Res) (k : Nat) (r q : Res) : upd1 (upd1 s k r) k q = upd1 s k q := by
  funext j; unfold upd1; split <;> rfl
theorem upd1_self {s : Nat → Option Res} {k : Nat} {r : Res} (h : s k = some r) : upd1 s k r = s := by
  funext j; unfold upd1; split
  · rename_i e; rw [e, h]
  · rfl
theorem ff_none (l : List (Option Res)) : ff (none :: l) = 0 := rfl
theorem ff_some (r : Res) (l : List (Option Res)) : ff (some r :: l) = ff l + 1 := rfl
theorem nm_none : nameOf ⟨fr, lo, out, n0, n, df⟩ none = n + ff lo := rfl
theorem nm_some (k : Nat) : nameOf σ (some k) = k := rfl
theorem fn_none : freeN σ none = freeAt σ := rfl
theorem fn_some (k : Nat) : freeN σ (some k) = (σ.dom k ∧ σ.look k = none) := rfl
theorem vx_nil (d : Tmp) : vxOf [] (some d) = none := rfl
theorem vx_cons (d t : Tmp) (o : Option Nat) (l : List (Nat × Option Nat)) : vxOf ((t, o) :: l) (some d) = if d + 1000 = t then some o else vxOf l (some d) := by
  show List.lookup (d + 1000) ((t, o) :: l) = _
  rw [List.lookup_cons]
  by_cases h : d + 1000 = t
  · rw [if_pos h]; simp [h]
  · rw [if_neg h]
    have : (d + 1000 == t) = false := by simpa using h
    rw [this]; rfl
theorem bx_nil (d : Tmp) : bxOf [] (some d) = none := rfl
theorem bx_cons (d t : Tmp) (o : Option Nat) (l : List (Nat × Option Nat)) : bxOf ((t, o) :: l) (some d) = if d = t then some o else bxOf l (some d) := by
  simp only [bxOf, Option.getD_some, List.lookup]
  by_cases h : d = t
  · simp [h]
  · have hb : (d == t) = false := beq_false_of_ne h
    rw [hb, if_neg h]
theorem fa : freeAt ⟨fr, lo, out, n0, n, df⟩ = (lo[ff lo]? = some none) := rfl
theorem sn_nil (a : List Nat) (i : Nat) : seenL a i [] = [] := rfl
theorem sn_cons (a : List Nat) (i : Nat) (r : Option Res) (l : List (Option Res)) : seenL a i (r :: l) = (if a.contains i then r else some .dead) :: seenL a (i + 1) l := rfl
theorem o_nil (x : Operand) : evOp P T bx σ K d (.nilCheck x) = evNil K (σ.ev x) := rfl
theorem nil_ptr (k off : Nat) : evNil K (.ptr k off) = K (.ptr k off) [] := rfl
theorem nil_ref (cs : List AV) : evNil K (.ref cs) = K (.ref cs) [] := rfl
theorem o_move (x : Operand) : evOp P T bx σ K d (.move x) = K (σ.ev x) [] := rfl
theorem o_assign (x : Operand) : evOp P T bx σ K d (.assign x) = K (σ.ev x) [] := rfl
theorem o_alloc (t : TypeId) : evOp P T bx σ K d (.alloc t) = match T t with
    | some ti => freeAt σ ∧ K (.ptr (σ.n + ff σ.lo) 0) [(σ.n + ff σ.lo, .box t (ti.zero.map constAV))]
    | none => False := rfl
theorem o_box (t : TypeId) (x : Operand) : evOp P T bx σ K d (.box t x) = match (σ.ev x).parts with
    | some xs => freeAt σ ∧ K (.ptr (σ.n + ff σ.lo) 0) [(σ.n + ff σ.lo, .box t xs)]
    | none => False := rfl
theorem o_pick (c x y : Operand) : evOp P T bx σ K d (.pick c x y) = match σ.ev c with
    | .val (.bool b) => K (if b then σ.ev x else σ.ev y) []
    | _ => False := rfl
theorem o_load (t : TypeId) (x : Operand) : evOp P T bx σ K d (.load t x) = evLoad T σ K t (σ.ev x) := rfl
theorem o_store (t : TypeId) (x y : Operand) : evOp P T bx σ K d (.store t x y) = evStore T σ K t (σ.ev x) (σ.ev y) := rfl
theorem o_bin (op : BinOp) (t yt : TypeId) (x y : Operand) : evOp P T bx σ K d (.binOp op t x y yt) = evBin P T K op t (σ.ev x) (σ.ev y) y := rfl
theorem o_un (op : UnOp) (t : TypeId) (x : Operand) : evOp P T bx σ K d (.unOp op t x) = evUn K op (σ.ev x) := rfl
theorem o_conv (s t : TypeId) (x : Operand) : evOp P T bx σ K d (.convert s t x) = evConv T σ K s t (σ.ev x) := rfl
theorem o_build (t : TypeId) (parts : List (Nat × Operand)) : evOp P T bx σ K d (.build t parts.toArray) = evBuild T K t (parts.map fun p => (p.1, σ.ev p.2)) := rfl
theorem o_lit (d' : Tmp) (t : TypeId) (m : Nat) (parts : List (Nat × Operand)) : evOp P T bx σ K (some d') (.buildSlice t m parts.toArray) = evLit T σ K (bxOf bx (some d')) t m (parts.map fun p => (p.1, σ.ev p.2)) := rfl
theorem o_make (d' : Tmp) (t : TypeId) (x y : Operand) : evOp P T bx σ K (some d') (.makeSlice t x y) = evMake T σ K (bxOf bx (some d')) t (σ.ev x) (σ.ev y) := rfl
theorem o_slice (t : TypeId) (x : Operand) (lo hi mx : Option Operand) : evOp P T bx σ K d (.slice t x lo hi mx) = evSlice T σ K t (σ.ev x) lo hi mx := rfl
theorem o_faddr (s : TypeId) (x : Operand) (f : Nat) : evOp P T bx σ K d (.fieldAddr s x f) = evField T K s (σ.ev x) f true := rfl
theorem o_field (s : TypeId) (x : Operand) (f : Nat) : evOp P T bx σ K d (.field s x f) = evField T K s (σ.ev x) f false := rfl
theorem o_iaddr (t : TypeId) (x y : Operand) : evOp P T bx σ K d (.indexAddr t x y) = evIdx T K t (σ.ev x) (σ.ev y) := rfl
theorem o_index (t : TypeId) (x y : Operand) : evOp P T bx σ K d (.index t x y) = evIndex T K t (σ.ev x) (σ.ev y) := rfl
theorem o_len (x : Operand) (t : TypeId) : evOp P T bx σ K d (.call { callee := .builtin .len, args := #[x], argTypes := #[t] }) = evLen T σ K t (σ.ev x) := rfl
theorem o_cap (x : Operand) (t : TypeId) : evOp P T bx σ K d (.call { callee := .builtin .cap, args := #[x], argTypes := #[t] }) = ((match T t with | some si => (match si.desc with | .slice _ => True | _ => False) | none => False) ∧ match σ.ev x with
      | .sl _ els .full => K (.val (.int .i64 els.length)) []
      | .sl _ _ .nil => K (.val (.int .i64 0)) []
      | _ => False) := rfl
theorem o_append (d' : Tmp) (x y : Operand) (t u : TypeId) : evOp P T bx σ K (some d') (.call { callee := .builtin .append, args := #[x, y], argTypes := #[t, u] }) = evAppend T σ K (bxOf bx (some d')) (vxOf bx (some d')) t u (σ.ev x) (σ.ev y) := rfl
theorem o_copy (x y : Operand) (t u : TypeId) : evOp P T bx σ K d (.call { callee := .builtin .copy, args := #[x, y], argTypes := #[t, u] }) = evCopy T σ K t u (σ.ev x) (σ.ev y) := rfl
theorem o_extract (x : Operand) (i : Nat) : evOp P T bx σ K d (.extract x i) = match σ.ev x with
    | .tup l => match l[i]? with
      | some r => K r []
      | none => False
    | _ => False := rfl
theorem o_arr (t : TypeId) (x : Operand) : evOp P T bx σ K d (.sliceToArrayPointer t x) = match T t with
    | some si => match si.desc, σ.ev x with
      | .array n _, .sl _ els _ => 0 < n ∧ n ≤ els.length ∧ K (.ref els.flatten) []
      | _, _ => False
    | none => False := rfl
theorem o_iface (t : TypeId) (x : Operand) : evOp P T bx σ K d (.makeInterface t x) = match T t with
    | some ti => notIface ti.desc ∧ K (.iface t (σ.ev x)) []
    | none => False := rfl
theorem o_func (f : Fn) (caps : List Operand) : evOp P T bx σ K d (.makeFunc f #[] caps.toArray) = K (.fn f (caps.map σ.ev)) [] := by simp [evOp]
theorem o_assert (x : Operand) (xt u : TypeId) (ok : Bool) : evOp P T bx σ K d (.typeAssert x xt u ok) = match T u, σ.ev x with
    | some ti, .iface t y => notIface ti.desc ∧ if t = u then K (if ok then .tup [y, .val (.bool true)] else y) [] else ok = true ∧ K (.tup [.top, .val (.bool false)]) []
    | _, _ => False := rfl
theorem o_min (x y : Operand) (t u : TypeId) : evOp P T bx σ K d (.call { callee := .builtin .min, args := #[x, y], argTypes := #[t, u] }) = match σ.ev x, σ.ev y with
    | .val (.int k a), .val (.int _ b) => K (.val (.int k (if b < a then b else a))) []
    | _, _ => False := rfl
def hasBody (P : Program) (f : FuncId) : Prop := ∃ fn, P.funcs[f]? = some fn ∧ fn.body.isSome = true ∧ (fn.name == "runtime.NumGoroutine") = false
def hasBodyB (P : Program) (f : FuncId) : Bool := match P.funcs[f]? with
  | some fn => fn.body.isSome && !(fn.name == "runtime.NumGoroutine")
  | none => false
theorem hasBody_of {n : Nat} (h : (List.range n).all (fun f => Nat.ble f 2 || hasBodyB P f) = true) (f : Nat) (h2 : 2 < f) (hf : f < n) : hasBody P f = True := by
  have := List.all_eq_true.1 h f (List.mem_range.2 hf)
  rw [Bool.or_eq_true] at this
  have := this.resolve_left (by rw [Nat.ble_eq]; omega)
  unfold hasBodyB at this
  split at this
  · rename_i fn h1
    rw [Bool.and_eq_true] at this
    exact eq_true ⟨fn, h1, this.1, by simpa using this.2⟩
  · cases this
theorem o_call (f : FuncId) (args : List Operand) (ats : Array TypeId) : evOp P T bx σ K d (.call { callee := .value (.func f), args := args.toArray, argTypes := ats }) = (hasBody P f ∧ evCall P σ K f (args.map σ.ev)) := by
  show ((∃ fn, P.funcs[f]? = some fn ∧ fn.body.isSome = true ∧ (fn.name == "runtime.NumGoroutine") = false) ∧ evCall P σ K f (args.map σ.ev ++ [])) = _
  rw [List.append_nil]; rfl
theorem o_fn (t : Tmp) (args : List Operand) (ats : Array TypeId) : evOp P T bx σ K d (.call { callee := .value (.tmp t), args := args.toArray, argTypes := ats }) = match σ.ev (.tmp t) with
    | .fn (.func f) caps => hasBody P f ∧ evCall P σ K f (args.map σ.ev ++ caps)
    | .fn (.yield l) [] => evYld P σ K l (args.map σ.ev)
    | _ => False := rfl
end
theorem i_add (k : IntKind) (a b : Int) : evInt .add k a b = some (.int k (k.wrap (a + b))) := rfl
theorem i_sub (k : IntKind) (a b : Int) : evInt .sub k a b = some (.int k (k.wrap (a - b))) := rfl
theorem i_mul (k : IntKind) (a b : Int) : evInt .mul k a b = some (.int k (k.wrap (a * b))) := rfl
theorem i_quo (k : IntKind) (a : Int) {b : Int} (h : b ≠ 0) : evInt .quo k a b = some (.int k (k.wrap (a.tdiv b))) := by simp [evInt, h]
theorem i_rem (k : IntKind) (a : Int) {b : Int} (h : b ≠ 0) : evInt .rem k a b = some (.int k (a.tmod b)) := by simp [evInt, h]
theorem i_eql (k : IntKind) (a b : Int) : evInt .eql k a b = some (.bool (a == b)) := rfl
theorem i_neq (k : IntKind) (a b : Int) : evInt .neq k a b = some (.bool (a != b)) := rfl
theorem i_lss (k : IntKind) (a b : Int) : evInt .lss k a b = some (.bool (decide (a < b))) := rfl
theorem i_leq (k : IntKind) (a b : Int) : evInt .leq k a b = some (.bool (decide (a ≤ b))) := rfl
theorem i_gtr (k : IntKind) (a b : Int) : evInt .gtr k a b = some (.bool (decide (a > b))) := rfl
theorem i_geq (k : IntKind) (a b : Int) : evInt .geq k a b = some (.bool (decide (a ≥ b))) := rfl
theorem wrap_i64 {x : Int} (h : -9223372036854775808 ≤ x) (h' : x ≤ 9223372036854775807) : IntKind.i64.wrap x = x := by
  have e : IntKind.i64.wrap x = if x % 18446744073709551616 ≥ 9223372036854775808 then x % 18446744073709551616 - 18446744073709551616 else x % 18446744073709551616 := by
    simp [IntKind.wrap, IntKind.bits, IntKind.signed]
  rw [e]
  split <;> omega
theorem wrap_u64 {x : Int} (h : 0 ≤ x) (h' : x ≤ 18446744073709551615) : IntKind.u64.wrap x = x := by
  have e : IntKind.u64.wrap x = x % 18446744073709551616 := by simp [IntKind.wrap, IntKind.bits, IntKind.signed]
  rw [e]; omega
theorem wrap_u32 {x : Int} (h : 0 ≤ x) (h' : x ≤ 4294967295) : IntKind.u32.wrap x = x := by
  have e : IntKind.u32.wrap x = x % 4294967296 := by simp [IntKind.wrap, IntKind.bits, IntKind.signed]
  rw [e]; omega
theorem wrap_u8 {x : Int} (h : 0 ≤ x) (h' : x ≤ 255) : IntKind.u8.wrap x = x := by
  have e : IntKind.u8.wrap x = x % 256 := by simp [IntKind.wrap, IntKind.bits, IntKind.signed]
  rw [e]; omega
theorem wrap_u8' (x : Int) : IntKind.u8.wrap x = x % 256 := by simp [IntKind.wrap, IntKind.bits, IntKind.signed]
theorem wrap_u32' (x : Int) : IntKind.u32.wrap x = x % 4294967296 := by simp [IntKind.wrap, IntKind.bits, IntKind.signed]
theorem wrap_u64' (x : Int) : IntKind.u64.wrap x = x % 18446744073709551616 := by simp [IntKind.wrap, IntKind.bits, IntKind.signed]
theorem bb_tf : (true == false) = false := rfl
theorem bb_ft : (false == true) = false := rfl
theorem bb_tt : (true == true) = true := rfl
theorem bb_ff : (false == false) = true := rfl
theorem bn_t : (!true) = false := rfl
theorem bn_f : (!false) = true := rfl
end Go.VS
