/- The layer of abstract values, joined: GA. -/
import Derived.Test.YtefkjdkalgemeaaZVsBits
section
namespace Go.VS
set_option linter.defProp false
set_option linter.unusedVariables false
section
variable {P : Program} {T : TypeId → Option TI} {bx : List (Nat × Option Nat)} {σ : AState} {d : Option Tmp}
def gselD (P : Program) (T : TypeId → Option TI) (bx : List (Nat × Option Nat)) (ops : Array Oper) (K : AState → Prop) (a b : List Nat) (rd wr : List (List Nat)) (d : Option Tmp) (op : Op) (l : List Oper) (σ : AState) (o : Option Bool) : Prop := match o with
  | some true => evOp P T bx (σ.seen a) (contD b (evRunD P T bx ops K rd wr l) σ d) d op
  | some false => evRunD P T bx ops K rd wr l (σ.next d (.tup []) [])
  | none => False
theorem rd_guard (a b : List Nat) (rd wr : List (List Nat)) (ops : Array Oper) (K : AState → Prop) (op : Op) (ty : TypeId) (pos : String) (aft : Array Edge) (l : List Oper) (g : Nat × Bool) :
    evRunD P T bx ops K (a :: rd) (b :: wr) (⟨d, op, ty, pos, aft, some g⟩ :: l) σ = gselD P T bx ops K a b rd wr d op l σ (wantedA ops σ ⟨d, op, ty, pos, aft, some g⟩) := rfl
theorem gselD_t (a b : List Nat) (rd wr : List (List Nat)) (ops : Array Oper) (K : AState → Prop) (op : Op) (l : List Oper) : gselD P T bx ops K a b rd wr d op l σ (some true) = evOp P T bx (σ.seen a) (contD b (evRunD P T bx ops K rd wr l) σ d) d op := rfl
theorem gselD_f (a b : List Nat) (rd wr : List (List Nat)) (ops : Array Oper) (K : AState → Prop) (op : Op) (l : List Oper) : gselD P T bx ops K a b rd wr d op l σ (some false) = evRunD P T bx ops K rd wr l (σ.next d (.tup []) []) := rfl
theorem gselD_case {a b : List Nat} {rd wr : List (List Nat)} {ops : Array Oper} {K : AState → Prop} {op : Op} {l : List Oper} {v w : Bool} (ht : v = true → gselD P T bx ops K a b rd wr d op l σ (some (true == w))) (hf : v = false → gselD P T bx ops K a b rd wr d op l σ (some (false == w))) :
    gselD P T bx ops K a b rd wr d op l σ (some (v == w)) := by
  cases v
  · exact hf rfl
  · exact ht rfl
def sg := And.intro @rd_guard <| And.intro @gselD_t <| @gselD_f
end
section
variable {fr : List AV} {lo : List (Option Res)} {out : Nat → Option Res} {n0 n : Nat} {df : List Deferred}
theorem nx_outs {k : Nat} (h : k < n0) (d : Option Tmp) (x : AV) (r : Res) (g : List (Nat × Res)) : AState.next ⟨fr, lo, out, n0, n, df⟩ d x ((k, r) :: g) = AState.next ⟨fr, lo, upd1 out k r, n0, n, df⟩ d x g := by
  cases d <;> simp [AState.next, AState.put, AState.give, h]
end
theorem gE {P : Program} {T : TypeId → Option TI} {bx : List (Nat × Option Nat)} {q : Bool} {ops : Array Oper} {K : AState → Prop} {l : List Oper} {σ : AState} (h : evRun P T bx q ops K l σ) : evRun P T bx q ops K l σ := h
theorem gR {q : Bool} {R : AState → Prop} {σ : AState} {d : Option Tmp} {r : AV} {g : List (Nat × Res)} (h : contR q R σ d r g) : contR q R σ d r g := h
theorem gD {P : Program} {T : TypeId → Option TI} {bx : List (Nat × Option Nat)} {ops : Array Oper} {K : AState → Prop} {rd wr : List (List Nat)} {l : List Oper} {σ : AState} (h : evRunD P T bx ops K rd wr l σ) : evRunD P T bx ops K rd wr l σ := h
theorem gF {wr : List Nat} {R : AState → Prop} {σ : AState} {d : Option Tmp} {r : AV} {g : List (Nat × Res)} (h : contD wr R σ d r g) : contD wr R σ d r g := h
def nb := And.intro @Bool.not_eq_true' @Bool.not_eq_false'
def su := And.intro sx <| And.intro sy <| And.intro @ne_eq.{1} <| And.intro @eq_self.{1} <| And.intro @if_true.{1} <| And.intro @if_false.{1} <| And.intro @evBuild.eq_def <| And.intro @evMake.eq_def <| @isShift.eq_def
theorem upd_cons (s : Nat → Option Res) (k : Nat) (r : Res) (l : List (Nat × Res)) : upd s ((k, r) :: l) = upd (upd1 s k r) l := rfl
theorem upd_nil (s : Nat → Option Res) : upd s [] = s := rfl
end Go.VS
end
