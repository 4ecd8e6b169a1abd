/- The layer of abstract values, joined: GA. -/
import Derived.Test.YtgdhnngpfieloaaZVsBits
import Derived.Test.YtgdhnngpfieloaaZTab
section
namespace Go.VS
set_option linter.defProp false
set_option linter.unusedVariables false
section
variable {P : Program} {T : TypeId → Option TI} {bx : List (Nat × Option Nat)} {σ : AState} {d : Option Tmp}
def gselD (P : Program) (T : TypeId → Option TI) (bx : List (Nat × Option Nat)) (ops : Array Oper) (K : AState → Prop) (a b : List Nat) (rd wr : List (List Nat)) (d : Option Tmp) (op : Op) (l : List Oper) (σ : AState) (o : Option Bool) : Prop := match o with
  | some true => evOp P T bx (σ.seen a) (contD b (evRunD P T bx ops K rd wr l) σ d) d op
  | some false => evRunD P T bx ops K rd wr l (σ.next d (.tup []) [])
  | none => False
theorem rd_guard (a b : List Nat) (rd wr : List (List Nat)) (ops : Array Oper) (K : AState → Prop) (op : Op) (ty : TypeId) (pos : String) (aft : Array Edge) (l : List Oper) (g : Nat × Bool) :
    evRunD P T bx ops K (a :: rd) (b :: wr) (⟨d, op, ty, pos, aft, some g⟩ :: l) σ = gselD P T bx ops K a b rd wr d op l σ (wantedA ops σ ⟨d, op, ty, pos, aft, some g⟩) := rfl
theorem gselD_t (a b : List Nat) (rd wr : List (List Nat)) (ops : Array Oper) (K : AState → Prop) (op : Op) (l : List Oper) : gselD P T bx ops K a b rd wr d op l σ (some true) = evOp P T bx (σ.seen a) (contD b (evRunD P T bx ops K rd wr l) σ d) d op := rfl
theorem gselD_f (a b : List Nat) (rd wr : List (List Nat)) (ops : Array Oper) (K : AState → Prop) (op : Op) (l : List Oper) : gselD P T bx ops K a b rd wr d op l σ (some false) = evRunD P T bx ops K rd wr l (σ.next d (.tup []) []) := rfl
theorem gselD_case {a b : List Nat} {rd wr : List (List Nat)} {ops : Array Oper} {K : AState → Prop} {op : Op} {l : List Oper} {v w : Bool} (ht : v = true → gselD P T bx ops K a b rd wr d op l σ (some (true == w))) (hf : v = false → gselD P T bx ops K a b rd wr d op l σ (some (false == w))) :
    gselD P T bx ops K a b rd wr d op l σ (some (v == w)) := by
  cases v
  · exact hf rfl
  · exact ht rfl
def sg := And.intro @rd_guard <| And.intro @gselD_t <| @gselD_f
end
section
variable {fr : List AV} {lo : List (Option Res)} {out : Nat → Option Res} {n0 n : Nat} {df : List Deferred}
theorem nx_loc (h : n0 ≤ n) (d : Option Tmp) (x : AV) (i : Nat) (r : Res) (g : List (Nat × Res)) : AState.next ⟨fr, lo, out, n0, n, df⟩ d x ((n + i, r) :: g) = AState.next ⟨fr, lo.set i (some r), out, n0, n, df⟩ d x g := by
  have h' : ¬ n + i < n0 := by omega
  cases d <;> simp [AState.next, AState.put, AState.give, h']
theorem nx_outs {k : Nat} (h : k < n0) (d : Option Tmp) (x : AV) (r : Res) (g : List (Nat × Res)) : AState.next ⟨fr, lo, out, n0, n, df⟩ d x ((k, r) :: g) = AState.next ⟨fr, lo, upd1 out k r, n0, n, df⟩ d x g := by
  cases d <;> simp [AState.next, AState.put, AState.give, h]
end
theorem gE {P : Program} {T : TypeId → Option TI} {bx : List (Nat × Option Nat)} {q : Bool} {ops : Array Oper} {K : AState → Prop} {l : List Oper} {σ : AState} (h : evRun P T bx q ops K l σ) : evRun P T bx q ops K l σ := h
theorem gR {q : Bool} {R : AState → Prop} {σ : AState} {d : Option Tmp} {r : AV} {g : List (Nat × Res)} (h : contR q R σ d r g) : contR q R σ d r g := h
theorem gD {P : Program} {T : TypeId → Option TI} {bx : List (Nat × Option Nat)} {ops : Array Oper} {K : AState → Prop} {rd wr : List (List Nat)} {l : List Oper} {σ : AState} (h : evRunD P T bx ops K rd wr l σ) : evRunD P T bx ops K rd wr l σ := h
theorem gF {wr : List Nat} {R : AState → Prop} {σ : AState} {d : Option Tmp} {r : AV} {g : List (Nat × Res)} (h : contD wr R σ d r g) : contD wr R σ d r g := h
def nb := And.intro @Bool.not_eq_true' @Bool.not_eq_false'
def su := And.intro sx <| And.intro sy <| And.intro @ne_eq.{1} <| And.intro @eq_self.{1} <| And.intro @if_true.{1} <| And.intro @if_false.{1} <| And.intro @evBuild.eq_def <| And.intro @evMake.eq_def <| @isShift.eq_def
theorem upd1_eq (s : Nat → Option Res) (k : Nat) (r : Res) (j : Nat) : upd1 s k r j = if j = k then some r else s j := rfl
theorem upd_cons (s : Nat → Option Res) (k : Nat) (r : Res) (l : List (Nat × Res)) : upd s ((k, r) :: l) = upd (upd1 s k r) l := rfl
theorem upd_nil (s : Nat → Option Res) : upd s [] = s := rfl
end Go.VS
end
section
namespace Go.Proofs.Ytgdhnngpfieloaa.Tab
open Go Go.VS
set_option linter.defProp false
section
variable {K : AState → Prop} {Q : Exit → AState → Prop} {σ : AState}
theorem th_n : thenA K Q .normal σ = K σ := rfl
theorem th_e (i : Nat) : thenA K Q (.exit i) σ = Q (.exit i) σ := rfl
theorem th_g (i : Nat) : thenA K Q (.goto i) σ = Q (.goto i) σ := rfl
theorem th_r : thenA K Q .ret σ = Q .ret σ := rfl
theorem bl_n (i : Nat) : blockA i Q .normal σ = Q .normal σ := rfl
theorem bl_e (i j : Nat) : blockA i Q (.exit j) σ = if j = i then Q .normal σ else Q (.exit j) σ := rfl
theorem bl_g (i j : Nat) : blockA i Q (.goto j) σ = Q (.goto j) σ := rfl
theorem bl_r (i : Nat) : blockA i Q .ret σ = Q .ret σ := rfl
end
def sb := And.intro @th_n <| And.intro @th_e <| And.intro @th_g <| And.intro @th_r <| And.intro @bl_n <| And.intro @bl_e <| And.intro @bl_g <| And.intro @bl_r <| And.intro @if_true.{1} <| @if_false.{1}
def ss := And.intro su <| And.intro sb hbT
def Vk := @awp_seq_k
def Ve := @awp_ev Try.prog tab tab_ok
def V0 := @awp_ev Try.prog tab tab_ok []
def Vs := @awp_skip
def Vb := @awp_block_s
def Vc := @awp_block_c
def Vr := @awp_block_r
def Vq {Q : Exit → AState → Prop} {σ : AState} {id : Nat} {l : List Oper} := @awp_ev_quiet Try.prog tab tab_ok Q σ id l follows
def Vd (id : Nat) (bx : List (Nat × Option Nat)) (rd wr : List (List Nat)) {Q : Exit → AState → Prop} {σ : AState} {l : List Oper} := @awp_ev_draw Try.prog tab tab_ok bx rd wr Q σ id l follows
def Vt := @awp_cond_t
def Vf := @awp_cond_f
def Vi := @awp_if
def Vx := @awp_exit
def Vz := @awp_ret
def Vg := @gsel_case
theorem Vn {a : Nat} : a = a := rfl
section
variable {P : Program} {n : Nat} {fn : Func} {out : Nat → Option Res} {gives : List (Nat × Res)} {r q : AV} {t u : Tmp} {σ : AState}
theorem Vo (hr : fn.results = #[.tmp t]) (hd : σ.df = []) (h0 : σ.n0 = n) (ho : ∀ k, k < n → σ.out k = upd out gives k) (hx : σ.fr.getD t .top = r) : retPost P n fn out gives r .ret σ := ret_tmp (.inr rfl) hr hd h0 ho hx
theorem Vp (hr : fn.results = #[.tmp t, .tmp u]) (hd : σ.df = []) (h0 : σ.n0 = n) (ho : ∀ k, k < n → σ.out k = upd out gives k) (hx : σ.fr.getD t .top = r) (hy : σ.fr.getD u .top = q) : retPost P n fn out gives (.tup [r, q]) .ret σ := ret_tmp2 (.inr rfl) hr hd h0 ho hx hy
end
end Go.Proofs.Ytgdhnngpfieloaa.Tab
end
