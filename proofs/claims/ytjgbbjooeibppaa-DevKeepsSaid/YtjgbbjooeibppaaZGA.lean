/- The layer of abstract values, joined: GA. -/
import Derived.Test.YtjgbbjooeibppaaZVsBits
import Derived.Test.YtjgbbjooeibppaaZTab
section
namespace Go.VS
set_option linter.defProp false
set_option linter.unusedVariables false
section
variable {fr : List AV} {lo : List (Option Res)} {out : Nat → Option Res} {n0 n : Nat} {df : List Deferred}
theorem W0 (h : n0 ≤ n) (d : Option Tmp) (x : AV) (i : Nat) (r : Res) (g : List (Nat × Res)) : AState.next ⟨fr, lo, out, n0, n, df⟩ d x ((n + i, r) :: g) = AState.next ⟨fr, lo.set i (some r), out, n0, n, df⟩ d x g := by
 have h' : ¬ n + i < n0 := by omega
 cases d <;> simp [AState.next, AState.put, AState.give, h']
theorem Xa {k : Nat} (h : k < n0) (d : Option Tmp) (x : AV) (r : Res) (g : List (Nat × Res)) : AState.next ⟨fr, lo, out, n0, n, df⟩ d x ((k, r) :: g) = AState.next ⟨fr, lo, Xw out k r, n0, n, df⟩ d x g := by
 cases d <;> simp [AState.next, AState.put, AState.give, h]
end
theorem gE {P : Program} {T : TypeId → Option TI} {bx : List (Nat × Option Nat)} {q : Bool} {ops : Array Oper} {K : AState → Prop} {l : List Oper} {σ : AState} (h : Ws P T bx q ops K l σ) : Ws P T bx q ops K l σ := h
theorem gR {q : Bool} {R : AState → Prop} {σ : AState} {d : Option Tmp} {r : AV} {g : List (Nat × Res)} (h : Pg q R σ d r g) : Pg q R σ d r g := h
theorem gD {P : Program} {T : TypeId → Option TI} {bx : List (Nat × Option Nat)} {ops : Array Oper} {K : AState → Prop} {rd wr : List (List Nat)} {l : List Oper} {σ : AState} (h : Qy P T bx ops K rd wr l σ) : Qy P T bx ops K rd wr l σ := h
theorem gF {wr : List Nat} {R : AState → Prop} {σ : AState} {d : Option Tmp} {r : AV} {g : List (Nat × Res)} (h : Lt wr R σ d r g) : Lt wr R σ d r g := h
def nb := And.intro @Bool.not_eq_true' @Bool.not_eq_false'
def su := And.intro sx <| And.intro sy <| And.intro @ne_eq.{1} <| And.intro @eq_self.{1} <| And.intro @if_true.{1} <| And.intro @if_false.{1} <| And.intro @Nv.eq_def <| And.intro @Tk.eq_def <| @Cl.eq_def
theorem Zc (s : Nat → Option Res) (k : Nat) (r : Res) (l : List (Nat × Res)) : upd s ((k, r) :: l) = upd (Xw s k r) l := rfl
end Go.VS
end
section
namespace Go.Proofs.Ytjgbbjooeibppaa.Tab
open Go Go.VS
set_option linter.defProp false
section
variable {K : AState → Prop} {Q : Exit → AState → Prop} {σ : AState}
theorem X96 : Qd K Q .normal σ = K σ := rfl
theorem X97 (i : Nat) : Qd K Q (.exit i) σ = Q (.exit i) σ := rfl
theorem X98 (i : Nat) : Qd K Q (.goto i) σ = Q (.goto i) σ := rfl
theorem X99 : Qd K Q .ret σ = Q .ret σ := rfl
theorem X9a (i : Nat) : Z4 i Q .normal σ = Q .normal σ := rfl
theorem X9b (i j : Nat) : Z4 i Q (.exit j) σ = if j = i then Q .normal σ else Q (.exit j) σ := rfl
theorem X9c (i j : Nat) : Z4 i Q (.goto j) σ = Q (.goto j) σ := rfl
theorem X9d (i : Nat) : Z4 i Q .ret σ = Q .ret σ := rfl
end
def sb := And.intro @X96 <| And.intro @X97 <| And.intro @X98 <| And.intro @X99 <| And.intro @X9a <| And.intro @X9b <| And.intro @X9c <| And.intro @X9d <| And.intro @if_true.{1} <| @if_false.{1}
def ss := And.intro su <| And.intro sb hbT
def Vk := @X9
def V0 := @Xn Try.prog tab Xj []
def Vs := @Z1
def Vb := @Cw
def Vc := @Cx
def Vr := @Cy
def Vq {Q : Exit → AState → Prop} {σ : AState} {id : Nat} {l : List Oper} := @Tn Try.prog tab Xj Q σ id l follows
def Vd (id : Nat) (bx : List (Nat × Option Nat)) (rd wr : List (List Nat)) {Q : Exit → AState → Prop} {σ : AState} {l : List Oper} := @Ny Try.prog tab Xj bx rd wr Q σ id l follows
def Vt := @Wm
def Vf := @Uy
def Vi := @Uz
def Vx := @Qi
def Vz := @Yd
def Vg := @Jo
theorem Vn {a : Nat} : a = a := rfl
section
variable {P : Program} {n : Nat} {fn : Func} {out : Nat → Option Res} {gives : List (Nat × Res)} {r q : AV} {t u : Tmp} {σ : AState}
theorem Vo (hr : fn.results = #[.tmp t]) (hd : σ.df = []) (h0 : σ.n0 = n) (ho : ∀ k, k < n → σ.out k = upd out gives k) (hx : σ.fr.getD t .top = r) : Zq P n fn out gives r .ret σ := Qv (.inr rfl) hr hd h0 ho hx
theorem Vp (hr : fn.results = #[.tmp t, .tmp u]) (hd : σ.df = []) (h0 : σ.n0 = n) (ho : ∀ k, k < n → σ.out k = upd out gives k) (hx : σ.fr.getD t .top = r) (hy : σ.fr.getD u .top = q) : Zq P n fn out gives (.tup [r, q]) .ret σ := X0r (.inr rfl) hr hd h0 ho hx hy
end
end Go.Proofs.Ytjgbbjooeibppaa.Tab
end
