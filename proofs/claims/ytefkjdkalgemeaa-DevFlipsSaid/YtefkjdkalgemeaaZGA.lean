/- The layer of abstract values, joined: GA. -/
import Derived.Test.YtefkjdkalgemeaaZVsBits
section
namespace Go.VS
set_option linter.defProp false
set_option linter.unusedVariables false
theorem gE {P : Program} {T : TypeId → Option TI} {bx : List (Nat × Option Nat)} {q : Bool} {ops : Array Oper} {K : AState → Prop} {l : List Oper} {σ : AState} (h : evRun P T bx q ops K l σ) : evRun P T bx q ops K l σ := h
theorem gR {q : Bool} {R : AState → Prop} {σ : AState} {d : Option Tmp} {r : AV} {g : List (Nat × Res)} (h : contR q R σ d r g) : contR q R σ d r g := h
theorem gD {P : Program} {T : TypeId → Option TI} {bx : List (Nat × Option Nat)} {ops : Array Oper} {K : AState → Prop} {rd wr : List (List Nat)} {l : List Oper} {σ : AState} (h : evRunD P T bx ops K rd wr l σ) : evRunD P T bx ops K rd wr l σ := h
theorem gF {wr : List Nat} {R : AState → Prop} {σ : AState} {d : Option Tmp} {r : AV} {g : List (Nat × Res)} (h : contD wr R σ d r g) : contD wr R σ d r g := h
def nb := And.intro @Bool.not_eq_true' @Bool.not_eq_false'
def su := And.intro sx <| And.intro sy <| And.intro @ne_eq.{1} <| And.intro @eq_self.{1} <| And.intro @if_true.{1} <| And.intro @if_false.{1} <| And.intro @evBuild.eq_def <| And.intro @evMake.eq_def <| @isShift.eq_def
end Go.VS
end
