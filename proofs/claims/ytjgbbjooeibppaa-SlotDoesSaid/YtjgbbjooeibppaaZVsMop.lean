/-
 The value-semantics layer: maps in a walk.
-/
import Derived.Test.YtjgbbjooeibppaaZVsBits
namespace Go.VS
set_option linter.unusedVariables false
set_option linter.unusedSimpArgs false
open Go
section
variable {P:Program} {T:TypeId→Option TI} {bx:List (Nat×Option Nat)} {σ:AState} {K:AV→List (Nat×Res)→Prop} {d:Option Tmp}
theorem Ydj (x y z:Operand) (t u v:TypeId):Uc P T bx σ K d (.call {callee:= .builtin .max,args:= #[x,y,z],argTypes:= #[t,u,v]})=match σ.ev x,σ.ev y,σ.ev z with
  | .val (.int k a),.val (.int _ b),.val (.int _ c)=>K (.val (.int k (if (if a<b then b else a)<c then c else if a<b then b else a))) []
  | _,_,_=>False:=rfl
end
end Go.VS
