/-
 The value-semantics layer: names within rows; a box that is written no more, wherever it is seen.
-/
import Derived.Test.YtdngdjbgmojcoaaGreatZVsMove
namespace Go.VS
set_option linter.all false
open Go Go.RowKit
def X4l (keep:List Bool) (n n':Nat):List (Option Res)->List (Option Res)->Prop
 |[],[]=>True
 |x::l,y::l'=>Zk keep n n' x y∧X4l keep n n' l l'
 | _,_=>False
theorem Sc {keep:List Bool} {n n':Nat}:∀{l l':List (Option Res)},X4l keep n n' l l'->l'.length=l.length∧∀i:Nat,Zk keep n n' (l[i]?).join (l'[i]?).join
 |[],[],_=>⟨rfl,fun i=>U9 _⟩
 |x::l,y::l',h=>by
  obtain⟨h1,h2⟩:=Sc h.2;refine⟨by simp [h1],fun i=> ?_⟩;cases i with
  |zero=>exact h.1
  |succ i=>simpa using h2 i
 |[],_:: _,h=>h.elim
 | _:: _,[],h=>h.elim
theorem Ty {keep:List Bool} {n n':Nat} (x y:Option Res) (l l':List (Option Res)):X4l keep n n' (x::l) (y::l')↔Zk keep n n' x y∧X4l keep n n' l l':=Iff.rfl
theorem E8 {keep:List Bool} {n n':Nat}:X4l keep n n' [] []↔True:=Iff.rfl
theorem R0 {keep:List Bool} {n n':Nat} (x:Option Res):Zk keep n n' x x↔True:=⟨fun _=>trivial,fun _=>U9 x⟩
theorem Jm {σ:AState} {i k:Nat} {q:Res} {fr':List AV} {lo1:List (Option Res)} (hi:σ.lo[i]? =some (some q)) (hk:k<σ.n0) (hfree:σ.out k=none) (h:mvL [true] (σ.n+i) k σ.fr fr') (hr:X4l [true] (σ.n+i) k σ.lo lo1):
  σ.le {σ with fr:=fr',lo:=lo1.set i (Xoe (some q)),out:=Xw σ.out k q}:=E7 hi hk hfree h (U9 _) (Sc hr).1 (Sc hr).2
end Go.VS
