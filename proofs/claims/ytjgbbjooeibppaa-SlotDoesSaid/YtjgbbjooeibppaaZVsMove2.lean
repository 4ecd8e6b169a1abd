/-
 The value-semantics layer: names within rows; a box that is written no more, wherever it is seen.
-/
import Derived.Test.YtjgbbjooeibppaaZVsMove
namespace Go.VS
set_option linter.unusedVariables false
set_option linter.unusedSimpArgs false
open Go Go.RowKit
def fzL (k sz:Nat) (cs:List AV):List AV→List AV→Prop
 |[],[]=>True
 |x::l,y::l'=>Fz k sz cs x y∧fzL k sz cs l l'
 | _,_=>False
theorem Xi3 {k sz:Nat} {cs:List AV}:∀{l l':List AV},fzL k sz cs l l'→l.length=l'.length∧∀(i:Nat) (x y:AV),l[i]? =some x→l'[i]? =some y→Fz k sz cs x y
 |[],[],_=>⟨rfl,fun i x y h=>by simp at h⟩
 |x::l,y::l',h=>by
  obtain⟨h1,h2⟩:=Xi3 h.2
  refine⟨by simp [h1],fun i a b ha hb=> ?_⟩
  cases i with
  |zero=>simp at ha hb;subst ha;subst hb;exact h.1
  |succ i=>exact h2 i a b (by simpa using ha) (by simpa using hb)
 |[],_:: _,h=>h.elim
 | _:: _,[],h=>h.elim
theorem Xjc {k sz:Nat} {cs:List AV}:∀l:List AV,fzL k sz cs l l
 |[]=>trivial
 |x::l=>⟨.same x,Xjc l⟩
def Xk8 (k sz:Nat) (cs:List AV):Option Res→Option Res→Prop
 |some (.box e l),some (.box e' l')=>e=e'∧fzL k sz cs l l'
 |a,b=>a=b
theorem Xl2 {k sz:Nat} {cs:List AV} {a b:Option Res} (h:Xk8 k sz cs a b):a=b∨∃e l l',a=some (.box e l)∧b=some (.box e l')∧fzL k sz cs l l':=by
 unfold Xk8 at h
 split at h
 ·obtain⟨rfl,h⟩:=h;exact .inr ⟨_,_,_,rfl,rfl,h⟩
 ·exact .inl h
theorem Xjt {k sz:Nat} {cs:List AV} (r:Option Res):Xk8 k sz cs r r:=by
 cases r with
 |none=>rfl
 |some r=>cases r<;>first|exact⟨rfl,Xjc _⟩|rfl
theorem Inv.refill {M:Mem} (hI:Inv M) {s:Nat→Option Res} (h:∀k,M.st k=s k∨∃e cs cs',M.st k=some (.box e cs)∧s k=some (.box e cs')∧cs.length=cs'.length∧
   ∀vs:Array Value,M.w.heap[M.β k]? =some (.cells vs e (0,0))→∀(i:Nat) (c:AV) (v:Value),cs'[i]? =some c→vs[i]? =some v→R M c v):Ext M (M.withSt s)∧Inv (M.withSt s):=by
 have ex:Ext M (M.withSt s):=by
  refine⟨rfl,fun _ _ h=>h,fun _ _ _=>rfl,fun k hk=>⟨?_,rfl⟩,fun k e sz m hk=>⟨m,?_,Nat.le_refl _,fun _=>⟨rfl,rfl⟩⟩,fun k e sz m cs hk=> .inl ⟨m,cs,?_,Nat.le_refl _,fun _=>⟨rfl,rfl⟩⟩⟩
  ·show Kt (s k)
   rcases h k with h1|⟨e,cs,cs',h1,h2,_⟩
   ·rw[← h1];exact hk
   ·rw[h2];trivial
  ·show s k= _
   rcases h k with h1|⟨e,cs,cs',h1,h2,_⟩
   ·rw[← h1];exact hk
   ·rw[h1] at hk;cases hk
  ·show s k= _
   rcases h k with h1|⟨e,cs,cs',h1,h2,_⟩
   ·rw[← h1];exact hk
   ·rw[h1] at hk;cases hk
 refine⟨ex,?_⟩
 have hown:∀k,(M.withSt s).owns k↔M.owns k:=fun k=>by
  show(match s k with|some (.box _ _)=>True|some (.row _ _ _)=>(M.cap k).isSome|some (.vec _ _ _ _)=>(M.cap k).isSome| _=>False:Prop)↔ _
  unfold Mem.owns
  rcases h k with h1|⟨e,cs,cs',h1,h2,_⟩
  ·rw[h1];exact Iff.rfl
  ·rw[h1,h2]
 refine⟨hI.below,?_,fun k hk=>hI.new k ((hown k).1 hk),fun j k hj hk=>hI.inj j k ((hown j).1 hj) ((hown k).1 hk),fun b o hs=>hI.stb b o hs,fun k e cs hk=> ?_,fun k e sz m cap hk hc=> ?_,fun k b o fr hk=> ?_,fun j k b o fr o' fr' hj hk=> ?_,fun k e sz m cs hk=> ?_⟩
 ·obtain⟨N,hN⟩:=hI.fin
  refine⟨N,fun k hk=> ?_⟩
  show s k=none
  rcases h k with h1|⟨e,cs,cs',h1,h2,_⟩
  ·rw[← h1];exact hN k hk
  ·rw[hN k hk] at h1;cases h1
 ·have hk':s k=some (.box e cs):=hk
  rcases h k with h1|⟨e1,cs1,cs',h1,h2,hl,hq⟩
  ·rw[← h1] at hk'
   obtain⟨vs,g1,g2,g3,g4,g5⟩:=hI.box k _ _ hk'
   exact⟨vs,g1,g2,g3,fun i c v hi hv=>(g4 i c v hi hv).ext ex,g5⟩
  ·rw[h2] at hk';injection hk' with hk';injection hk' with q1 q2;subst q1;subst q2
   obtain⟨vs,g1,g2,g3,g4,g5⟩:=hI.box k _ _ h1
   exact⟨vs,g1,by rw[← hl];exact g2,g3,fun i c v hi hv=>(hq vs g1 i c v hi hv).ext ex,g5⟩
 ·have hk':s k=some (.row e sz m):=hk
  rcases h k with h1|⟨e1,cs1,cs',h1,h2,_⟩
  ·rw[← h1] at hk';exact hI.row k e sz m cap hk' hc
  ·rw[h2] at hk';cases hk'
 ·have hk':s k=some (.pin b o fr):=hk
  rcases h k with h1|⟨e1,cs1,cs',h1,h2,_⟩
  ·rw[← h1] at hk';exact(hI.pin k b o fr hk').ext ex (hI.pin k b o fr hk').1
  ·rw[h2] at hk';cases hk'
 ·have back:∀{k o fr},s k=some (.pin b o fr)→M.st k=some (.pin b o fr):=fun{k o fr} hk=>by
   rcases h k with h1|⟨e1,cs1,cs',h1,h2,_⟩
   ·rw[h1];exact hk
   ·rw[h2] at hk;cases hk
  exact hI.pinj j k b o fr o' fr' (back hj) (back hk)
 ·have hk':s k=some (.vec e sz m cs):=hk
  rcases h k with h1|⟨e1,cs1,cs',h1,h2,_⟩
  ·rw[← h1] at hk'
   obtain⟨g1,g2,g3⟩:=hI.vec k _ _ _ _ hk'
   refine⟨g1,g2,fun cap hc=> ?_⟩
   obtain⟨vs,p1,p2,p3,p4,p5,p6⟩:=g3 cap hc
   exact⟨vs,p1,p2,p3,p4,fun i c v hi hv=>(p5 i c v hi hv).ext ex,p6⟩
  ·rw[h2] at hk';cases hk'
def Xnl (k sz:Nat) (cs:List AV):List (Option Res)→List (Option Res)→Prop
 |[],[]=>True
 |x::l,y::l'=>Xk8 k sz cs x y∧Xnl k sz cs l l'
 | _,_=>False
theorem Xlh {k sz:Nat} {cs:List AV}:∀{l l':List (Option Res)},Xnl k sz cs l l'→l'.length=l.length∧∀i:Nat,Xk8 k sz cs (l[i]?).join (l'[i]?).join
 |[],[],_=>⟨rfl,fun i=>Xjt _⟩
 |x::l,y::l',h=>by
  obtain⟨h1,h2⟩:=Xlh h.2
  refine⟨by simp [h1],fun i=> ?_⟩
  cases i with
  |zero=>exact h.1
  |succ i=>simpa using h2 i
 |[],_:: _,h=>h.elim
 | _:: _,[],h=>h.elim
theorem Xmh {k sz:Nat} {cs:List AV} (x y:Option Res) (l l':List (Option Res)):Xnl k sz cs (x::l) (y::l')↔Xk8 k sz cs x y∧Xnl k sz cs l l':=Iff.rfl
theorem Xmy {k sz:Nat} {cs:List AV}:Xnl k sz cs [] []↔True:=Iff.rfl
theorem Xlz {k sz:Nat} {cs:List AV} (x:Option Res):Xk8 k sz cs x x↔True:=⟨fun _=>trivial,fun _=>Xjt x⟩
end Go.VS
