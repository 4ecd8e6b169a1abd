/-
 The value-semantics layer: a function that only reads and answers a plain value takes memory that may be written as if it were none (its contract over lists that stay as they are is enough).
-/
import Derived.Test.YtdngdjbgmojcoaaGreatZVsBits
import Derived.Test.YtdngdjbgmojcoaaGreatZVsLaw
namespace Go.VS
set_option linter.all false
open Go Go.RowKit
theorem Ext.more {M:Mem} (hI:Inv M) {w':World} (h:Below M.w.heap.size M.w w'):Ext M (M.withW w'):=
 ⟨rfl,fun _ _ h=>h,fun b o hs=>by
  have hb:=hI.lt_stb hs;simp [Mem.withW,World.cell?,h.block b hb],fun _ h=>⟨h,rfl⟩,fun _ _ _ m h=>⟨m,h,Nat.le_refl _,fun _=>⟨rfl,rfl⟩⟩,fun _ _ _ m cs h=> .inl ⟨m,cs,h,Nat.le_refl _,fun _=>⟨rfl,rfl⟩⟩⟩
theorem Inv.more {M:Mem} (hI:Inv M) {w':World} (h:Below M.w.heap.size M.w w'):Inv (M.withW w'):=by
 have e:=Ext.more hI h;have old:∀{b:Nat} {o:Obj},M.w.heap[b]? =some o->w'.heap[b]? =some o:=fun{b o} hb=>by rw[h.block b (Y3j hb)];exact hb
 refine⟨hI.below.trans (h.mono hI.below.size),hI.fin,hI.new,hI.inj,fun b o hs=> ?_,fun k t cs hk=> ?_,fun k t sz m c hk hc=> ?_,fun k b o fr hk=> ?_,hI.pinj,fun k t sz m cs hk=>hI.vec_keep e hk rfl rfl (fun ho=> ?_) (fun _ _ h=>h)⟩
 ·obtain⟨v,hv,hl⟩:=hI.stb b o hs;exact⟨v,(e.cell b o hs).trans hv,hl⟩
 ·obtain⟨vs,h1,h2,h3,h4,h5⟩:=hI.box k t cs hk;exact⟨vs,old h1,h2,h3,fun i c v hi hv=>(h4 i c v hi hv).ext e,h5⟩
 ·obtain⟨vs,h1,h2⟩:=hI.row k t sz m c hk hc;exact⟨vs,old h1,h2⟩
 ·have h1:=hI.pin k b o fr hk;exact h1.ext e (old h1.1)
 ·exact h.block _ (hI.lt_owns ho)
end Go.VS
