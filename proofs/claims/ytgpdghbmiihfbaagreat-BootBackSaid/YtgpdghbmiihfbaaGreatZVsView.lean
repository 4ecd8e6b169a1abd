/-
 The value-semantics layer: a function that only reads and answers a plain value takes memory that may be written as if it were none (its contract over lists that stay as they are is enough).
-/
import Derived.Test.YtgpdghbmiihfbaaGreatZVsBits
import Derived.Test.YtgpdghbmiihfbaaGreatZVsLaw
namespace Go.VS
set_option linter.all false
open Go Go.RowKit
inductive RV (s:Nat->Option Res):AV->AV->Prop
 |val (v:Value):RV s (.val v) (.val v)
 |top (x:AV):RV s x .top
 |agg (cs cs':List AV) (hl:cs.length=cs'.length) (h:∀(i:Nat) (c c':AV),cs[i]? =some c->cs'[i]? =some c'->RV s c c'):RV s (.agg cs) (.agg cs')
 |sl (sz:Nat) (els els':List (List AV)) (md:Md) (hl:els.length=els'.length) (hr:∀(i:Nat) (r r':List AV),els[i]? =some r->els'[i]? =some r'->r.length=r'.length)
   (h:∀(i j:Nat) (r r':List AV) (c c':AV),els[i]? =some r->els'[i]? =some r'->r[j]? =some c->r'[j]? =some c'->RV s c c'):RV s (.sl sz els md) (.sl sz els' .sh)
 |nil (sz sz':Nat) (md:Md):RV s (.sl sz [] md) (.sl sz' [] .sh)
 |bsl (k off len:Nat) (fl:Bool) (e:TypeId) (cs:List AV) (sz:Nat) (els':List (List AV)) (hk:s k=some (.box e cs)) (hf:off+len*sz<=cs.length) (hl:els'.length=len) (hr:∀r,r∈els'->r.length=sz)
   (h:∀(i j:Nat) (r:List AV) (c c':AV),els'[i]? =some r->r[j]? =some c'->cs[off+(i*sz+j)]? =some c->RV s c c'):RV s (.bsl k off len fl) (.sl sz els' .sh)
 |bsl0 (k off:Nat) (fl:Bool) (sz:Nat):RV s (.bsl k off 0 fl) (.sl sz [] .sh)
theorem Ext.more {M:Mem} (hI:Inv M) {w':World} (h:Below M.w.heap.size M.w w'):Ext M (M.withW w'):=
 ⟨rfl,fun _ _ h=>h,fun b o hs=>by
  have hb:=hI.lt_stb hs;simp [Mem.withW,World.cell?,h.block b hb],fun _ h=>⟨h,rfl⟩,fun _ _ _ m h=>⟨m,h,Nat.le_refl _,fun _=>⟨rfl,rfl⟩⟩,fun _ _ _ m cs h=> .inl ⟨m,cs,h,Nat.le_refl _,fun _=>⟨rfl,rfl⟩⟩⟩
theorem Inv.more {M:Mem} (hI:Inv M) {w':World} (h:Below M.w.heap.size M.w w'):Inv (M.withW w'):=by
 have e:=Ext.more hI h;have old:∀{b:Nat} {o:Obj},M.w.heap[b]? =some o->w'.heap[b]? =some o:=fun{b o} hb=>by rw[h.block b (Y3j hb)];exact hb
 refine⟨hI.below.trans (h.mono hI.below.size),hI.fin,hI.new,hI.inj,fun b o hs=> ?_,fun k t cs hk=> ?_,fun k t sz m c hk hc=> ?_,fun k b o fr hk=> ?_,hI.pinj,fun k t sz m cs hk=>hI.vec_keep e hk rfl rfl (fun ho=> ?_) (fun _ _ h=>h)⟩
 ·obtain⟨v,hv,hl⟩:=hI.stb b o hs;exact⟨v,(e.cell b o hs).trans hv,hl⟩
 ·obtain⟨vs,h1,h2,h3,h4,h5⟩:=hI.box k t cs hk;exact⟨vs,old h1,h2,h3,fun i c v hi hv=>(h4 i c v hi hv).ext e,h5⟩
 ·obtain⟨vs,h1,h2⟩:=hI.row k t sz m c hk hc;exact⟨vs,old h1,h2⟩
 ·have h1:=hI.pin k b o fr hk;exact h1.ext e (old h1.1)
 ·exact h.block _ (hI.lt_owns ho)
def rvL (s:Nat->Option Res):List AV->List AV->Prop
 |x::l,y::l'=>RV s x y∧rvL s l l'
 |[],[]=>True
 | _,_=>False
theorem Xfw {s:Nat->Option Res}:∀{l l':List AV},rvL s l l'->l.length=l'.length∧∀(i:Nat) (x y:AV),l[i]? =some x->l'[i]? =some y->RV s x y
 |[],[],_=>⟨rfl,fun i x y h=>by simp at h⟩
 |x::l,y::l',h=>by
  obtain⟨h1,h2⟩:=Xfw h.2;refine⟨by simp [h1],fun i a b ha hb=> ?_⟩
  match i,ha,hb with
  |0,ha,hb=>simp at ha hb;subst ha;subst hb;exact h.1
  |i+1,ha,hb=>exact h2 i a b (by simpa using ha) (by simpa using hb)
 |[],_:: _,h=>h.elim
 | _:: _,[],h=>h.elim
end Go.VS
