/-
 The value-semantics layer: a function that only reads and answers a plain value takes memory that may be written as if it were none (its contract over lists that stay as they are is enough).
-/
import Derived.Test.YtjgbbjooeibppaaZVsBits
import Derived.Test.YtjgbbjooeibppaaZVsLaw
namespace Go.VS
set_option linter.unusedVariables false
set_option linter.unusedSimpArgs false
open Go Go.RowKit
inductive RV (s:Nat→Option Res):AV→AV→Prop
 |val (v:Value):RV s (.val v) (.val v)
 |top (x:AV):RV s x .top
 |agg (cs cs':List AV) (hl:cs.length=cs'.length) (h:∀(i:Nat) (c c':AV),cs[i]? =some c→cs'[i]? =some c'→RV s c c'):RV s (.agg cs) (.agg cs')
 |sl (sz:Nat) (els els':List (List AV)) (md:Md) (hl:els.length=els'.length) (hr:∀(i:Nat) (r r':List AV),els[i]? =some r→els'[i]? =some r'→r.length=r'.length)
   (h:∀(i j:Nat) (r r':List AV) (c c':AV),els[i]? =some r→els'[i]? =some r'→r[j]? =some c→r'[j]? =some c'→RV s c c'):RV s (.sl sz els md) (.sl sz els' .sh)
 |nil (sz sz':Nat) (md:Md):RV s (.sl sz [] md) (.sl sz' [] .sh)
 |bsl (k off len:Nat) (fl:Bool) (e:TypeId) (cs:List AV) (sz:Nat) (els':List (List AV)) (hk:s k=some (.box e cs)) (hf:off+len*sz≤cs.length) (hl:els'.length=len) (hr:∀r,r∈els'→r.length=sz)
   (h:∀(i j:Nat) (r:List AV) (c c':AV),els'[i]? =some r→r[j]? =some c'→cs[off+(i*sz+j)]? =some c→RV s c c'):RV s (.bsl k off len fl) (.sl sz els' .sh)
 |bsl0 (k off:Nat) (fl:Bool) (sz:Nat):RV s (.bsl k off 0 fl) (.sl sz [] .sh)
theorem R.rv {M:Mem} (hI:Inv M) {x y:AV} (h:RV M.st x y):∀{v:Value},R M x v→R (Mem.start M.w) y v:=by
 induction h with
 |val u=>intro v hR;cases hR with|val _ hl=>exact .val _ hl
 |top x=>intro v hR;exact .top v
 |agg cs cs' hl h ih=>
  intro v hR
  cases hR with
  |agg _ vs hl2 hf hc=>
   refine .agg cs' vs (hl.symm.trans hl2) hf fun i c v hi hv=> ?_
   have hil:i<cs.length:=by rw[hl];exact(List.getElem?_eq_some_iff.1 hi).1
   have e:=List.getElem?_eq_getElem hil
   exact ih i _ c e hi (hc i _ v e hv)
 |sl sz els els' md hl hr h ih=>
  intro v hR
  cases hR with
  |nil _ _ a h1 h2=>
   have:els'=[]:=List.eq_nil_of_length_eq_zero (by simpa using hl.symm)
   subst this
   exact .nil _ _ a (by intro h;cases h) (by intro h;cases h)
  |slice _ _ _ a cap hs hcap hsz hst hc hmd=>
   rw[hl]
   refine .slice sz els' .sh a cap hs (by rw[← hl];exact hcap) (fun r hr'=> ?_) (fun o ho=>hI.stb _ _ (hst o (by rw[hl];exact ho))) (fun i j row c v hi hj hv=> ?_) trivial
   ·obtain⟨i,hi⟩:=List.getElem?_of_mem hr'
    have hil:i<els.length:=by rw[hl];exact(List.getElem?_eq_some_iff.1 hi).1
    have e:=List.getElem?_eq_getElem hil
    rw[← hr i _ _ e hi]
    exact hsz _ (List.getElem_mem hil)
   ·have hil:i<els.length:=by rw[hl];exact(List.getElem?_eq_some_iff.1 hi).1
    have e:=List.getElem?_eq_getElem hil
    have hjl:j<(els[i]).length:=by rw[hr i _ _ e hi];exact(List.getElem?_eq_some_iff.1 hj).1
    have e2:=List.getElem?_eq_getElem hjl
    exact ih i j _ _ _ c e hi e2 hj (hc i j _ _ v e e2 hv)
 |nil sz sz' md=>
  intro v hR
  cases hR with
  |nil _ _ a h1 h2=>exact .nil _ _ a (by intro h;cases h) (by intro h;cases h)
  |slice _ _ _ a cap hs hcap hsz hst hc hmd=>exact .slice sz' [] .sh a cap hs (Nat.zero_le _) (fun r h=>by simp at h) (fun o ho=>by simp at ho) (fun i j row c v h=>by simp at h) trivial
 |bsl k off len fl e cs sz els' hk hf hl hr h ih=>
  intro v hR
  cases hR with
  |bsl _ _ _ cap _ h1 h2 h3=>
   obtain⟨vs,g1,g2,g3,g4,g5⟩:=hI.box k e cs hk
   have hcell:∀o,(Mem.start M.w).w.cell? ⟨M.β k,o,none⟩=vs[o]? :=fun o=>by
    show M.w.cell? ⟨M.β k,o,none⟩=vs[o]?
    simp [World.cell?,g1]
   subst hl
   refine .slice sz els' .sh _ cap rfl h2 hr (fun o ho=> ?_) (fun i j row c v hi hj hv=> ?_) trivial
   ·have hlt:off+o<vs.size:=by omega
    exact⟨vs[off+o],(hcell _).trans (by simp [hlt]),g3 _ _ (by simp [hlt]:vs[off+o]? =some vs[off+o])⟩
   ·have hil:i<els'.length:=(List.getElem?_eq_some_iff.1 hi).1
    have hjl:j<sz:=by rw[← hr _ (List.mem_of_getElem? hi)];exact(List.getElem?_eq_some_iff.1 hj).1
    have hm:(i+1)*sz≤els'.length*sz:=Nat.mul_le_mul_right _ hil
    rw[Nat.succ_mul] at hm
    have hlt:off+(i*sz+j)<cs.length:=by omega
    have e1:=List.getElem?_eq_getElem hlt
    refine ih i j row _ c hi hj e1 (g4 _ _ v e1 ?_)
    rw[← hcell];exact hv
  |bsl0 _ _ a=>
   have:els'=[]:=List.eq_nil_of_length_eq_zero hl
   subst this
   exact .nil _ _ a (by intro h;cases h) (by intro h;cases h)
 |bsl0 k off fl sz=>
  intro v hR
  cases hR with
  |bsl _ _ _ cap _ h1 h2 h3=>exact .slice sz [] .sh _ cap rfl (Nat.zero_le _) (fun r h=>by simp at h) (fun o ho=>by simp at ho) (fun i j row c v h=>by simp at h) trivial
  |bsl0 _ _ a=>exact .nil _ _ a (by intro h;cases h) (by intro h;cases h)
theorem Ext.more {M:Mem} (hI:Inv M) {w':World} (h:Below M.w.heap.size M.w w'):Ext M (M.withW w'):=
 ⟨rfl,fun _ _ h=>h,fun b o hs=>by
  have hb:=hI.lt_stb hs
  simp [Mem.withW,World.cell?,h.block b hb],fun _ h=>⟨h,rfl⟩,fun _ _ _ m h=>⟨m,h,Nat.le_refl _,fun _=>⟨rfl,rfl⟩⟩,fun _ _ _ m cs h=> .inl ⟨m,cs,h,Nat.le_refl _,fun _=>⟨rfl,rfl⟩⟩⟩
theorem Inv.more {M:Mem} (hI:Inv M) {w':World} (h:Below M.w.heap.size M.w w'):Inv (M.withW w'):=by
 have e:=Ext.more hI h
 have old:∀{b:Nat} {o:Obj},M.w.heap[b]? =some o→w'.heap[b]? =some o:=fun{b o} hb=>by rw[h.block b (Y3j hb)];exact hb
 refine⟨hI.below.trans (h.mono hI.below.size),hI.fin,hI.new,hI.inj,fun b o hs=> ?_,fun k t cs hk=> ?_,fun k t sz m c hk hc=> ?_,fun k b o fr hk=> ?_,hI.pinj,fun k t sz m cs hk=>hI.vec_keep e hk rfl rfl (fun ho=> ?_) (fun _ _ h=>h)⟩
 ·obtain⟨v,hv,hl⟩:=hI.stb b o hs
  exact⟨v,(e.cell b o hs).trans hv,hl⟩
 ·obtain⟨vs,h1,h2,h3,h4,h5⟩:=hI.box k t cs hk
  exact⟨vs,old h1,h2,h3,fun i c v hi hv=>(h4 i c v hi hv).ext e,h5⟩
 ·obtain⟨vs,h1,h2⟩:=hI.row k t sz m c hk hc
  exact⟨vs,old h1,h2⟩
 ·have h1:=hI.pin k b o fr hk
  exact h1.ext e (old h1.1)
 ·exact h.block _ (hI.lt_owns ho)
def rvL (s:Nat→Option Res):List AV→List AV→Prop
 |x::l,y::l'=>RV s x y∧rvL s l l'
 |[],[]=>True
 | _,_=>False
theorem Xfw {s:Nat→Option Res}:∀{l l':List AV},rvL s l l'→l.length=l'.length∧∀(i:Nat) (x y:AV),l[i]? =some x→l'[i]? =some y→RV s x y
 |[],[],_=>⟨rfl,fun i x y h=>by simp at h⟩
 |x::l,y::l',h=>by
  obtain⟨h1,h2⟩:=Xfw h.2
  refine⟨by simp [h1],fun i a b ha hb=> ?_⟩
  match i,ha,hb with
  |0,ha,hb=>simp at ha hb;subst ha;subst hb;exact h.1
  |i+1,ha,hb=>exact h2 i a b (by simpa using ha) (by simpa using hb)
 |[],_:: _,h=>h.elim
 | _:: _,[],h=>h.elim
theorem Xfg {P:Program} {f:FuncId} {args args':List AV} {needs:List (Nat×Option Res)} {x:Value} (h:Xr P f args' [] (.val x) []) (hv:∀s,holds s needs→rvL s args args'):Xr P f args needs (.val x) []:=fun M N vs hI hR hn hN hu=>by
 obtain⟨hl,hg⟩:=Xfw (hv M.st hn)
 have hR':RL (Mem.start M.w) args' vs:=⟨hl.symm.trans hR.1,fun i c v hi hc=>by
  have hil:i<args.length:=by rw[hl];exact(List.getElem?_eq_some_iff.1 hi).1
  have e:=List.getElem?_eq_getElem hil
  exact(hR.2 i _ v e hc).rv hI (hg i _ c e hi)⟩
 refine(h (Mem.start M.w) 0 vs (Inv.start _) hR' trivial (fun _ _=>rfl) trivial).mono fun e w' ⟨v,he,M',h1,h2,h3,h4,h5⟩=> ?_
 have hb:Below M.w.heap.size M.w w':=by
  have:=h3.below
  rw[h2.base,h1] at this
  exact this
 refine⟨v,he,M.withW w',rfl,Ext.more hI hb,Inv.more hI hb,fun k _=>rfl,?_⟩
 cases h5 with
 |val _ hl=>exact .val _ hl
end Go.VS
