/-
 The value-semantics layer, part 9b: ranges over functions: the loop's records, a round, the statement, the function's end.
-/
import Derived.Test.YtdngdjbgmojcoaaGreatZVsB
import Derived.RangeFuncLeaves
namespace Go.VS
set_option linter.all false
open Go Go.RowKit
def Mem.setPin (M:Mem) (k b:Nat) (o:Obj) (fr:List AV):Mem:={M with w:=M.w.putObj b o,st:=Xw M.st k (.pin b o fr)}
section
variable {M:Mem}
theorem Cu {w:World} {b:Nat} {o0 o:Obj} (h:w.heap[b]? =some o0) (h0:o0.isCells=false) (ho:o.isCells=false) (c i:Nat):(w.putObj b o).cell? ⟨c,i,none⟩=w.cell? ⟨c,i,none⟩:=by
 by_cases hc:c=b
 ·subst hc;have h1:(w.putObj c o).heap[c]? =some o:=World.putObj_heap_same (Y3j h);cases o<;>first|(cases ho;done)|(cases o0<;>first|(cases h0;done)|simp [World.cell?,h1,h])
 ·simp only[World.cell?,World.putObj_heap_other hc]
theorem Ext.setPin (hI:Inv M) {k b:Nat} {o0 o:Obj} {fr0 fr:List AV} (hk:M.st k=some (.pin b o0 fr0)) (ho:o.isCells=false):Ext M (M.setPin k b o fr):=by
 obtain⟨h1,h2,h3,h4⟩:=hI.pin k b o0 fr0 hk;refine⟨rfl,fun _ _ h=>h,fun c i _=>Cu h1 h2 ho c i,fun j hj=> ?_,fun j t sz m hj=> ?_,fun j t s m cs hj=>by
  have hne:j≠k:=by rintro rfl;rw[hk] at hj;cases hj
  exact .inl ⟨m,cs,by simp [Mem.setPin,Xw,hne,hj],Nat.le_refl _,fun _=>⟨rfl,rfl⟩⟩⟩
 ·have hne:j≠k:=by rintro rfl;rw[hk] at hj;exact hj
  simp [Mem.setPin,Xw,hne,hj]
 ·have hne:j≠k:=by rintro rfl;rw[hk] at hj;cases hj
  exact⟨m,by simp [Mem.setPin,Xw,hne,hj],Nat.le_refl _,fun _=>⟨rfl,rfl⟩⟩
theorem Tz {B:Nat} {a w:World} (h:Below B a w) {b:Nat} (hb:B<=b) (o:Obj):Below B a (w.putObj b o):=
 h.trans ⟨rfl,rfl,rfl,by simp,fun k hk=>World.putObj_heap_other (by omega)⟩
theorem Inv.setPin (hI:Inv M) {k b:Nat} {o0 o:Obj} {fr0 fr:List AV} (hk:M.st k=some (.pin b o0 fr0)) (ho:o.isCells=false) (hfr:∀rec,o= .loop rec->RL M fr rec.tmps):Inv (M.setPin k b o fr):=by
 have ex:=Ext.setPin (fr:=fr) hI hk ho;obtain⟨h1,h2,h3,h4⟩:=hI.pin k b o0 fr0 hk;have hown:∀j,(M.setPin k b o fr).owns j->j≠k∧M.owns j:=fun j hj=>by
  by_cases e':j=k
  ·subst e';simp [Mem.owns,Mem.setPin,Xw] at hj
  ·exact⟨e',by simpa [Mem.owns,Mem.setPin,Xw,e'] using hj⟩
 have hcells:∀c us t fz,M.w.heap[c]? =some (.cells us t fz)->c≠b:=fun c us t fz hc=>by
  rintro rfl;rw[hc] at h1;injection h1 with h1;rw[<- h1] at h2;cases h2
 refine⟨Tz hI.below h3 _,?_,fun j hj=>hI.new j (hown j hj).2,fun i j hi hj=>hI.inj i j (hown i hi).2 (hown j hj).2,fun c i hs=> ?_,fun j t ds hj=> ?_,fun j t sz m c hj hcap=> ?_,fun j c o' fr' hj=> ?_,fun i j c o' fr' o'' fr'' hi hj=> ?_,fun j t sz m cs hj=>hI.vec_keep ex (Yx hj (by simp)).1 rfl rfl (fun ho=>by
  have hj1:=(Yx hj (by simp)).1;obtain⟨c,hc⟩:=cu.1 (show(M.cap j).isSome=true by simpa [Mem.owns,hj1] using ho);obtain⟨vs,g1,_⟩:=(hI.vec j _ _ _ _ hj1).2.2 c hc;exact World.putObj_heap_other (hcells _ _ _ _ g1)) (fun _ _ h=>h)⟩
 ·obtain⟨N,hN⟩:=hI.fin;exact⟨max N (k+1),fun j hj=>by
   have:j≠k:=by omega
   simp [Mem.setPin,Xw,this,hN j (by omega)]⟩
 ·obtain⟨v,hv,hl⟩:=hI.stb c i hs;exact⟨v,(ex.cell c i hs).trans hv,hl⟩
 ·have e':j≠k:=by rintro rfl;simp [Mem.setPin,Xt] at hj
  have hj':M.st j=some (.box t ds):=by simpa [Mem.setPin,Xw,e'] using hj
  obtain⟨ws,g1,g2,g3,g4,g5⟩:=hI.box j t ds hj';exact⟨ws,(World.putObj_heap_other (hcells _ _ _ _ g1)).trans g1,g2,g3,fun i c v hi hv=>(g4 i c v hi hv).ext ex,g5⟩
 ·have e':j≠k:=by rintro rfl;simp [Mem.setPin,Xt] at hj
  have hj':M.st j=some (.row t sz m):=by simpa [Mem.setPin,Xw,e'] using hj
  obtain⟨ws,g1,g2⟩:=hI.row j t sz m c hj' hcap;exact⟨ws,(World.putObj_heap_other (hcells _ _ _ _ g1)).trans g1,g2⟩
 ·by_cases e':j=k
  ·subst e';simp only[Mem.setPin,Xt,bb,Res.pin.injEq] at hj;obtain⟨rfl,rfl,rfl⟩:=hj;exact⟨World.putObj_heap_same (Y3j h1),ho,h3,fun rec hr=>(hfr rec hr).ext ex⟩
  ·have hj':M.st j=some (.pin c o' fr'):=by simpa [Mem.setPin,Xw,e'] using hj
   have hne:c≠b:=fun hc=>e' (hI.pinj j k c o' fr' o0 fr0 hj' (by rw[hc];exact hk));exact(hI.pin j c o' fr' hj').ext ex ((World.putObj_heap_other hne).trans (hI.pin j c o' fr' hj').1)
 ·have key:∀j o fr1,(M.setPin k b o fr).st j=some (.pin c o fr1)->True:=fun _ _ _ _=>trivial;have get:∀j o1 fr1,(M.setPin k b o fr).st j=some (.pin c o1 fr1)->∃o2 fr2,M.st j=some (.pin c o2 fr2):=fun j o1 fr1 hj=>by
   by_cases e':j=k
   ·subst e';simp only[Mem.setPin,Xt,bb,Res.pin.injEq] at hj;obtain⟨rfl,rfl,rfl⟩:=hj;exact⟨o0,fr0,hk⟩
   ·exact⟨o1,fr1,by simpa [Mem.setPin,Xw,e'] using hj⟩
  obtain⟨_,_,a1⟩:=get i _ _ hi;obtain⟨_,_,a2⟩:=get j _ _ hj;exact hI.pinj i j c _ _ _ _ a1 a2
def Mem.newPin (M:Mem) (k:Nat) (o:Obj) (fr:List AV):Mem:={M with w:=M.w.alloc o,st:=Xw M.st k (.pin M.w.heap.size o fr)}
theorem Ext.newPin (hI:Inv M) {k:Nat} (hk:M.st k=none) (o:Obj) (fr:List AV):Ext M (M.newPin k o fr):=by
 refine⟨rfl,fun _ _ h=>h,fun b i h=>Zj _ _ _ _ (hI.lt_stb h),fun j hj=> ?_,fun j t sz m hj=> ?_,fun j t s m cs hj=>by
  have hne:j≠k:=by rintro rfl;rw[hk] at hj;cases hj
  exact .inl ⟨m,cs,by simp [Mem.newPin,Xw,hne,hj],Nat.le_refl _,fun _=>⟨rfl,rfl⟩⟩⟩
 ·have hne:j≠k:=by rintro rfl;rw[hk] at hj;exact hj
  simp [Mem.newPin,Xw,hne,hj]
 ·have hne:j≠k:=by rintro rfl;rw[hk] at hj;cases hj
  exact⟨m,by simp [Mem.newPin,Xw,hne,hj],Nat.le_refl _,fun _=>⟨rfl,rfl⟩⟩
theorem Inv.newPin (hI:Inv M) {k:Nat} (hk:M.st k=none) {o:Obj} {fr:List AV} (ho:o.isCells=false) (hfr:∀rec,o= .loop rec->RL M fr rec.tmps):Inv (M.newPin k o fr):=by
 have ex:=Ext.newPin hI hk o fr;have hown:∀j,(M.newPin k o fr).owns j->j≠k∧M.owns j:=fun j hj=>by
  by_cases e':j=k
  ·subst e';simp [Mem.owns,Mem.newPin,Xw] at hj
  ·exact⟨e',by simpa [Mem.owns,Mem.newPin,Xw,e'] using hj⟩
 refine⟨hI.below.alloc hI.below.size _,?_,fun j hj=>hI.new j (hown j hj).2,fun i j hi hj=>hI.inj i j (hown i hi).2 (hown j hj).2,fun c i hs=> ?_,fun j t ds hj=> ?_,fun j t sz m c hj hcap=> ?_,fun j c o' fr' hj=> ?_,fun i j c o' fr' o'' fr'' hi hj=> ?_,fun j t sz m cs hj=>hI.vec_keep ex (Yx hj (by simp)).1 rfl rfl (fun ho=>Yv _ _ _ (hI.lt_owns ho)) (fun _ _ h=>h)⟩
 ·obtain⟨N,hN⟩:=hI.fin;exact⟨max N (k+1),fun j hj=>by
   have:j≠k:=by omega
   simp [Mem.newPin,Xw,this,hN j (by omega)]⟩
 ·obtain⟨v,hv,hl⟩:=hI.stb c i hs;exact⟨v,(ex.cell c i hs).trans hv,hl⟩
 ·have e':j≠k:=by rintro rfl;simp [Mem.newPin,Xt] at hj
  have hj':M.st j=some (.box t ds):=by simpa [Mem.newPin,Xw,e'] using hj
  obtain⟨ws,g1,g2,g3,g4,g5⟩:=hI.box j t ds hj';exact⟨ws,(Yv _ _ _ (Y3j g1)).trans g1,g2,g3,fun i c v hi hv=>(g4 i c v hi hv).ext ex,g5⟩
 ·have e':j≠k:=by rintro rfl;simp [Mem.newPin,Xt] at hj
  have hj':M.st j=some (.row t sz m):=by simpa [Mem.newPin,Xw,e'] using hj
  obtain⟨ws,g1,g2⟩:=hI.row j t sz m c hj' hcap;exact⟨ws,(Yv _ _ _ (Y3j g1)).trans g1,g2⟩
 ·by_cases e':j=k
  ·subst e';simp only[Mem.newPin,Xt,bb,Res.pin.injEq] at hj;obtain⟨rfl,rfl,rfl⟩:=hj;exact⟨Q4 _ _,ho,hI.below.size,fun rec hr=>(hfr rec hr).ext ex⟩
  ·have hj':M.st j=some (.pin c o' fr'):=by simpa [Mem.newPin,Xw,e'] using hj
   exact Lm hI hj' ex rfl
 ·have get:∀j o1 fr1,(M.newPin k o fr).st j=some (.pin c o1 fr1)->(j=k∧c=M.w.heap.size)∨(M.st j=some (.pin c o1 fr1)):=fun j o1 fr1 hj=>by
   by_cases e':j=k
   ·subst e';simp only[Mem.newPin,Xt,bb,Res.pin.injEq] at hj;exact .inl ⟨rfl,hj.1.symm⟩
   ·exact .inr (by simpa [Mem.newPin,Xw,e'] using hj)
  have lt:∀j o1 fr1,M.st j=some (.pin c o1 fr1)->c<M.w.heap.size:=fun j o1 fr1 hj=>Y3j (hI.pin j c o1 fr1 hj).1;rcases get i _ _ hi with ⟨rfl,hc⟩|h1<;>rcases get j _ _ hj with ⟨rfl,hc'⟩|h2
  ·rfl
  ·have:=lt _ _ _ h2;omega
  ·have:=lt _ _ _ h1;omega
  ·exact hI.pinj i j c _ _ _ _ h1 h2
def Mem.kill (M:Mem) (k:Nat):Mem:={M with st:=Xw M.st k .dead}
theorem Ext.kill {k b:Nat} {o:Obj} {fr:List AV} (hk:M.st k=some (.pin b o fr)):Ext M (M.kill k):=by
 refine⟨rfl,fun _ _ h=>h,fun _ _ _=>rfl,fun j hj=> ?_,fun j t sz m hj=> ?_,fun j t s m cs hj=>by
  have hne:j≠k:=by rintro rfl;rw[hk] at hj;cases hj
  exact .inl ⟨m,cs,by simp [Mem.kill,Xw,hne,hj],Nat.le_refl _,fun _=>⟨rfl,rfl⟩⟩⟩
 ·have hne:j≠k:=by rintro rfl;rw[hk] at hj;exact hj
  simp [Mem.kill,Xw,hne,hj]
 ·have hne:j≠k:=by rintro rfl;rw[hk] at hj;cases hj
  exact⟨m,by simp [Mem.kill,Xw,hne,hj],Nat.le_refl _,fun _=>⟨rfl,rfl⟩⟩
theorem Inv.kill (hI:Inv M) {k b:Nat} {o:Obj} {fr:List AV} (hk:M.st k=some (.pin b o fr)):Inv (M.kill k):=by
 have ex:=Ext.kill hk;have hown:∀j,(M.kill k).owns j->j≠k∧M.owns j:=fun j hj=>by
  by_cases e':j=k
  ·subst e';simp [Mem.owns,Mem.kill,Xw] at hj
  ·exact⟨e',by simpa [Mem.owns,Mem.kill,Xw,e'] using hj⟩
 refine⟨hI.below,?_,fun j hj=>hI.new j (hown j hj).2,fun i j hi hj=>hI.inj i j (hown i hi).2 (hown j hj).2,hI.stb,fun j t ds hj=> ?_,fun j t sz m c hj hcap=> ?_,fun j c o' fr' hj=>(hI.pin j c o' fr' (Y0 hj (by simp))).ext ex (hI.pin j c o' fr' (Y0 hj (by simp))).1,fun i j c o' fr' o'' fr'' hi hj=>hI.pinj i j c _ _ _ _ (Y0 hi (by simp)) (Y0 hj (by simp)),fun j t sz m cs hj=>hI.vec_keep ex (Yx hj (by simp)).1 rfl rfl (fun _=>rfl) (fun _ _ h=>h)⟩
 ·obtain⟨N,hN⟩:=hI.fin;exact⟨max N (k+1),fun j hj=>by
   have:j≠k:=by omega
   simp [Mem.kill,Xw,this,hN j (by omega)]⟩
 ·have e':j≠k:=by rintro rfl;simp [Mem.kill,Xt] at hj
  have hj':M.st j=some (.box t ds):=by simpa [Mem.kill,Xw,e'] using hj
  obtain⟨ws,g1,g2,g3,g4,g5⟩:=hI.box j t ds hj';exact⟨ws,g1,g2,g3,fun i c v hi hv=>(g4 i c v hi hv).ext ex,g5⟩
 ·have e':j≠k:=by rintro rfl;simp [Mem.kill,Xt] at hj
  have hj':M.st j=some (.row t sz m):=by simpa [Mem.kill,Xw,e'] using hj
  exact hI.row j t sz m c hj' hcap
end
def X6t (P:Program) (l:Nat) (args:List AV) (needs:List (Nat×Option Res)) (r:AV) (gives:List (Nat×Res)):Prop:=
 ∀(M:Mem) (N:Nat) (vs:Array Value),Inv M->RL M args vs->holds M.st needs->(∀k,N<=k->M.st k=none)->Mc N gives→
  Y49 P (fun v w'=>Sf M N gives r v w') ((Instr.yield l vs).run P M.w)
theorem Jn {P:Program} {d:Option Tmp} {ty:TypeId} {pos:String} {aft:Array Edge} {gd:Option (Nat×Bool)} {ρA:Operand->AV} {x:Operand} {l:Nat} {args:Array Operand} {ats:Array TypeId} {needs:List (Nat×Option Res)} {r:AV} {gives:List (Nat×Res)}
  (hx:ρA x= .fn (.yield l) []) (h:X6t P l (args.toList.map ρA) needs r gives):AOk P ⟨d,.call {callee:= .value x,args:=args,argTypes:=ats},ty,pos,aft,gd⟩ ρA needs r gives:=
 ⟨(by intro _ _ h;cases h),fun M N ρ hI hρ _ _ hneeds hN hu=>by
  have h1:=hρ x (by simp [Op.operands,Call.operands]);rw[hx] at h1;generalize hv:ρ x=v at h1;cases h1 with
  |fn f' caps vs hl hc=>
   have hnil:vs= #[]:=Array.eq_empty_of_size_eq_zero (by simpa using hl.symm);subst hnil;have hrun:(execOp ρ ⟨d,.call {callee:= .value x,args:=args,argTypes:=ats},ty,pos,aft,gd⟩).run P M.w=(Instr.yield l (args.map ρ)).run P M.w:=by
    simp [execOp,resolve,Deferred.ofValue,hv,invoke]
   rw[hrun];refine h M N (args.map ρ) hI ⟨by simp,fun i c u hi hu'=> ?_⟩ hneeds hN hu;simp only[b9,bh] at hi;simp only[ft] at hu';cases ha:args[i]? with
   |none=>rw[ha] at hi;cases hi
   |some y=>
    rw[ha] at hi hu';injection hi with hi;injection hu' with hu'
    subst hi;subst hu';have hmem:y∈args:=gv ha;exact hρ _ (by simp [Op.operands,Call.operands,hmem])⟩
def setAll:List AV->List (Tmp×AV)->List AV
 |fr,[]=>fr
 |fr,(t,x)::l=>setAll (fr.set t x) l
theorem RL.set {M:Mem} {fr:List AV} {tmps:Array Value} (h:RL M fr tmps) (t:Tmp) {x:AV} {v:Value} (hx:R M x v):RL M (fr.set t x) (tmps.setIfInBounds t v):=by
 refine⟨by simp [h.1],fun i c u hi hu=> ?_⟩;by_cases ht:t=i
 ·subst ht;rcases Nat.lt_or_ge t fr.length with hl|hl
  ·rw[fm hl] at hi;rw[g9 (by rw[<- h.1];exact hl)] at hu;injection hi with hi;injection hu with hu
   subst hi;subst hu;exact hx
  ·rw[dn (by simpa using hl)] at hi;cases hi
 ·rw[ec ht] at hi;rw[f0 ht] at hu;exact h.2 i c u hi hu
theorem RL.setAll {M:Mem}:∀(l:List (Tmp×AV)) (vl:List (Tmp×Value)) {fr:List AV} {tmps:Array Value},RL M fr tmps->l.length=vl.length→
  (∀(i:Nat) (x:Tmp×AV) (y:Tmp×Value),l[i]? =some x->vl[i]? =some y->x.1=y.1∧R M x.2 y.2)->RL M (VS.setAll fr l) (vl.foldl (fun t (p,v)=>t.setIfInBounds p v) tmps)
 |[],[],_,_,h,_,_=>h
 |(t,x)::l,(u,v)::vl,_,_,h,hl,hc=>by
  have h0:=hc 0 (t,x) (u,v) rfl rfl;obtain⟨rfl,hx⟩:t=u∧R M x v:=h0;exact RL.setAll l vl (h.set t hx) (by simpa using hl) fun i a b ha hb=>hc (i+1) a b ha hb
 |[],_:: _,_,_,_,hl,_=>by simp at hl
 | _:: _,[],_,_,_,hl,_=>by simp at hl
theorem Sd {s:Nat->Option Res} {k:Nat}:∀(g:List (Nat×Res)),(∀x,x∈g->x.1≠k)->upd s g k=s k:=by
 intro g;induction g generalizing s with
 |nil=>intro _;rfl
 |cons y g ih=>
  intro h;obtain⟨j,r⟩:=y;simp only[upd];rw[ih fun x hx=>h x (bz _ hx)];exact Zp _ _ (Ne.symm (h (j,r) cy))
theorem Y4c {P:Program} {l kl:Nat} {rec:Loop} {fr fr1 args:List AV} {ps:List Tmp} {asg bd:Code} {needs:List (Nat×Option Res)} {gives:List (Nat×Res)} (m:Nat)
  (hst:rec.state= .ready) (hpe:rec.pending=none) (hps:rec.params=ps.toArray) (ha:rec.assign=asg) (hb:rec.body=bd) (hlen:args.length=ps.length)
  (hkn:∀x,x∈needs->x.1≠kl∧x.2≠none) (hkg:∀x,x∈gives->x.1≠kl)
  (h1:∀n out,AWp P asg (fun e σ=>e= .normal∧σ=⟨fr1,List.replicate m none,out,n,n,[]⟩) ⟨setAll fr (ps.zip args),List.replicate m none,out,n,n,[]⟩)
  (h2:∀n out,holds out needs->Mc n gives->AWp P bd (fun e σ=>e= .normal∧σ.n0=n∧∀k,k<n->σ.out k=upd out gives k) ⟨fr1,List.replicate m none,out,n,n,[]⟩):
  X6t P l args ((kl,some (.pin l (.loop rec) fr))::needs) (.val (.bool true)) gives:=by
 intro M N vs hI hargs hneeds hN hg;obtain⟨hk,hn⟩:=hneeds;obtain⟨p1,p2,p3,p4⟩:=hI.pin kl l _ fr hk;have hklN:kl<N:=by
  rcases Nat.lt_or_ge kl N with h|h
  ·exact h
  ·rw[hN kl h] at hk;cases hk
 have hvs:vs.size=rec.params.size:=by rw[hps,<- hargs.1,hlen];simp
 rw[run_yield p1 hvs];subst ha;subst hb
 show RoundIn Fence.wide 0 P l rec.fn _ rec.assign rec.body M.w _
 refine roundIn_of_wpIn (F:=Fence.wide) (n:=0) trivial ?_;have hrl:RL M (setAll fr (ps.zip args)) ((rec.params.zip vs).foldl (fun tmps (t,a)=>tmps.setIfInBounds t a) rec.tmps):=by
  rw[<- ix,Array.toList_zip,hps];refine RL.setAll _ _ (p4 rec rfl) (by simp [<- hargs.1,hlen]) fun i x y hx hy=> ?_;rw[List.getElem?_zip_eq_some] at hx hy;have e:x.1=y.1:=by
   have:=hx.1.symm.trans hy.1;injection this
  refine⟨e,hargs.2 i x.2 y.2 hx.2 (by simpa using hy.2)⟩
 have hs:Sim M {tmps:=(rec.params.zip vs).foldl (fun tmps (t,a)=>tmps.setIfInBounds t a) rec.tmps,defers:=[]} ⟨setAll fr (ps.zip args),List.replicate m none,M.st,N,N,[]⟩:=by
  refine⟨rfl,hrl,Nat.le_refl _,fun k hk=> ?_⟩;simp only[AState.look];split
  ·rfl
  ·rw[hN k (by omega),gc];split<;>rfl
 refine wpIn_mono (h1 N M.st (some l) 0 M _ hI hs) ?_;rintro e a1 w1 ⟨M1,σ1,rfl,he1,hI1,hs1,rfl,rfl⟩;have st1:∀k,k<N->M1.st k=M.st k:=fun k hk=>by
  rw[hs1.st k (.inl hk)];simp only[AState.look,hk,if_true]
 have hk1:=(st1 kl hklN).trans hk;have q1:=(hI1.pin kl l _ fr hk1).1;refine⟨_,run_beginRound q1 hst,?_⟩;have nc:∀r:Loop,(Obj.loop r).isCells=false:=fun _=>rfl;have rl1:∀r:Loop,Obj.loop {rec with state:= .busy}= .loop r->RL M1 fr r.tmps:=fun r hr=>by
  injection hr with hr;subst hr;exact(p4 rec rfl).ext he1
 have e2:=Ext.setPin (fr:=fr) hI1 hk1 (nc {rec with state:= .busy});have hI2:=hI1.setPin (fr:=fr) hk1 (nc {rec with state:= .busy}) rl1;obtain⟨M2,hM2⟩:∃M2,M2=M1.setPin kl l (.loop {rec with state:= .busy}) fr:=⟨_,rfl⟩
 rw[<- hM2] at e2 hI2;have hw2:M1.w.putObj l (.loop {rec with state:= .busy})=M2.w:=by rw[hM2];rfl
 have hst2:∀k,M2.st k=if k=kl then some (.pin l (.loop {rec with state:= .busy}) fr) else M1.st k:=fun k=>by rw[hM2];rfl
 rw[hw2];have hs2:Sim M2 a1 ⟨fr1,List.replicate m none,M2.st,N,N,[]⟩:=by
  refine⟨hs1.df,hs1.fr.ext e2,Nat.le_refl _,fun k hk=> ?_⟩;simp only[AState.look];split
  ·rfl
  ·rename_i hkN;have:=hs1.st k hk;simp only[AState.look,if_neg hkN] at this;rw[hst2,if_neg (by omega)];exact this
 have hn2:holds M2.st needs:=by
  rw[Q5] at hn⊢;intro x hx;rw[hst2,if_neg (hkn x hx).1];rcases Nat.lt_or_ge x.1 N with h|h
  ·rw[st1 _ h];exact hn x hx
  ·exact((hkn x hx).2 ((hn x hx).symm.trans (hN _ h))).elim
 refine wpIn_mono (h2 N M2.st hn2 hg (some l) 0 M2 a1 hI2 hs2) ?_;rintro e a2 w2 ⟨M3,σ3,rfl,he3,hI3,hs3,rfl,hn0,hout⟩;have st3:∀k,k<N->M3.st k=upd M2.st gives k:=fun k hk=>by
  have hk':k<σ3.n0:=by rw[hn0];exact hk
  rw[hs3.st k (.inl hk')];simp only[AState.look,hk',if_true];exact hout k hk
 have hk3:M3.st kl=some (.pin l (.loop {rec with state:= .busy}) fr):=by
  rw[st3 kl hklN,Sd _ hkg,hst2,if_pos rfl]
 have q3:=(hI3.pin kl l _ fr hk3).1;refine⟨.bool true,_,run_endRound none q3,_,rfl,?_⟩;have rl3:∀r:Loop,Obj.loop rec= .loop r->RL M3 fr r.tmps:=fun r hr=>by
  injection hr with hr;subst hr;exact(((p4 rec rfl).ext he1).ext e2).ext he3
 have hrec:({{rec with state:= .busy} with state:=if (none:Option Code).isNone then .ready else .done,pending:=none}:Loop)=rec:=by
  obtain⟨a,b,c,d,e,f,g,h⟩:=rec;simp only at hst hpe;subst hst;subst hpe;rfl
 rw[hrec];have e4:=Ext.setPin (fr:=fr) hI3 hk3 (nc rec);refine⟨M3.setPin kl l (.loop rec) fr,rfl,((he1.trans e2).trans he3).trans e4,hI3.setPin hk3 (nc rec) rl3,fun k hk=> ?_,.val _ trivial⟩
 show Xw M3.st kl (.pin l (.loop rec) fr) k= _
 unfold Xw;by_cases e':k=kl
 ·subst e';rw[if_pos rfl,Sd _ hkg];exact hk.symm
 ·rw[if_neg e',st3 k hk];exact T4 gives (by rw[hst2,if_neg e',st1 k hk])
def Cv (P:Program) (c:Code) (Q:Exit->AState->Prop) (σ:AState):Prop:=
 ∀(n:Nat) (M:Mem) (a:Act),Inv M->Sim M a σ->c.wpIn (FR none) n P (Xq8 M Q) a M.w
section
variable {P:Program} {Q:Exit->AState->Prop} {σ:AState}
theorem AWp.zero {c:Code} (h:AWp P c Q σ):Cv P c Q σ:=fun n M a hI hs=>h none n M a hI hs
theorem X1f {x y:Code} (h:Cv P x (Qd (Cv P y Q) Q) σ):Cv P (.seq x y) Q σ:=fun n M a hI hs=>by
 refine wpIn_seq (wpIn_mono (h n M a hI hs) ?_);rintro e a' w' ⟨M',σ',rfl,he,hI',hs',hq⟩;cases e with
 |normal=>
  refine wpIn_mono (hq n M' a' hI' hs') ?_;rintro e a2 w2 ⟨M2,σ2,rfl,he2,hI2,hs2,hq2⟩;exact⟨M2,σ2,rfl,he.trans he2,hI2,hs2,hq2⟩
 | _=>exact⟨M',σ',rfl,he,hI',hs',hq⟩
theorem V4 {x y:Code} (h:∀K:AState->Prop,(∀σ,Cv P y Q σ->K σ)->Cv P x (Qd K Q) σ):Cv P (.seq x y) Q σ:=X1f (h _ fun _ h=>h)
theorem Fp {id:Nat} {c:Code} (h:Cv P c (Z4 id Q) σ):Cv P (.block id c) Q σ:=fun n M a hI hs=>by
 refine wpIn_block (wpIn_mono (h n M a hI hs) ?_);rintro e a' w' ⟨M',σ',h1,h2,h3,h4,hq⟩;cases e with
 |exit id'=>
  simp only[Exit.inBlock,Z4] at hq⊢;split
  ·rename_i hid;rw[if_pos hid] at hq;exact⟨M',σ',h1,h2,h3,h4,hq⟩
  ·rename_i hid;rw[if_neg hid] at hq;exact⟨M',σ',h1,h2,h3,h4,hq⟩
 | _=>exact⟨M',σ',h1,h2,h3,h4,hq⟩
theorem Fq {g:Operand} {ps:Array Tmp} {asg bd:Code} {gf:FuncId} {fn:Func} {caps:List AV} {r:AV} (i j:Nat)
  (hf:P.funcs[gf]? =some fn) (hb:fn.body.isSome=true) (hnm:(fn.name== "runtime.NumGoroutine")=false)
  (hg:σ.ev g= .fn (.func gf) caps) (hij:i≠j) (hi:σ.lo[i]? =some none) (hj:σ.lo[j]? =some none)
  (h:∀(D l:Nat) (rec:Loop) (F:List AV),F=σ.fr->rec.state= .ready->rec.pending=none->rec.params=ps->rec.assign=asg->rec.body=bd→
   ∃needs gives,Xr P gf (.fn (.yield l) []::caps) needs r gives∧
    holds (AState.look {σ with lo:=(σ.lo.set i (some (.pin D (.deferred (some [])) []))).set j (some (.pin l (.loop rec) F))}) needs∧L2 σ gives∧(∀x,x∈needs->σ.dom x.1)∧(∀x,x∈gives->x.1≠σ.n+j)∧
    Q .normal (AState.give {σ with lo:=(σ.lo.set i (some (.pin D (.deferred (some [])) []))).set j (some .dead),df:={target:= .collected D,args:= #[]}::σ.df} gives)):
  Cv P (.rangeFunc g ps asg bd) Q σ:=by
 intro n M a hI hs;have hli:i<σ.lo.length:=(ae.1 hi).1;have hlj:j<σ.lo.length:=(ae.1 hj).1;have hki:M.st (σ.n+i)=none:=by rw[hs.st _ (Xb σ hli),X6 σ hs.le,hi];rfl
 have hkj:M.st (σ.n+j)=none:=by rw[hs.st _ (Xb σ hlj),X6 σ hs.le,hj];rfl
 refine wpIn_rangeFunc fun fnid _=> ?_;obtain⟨rec,hrec⟩:∃rec:Loop,rec={state:= .ready,pending:=none,fn:=fnid,tmps:=a.tmps,params:=ps,assign:=asg,body:=bd,defers:=M.w.heap.size}:=⟨_,rfl⟩
 obtain⟨needs,gives,hcall,hh,hu,hdm,hgj,hQ⟩:=h M.w.heap.size (M.w.heap.size+1) rec σ.fr rfl (by rw[hrec]) (by rw[hrec]) (by rw[hrec]) (by rw[hrec]) (by rw[hrec]);have ncD:(Obj.deferred (some [])).isCells=false:=rfl;have nc:∀r:Loop,(Obj.loop r).isCells=false:=fun _=>rfl;have e1:=Ext.newPin hI hki (.deferred (some [])) [];have hI1:=hI.newPin hki (fr:=[]) ncD (fun _ h=>by cases h);obtain⟨M1,hM1⟩:∃M1,M1=M.newPin (σ.n+i) (.deferred (some [])) []:=⟨_,rfl⟩
 rw[<- hM1] at e1 hI1;have hst1:∀k,M1.st k=if k=σ.n+i then some (.pin M.w.heap.size (.deferred (some [])) []) else M.st k:=fun k=>by rw[hM1];rfl
 have hw1:M1.w=M.w.alloc (.deferred (some [])):=by rw[hM1];rfl
 have hkj1:M1.st (σ.n+j)=none:=by rw[hst1,if_neg (by omega)];exact hkj
 have rl0:∀M':Mem,Ext M M'->∀r:Loop,Obj.loop rec= .loop r->RL M' σ.fr r.tmps:=fun M' e r hr=>by
  injection hr with hr;subst hr;rw[hrec];exact hs.fr.ext e
 have e2:=Ext.newPin hI1 hkj1 (.loop rec) σ.fr;have hI2:=hI1.newPin hkj1 (nc rec) (rl0 M1 e1);obtain⟨M2,hM2⟩:∃M2,M2=M1.newPin (σ.n+j) (.loop rec) σ.fr:=⟨_,rfl⟩
 rw[<- hM2] at e2 hI2;have hsz:M1.w.heap.size=M.w.heap.size+1:=by rw[hw1];simp
 have hst2:∀k,M2.st k=if k=σ.n+j then some (.pin (M.w.heap.size+1) (.loop rec) σ.fr) else M1.st k:=fun k=>by rw[hM2,<- hsz];rfl
 have hw2:M2.w=(M.w.alloc (.deferred (some []))).alloc (.loop rec):=by rw[hM2,<- hw1];rfl
 have hR:=hs.ev g;rw[hg] at hR;generalize hgv:a.eval g=v at hR;cases hR with
 |fn f' caps vs hl hc=>
 refine⟨M.w.heap.size+1,[{target:= .collected M.w.heap.size,args:= #[]}],M2.w,{target:= .fn (.func gf) vs,args:= #[.func (.yield (M.w.heap.size+1)) #[] #[]]},M2.w,gf,
  #[.func (.yield (M.w.heap.size+1)) #[] #[]]++vs,M2.w,?_,?_,fun _ _=>trivial,?_,fun h=>(by cases h),?_⟩
 ·rw[hw2,hrec];exact run_enterLoop_outer _ _ _ _ _
 ·have hcv:∀v,a.eval (.const v)=v:=fun _=>rfl;simp [resolve,Deferred.ofValue,hgv,hcv]
 ·simp [invoke,M4 hf hb hnm]
 show CallsIn Fence.wide (n - 1) P gf _ M2.w _
 refine callsIn_wide.2 ?_;obtain⟨N0,hN0⟩:=hI2.fin;have hargs:RL M2 (.fn (.yield (M.w.heap.size+1)) []::caps) (#[.func (.yield (M.w.heap.size+1)) #[] #[]]++vs):=by
  refine⟨by simp [hl];omega,fun q c u hq hu'=> ?_⟩;cases q with
  |zero=>
   have hu0:(#[Value.func (Fn.yield (M.w.heap.size+1)) #[] #[]]++vs)[0]? =some (Value.func (Fn.yield (M.w.heap.size+1)) #[] #[]):=by
    rw[fq (by simp)];rfl
   rw[hu0] at hu';simp only[List.getElem?_cons_zero,bb] at hq hu';subst hq;subst hu';exact .fn _ _ _ rfl (fun i c v hi=>by simp at hi)
  |succ q=>
   simp only[List.getElem?_cons_succ] at hq;have hu2:vs[q]? =some u:=by
    rw[fj (by simp)] at hu';simpa using hu'
   exact((hc q c u hq hu2).ext e1).ext e2
 have hsee:∀k,σ.dom k->M2.st k=AState.look {σ with lo:=(σ.lo.set i (some (.pin M.w.heap.size (.deferred (some [])) []))).set j (some (.pin (M.w.heap.size+1) (.loop rec) σ.fr))} k:=fun k hk=>by
  have a1:=Vv (σ:={σ with lo:=σ.lo.set i (some (.pin M.w.heap.size (.deferred (some [])) []))}) (fr:=σ.fr) (r:=some (.pin (M.w.heap.size+1) (.loop rec) σ.fr)) (i:=j) (k:=k) hs.le (by simpa [AState.dom] using hk) (by simpa using hlj);have a2:=Vv (σ:=σ) (fr:=σ.fr) (r:=some (.pin M.w.heap.size (.deferred (some [])) [])) (i:=i) (k:=k) hs.le hk hli;rw[hst2,hst1];refine Eq.trans ?_ a1.symm;split
  ·rfl
  ·refine Eq.trans ?_ a2.symm;split
   ·rfl
   ·exact hs.st k hk
 have hN:∀k,max N0 (σ.n+σ.lo.length)<=k->M2.st k=none:=fun k hk=>hN0 k (by omega);have hh2:holds M2.st needs:=by
  rw[Q5] at hh⊢;intro x hx;rw[hsee x.1 (hdm x hx)];exact hh x hx
 refine(hcall M2 (max N0 (σ.n+σ.lo.length)) _ hI2 hargs hh2 hN (Xsf hs.le (by omega) hu)).mono ?_;rintro e w3 ⟨v,rfl,M3,rfl,e3,hI3,st3,hr3⟩;have hltj:σ.n+j<max N0 (σ.n+σ.lo.length):=by omega
 have hk3:M3.st (σ.n+j)=some (.pin (M.w.heap.size+1) (.loop rec) σ.fr):=by
  rw[st3 _ hltj,Sd _ hgj,hst2,if_pos rfl]
 have q3:=(hI3.pin _ _ _ _ hk3).1;have hre:rec.state≠ .busy:=by rw[hrec];intro h;cases h
 have hpe:rec.pending=none:=by rw[hrec]
 refine⟨_,_,run_endLoop q3 hre,?_⟩;rw[hpe];have rl3:∀r:Loop,Obj.loop {rec with state:= .exhausted,pending:=none}= .loop r->RL M3 σ.fr r.tmps:=fun r hr=>by
  injection hr with hr;subst hr;exact rl0 M3 ((e1.trans e2).trans e3) rec rfl
 have e4:=Ext.setPin (fr:=σ.fr) hI3 hk3 (nc {rec with state:= .exhausted,pending:=none});have hI4:=hI3.setPin (fr:=σ.fr) hk3 (nc {rec with state:= .exhausted,pending:=none}) rl3;have hk4:(M3.setPin (σ.n+j) (M.w.heap.size+1) (.loop {rec with state:= .exhausted,pending:=none}) σ.fr).st (σ.n+j)=some (.pin (M.w.heap.size+1) (.loop {rec with state:= .exhausted,pending:=none}) σ.fr):=Xt _ _ _;have e5:=Ext.kill hk4;have hI5:=hI4.kill hk4;have eall:=(((e1.trans e2).trans e3).trans e4).trans e5;refine⟨_,_,rfl,eall,hI5,⟨?_,?_,?_,fun k hk=> ?_⟩,hQ⟩
 ·rw[Bw];simp [hs.df]
 ·rw[N7];exact hs.fr.ext eall
 ·rw[Rm,Dv];exact hs.le
 ·have hk0:σ.dom k:=by
   have:=(Ky _ gives k).1 hk;simpa [AState.dom] using this
  have hkN:k<max N0 (σ.n+σ.lo.length):=by
   have:=hs.le;rcases hk0 with h|h<;>omega
  have hu':L2 {σ with lo:=(σ.lo.set i (some (.pin M.w.heap.size (.deferred (some [])) []))).set j (some .dead),df:={target:= .collected M.w.heap.size,args:= #[]}::σ.df} gives:=by
   rw[Yn] at hu⊢;intro x hx;simpa [AState.dom] using hu x hx
  rw[Kv gives _ hu' k (by simpa [AState.dom] using hk0)]
  show Xw (Xw M3.st (σ.n+j) _) (σ.n+j) .dead k= _
  have a1:=Vv (σ:={σ with lo:=σ.lo.set i (some (.pin M.w.heap.size (.deferred (some [])) []))}) (fr:=σ.fr) (r:=some .dead) (i:=j) (k:=k) hs.le (by simpa [AState.dom] using hk0) (by simpa using hlj);have a2:=Vv (σ:=σ) (fr:=σ.fr) (r:=some (.pin M.w.heap.size (.deferred (some [])) [])) (i:=i) (k:=k) hs.le hk0 hli;by_cases ek:k=σ.n+j
  ·subst ek;rw[Xt,Sd _ hgj];refine Eq.trans ?_ a1.symm;rw[if_pos rfl]
  ·rw[Zp _ _ ek,Zp _ _ ek,st3 k hkN];refine T4 gives ?_;rw[hst2,if_neg ek,hst1];refine Eq.trans ?_ a1.symm;rw[if_neg ek];refine Eq.trans ?_ a2.symm;split
   ·rfl
   ·exact hs.st k hk0
def X1g (P:Program) (n:Nat) (fn:Func) (out:Nat->Option Res) (gives:List (Nat×Res)) (r:AV):Exit->AState->Prop:=fun e σ=>
 ∃i D,σ.df=[{target:= .collected D,args:= #[]}]∧σ.lo[i]? =some (some (.pin D (.deferred (some [])) []))∧Zq P n fn out gives r e {σ with lo:=σ.lo.set i (some .dead),df:=[]}
theorem Ph {f:FuncId} {fn:Func} {c:Code} {args:List AV} {needs:List (Nat×Option Res)} {r:AV} {gives:List (Nat×Res)} (m:Nat)
  (hf:P.funcs[f]? =some fn) (hb:fn.body=some c)
  (h:∀n out,holds out needs->Mc n gives→
   Cv P c (X1g P n fn out gives r) ⟨args++List.replicate (fn.ntmps - args.length) (.tup []),List.replicate m none,out,n,n,[]⟩):Xr P f args needs r gives:=by
 intro M N vs hI hargs hneeds hN hg;refine(callsIn_wide (n:=0)).1 (callsIn_of_wp_marks hf hb trivial ?_);have hs:Sim M {tmps:=vs++Array.replicate (fn.ntmps - vs.size) undef,defers:=[]} ⟨args++List.replicate (fn.ntmps - args.length) (.tup []),List.replicate m none,M.st,N,N,[]⟩:=by
  refine⟨rfl,⟨by simp [hargs.1],fun i c v hi hv=> ?_⟩,Nat.le_refl _,fun k hk=> ?_⟩
  ·rcases Nat.lt_or_ge i args.length with h1|h1
   ·rw[ay h1] at hi;rw[fq (by rw[<- hargs.1];exact h1)] at hv;exact hargs.2 i c v hi hv
   ·rw[au h1] at hi;rw[fj (by rw[<- hargs.1];exact h1)] at hv;have hc:c= .tup []:=List.eq_of_mem_replicate (ed hi);have hv':v=undef:=by
     have:=gv hv;simpa using(Array.mem_replicate.1 this).2
    subst hc;subst hv';exact .tup [] #[] rfl (fun i c v hi=>by simp at hi)
  ·simp only[AState.look];split
   ·rfl
   ·rename_i hk';rw[hN k (by omega)];rw[gc];split<;>rfl
 refine wpIn_mono (h N M.st hneeds hg 0 M _ hI hs) ?_;rintro e a' w' ⟨M',σ',rfl,he,hI',hs',i,D,hdf,hpin,hret,hdf0,hn0,hout,hres⟩;have hl:i<σ'.lo.length:=(ae.1 hpin).1;have hk:M'.st (σ'.n+i)=some (.pin D (.deferred (some [])) []):=by rw[hs'.st _ (Xb σ' hl),X6 σ' hs'.le,hpin];rfl
 have q:=(hI'.pin _ _ _ _ hk).1;have nc:(Obj.deferred none).isCells=false:=rfl;have e4:=Ext.setPin (fr:=[]) hI' hk nc;have hI4:=hI'.setPin (fr:=[]) hk nc (fun _ h=>by cases h);have hk4:(M'.setPin (σ'.n+i) D (.deferred none) []).st (σ'.n+i)=some (.pin D (.deferred none) []):=Xt _ _ _;have e5:=Ext.kill hk4;have hI5:=hI4.kill hk4;obtain⟨M5,hM5⟩:∃M5,M5=(M'.setPin (σ'.n+i) D (.deferred none) []).kill (σ'.n+i):=⟨_,rfl⟩
 rw[<- hM5] at e5 hI5;have hw5:M5.w=M'.w.putObj D (.deferred none):=by rw[hM5];rfl
 have hst5:∀k,M5.st k=if k=σ'.n+i then some .dead else M'.st k:=fun k=>by
  rw[hM5]
  show Xw (Xw M'.st _ _) _ _ k= _
  unfold Xw;split
  ·rfl
  ·rfl
 have hs5:Sim M5 {a' with defers:=[]} {σ' with lo:=σ'.lo.set i (some .dead),df:=[]}:=by
  refine⟨rfl,hs'.fr.ext (e4.trans e5),hs'.le,fun k hk=> ?_⟩;have hk0:σ'.dom k:=by simpa [AState.dom] using hk
  rw[hst5];have a2:=Vv (σ:=σ') (fr:=σ'.fr) (r:=some .dead) (i:=i) (k:=k) hs'.le hk0 hl;refine Eq.trans ?_ a2.symm;split
  ·rfl
  ·exact hs'.st k hk0
 obtain⟨v,hv,hr⟩:=hres M5 _ hI5 hs5;have hdone:Sf M N gives r v M5.w:=by
  refine⟨M5,rfl,(he.trans e4).trans e5,hI5,fun k hk=> ?_,hr⟩;have hn0':σ'.n0=N:=hn0;have hk':k<σ'.n0:=by rw[hn0'];exact hk
  rw[hs5.st k (.inl hk')];simp only[AState.look];rw[if_pos hk'];exact hout k hk
 have leaves:LeavesInM (FR none) 0 P fn a'.tmps (fun e w'=>∃v,e= .returned v∧Sf M N gives r v w') a'.defers .returning M'.w:=by
  rw[hs'.df,hdf];refine⟨by simp,.inl ⟨D,_,rfl,run_takeDeferred q,?_⟩⟩;rw[<- hw5];exact⟨v,hv,v,rfl,hdone⟩
 rcases hret with rfl|rfl
 ·exact leaves
 ·exact leaves
end
end Go.VS
