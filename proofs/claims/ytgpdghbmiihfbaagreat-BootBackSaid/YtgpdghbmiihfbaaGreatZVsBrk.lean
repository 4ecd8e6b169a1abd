/-
 The value-semantics layer: a range over a function that is left by a break.
-/
import Derived.Test.YtgpdghbmiihfbaaGreatZVsRound
namespace Go.VS
set_option linter.all false
open Go Go.RowKit
theorem Y5t {P:Program} {l kl:Nat} {rec:Loop} {fr args:List AV} {fr1:Nat->List AV} {lo1:Nat->List (Option Res)} {ps:List Tmp} {asg bd:Code} {needs:List (Nat×Option Res)} {gives:List (Nat×Res)} {id:Nat} (m:Nat)
  (hst:rec.state= .ready) (hps:rec.params=ps.toArray) (ha:rec.assign=asg) (hb:rec.body=bd) (hlen:args.length=ps.length)
  (hkn:∀x,x∈needs->x.1≠kl∧x.2≠none) (hkg:∀x,x∈gives->x.1≠kl)
  (h1:∀n out,AWp P asg (fun e σ=>e= .normal∧σ=⟨fr1 n,lo1 n,out,n,n,[]⟩) ⟨setAll fr (ps.zip args),List.replicate m none,out,n,n,[]⟩)
  (h2:∀n out,holds out needs->Mc n gives->AWp P bd (fun e σ=>e= .exit id∧σ.n0=n∧∀k,k<n->σ.out k=upd out gives k) ⟨fr1 n,lo1 n,out,n,n,[]⟩):
  X6t P l args ((kl,some (.pin l (.loop rec) fr))::needs) (.val (.bool false)) ((kl,.pin l (.loop {rec with state:= .done,pending:=some (.exit id)}) fr)::gives):=by
 intro M N vs hI hargs hneeds hN hg;obtain⟨hk,hn⟩:=hneeds;obtain⟨_,hg⟩:=hg;obtain⟨p1,p2,p3,p4⟩:=hI.pin kl l _ fr hk;have hklN:kl<N:=by
  rcases Nat.lt_or_ge kl N with h|h
  ·exact h
  ·rw[hN kl h] at hk;cases hk
 have hvs:vs.size=rec.params.size:=by rw[hps,<- hargs.1,hlen];simp
 rw[run_yield p1 hvs];subst ha;subst hb
 show RoundIn Fence.wide 0 P l rec.fn _ rec.assign rec.body M.w _
 refine roundIn_of_wpIn (F:=Fence.wide) (n:=0) trivial ?_;have hrl:RL M (setAll fr (ps.zip args)) ((rec.params.zip vs).foldl (fun tmps (t,a)=>tmps.setIfInBounds t a) rec.tmps):=by
  rw[<- iv,Array.toList_zip,hps];refine RL.setAll _ _ (p4 rec rfl) (by simp [<- hargs.1,hlen]) fun i x y hx hy=> ?_;rw[List.getElem?_zip_eq_some] at hx hy;have e:x.1=y.1:=by
   have:=hx.1.symm.trans hy.1;injection this
  refine⟨e,hargs.2 i x.2 y.2 hx.2 (by simpa using hy.2)⟩
 have hs:Sim M {tmps:=(rec.params.zip vs).foldl (fun tmps (t,a)=>tmps.setIfInBounds t a) rec.tmps,defers:=[]} ⟨setAll fr (ps.zip args),List.replicate m none,M.st,N,N,[]⟩:=by
  refine⟨rfl,hrl,Nat.le_refl _,fun k hk=> ?_⟩;simp only[AState.look];split
  ·rfl
  ·rw[hN k (by omega),ia];split<;>rfl
 refine wpIn_mono (h1 N M.st (some l) 0 M _ hI hs) ?_;rintro e a1 w1 ⟨M1,σ1,rfl,he1,hI1,hs1,rfl,rfl⟩;have st1:∀k,k<N->M1.st k=M.st k:=fun k hk=>by
  rw[hs1.st k (.inl hk)];simp only[AState.look,hk,if_true]
 have hk1:=(st1 kl hklN).trans hk;have q1:=(hI1.pin kl l _ fr hk1).1;refine⟨_,run_beginRound q1 hst,?_⟩;have nc:∀r:Loop,(Obj.loop r).isCells=false:=fun _=>rfl;have rl1:∀r:Loop,Obj.loop {rec with state:= .busy}= .loop r->RL M1 fr r.tmps:=fun r hr=>by
  injection hr with hr;subst hr;exact(p4 rec rfl).ext he1
 have e2:=Ext.setPin (fr:=fr) hI1 hk1 (nc {rec with state:= .busy});have hI2:=hI1.setPin (fr:=fr) hk1 (nc {rec with state:= .busy}) rl1;obtain⟨M2,hM2⟩:∃M2,M2=M1.setPin kl l (.loop {rec with state:= .busy}) fr:=⟨_,rfl⟩
 rw[<- hM2] at e2 hI2;have hw2:M1.w.putObj l (.loop {rec with state:= .busy})=M2.w:=by rw[hM2];rfl
 have hst2:∀k,M2.st k=if k=kl then some (.pin l (.loop {rec with state:= .busy}) fr) else M1.st k:=fun k=>by rw[hM2];rfl
 rw[hw2];have hs2:Sim M2 a1 ⟨fr1 N,lo1 N,M2.st,N,N,[]⟩:=by
  refine⟨hs1.df,hs1.fr.ext e2,Nat.le_refl _,fun k hk=> ?_⟩;simp only[AState.look];split
  ·rfl
  ·rename_i hkN;have:=hs1.st k hk;simp only[AState.look,if_neg hkN] at this;rw[hst2,if_neg (by omega)];exact this
 have hn2:holds M2.st needs:=by
  rw[Q5] at hn⊢;intro x hx;rw[hst2,if_neg (hkn x hx).1];rcases Nat.lt_or_ge x.1 N with h|h
  ·rw[st1 _ h];exact hn x hx
  ·exact((hkn x hx).2 ((hn x hx).symm.trans (hN _ h))).elim
 refine wpIn_mono (h2 N M2.st hn2 hg (some l) 0 M2 a1 hI2 hs2) ?_;rintro e a2 w2 ⟨M3,σ3,rfl,he3,hI3,hs3,rfl,hn0,hout⟩;have st3:∀k,k<N->M3.st k=upd M2.st gives k:=fun k hk=>by
  have hk':k<σ3.n0:=by rw[hn0];exact hk
  rw[hs3.st k (.inl hk')];simp only[AState.look,hk',if_true];exact hout k hk
 have hk3:M3.st kl=some (.pin l (.loop {rec with state:= .busy}) fr):=by
  rw[st3 kl hklN,Sd _ hkg,hst2,if_pos rfl]
 have q3:=(hI3.pin kl l _ fr hk3).1;refine⟨.bool false,_,run_endRound (some (.exit id)) q3,_,rfl,?_⟩;have rl3:∀r:Loop,Obj.loop {rec with state:= .done,pending:=some (.exit id)}= .loop r->RL M3 fr r.tmps:=fun r hr=>by
  injection hr with hr;subst hr;exact(((p4 rec rfl).ext he1).ext e2).ext he3
 obtain⟨rec',hrec⟩:∃rec':Loop,rec'={rec with state:= .done,pending:=some (.exit id)}:=⟨_,rfl⟩
 have hrec2:({{rec with state:= .busy} with state:=if (some (Code.exit id)).isNone then .ready else .done,pending:=some (Code.exit id)}:Loop)=rec':=by rw[hrec];rfl
 rw[<- hrec] at rl3⊢;rw[hrec2];have e4:=Ext.setPin (fr:=fr) hI3 hk3 (nc rec');refine⟨M3.setPin kl l (.loop rec') fr,rfl,((he1.trans e2).trans he3).trans e4,hI3.setPin hk3 (nc rec') rl3,fun k hk=> ?_,.val _ trivial⟩
 show Xw M3.st kl (.pin l (.loop rec') fr) k=upd (Xw M.st kl (.pin l (.loop rec') fr)) gives k
 by_cases e':k=kl
 ·subst e';rw[Xt,Sd _ hkg,Xt]
 ·rw[Zp _ _ e',st3 k hk];exact T4 gives (by rw[Zp _ _ e',hst2,if_neg e',st1 k hk])
theorem Y71 {P:Program} {Q:Exit->AState->Prop} {σ:AState} {id:Nat} {g:Operand} {ps:Array Tmp} {asg bd:Code} {gf:FuncId} {fn:Func} {caps:List AV} {r:AV} (i j:Nat)
  (hf:P.funcs[gf]? =some fn) (hb:fn.body.isSome=true) (hnm:(fn.name== "runtime.NumGoroutine")=false)
  (hg:σ.ev g= .fn (.func gf) caps) (hij:i≠j) (hi:σ.lo[i]? =some none) (hj:σ.lo[j]? =some none)
  (h:∀(D l:Nat) (rec:Loop) (F:List AV),F=σ.fr->rec.state= .ready->rec.pending=none->rec.params=ps->rec.assign=asg->rec.body=bd→
   ∃needs gives,Xr P gf (.fn (.yield l) []::caps) needs r ((σ.n+j,.pin l (.loop {rec with state:= .done,pending:=some (.exit id)}) F)::gives)∧
    holds (AState.look {σ with lo:=(σ.lo.set i (some (.pin D (.deferred (some [])) []))).set j (some (.pin l (.loop rec) F))}) needs∧Kc σ gives∧(∀x,x∈needs->σ.dom x.1)∧(∀x,x∈gives->x.1≠σ.n+j)∧
    Q (.exit id) (AState.give {σ with lo:=(σ.lo.set i (some (.pin D (.deferred (some [])) []))).set j (some .dead),df:={target:= .collected D,args:= #[]}::σ.df} gives)):
  Cv P (.rangeFunc g ps asg bd) Q σ:=by
 intro n M a hI hs;have hli:i<σ.lo.length:=(ab.1 hi).1;have hlj:j<σ.lo.length:=(ab.1 hj).1;have hki:M.st (σ.n+i)=none:=by rw[hs.st _ (Xb σ hli),X6 σ hs.le,hi];rfl
 have hkj:M.st (σ.n+j)=none:=by rw[hs.st _ (Xb σ hlj),X6 σ hs.le,hj];rfl
 refine wpIn_rangeFunc fun fnid _=> ?_;obtain⟨rec,hrec⟩:∃rec:Loop,rec={state:= .ready,pending:=none,fn:=fnid,tmps:=a.tmps,params:=ps,assign:=asg,body:=bd,defers:=M.w.heap.size}:=⟨_,rfl⟩
 obtain⟨needs,gives,hcall,hh,hu,hdm,hgj,hQ⟩:=h M.w.heap.size (M.w.heap.size+1) rec σ.fr rfl (by rw[hrec]) (by rw[hrec]) (by rw[hrec]) (by rw[hrec]) (by rw[hrec]);have ncD:(Obj.deferred (some [])).isCells=false:=rfl;have nc:∀r:Loop,(Obj.loop r).isCells=false:=fun _=>rfl;have e1:=Ext.newPin hI hki (.deferred (some [])) [];have hI1:=hI.newPin hki (fr:=[]) ncD (fun _ h=>by cases h);obtain⟨M1,hM1⟩:∃M1,M1=M.newPin (σ.n+i) (.deferred (some [])) []:=⟨_,rfl⟩
 rw[<- hM1] at e1 hI1;have hst1:∀k,M1.st k=if k=σ.n+i then some (.pin M.w.heap.size (.deferred (some [])) []) else M.st k:=fun k=>by rw[hM1];rfl
 have hw1:M1.w=M.w.alloc (.deferred (some [])):=by rw[hM1];rfl
 have hkj1:M1.st (σ.n+j)=none:=by rw[hst1,if_neg (by omega)];exact hkj
 have rl0:∀M':Mem,Ext M M'->∀r:Loop,Obj.loop rec= .loop r->RL M' σ.fr r.tmps:=fun M' e r hr=>by
  injection hr with hr;subst hr;rw[hrec];exact hs.fr.ext e
 have e2:=Ext.newPin hI1 hkj1 (.loop rec) σ.fr;have hI2:=hI1.newPin hkj1 (nc rec) (rl0 M1 e1);obtain⟨M2,hM2⟩:∃M2,M2=M1.newPin (σ.n+j) (.loop rec) σ.fr:=⟨_,rfl⟩
 rw[<- hM2] at e2 hI2;have hsz:M1.w.heap.size=M.w.heap.size+1:=by rw[hw1];simp
 have hst2:∀k,M2.st k=if k=σ.n+j then some (.pin (M.w.heap.size+1) (.loop rec) σ.fr) else M1.st k:=fun k=>by rw[hM2,<- hsz];rfl
 have hw2:M2.w=(M.w.alloc (.deferred (some []))).alloc (.loop rec):=by rw[hM2,<- hw1];rfl
 have hR:=hs.ev g;rw[hg] at hR;generalize hgv:a.eval g=v at hR;cases hR with
 |fn f' caps vs hl hc=>
 refine⟨M.w.heap.size+1,[{target:= .collected M.w.heap.size,args:= #[]}],M2.w,{target:= .fn (.func gf) vs,args:= #[.func (.yield (M.w.heap.size+1)) #[] #[]]},M2.w,gf,
  #[.func (.yield (M.w.heap.size+1)) #[] #[]]++vs,M2.w,?_,?_,fun _ _=>trivial,?_,fun h=>(by cases h),?_⟩
 ·rw[hw2,hrec];exact run_enterLoop_outer _ _ _ _ _
 ·have hcv:∀v,a.eval (.const v)=v:=fun _=>rfl;simp [resolve,Deferred.ofValue,hgv,hcv]
 ·simp [invoke,M4 hf hb hnm]
 show CallsIn Fence.wide (n - 1) P gf _ M2.w _
 refine callsIn_wide.2 ?_;obtain⟨N0,hN0⟩:=hI2.fin;have hargs:RL M2 (.fn (.yield (M.w.heap.size+1)) []::caps) (#[.func (.yield (M.w.heap.size+1)) #[] #[]]++vs):=by
  refine⟨by simp [hl];omega,fun q c u hq hu'=> ?_⟩;cases q with
  |zero=>
   have hu0:(#[Value.func (Fn.yield (M.w.heap.size+1)) #[] #[]]++vs)[0]? =some (Value.func (Fn.yield (M.w.heap.size+1)) #[] #[]):=by
    rw[fc (by simp)];rfl
   rw[hu0] at hu';simp only[List.getElem?_cons_zero,ax] at hq hu';subst hq;subst hu';exact .fn _ _ _ rfl (fun i c v hi=>by simp at hi)
  |succ q=>
   simp only[List.getElem?_cons_succ] at hq;have hu2:vs[q]? =some u:=by
    rw[e9 (by simp)] at hu';simpa using hu'
   exact((hc q c u hq hu2).ext e1).ext e2
 have hsee:∀k,σ.dom k->M2.st k=AState.look {σ with lo:=(σ.lo.set i (some (.pin M.w.heap.size (.deferred (some [])) []))).set j (some (.pin (M.w.heap.size+1) (.loop rec) σ.fr))} k:=fun k hk=>by
  have a1:=Vv (σ:={σ with lo:=σ.lo.set i (some (.pin M.w.heap.size (.deferred (some [])) []))}) (fr:=σ.fr) (r:=some (.pin (M.w.heap.size+1) (.loop rec) σ.fr)) (i:=j) (k:=k) hs.le (by simpa [AState.dom] using hk) (by simpa using hlj);have a2:=Vv (σ:=σ) (fr:=σ.fr) (r:=some (.pin M.w.heap.size (.deferred (some [])) [])) (i:=i) (k:=k) hs.le hk hli;rw[hst2,hst1];refine Eq.trans ?_ a1.symm;split
  ·rfl
  ·refine Eq.trans ?_ a2.symm;split
   ·rfl
   ·exact hs.st k hk
 have hN:∀k,max N0 (σ.n+σ.lo.length)<=k->M2.st k=none:=fun k hk=>hN0 k (by omega);have hh2:holds M2.st needs:=by
  rw[Q5] at hh⊢;intro x hx;rw[hsee x.1 (hdm x hx)];exact hh x hx
 refine(hcall M2 (max N0 (σ.n+σ.lo.length)) _ hI2 hargs hh2 hN (Xsf hs.le (by omega) ⟨Xb σ hlj,hu⟩)).mono ?_;rintro e w3 ⟨v,rfl,M3,rfl,e3,hI3,st3,hr3⟩;have hltj:σ.n+j<max N0 (σ.n+σ.lo.length):=by omega
 obtain⟨rec',hrec'⟩:∃rec':Loop,rec'={rec with state:= .done,pending:=some (.exit id)}:=⟨_,rfl⟩
 rw[<- hrec'] at st3;have st3':∀k,k<max N0 (σ.n+σ.lo.length)->M3.st k=upd (Xw M2.st (σ.n+j) (.pin (M.w.heap.size+1) (.loop rec') σ.fr)) gives k:=st3;have hk3:M3.st (σ.n+j)=some (.pin (M.w.heap.size+1) (.loop rec') σ.fr):=by
  rw[st3' _ hltj,Sd _ hgj,Xt]
 have q3:=(hI3.pin _ _ _ _ hk3).1;have hre:rec'.state≠ .busy:=by rw[hrec'];intro h;cases h
 have hpe:rec'.pending=some (.exit id):=by rw[hrec']
 refine⟨_,_,run_endLoop q3 hre,?_⟩;rw[hpe];have rl3:∀r:Loop,Obj.loop {rec' with state:= .exhausted,pending:=some (.exit id)}= .loop r->RL M3 σ.fr r.tmps:=fun r hr=>by
  injection hr with hr;subst hr;rw[hrec'];exact rl0 M3 ((e1.trans e2).trans e3) rec rfl
 have e4:=Ext.setPin (fr:=σ.fr) hI3 hk3 (nc {rec' with state:= .exhausted,pending:=some (.exit id)});have hI4:=hI3.setPin (fr:=σ.fr) hk3 (nc {rec' with state:= .exhausted,pending:=some (.exit id)}) rl3;have hk4:(M3.setPin (σ.n+j) (M.w.heap.size+1) (.loop {rec' with state:= .exhausted,pending:=some (.exit id)}) σ.fr).st (σ.n+j)=some (.pin (M.w.heap.size+1) (.loop {rec' with state:= .exhausted,pending:=some (.exit id)}) σ.fr):=Xt _ _ _;have e5:=Ext.kill hk4;have hI5:=hI4.kill hk4;have eall:=(((e1.trans e2).trans e3).trans e4).trans e5;refine wpIn_exit ⟨_,_,rfl,eall,hI5,⟨?_,?_,?_,fun k hk=> ?_⟩,hQ⟩
 ·rw[Bw];simp [hs.df]
 ·rw[N7];exact hs.fr.ext eall
 ·rw[Rm,Dv];exact hs.le
 ·have hk0:σ.dom k:=by
   have:=(Ky _ gives k).1 hk;simpa [AState.dom] using this
  have hkN:k<max N0 (σ.n+σ.lo.length):=by
   have:=hs.le;rcases hk0 with h|h<;>omega
  have hu':Kc {σ with lo:=(σ.lo.set i (some (.pin M.w.heap.size (.deferred (some [])) []))).set j (some .dead),df:={target:= .collected M.w.heap.size,args:= #[]}::σ.df} gives:=by
   rw[Yn] at hu⊢;intro x hx;simpa [AState.dom] using hu x hx
  rw[Kv gives _ hu' k (by simpa [AState.dom] using hk0)]
  show Xw (Xw M3.st (σ.n+j) _) (σ.n+j) .dead k= _
  have a1:=Vv (σ:={σ with lo:=σ.lo.set i (some (.pin M.w.heap.size (.deferred (some [])) []))}) (fr:=σ.fr) (r:=some .dead) (i:=j) (k:=k) hs.le (by simpa [AState.dom] using hk0) (by simpa using hlj);have a2:=Vv (σ:=σ) (fr:=σ.fr) (r:=some (.pin M.w.heap.size (.deferred (some [])) [])) (i:=i) (k:=k) hs.le hk0 hli;by_cases ek:k=σ.n+j
  ·subst ek;rw[Xt,Sd _ hgj];refine Eq.trans ?_ a1.symm;rw[if_pos rfl]
  ·rw[Zp _ _ ek,Zp _ _ ek,st3' k hkN];refine T4 gives ?_;rw[Zp _ _ ek,hst2,if_neg ek,hst1];refine Eq.trans ?_ a1.symm;rw[if_neg ek];refine Eq.trans ?_ a2.symm;split
   ·rfl
   ·exact hs.st k hk0
end Go.VS
