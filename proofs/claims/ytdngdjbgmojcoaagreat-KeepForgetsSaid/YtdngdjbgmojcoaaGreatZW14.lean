/- The layer of abstract values, joined. -/
import Derived.Test.YtdngdjbgmojcoaaGreatZPR
import Derived.Test.YtdngdjbgmojcoaaGreatZPO
import Derived.Test.YtdngdjbgmojcoaaGreatZW4
import Derived.Test.YtdngdjbgmojcoaaGreatZWD
import Derived.Test.YtdngdjbgmojcoaaGreatZP5
import Derived.Test.YtdngdjbgmojcoaaGreatZTab
namespace Go.Proofs.YtdngdjbgmojcoaaGreat.Pln
set_option linter.unusedSimpArgs false
set_option linter.unusedVariables false
set_option maxHeartbeats 8000000
set_option maxRecDepth 4000
open Go Go.VS Tab
def Km (l:List Sec):Bool:=(l.take 40).any (fun s=>decide (20<s.ends.length))||decide (40<l.length)
theorem Hj {l:List Sec} {i:Nat} (hi:i<l.length) (h4:i<40) (h:20<l[i].ends.length):Km l=true:=by
 unfold Km
 have:(l.take 40).any (fun s=>decide (20<s.ends.length))=true:=List.any_eq_true.2 ⟨_,Z8 h4 hi,decide_eq_true h⟩
 rw[this];rfl
theorem Pn {l:List Sec} {i:Nat} (hq:∀j (hj:j<l.length),j<i→¬20<l[j].ends.length) (h:40≤i∨l.length≤i):Km l=decide ((l.length:Int)>40):=by
 unfold Km
 have:(l.take 40).any (fun s=>decide (20<s.ends.length))=false:=by
  rw[List.any_eq_false]
  intro x hx
  rw[List.mem_take_iff_getElem] at hx
  obtain⟨j,hj,rfl⟩:=hx
  have:=hq j (by omega) (by omega)
  simpa using this
 rw[this,Bool.false_or]
 exact decide_eq_decide.2 (by omega)
theorem Hk (l:List Sec):Xr Tryz.prog 50 [P9 l] [] (bool (Km l)) []:=by
 refine Xc 0 Tryz.func50 rfl fun n out _ _=> ?_
 simp only[sn,Tryz.ntmps50,Nat.reduceAdd,Nat.reduceSub]
 repeat' (first|(with_reducible first|refine Vk fun K hK=> ?_|refine V0 ?_)|((with_reducible refine gE ?_);simp only[zA,simprocAttr])|(refine hK _ ?_;clear hK K))
 refine V5 ?_
 refine Xse (40) (fun i=>(∀j (hj:j<l.length),j<i→¬20<l[j].ends.length)) (fun i=>tp [2] (tr 4 17 [(3,i64 (i:Int))])) (fun i=>[]) (by intros;omega) ?_ fun i hi=> ?_
 ·refine La rfl ?_ ?_<;>simp only[sL]
 obtain⟨hi,hq⟩:=hi
 simp only[pt]
 have hw:=Yl (n:=i) 1 1 rfl (by omega)
 by_cases hlt:i<l.length
 ·have gi:=Xg Y6 l i [] hlt
  have hlt':(i:Int)<(l.length:Int):=by omega
  repeat' (first|(with_reducible first|refine Vk fun K hK=> ?_|refine V0 ?_|refine Vb ?_|refine Vs ?_)|((with_reducible refine gE ?_);simp only[zA,simprocAttr,hlt,hlt',gi,Y6,hw])|((with_reducible refine Vz ?_);refine Vo rfl rfl rfl (fun _ _=>rfl) ?_<;>first|rfl|(rw[Hj hlt (by simp at*;omega) (by simp at*;omega)];rfl)|(rw[Pn hq (by simp at*;omega)];rfl)|skip)|((with_reducible refine Vx ?_);simp only[sb])|(refine hK _ ?_;clear hK K)|refine Vi rfl (fun hg=> ?_) (fun hg=> ?_)|clear hK K)
  refine⟨i+1,⟨by simp at*;omega,fun j hj hji=> ?_⟩,by simp at*;omega,?_⟩
  ·by_cases h:j=i
   ·subst h;simp at*;omega
   ·exact hq j hj (by omega)
  refine La rfl ?_ ?_<;>simp only[sL]
 ·have hlt':¬(i:Int)<(l.length:Int):=by omega
  repeat' (first|(with_reducible first|refine Vk fun K hK=> ?_|refine V0 ?_)|((with_reducible refine gE ?_);simp only[zA,simprocAttr,hlt'])|((with_reducible refine Vz ?_);refine Vo rfl rfl rfl (fun _ _=>rfl) ?_<;>first|rfl|(rw[Pn hq (by simp at*;omega)];rfl)|skip)|((with_reducible refine Vx ?_);simp only[sb])|(refine hK _ ?_;clear hK K)|refine Vf rfl ?_|clear hK K)
def X08 (r:Rt):Bool:=decide ((r.path.length:Int)>20)||decide ((r.over.length:Int)>20)||decide ((r.flanks.length:Int)>20)
def Lx (p:Pl):Bool:=(p.rts.take 40).any X08||Km p.secs||decide ((p.pts.length:Int)>40)||decide ((p.sgs.length:Int)>40)||decide ((p.rts.length:Int)>40)
theorem Hl {p:Pl} {i:Nat} (hi:i<p.rts.length) (h4:i<40) (h:X08 p.rts[i]=true):Lx p=true:=by
 unfold Lx
 have:(p.rts.take 40).any X08=true:=List.any_eq_true.2 ⟨_,Z8 h4 hi,h⟩
 rw[this];rfl
theorem Po {p:Pl} {i:Nat} (hq:∀j (hj:j<p.rts.length),j<i→X08 p.rts[j]=false) (h:40≤i∨p.rts.length≤i):Lx p=(Km p.secs||decide ((p.pts.length:Int)>40)||decide ((p.sgs.length:Int)>40)||decide ((p.rts.length:Int)>40)):=by
 unfold Lx
 have:(p.rts.take 40).any X08=false:=by
  rw[List.any_eq_false]
  intro x hx
  rw[List.mem_take_iff_getElem] at hx
  obtain⟨j,hj,rfl⟩:=hx
  rw[hq j (by omega) (by omega)];decide
 rw[this,Bool.false_or]
theorem X09 (p:Pl):Xr Tryz.prog 23 [plA p] [] (bool (Lx p)) []:=by
 have cg:=Hk p.secs
 generalize hG:Km p.secs=G at cg
 refine Xc 1 Tryz.func23 rfl fun n out _ _=> ?_
 simp only[sn,Tryz.ntmps23,Nat.reduceAdd,Nat.reduceSub]
 repeat' (first|(with_reducible first|refine Vk fun K hK=> ?_|refine V0 ?_)|((with_reducible refine gE ?_);simp only[zA,simprocAttr,plA,plC])|(refine hK _ ?_;clear hK K))
 refine V5 ?_
 refine Xse (40) (fun i=>(∀j (hj:j<p.rts.length),j<i→X08 p.rts[j]=false)) (fun i=>tp [2] (tr 4 39 [(3,i64 (i:Int))])) (fun i=>[some (.box 28 (plC p))]) (by intros;omega) ?_ fun i hi=> ?_
 ·refine X2 ?_ ?_ (by first|rfl|(simp only[plC];rfl)|simp only[plC]) rfl rfl rfl<;>simp only[sL,plC]
 obtain⟨hi,hq⟩:=hi
 simp only[pt]
 have hw:=Yl (n:=i) 1 1 rfl (by omega)
 by_cases hlt:i<p.rts.length
 ·have gi:=Xg rtC p.rts i [] hlt
  have hlt':(i:Int)<(p.rts.length:Int):=by omega
  repeat' (first|(with_reducible first|refine Vk fun K hK=> ?_|refine V0 ?_|refine Vb ?_|refine Vs ?_)|((with_reducible first|refine gE ?_|refine gR ?_);simp only[zA,simprocAttr,plC,hlt,hlt',gi,rtC,hw])|((with_reducible refine Vz ?_);refine Vo rfl rfl rfl (fun _ _=>rfl) ?_<;>first|rfl|(rw[Hl hlt (by simp at*;omega) (by simp [X08] at*;simp_all)];rfl)|(rw[Po hq (by first|exact .inr (by omega)|(simp at*;omega)),hG];simp only[g_0,g_s];refine congrArg VS.bool ?_;clear hq hG cg;first|(simp_all;done)|(simp_all;omega))|skip)|(refine X3 (cg) ?_)|((with_reducible refine Vg (fun hg=> ?_) (fun hg=> ?_))<;>(try simp only[nb] at hg)<;>simp only[zA,simprocAttr,hg,hlt,gi,rtC])|((with_reducible refine Vx ?_);simp only[sb])|(refine hK _ ?_;clear hK K)|refine Vt rfl ?_|refine Vi rfl (fun hg=> ?_) (fun hg=> ?_)|clear hK K)
  refine⟨i+1,⟨by simp at*;omega,fun j hj hji=> ?_⟩,by simp at*;omega,?_⟩
  ·by_cases h:j=i
   ·subst h;simp [X08] at*;simp_all
   ·exact hq j hj (by omega)
  refine La rfl ?_ ?_<;>simp only[sL]
 ·have hlt':¬(i:Int)<(p.rts.length:Int):=by omega
  repeat' (first|(with_reducible first|refine Vk fun K hK=> ?_|refine V0 ?_)|((with_reducible first|refine gE ?_|refine gR ?_);simp only[zA,simprocAttr,plC,hlt'])|((with_reducible refine Vz ?_);refine Vo rfl rfl rfl (fun _ _=>rfl) ?_<;>first|rfl|(rw[Po hq (by first|exact .inr (by omega)|(simp at*;omega)),hG];simp only[g_0,g_s];refine congrArg VS.bool ?_;clear hq hG cg;first|(simp_all;done)|(simp_all;omega))|skip)|(refine X3 (cg) ?_)|((with_reducible refine Vg (fun hg=> ?_) (fun hg=> ?_))<;>(try simp only[nb] at hg)<;>simp only[zA,simprocAttr,hg])|((with_reducible refine Vx ?_);simp only[sb])|(refine hK _ ?_;clear hK K)|refine Vf rfl ?_|clear hK K)
theorem X0a {p:Pl} (h:Lx p=false):Sm p:=by
 unfold Lx at h
 simp only[Bool.or_eq_false_iff,decide_eq_false_iff_not] at h
 obtain⟨⟨⟨⟨h1,h2⟩,h3⟩,h4⟩,h5⟩:=h
 unfold Km at h2
 rw[Bool.or_eq_false_iff,decide_eq_false_iff_not,List.any_eq_false] at h2
 have h6:p.secs.length≤40:=by omega
 refine⟨h6,fun s hs=> ?_,by omega,by omega,by omega,fun r hr=> ?_⟩
 ·have:=h2.1 s (by rw[List.take_of_length_le h6];exact hs)
  simpa using this
 ·rw[List.any_eq_false] at h1
  have:=h1 r (by rw[List.take_of_length_le (by omega)];exact hr)
  simp [X08] at this
  omega
theorem Xwb {p:Pl} {w:Wk} {id:Int} (h:(Xp4 p w id).2.lost=false):Qt p.secs id=some (Xp4 p w id).1∧(Xp4 p w id).2=w∧w.inn.1=id:=by
 unfold Xp4 at h⊢
 split at h
 ·rename_i s hg
  rw[hg]
  by_cases hb:(w.inn.1 !=id)=true
  ·rw[if_pos hb] at h;cases h
  ·rw[if_neg hb]
   exact⟨rfl,rfl,by simpa using hb⟩
 ·cases h
theorem Xpd {p:Pl} {w:Wk} {id at':Int} {f:Int→Int×Int→Bool} (h:(Xso p w id at' f).lost=false):w.lost=false∧∃(s:Sec) (e:Nat),Qt p.secs id=some s∧w.inn.1=id∧e<s.ends.length∧Xpj s w.inn.2 e=0∧f e (s.ends.getD e (0,0))=true∧
  Xso p w id at' f=Xt7 (Xps w s.pt (Xoq s w.inn.2 e) at') (id,(e:Int)) (s.ends.getD e (0,0)):=by
 unfold Xso at h⊢
 cases hl:(Xp4 p w id).2.lost with
 |true=>
  exfalso
  generalize Xp4 p w id=q at*
  unfold Xxn Xqx at h
  rw[Xq5 fun e _=>by unfold Xr3;rw[hl];rfl] at h
  cases h
 |false=>
  obtain⟨a,b,c⟩:=Xwb hl
  rw[b] at h hl⊢
  generalize (Xp4 p w id).1=s at*
  unfold Xxn at h⊢
  cases he:Xqx s w f with
  |none=>rw[he] at h;cases h
  |some e=>
   unfold Xqx at he
   rw[List.find?_range_eq_some] at he
   obtain⟨h1,h2,_⟩:=he
   unfold Xr3 at h1
   simp only[Bool.not_eq_true',Bool.or_eq_false_iff,Bool.not_eq_false'] at h1
   exact⟨hl,s,e,a,c,List.mem_range.1 h2,by simpa using h1.2.1,h1.2.2,rfl⟩
theorem Xsl {p:Pl} {w:Wk} {id at':Int} (h:(Xpt p w id at').lost=false):w.lost=false∧∃s:Sec,Qt p.secs id=some s∧w.inn.1=id∧Xpt p w id at'=if 0<w.inn.2 then Xps w s.pt w.inn.2 at' else w:=by
 unfold Xpt at h⊢
 cases hl:(Xp4 p w id).2.lost with
 |true=>
  exfalso
  rw[hl] at h
  simp at h
  rw[h] at hl;cases hl
 |false=>
  obtain⟨a,b,c⟩:=Xwb hl
  rw[b] at h hl⊢
  generalize (Xp4 p w id).1=s at*
  refine⟨hl,s,a,c,?_⟩
  by_cases h0:0<w.inn.2
  ·rw[if_pos h0,if_pos (by simpa using h0)]
  ·rw[if_neg h0,if_neg (by simpa using h0)]
theorem Xwc {p:Pl} {r:Rt} {w:Wk} {i:Nat} (h:(Xp6 p r w i).lost=false):w.lost=false:=by
 unfold Xp6 at h
 split at h
 ·split at h
  ·exact(Xpd h).1
  ·exact(Xpd h).1
 ·split at h
  ·exact(Xsl h).1
  ·exact(Xpd h).1
theorem Xry {p:Pl} {r:Rt} {n:Nat} (h:(Xom p r n).lost=false):∀i,i≤n→(Xom p r i).lost=false:=by
 induction n with
 |zero=>intro i hi;obtain rfl:i=0:=(by omega);exact h
 |succ n ih=>
  intro i hi
  by_cases he:i=n+1
  ·subst he;exact h
  ·exact ih (Xwc h) i (by omega)
abbrev Xs2 (r:Rt):List Int:=r.path++r.over
theorem Xu4 {p:Pl} {r:Rt} {i:Nat} (hl:(Xom p r (i+1)).lost=false) (hi:i+1=r.path.length∨i+1≠(Xs2 r).length):∃(s:Sec) (e:Nat),Qt p.secs ((Xs2 r).getD i 0)=some s∧(Xom p r i).inn.1=(Xs2 r).getD i 0∧e<s.ends.length∧Xpj s (Xom p r i).inn.2 e=0∧
  Xom p r (i+1)=Xt7 (Xps (Xom p r i) s.pt (Xoq s (Xom p r i).inn.2 e) i) ((Xs2 r).getD i 0,(e:Int)) (s.ends.getD e (0,0))∧
  (i+1=r.path.length→(r.ex=0→s.ends.getD e (0,0)=(0,0))∧(r.ex≠0→(Xs2 r).getD i 0=(Xl0 p.sgs r.ex).2.1∧(e:Int)=(Xl0 p.sgs r.ex).2.2)):=by
 have hs:Xom p r (i+1)=Xp6 p r (Xom p r i) i:=rfl
 rw[hs] at hl⊢
 unfold Xp6 at hl⊢
 by_cases h1:i+1=r.path.length
 ·rw[if_pos h1] at hl⊢
  by_cases h2:r.ex=0
  ·rw[if_pos h2] at hl⊢
   obtain⟨_,s,e,a,b,c,d,f,g⟩:=Xpd hl
   exact⟨s,e,a,b,c,d,g,fun _=>⟨fun _=>by simpa using f,fun h=>absurd h2 h⟩⟩
  ·rw[if_neg h2] at hl⊢
   obtain⟨_,s,e,a,b,c,d,f,g⟩:=Xpd hl
   simp only[Bool.and_eq_true,beq_iff_eq] at f
   exact⟨s,e,a,b,c,d,g,fun _=>⟨fun h=>absurd h h2,fun _=>f⟩⟩
 ·have h3:i+1≠(r.path++r.over).length:=by
   rcases hi with h|h
   ·exact absurd h h1
   ·exact h
  rw[if_neg h1,if_neg h3] at hl⊢
  obtain⟨_,s,e,a,b,c,d,f,g⟩:=Xpd hl
  exact⟨s,e,a,b,c,d,g,fun h=>absurd h h1⟩
theorem Xwd {p:Pl} {r:Rt} {i:Nat} (hl:(Xom p r (i+1)).lost=false) (h1:i+1≠r.path.length) (h2:i+1=(Xs2 r).length):∃s:Sec,Qt p.secs ((Xs2 r).getD i 0)=some s∧(Xom p r i).inn.1=(Xs2 r).getD i 0∧
  Xom p r (i+1)=if 0<(Xom p r i).inn.2 then Xps (Xom p r i) s.pt (Xom p r i).inn.2 i else Xom p r i:=by
 have hs:Xom p r (i+1)=Xp6 p r (Xom p r i) i:=rfl
 rw[hs] at hl⊢
 unfold Xp6 at hl⊢
 rw[if_neg h1,if_pos h2] at hl⊢
 obtain⟨_,s,a,b,c⟩:=Xsl hl
 exact⟨s,a,b,c⟩
theorem Xu5 {p:Pl} {r:Rt}:∀n,(Xom p r n).lost=false→(∀i,i<n→i+1=r.path.length∨i+1≠(Xs2 r).length)→(Xom p r n).outs.length=n
 |0,_,_=>rfl
 |n+1,h,hq=>by
  obtain⟨s,e,_,_,_,_,g,_⟩:=Xu4 h (hq n (by omega))
  have hn:=Xu5 n (Xry h n (by omega)) fun i hi=>hq i (by omega)
  obtain⟨l,hk⟩:=Xoy (Xom p r n) s.pt (Xoq s (Xom p r n).inn.2 e) n
  rw[g,hk]
  unfold Xt7
  simp [hn]
theorem Xu6 {p:Pl} {r:Rt} {i:Nat}:∀n,i≤n→(Xom p r n).lost=false→∃t,(Xom p r n).outs=(Xom p r i).outs++t
 |0,h,_=>⟨[],by obtain rfl:i=0:=(by omega);simp⟩
 |n+1,h,hl=>by
  by_cases he:i=n+1
  ·subst he;exact⟨[],by simp⟩
  ·obtain⟨t,ht⟩:=Xu6 (p:=p) (r:=r) (i:=i) n (by omega) (Xry hl n (by omega))
   by_cases hc:n+1=r.path.length∨n+1≠(Xs2 r).length
   ·obtain⟨s,e,_,_,_,_,g,_⟩:=Xu4 hl hc
    obtain⟨l,hk⟩:=Xoy (Xom p r n) s.pt (Xoq s (Xom p r n).inn.2 e) n
    refine⟨t++[((Xs2 r).getD n 0,(e:Int))],?_⟩
    rw[g,hk]
    unfold Xt7
    simp [ht]
   ·have hc1:n+1≠r.path.length:=fun h=>hc (.inl h)
    have hc2:n+1=(Xs2 r).length:=Classical.byContradiction fun h=>hc (.inr h)
    obtain⟨s,_,_,g⟩:=Xwd hl hc1 hc2
    refine⟨t,?_⟩
    rw[g]
    split
    ·obtain⟨l,hk⟩:=Xoy (Xom p r n) s.pt (Xom p r n).inn.2 n
     rw[hk];exact ht
    ·exact ht
structure Gone (p:Pl) (r:Rt) (W:Wy) (O:List (Int×Int)):Prop where
 may:Uf p=true
 mem:r∈p.rts
 one:1≤r.path.length
 not:(Xom p r (Xs2 r).length).lost=false
 path:W.path=r.path
 over:W.over=r.over
 near:W.near=(Xl0 p.sgs r.entry).2.1
 asks:W.asks=(Xom p r (Xs2 r).length).asks++r.flanks.map (fun f=>(f.1,f.2, -1))
 outs:O=(Xom p r (Xs2 r).length).outs
theorem Zv {P:Program} {n:Nat} {fn:Func} {out:Nat→Option Res} {gives:List (Nat×Res)} {r r' q q' u u':AV} {a b c:Tmp} {e:Exit} {σ:AState} (he:e= .normal∨e= .ret) (hr:fn.results= #[.tmp a,.tmp b,.tmp c]) (hd:σ.df=[]) (h0:σ.n0=n)
  (ho:∀k,k<n→σ.out k=upd out gives k) (hx:σ.fr.getD a .top=r) (hy:σ.fr.getD b .top=q) (hz:σ.fr.getD c .top=u) (l1:AV.le r r') (l2:AV.le q q') (l3:AV.le u u'):Zq P n fn out gives (.tup [r',q',u']) e σ:=by
 refine⟨he,hd,h0,ho,fun M act hI hs=> ?_⟩
 have h1:=hs.ev (.tmp a)
 have h2:=hs.ev (.tmp b)
 have h3:=hs.ev (.tmp c)
 simp only[AState.ev,Act.eval] at h1 h2 h3
 rw[hx] at h1
 rw[hy] at h2
 rw[hz] at h3
 refine⟨.tuple #[act.tmps.getD a undef,act.tmps.getD b undef,act.tmps.getD c undef],by simp [results,hr],.tup _ _ rfl fun i c v hi hv=> ?_⟩
 match i,hi,hv with
 |0,hi,hv=>simp at hi hv;subst hi;subst hv;simpa using h1.le l1
 |1,hi,hv=>simp at hi hv;subst hi;subst hv;simpa using h2.le l2
 |2,hi,hv=>simp at hi hv;subst hi;subst hv;simpa using h3.le l3
def joC (l:List (Int×Int)):List AV:=[.sl 2 (l.map jnC) .sh]
def Xs0 (p:Pl):Int:=if Uf p then(match p.rts.find? (fun r=>Xrb p r !=0) with
 |some r=>Xrb p r
 |none=>0) else 8
def Xs1 (p:Pl):List Wy:=if Xs0 p=0 then p.rts.map (Xop p) else[]
def Xwf (p:Pl):List (List (Int×Int)):=if Xs0 p=0 then p.rts.map (Xpv p) else[]
theorem Xuq {α:Type} {f:α→Bool} {l:List α} {i:Nat} (hi:i<l.length) (hf:f l[i]=true) (hq:∀j (hj:j<l.length),j<i→f l[j]=false):l.find? f=some l[i]:=by
 rw[List.find?_eq_some_iff_getElem]
 exact⟨hf,i,hi,rfl,fun j hj=>by simp [hq j (by omega) hj]⟩
theorem Xur {α:Type} {f:α→Bool} {l:List α} (hq:∀j (hj:j<l.length),f l[j]=false):l.find? f=none:=by
 rw[List.find?_eq_none]
 intro x hx
 obtain⟨i,hi,rfl⟩:=List.getElem_of_mem hx
 simp [hq i hi]
theorem Xy1 (p:Pl) (hs:Sm p):Xr Tryz.prog 67 [plA p] [] (.tup [.sl 4 ((Xs1 p).map wyC) .sh,.sl 1 ((Xwf p).map joC) .sh,i64 (Xs0 p)]) []:=by
 have cc:=Dr p hs
 have hrl:=hs.rts
 cases hmy:Uf p with
 |false=>
  have e1:Xs0 p=8:=by unfold Xs0;rw[hmy];rfl
  have e2:Xs1 p=[]:=by unfold Xs1;rw[e1];rfl
  have e3:Xwf p=[]:=by unfold Xwf;rw[e1];rfl
  rw[e1,e2,e3]
  rw[hmy] at cc
  refine Xc 5 Tryz.func67 rfl fun n out _ _=> ?_
  simp only[sn,Tryz.ntmps67,Nat.reduceAdd,Nat.reduceSub]
  repeat' (first|(with_reducible first|refine Vk fun K hK=> ?_|refine V0 ?_|refine Vb ?_|refine Vc ?_|refine Vr ?_|refine Vs ?_|apply And.intro)|((with_reducible first|refine gE ?_|refine gR ?_);simp only[zA,simprocAttr,plA,plC])|exact Vn|(refine X3 (cc) ?_)|((with_reducible refine Vx ?_);simp only[sb,reduceIte,Nat.reduceEqDiff])|(refine hK _ ?_;clear hK K)|refine Vt rfl ?_|refine Vf rfl ?_|refine Vi rfl (fun hg=> ?_) (fun hg=> ?_)|clear hK K)
  refine Yd (Zv (.inr rfl) rfl rfl rfl (fun _ _=>rfl) rfl rfl rfl ?_ ?_ ?_)<;>simp only[List.map_nil,sL]
 |true=>
  rw[hmy] at cc
  have cf:∀(i:Nat) (hi:i<p.rts.length),Xr Tryz.prog 132 [plA p,rtA p.rts[i]] [] (.tup [wyA (Xop p p.rts[i]),.sl 2 ((Xpv p p.rts[i]).map jnC) .sh,i64 (Xrb p p.rts[i])]) []:=fun i hi=>by
   obtain⟨h1,en,_,h3,_,h5⟩:=Xu2 hmy (List.getElem_mem hi)
   exact Xut p p.rts[i] hs (hs.rt _ (List.getElem_mem hi)) h1 (by rw[h3];exact h5)
  obtain⟨RW,hRW⟩:∃RW,RW=Xs1 p:=⟨_,rfl⟩
  obtain⟨RO,hRO⟩:∃RO,RO=Xwf p:=⟨_,rfl⟩
  obtain⟨RE,hRE⟩:∃RE,RE=Xs0 p:=⟨_,rfl⟩
  rw[← hRW,← hRO,← hRE]
  refine Xc 5 Tryz.func67 rfl fun n out _ _=> ?_
  simp only[sn,Tryz.ntmps67,Nat.reduceAdd,Nat.reduceSub]
  repeat' (first|(with_reducible first|refine Vk fun K hK=> ?_|refine V0 ?_|refine Vb ?_|refine Vc ?_|refine Vr ?_|refine Vs ?_|apply And.intro)|((with_reducible first|refine gE ?_|refine gR ?_);simp only[zA,simprocAttr,plA,plC])|exact Vn|(refine X3 (cc) ?_)|((with_reducible refine Vx ?_);simp only[sb,reduceIte,Nat.reduceEqDiff])|(refine hK _ ?_;clear hK K)|refine Vt rfl ?_|refine Vf rfl ?_|refine Vi rfl (fun hg=> ?_) (fun hg=> ?_)|clear hK K)
  refine Yy (Q9 (i:=1) 130 4 rfl) ?_
  refine Yy (Q9 (i:=2) 73 1 rfl) ?_
  simp only[s_0,s_s]
  refine V5 ?_
  refine Xpw (p.rts.length) (fun i=>(∀j (hj:j<p.rts.length),j<i→(Xrb p p.rts[j] !=0)=false)) (fun m i=>tr 18 22 (tr 6 4 [(17,i64 (i:Int)),(4,i64 0),(1,.ptr (m+0) 0),(2,.sl 4 ((p.rts.take i).map fun r=>wyC (Xop p r)) (.own (m+1))),(3,.sl 1 ((p.rts.take i).map fun r=>joC (Xpv p r)) (.own (m+2)))])) (fun m i=>[some (.box 28 (plC p)),some (.row 130 4 i),some (.row 73 1 i),none,none]) (by intros;omega) ?_ fun m i hm hi=> ?_
  ·refine X2 ?_ ?_ (by first|rfl|(simp only[plC,List.take_zero,List.map_nil,List.length_map];rfl)|simp only[plC,List.take_zero,List.map_nil,List.length_map]) rfl rfl rfl<;>simp only[sL,plC,List.map_nil]
  obtain⟨hi,hq⟩:=hi
  simp only[pt]
  have hw:=Yl (n:=i) 1 1 rfl (by omega)
  by_cases hlt:i<p.rts.length
  ·have gi:=Xg rtC p.rts i [] hlt
   have cF:=cf i hlt
   have next:(Xrb p p.rts[i] !=0)=false→∀j (hj:j<p.rts.length),j<i+1→(Xrb p p.rts[j] !=0)=false:=fun h j hj hji=>by
    by_cases h':j=i
    ·subst h';exact h
    ·exact hq j hj (by omega)
   have bad:(Xrb p p.rts[i] !=0)=true→Xs0 p=Xrb p p.rts[i]∧Xs1 p=[]∧Xwf p=[]:=fun h=>by
    have e1:Xs0 p=Xrb p p.rts[i]:=by
     unfold Xs0;rw[hmy,Xuq (f:=fun r=>Xrb p r !=0) hlt h hq];rfl
    have hn:¬Xs0 p=0:=by rw[e1];simpa using h
    exact⟨e1,by unfold Xs1;rw[if_neg hn],by unfold Xwf;rw[if_neg hn]⟩
   have hsw:=Xua (fun r=>wyC (Xop p r)) p.rts i hlt
   have hso:=Xua (fun r=>joC (Xpv p r)) p.rts i hlt
   clear hq cf
   cases hb:(Xrb p p.rts[i] !=0) with
   |true=>
    obtain⟨e1,e2,e3⟩:=bad hb
    rw[e1] at hRE
    rw[e2] at hRW
    rw[e3] at hRO
    subst hRE hRW hRO
    simp only[plA,plC,rtA,rtC,wyA,wyC] at cF
    repeat' (first|(with_reducible first|refine Vk fun K hK=> ?_|refine V0 ?_|refine Vb ?_|refine Vc ?_|refine Vr ?_|refine Vs ?_|apply And.intro)|((with_reducible first|refine gE ?_|refine gR ?_);simp only[zA,simprocAttr,Xi hm,plC,rtC,hlt,gi,X0,hb])|exact Vn|(refine X3 (cF) ?_)|((with_reducible refine Vx ?_);simp only[sb,reduceIte,Nat.reduceEqDiff])|(refine hK _ ?_;clear hK K)|refine Vt rfl ?_|refine Vf rfl ?_|refine Vi rfl (fun hg=> ?_) (fun hg=> ?_)|clear hK K)
    refine Yd (Zv (.inr rfl) rfl rfl rfl (fun _ _=>rfl) rfl rfl rfl ?_ ?_ ?_)<;>simp only[List.map_nil,sL]
   |false=>
    have nx:=next hb
    clear next bad
    have lw:∀(σ:AState) (K:AV→List (Nat×Res)→Prop),X1 tab σ K none 123 1 [(0,.agg [.sl 1 ((Xop p p.rts[i]).path.map Ym) .sh,.sl 1 ((Xop p p.rts[i]).over.map Ym) .sh,.sl 3 ((Xop p p.rts[i]).asks.map sgC) .sh,i64 (Xop p p.rts[i]).near])]=K (.sl 4 [[.sl 1 ((Xop p p.rts[i]).path.map Ym) .sh,.sl 1 ((Xop p p.rts[i]).over.map Ym) .sh,.sl 3 ((Xop p p.rts[i]).asks.map sgC) .sh,i64 (Xop p p.rts[i]).near]] .full) []:=fun σ K=>Yk (T:=tab) (ti:=ti123) (te:=ti130) rfl rfl rfl (by decide) (by decide) rfl rfl
    have lo':∀(σ:AState) (K:AV→List (Nat×Res)→Prop),X1 tab σ K none 124 1 [(0,.sl 2 ((Xpv p p.rts[i]).map jnC) .sh)]=K (.sl 1 [[.sl 2 ((Xpv p p.rts[i]).map jnC) .sh]] .full) []:=fun σ K=>Yk (T:=tab) (ti:=ti124) (te:=ti73) rfl rfl rfl (by decide) (by decide) rfl rfl
    have hsw':(p.rts.take i).map (fun r=>wyC (Xop p r))++[[.sl 1 ((Xop p p.rts[i]).path.map Ym) .sh,.sl 1 ((Xop p p.rts[i]).over.map Ym) .sh,.sl 3 ((Xop p p.rts[i]).asks.map sgC) .sh,i64 (Xop p p.rts[i]).near]]=(p.rts.take (i+1)).map fun r=>wyC (Xop p r):=hsw
    have hso':(p.rts.take i).map (fun r=>joC (Xpv p r))++[[.sl 2 ((Xpv p p.rts[i]).map jnC) .sh]]=(p.rts.take (i+1)).map fun r=>joC (Xpv p r):=hso
    simp only[plA,plC,rtA,rtC,wyA,wyC] at cF
    have z1:(i+1)*80≤140737488355328:=by omega
    have z2:(i+1)*24≤140737488355328:=by omega
    have z3:i≤9223372036854775806:=by omega
    repeat' (first|(with_reducible first|refine Vk fun K hK=> ?_|refine V0 ?_|refine Vb ?_|refine Vc ?_|refine Vr ?_|refine Vs ?_|apply And.intro)|((with_reducible first|refine gE ?_|refine gR ?_);simp only[zB,simprocAttr,lw,lo',Xi hm,plC,rtC,List.length_take,Nat.min_eq_left hi,hlt,gi,X0,hb,hw,z1,z2,z3])|exact Vn|(refine X3 (cF) ?_)|((with_reducible refine Vx ?_);simp only[sb,reduceIte,Nat.reduceEqDiff])|(refine hK _ ?_;clear hK K)|refine Vt rfl ?_|refine Vf rfl ?_|refine Vi rfl (fun hg=> ?_) (fun hg=> ?_)|clear hK K)
    rw[hsw',hso']
    refine⟨i+1,⟨by omega,nx⟩,by omega,?_⟩
    refine Xx [true,true,true,false,false] ?_ ?_<;>intro n_<;>simp only[sM]
  ·have e1:Xs0 p=0:=by
    unfold Xs0;rw[hmy,Xur (f:=fun r=>Xrb p r !=0) fun j hj=>hq j hj (by omega)];rfl
   have e2:Xs1 p=p.rts.map (Xop p):=by unfold Xs1;rw[if_pos e1]
   have e3:Xwf p=p.rts.map (Xpv p):=by unfold Xwf;rw[if_pos e1]
   rw[e1] at hRE
   rw[e2] at hRW
   rw[e3] at hRO
   subst hRE hRW hRO
   obtain rfl:i=p.rts.length:=by omega
   clear hq
   have hm1:(p.rts.map (Xop p)).map wyC=p.rts.map fun r=>wyC (Xop p r):=by rw[List.map_map];rfl
   have hm2:(p.rts.map (Xpv p)).map joC=p.rts.map fun r=>joC (Xpv p r):=by rw[List.map_map];rfl
   repeat' (first|(with_reducible first|refine Vk fun K hK=> ?_|refine V0 ?_|refine Vb ?_|refine Vc ?_|refine Vr ?_|refine Vs ?_|apply And.intro)|((with_reducible first|refine gE ?_|refine gR ?_);simp only[zA,simprocAttr,hlt,List.take_length])|exact Vn|((with_reducible refine Vx ?_);simp only[sb])|(refine hK _ ?_;clear hK K)|refine Vt rfl ?_|refine Vf rfl ?_|refine Vi rfl (fun hg=> ?_) (fun hg=> ?_)|clear hK K)
   refine Yd (Zv (.inr rfl) rfl rfl rfl (fun _ _=>rfl) rfl rfl rfl ?_ ?_ ?_)<;>simp only[hm1,hm2,sL]
end Go.Proofs.YtdngdjbgmojcoaaGreat.Pln
