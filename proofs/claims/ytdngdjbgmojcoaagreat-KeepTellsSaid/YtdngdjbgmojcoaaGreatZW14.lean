/- The layer of abstract values, joined. -/
import Derived.Test.YtdngdjbgmojcoaaGreatZPQ
import Derived.Test.YtdngdjbgmojcoaaGreatZPR
import Derived.Test.YtdngdjbgmojcoaaGreatZTab
namespace Go.Proofs.YtdngdjbgmojcoaaGreat.Pln
set_option linter.all false
set_option maxHeartbeats 4000000
set_option maxRecDepth 4000
open Go Go.VS Tab
theorem Xwb {p:Pl} {w:Wk} {id:Int} (h:(Xp4 p w id).2.lost=false):Qt p.secs id=some (Xp4 p w id).1∧(Xp4 p w id).2=w∧w.inn.1=id:=by
 unfold Xp4 at h⊢;split at h
 ·rename_i s hg;rw[hg];by_cases hb:(w.inn.1 !=id)=true
  ·rw[if_pos hb] at h;cases h
  ·rw[if_neg hb];exact⟨rfl,rfl,by simpa using hb⟩
 ·cases h
theorem Xpd {p:Pl} {w:Wk} {id at':Int} {f:Int->Int×Int->Bool} (h:(Xso p w id at' f).lost=false):w.lost=false∧∃(s:Sec) (e:Nat),Qt p.secs id=some s∧w.inn.1=id∧e<s.ends.length∧Xpj s w.inn.2 e=0∧f e (s.ends.getD e (0,0))=true∧
  Xso p w id at' f=Xt7 (Xps w s.pt (Xoq s w.inn.2 e) at') (id,(e:Int)) (s.ends.getD e (0,0)):=by
 unfold Xso at h⊢;cases hl:(Xp4 p w id).2.lost with
 |true=>
  exfalso;generalize Xp4 p w id=q at*;unfold Xxn Xqx at h;rw[Xq5 fun e _=>by unfold Xr3;rw[hl];rfl] at h;cases h
 |false=>
  obtain⟨a,b,c⟩:=Xwb hl;rw[b] at h hl⊢;generalize (Xp4 p w id).1=s at*;unfold Xxn at h⊢;cases he:Xqx s w f with
  |none=>rw[he] at h;cases h
  |some e=>
   unfold Xqx at he;rw[ic] at he;obtain⟨h1,h2,_⟩:=he;unfold Xr3 at h1;simp only[c9,dj,iy] at h1;exact⟨hl,s,e,a,c,dq.1 h2,by simpa using h1.2.1,h1.2.2,rfl⟩
theorem Xsl {p:Pl} {w:Wk} {id at':Int} (h:(Xpt p w id at').lost=false):w.lost=false∧∃s:Sec,Qt p.secs id=some s∧w.inn.1=id∧Xpt p w id at'=if 0<w.inn.2 then Xps w s.pt w.inn.2 at' else w:=by
 unfold Xpt at h⊢;cases hl:(Xp4 p w id).2.lost with
 |true=>
  exfalso;rw[hl] at h;simp at h;rw[h] at hl;cases hl
 |false=>
  obtain⟨a,b,c⟩:=Xwb hl;rw[b] at h hl⊢;generalize (Xp4 p w id).1=s at*;refine⟨hl,s,a,c,?_⟩;by_cases h0:0<w.inn.2
  ·rw[if_pos h0,if_pos (by simpa using h0)]
  ·rw[if_neg h0,if_neg (by simpa using h0)]
theorem Xwc {p:Pl} {r:Rt} {w:Wk} {i:Nat} (h:(Xp6 p r w i).lost=false):w.lost=false:=by
 unfold Xp6 at h;split at h
 ·split at h
  ·exact(Xpd h).1
  ·exact(Xpd h).1
 ·split at h
  ·exact(Xsl h).1
  ·exact(Xpd h).1
theorem Xry {p:Pl} {r:Rt} {n:Nat} (h:(Xom p r n).lost=false):∀i,i<=n->(Xom p r i).lost=false:=by
 induction n with
 |zero=>intro i hi;obtain rfl:i=0:=(by omega);exact h
 |succ n ih=>
  intro i hi;by_cases he:i=n+1
  ·subst he;exact h
  ·exact ih (Xwc h) i (by omega)
theorem Ygw {s:Sec} {a b:Int} (h0:s.pt≠0) (h:Xpj s a b=0):0<Xoq s a b:=by
 unfold Xpj at h;by_cases hs:Qc s=true
 ·rw[if_pos hs] at h;by_cases hl:Xuv s a b<0
  ·rw[if_pos hl] at h;cases h
  ·unfold Xoq;rw[if_pos ⟨hs,by omega⟩];unfold Xuv at hl⊢;rw[if_neg h0] at hl⊢;split
   ·omega
   ·split
    ·omega
    ·rename_i h1 h2;rw[if_neg h1,if_neg h2] at hl;omega
 ·rw[if_neg hs] at h;cases h
theorem Ygb {s:Sec} {a b:Int} (h0:s.pt=0):Xoq s a b=0:=by
 unfold Xoq;split
 ·rename_i h;have:=h.2;unfold Xuv at this⊢;rw[if_pos h0] at this⊢;split
  ·rfl
  ·rename_i h1;rw[if_neg h1] at this;omega
 ·rfl
theorem Yhf {s:Sec} {a:Int} {e:Nat} (he:e<s.ends.length) (h:Xpj s a e=0):Yhj s a (Xoq s a e)=e∧Yhk s a (Xoq s a e)=0:=by
 unfold Xpj at h;by_cases hs:Qc s=true
 ·rw[if_pos hs] at h;have hl:0<=Xuv s a e:=by
   by_cases hl:Xuv s a e<0
   ·rw[if_pos hl] at h;cases h
   ·omega
  have ht:Xoq s a e=Xuv s a e:=by unfold Xoq;rw[if_pos ⟨hs,hl⟩]
  have hI:Yh1 s a (Xuv s a e)=e:=by
   unfold Yh1;refine Ko (by simpa using he) (by simp) fun j hj=> ?_;rw[List.getElem_range,dz];intro hq;unfold Xuv at hq hl;by_cases h0:s.pt=0
   ·simp only[if_pos h0] at hq hl;repeat' split at hq
    all_goals first|omega|(split at hl<;>omega)
   ·simp only[if_neg h0] at hq hl;repeat' split at hq
    all_goals first|omega|(repeat' split at hl)<;>omega
  rw[ht];unfold Yhj Yhk;rw[hI,if_pos ⟨hs,hl,by omega⟩,if_pos hs,if_neg (by omega)];exact⟨rfl,rfl⟩
 ·rw[if_neg hs] at h;cases h
def Yhg (l:List (Int×Int×Int)) (pt at':Int):Int:=match l.find? (fun a=>a.1==pt&&a.2.2==at') with
 |some a=>a.2.1
 |none=>0
theorem Yes (w:Wk) (a b c:Int):∃t,(Xps w a b c).asks=w.asks++t:=by
 unfold Xps;split
 ·exact⟨_,rfl⟩
 ·exact⟨[],by simp⟩
theorem Ye5 (p:Pl) (w:Wk) (id at':Int) (f:Int->Int×Int->Bool):∃t,(Xso p w id at' f).asks=w.asks++t:=by
 obtain⟨s,l,e⟩:=Xox p w id;unfold Xso;rw[e];dsimp only;unfold Xxn;split
 ·unfold Xt7;exact Yes _ _ _ _
 ·exact⟨[],by simp⟩
theorem Yfo (p:Pl) (w:Wk) (id at':Int):∃t,(Xpt p w id at').asks=w.asks++t:=by
 obtain⟨s,l,e⟩:=Xox p w id;unfold Xpt;rw[e];dsimp only;split
 ·exact Yes _ _ _ _
 ·exact⟨[],by simp⟩
theorem Yfp (p:Pl) (r:Rt) (w:Wk) (i:Nat):∃t,(Xp6 p r w i).asks=w.asks++t:=by
 unfold Xp6;split
 ·split
  ·exact Ye5 _ _ _ _ _
  ·exact Ye5 _ _ _ _ _
 ·split
  ·exact Yfo _ _ _ _
  ·exact Ye5 _ _ _ _ _
theorem Yfq (p:Pl) (r:Rt) (i:Nat):∀n,i<=n->∃t,(Xom p r n).asks=(Xom p r i).asks++t
 |0,h=>⟨[],by obtain rfl:i=0:=(by omega);simp⟩
 |n+1,h=>by
  by_cases he:i=n+1
  ·subst he;exact⟨[],by simp⟩
  ·obtain⟨t,ht⟩:=Yfq p r i n (by omega);obtain⟨u,hu⟩:=Yfp p r (Xom p r n) n;exact⟨t++u,by show(Xp6 p r (Xom p r n) n).asks= _;rw[hu,ht,aq]⟩
abbrev Xs2 (r:Rt):List Int:=r.path++r.over
theorem Xu4 {p:Pl} {r:Rt} {i:Nat} (hl:(Xom p r (i+1)).lost=false) (hi:i+1=r.path.length∨i+1≠(Xs2 r).length):∃(s:Sec) (e:Nat),Qt p.secs ((Xs2 r).getD i 0)=some s∧(Xom p r i).inn.1=(Xs2 r).getD i 0∧e<s.ends.length∧Xpj s (Xom p r i).inn.2 e=0∧
  Xom p r (i+1)=Xt7 (Xps (Xom p r i) s.pt (Xoq s (Xom p r i).inn.2 e) i) ((Xs2 r).getD i 0,(e:Int)) (s.ends.getD e (0,0))∧
  (i+1=r.path.length->(r.ex=0->s.ends.getD e (0,0)=(0,0))∧(r.ex≠0->(Xs2 r).getD i 0=(Xl0 p.sgs r.ex).2.1∧(e:Int)=(Xl0 p.sgs r.ex).2.2)):=by
 have hs:Xom p r (i+1)=Xp6 p r (Xom p r i) i:=rfl;rw[hs] at hl⊢;unfold Xp6 at hl⊢;by_cases h1:i+1=r.path.length
 ·rw[if_pos h1] at hl⊢;by_cases h2:r.ex=0
  ·rw[if_pos h2] at hl⊢;obtain⟨_,s,e,a,b,c,d,f,g⟩:=Xpd hl;exact⟨s,e,a,b,c,d,g,fun _=>⟨fun _=>by simpa using f,fun h=>absurd h2 h⟩⟩
  ·rw[if_neg h2] at hl⊢;obtain⟨_,s,e,a,b,c,d,f,g⟩:=Xpd hl;simp only[ad,bq] at f;exact⟨s,e,a,b,c,d,g,fun _=>⟨fun h=>absurd h h2,fun _=>f⟩⟩
 ·have h3:i+1≠(r.path++r.over).length:=by
   rcases hi with h|h
   ·exact absurd h h1
   ·exact h
  rw[if_neg h1,if_neg h3] at hl⊢;obtain⟨_,s,e,a,b,c,d,f,g⟩:=Xpd hl;exact⟨s,e,a,b,c,d,g,fun h=>absurd h h1⟩
theorem Xwd {p:Pl} {r:Rt} {i:Nat} (hl:(Xom p r (i+1)).lost=false) (h1:i+1≠r.path.length) (h2:i+1=(Xs2 r).length):∃s:Sec,Qt p.secs ((Xs2 r).getD i 0)=some s∧(Xom p r i).inn.1=(Xs2 r).getD i 0∧
  Xom p r (i+1)=if 0<(Xom p r i).inn.2 then Xps (Xom p r i) s.pt (Xom p r i).inn.2 i else Xom p r i:=by
 have hs:Xom p r (i+1)=Xp6 p r (Xom p r i) i:=rfl;rw[hs] at hl⊢;unfold Xp6 at hl⊢;rw[if_neg h1,if_pos h2] at hl⊢;obtain⟨_,s,a,b,c⟩:=Xsl hl;exact⟨s,a,b,c⟩
theorem Xu5 {p:Pl} {r:Rt}:∀n,(Xom p r n).lost=false->(∀i,i<n->i+1=r.path.length∨i+1≠(Xs2 r).length)->(Xom p r n).outs.length=n
 |0,_,_=>rfl
 |n+1,h,hq=>by
  obtain⟨s,e,_,_,_,_,g,_⟩:=Xu4 h (hq n (by omega));have hn:=Xu5 n (Xry h n (by omega)) fun i hi=>hq i (by omega);obtain⟨l,hk⟩:=Xoy (Xom p r n) s.pt (Xoq s (Xom p r n).inn.2 e) n;rw[g,hk];unfold Xt7;simp [hn]
theorem Xu6 {p:Pl} {r:Rt} {i:Nat}:∀n,i<=n->(Xom p r n).lost=false->∃t,(Xom p r n).outs=(Xom p r i).outs++t
 |0,h,_=>⟨[],by obtain rfl:i=0:=(by omega);simp⟩
 |n+1,h,hl=>by
  by_cases he:i=n+1
  ·subst he;exact⟨[],by simp⟩
  ·obtain⟨t,ht⟩:=Xu6 (p:=p) (r:=r) (i:=i) n (by omega) (Xry hl n (by omega));by_cases hc:n+1=r.path.length∨n+1≠(Xs2 r).length
   ·obtain⟨s,e,_,_,_,_,g,_⟩:=Xu4 hl hc;obtain⟨l,hk⟩:=Xoy (Xom p r n) s.pt (Xoq s (Xom p r n).inn.2 e) n;refine⟨t++[((Xs2 r).getD n 0,(e:Int))],?_⟩;rw[g,hk];unfold Xt7;simp [ht]
   ·have hc1:n+1≠r.path.length:=fun h=>hc (.inl h);have hc2:n+1=(Xs2 r).length:=dv fun h=>hc (.inr h);obtain⟨s,_,_,g⟩:=Xwd hl hc1 hc2;refine⟨t,?_⟩;rw[g];split
    ·obtain⟨l,hk⟩:=Xoy (Xom p r n) s.pt (Xom p r n).inn.2 n;rw[hk];exact ht
    ·exact ht
theorem Yhh {p:Pl} (hm:Uf p=true) {r:Rt} {i n:Nat} (hn:i+1<=n) {s:Sec} (hs:Qt p.secs ((Xs2 r).getD i 0)=some s) {lie:Int} (h0:s.pt≠0->0<lie) (hz:s.pt=0->lie=0)
  (hstep:(Xom p r (i+1)).asks=(Xps (Xom p r i) s.pt lie i).asks) (F:List (Int×Int×Int)) (hF:∀a,a∈F->0<a.1):Yhg ((Xom p r n).asks++F) s.pt i=lie:=by
 obtain⟨_,hmay,_⟩:=Xol hm;obtain⟨g1,_⟩:=W5 hs;have hsh:=Uv.1 (U0 hmay g1).2;obtain⟨ok1,_⟩:=Xw9 hmay r n;obtain⟨ok0,_⟩:=Xw9 hmay r i;by_cases hp:s.pt=0
 ·rw[hz hp,hp];unfold Yhg;have:((Xom p r n).asks++F).find? (fun a=>a.1==0&&a.2.2==(i:Int))=none:=by
   rw[cx];intro a ha;have:a.1≠0:=by
    rcases dh.1 ha with h|h
    ·obtain⟨k,hk,rfl⟩:=am h;obtain⟨_,s',_,_,_,_,e1,e2,_⟩:=ok1.each k hk;omega
    ·have:=hF a h;omega
   simp [this]
  rw[this]
 ·have hl:=h0 hp;obtain⟨t,ht⟩:=Yfq p r (i+1) n hn;have ha:(Xps (Xom p r i) s.pt lie i).asks=(Xom p r i).asks++[(s.pt,lie,(i:Int))]:=by
   unfold Xps;rw[if_pos (by simp;omega)]
  rw[ht,hstep,ha];unfold Yhg;have hno:(Xom p r i).asks.find? (fun a=>a.1==s.pt&&a.2.2==(i:Int))=none:=by
   rw[cx];intro a ha;obtain⟨k,hk,rfl⟩:=am ha;obtain⟨j,_,e1,e2,_⟩:=ok0.each k hk;have:(Xom p r i).asks[k].2.2≠(i:Int):=by omega
   simp [this]
  rw[aq,aq,fx,hno];simp
theorem Ygx {l:List Sec} (h:Uq l=true) {g:Int×Int×Int} {s:Sec} (hs:s∈l) (he:s.id=g.2.1):Xwg l g=s.ends.getD g.2.2.toNat (0,0):=by
 obtain⟨k,hk,rfl⟩:=am hs;have:∀i,i<=l.length->k<i->Xwg (l.take i) g=l[k].ends.getD g.2.2.toNat (0,0):=by
  intro i;induction i with
  |zero=>intro _ h;omega
  |succ i ih=>
   intro hi hki;rw[Xsj (by omega)];by_cases hik:i=k
   ·subst hik;rw[if_pos (by simpa using he)]
   ·rw[if_neg,ih (by omega) (by omega)];intro hb;have hr:=N3 h i (by omega) k (by omega);have:l[i].id=g.2.1:=by simpa using hb
    omega
 have:=this l.length (Nat.le_refl _) hk;rwa [bi] at this
theorem Ygy {p:Pl} (hm:Uf p=true) {n:Int} {s:Sec} (hg:Qt p.secs n=some s) {e:Int} (h0:0<=e) (h1:e<s.ends.length):Ygm p.secs n e=s.ends.getD e.toNat (0,0)∧Yf9 p.secs n e=0:=by
 obtain⟨a,b⟩:=Ydv (Xol hm).2.1 hg;unfold Ygm Yf9;rw[a,b,if_pos ⟨rfl,h0⟩,if_pos rfl,if_pos ⟨h0,h1⟩];exact⟨rfl,rfl⟩
theorem Yfr {p:Pl} (hm:Uf p=true) {r:Rt} (hr:r∈p.rts) (hx:r.ex≠0):stE p (Xl0 p.sgs r.ex).2.1 (Xl0 p.sgs r.ex).2.2=0∧stL p (Xl0 p.sgs r.ex).2.1 (Xl0 p.sgs r.ex).2.2=r.ex:=by
 obtain⟨_,_,_,hsg,_,_,hrs⟩:=Xol hm;have ho:=hrs r hr;unfold okR at ho;cases hg:Xpe p.sgs r.entry with
 |none=>rw[hg] at ho;cases ho
 |some en=>
  rw[hg] at ho;simp only[ad,ck,ao] at ho;obtain⟨⟨⟨⟨⟨⟨⟨⟨⟨q,_⟩,_⟩,_⟩,_⟩,_⟩,_⟩,_⟩,_⟩,_⟩:=ho;have q1:(Xpe p.sgs r.ex).isSome=true:=by
   rcases q with h|h
   ·exact absurd h hx
   ·exact h.1
  obtain⟨x,hxg⟩:=cu.1 q1;have hl:Xl0 p.sgs r.ex=x:=by rw[Xw7 (Xxo hsg),hxg];rfl
  have hxm:=bg hxg;have hx1:x.1=r.ex:=by simpa using dg hxg
  rw[hl,<- hx1];obtain⟨i,hi,rfl⟩:=am hxm;exact Ygl hm hi
structure Gone (p:Pl) (r:Rt) (W:Wy) (O:List (Int×Int)):Prop where
 may:Uf p=true
 mem:r∈p.rts
 one:1<=r.path.length
 not:(Xom p r (Xs2 r).length).lost=false
 path:W.path=r.path
 over:W.over=r.over
 near:W.near=(Xl0 p.sgs r.entry).2.1
 asks:W.asks=(Xom p r (Xs2 r).length).asks++r.flanks.map (fun f=>(f.1,f.2, -1))
 outs:O=(Xom p r (Xs2 r).length).outs
theorem Ygz {p:Pl} {r:Rt} {W:Wy} {O:List (Int×Int)} (g:Gone p r W O):∀a,a∈r.flanks.map (fun f:Int×Int=>(f.1,f.2,(-1:Int)))->0<a.1:=fun a ha=>by
 obtain⟨f,hf,rfl⟩:=eu.1 ha;exact(Xwa g.may g.mem f hf).1
theorem Yea {p:Pl} {r:Rt} {W:Wy} {O:List (Int×Int)} (g:Gone p r W O) {i:Nat} (hi:i<(Xs2 r).length) (hk:i+1=r.path.length∨i+1≠(Xs2 r).length):∃(s:Sec) (e:Nat),Qt p.secs (Xs2 r)[i]=some s∧(Xom p r i).inn.1=(Xs2 r)[i]∧
  Yhj s (Xom p r i).inn.2 (Yhg W.asks s.pt i)=e∧Yhk s (Xom p r i).inn.2 (Yhg W.asks s.pt i)=0∧(∃h:i<O.length,O[i]=((Xs2 r)[i],(e:Int)))∧Ygm p.secs (Xs2 r)[i] e=(Xom p r (i+1)).inn∧Yf9 p.secs (Xs2 r)[i] e=0∧stE p (Xs2 r)[i] e=0∧
  (i+1=r.path.length->(r.ex=0->(Xom p r (i+1)).inn=(0,0))∧(r.ex≠0->stL p (Xs2 r)[i] e=r.ex)):=by
 have hl:=Xry g.not (i+1) (by omega);obtain⟨s,e,a,b,c,d,q,x⟩:=Xu4 hl hk;have gd:(Xs2 r).getD i 0=(Xs2 r)[i]:=by rw[af,ah hi];rfl
 have hlie:=Yhh g.may (n:=(Xs2 r).length) (by omega) a (lie:=Xoq s (Xom p r i).inn.2 e) (fun h=>Ygw h d) (fun h=>Ygb h) (by rw[q];rfl) _ (Ygz g);rw[<- g.asks] at hlie;rw[gd] at a b q x;obtain⟨o1,o2⟩:=Yhf c d;obtain⟨n1,n2⟩:=Ygy g.may a (e:=(e:Int)) (by omega) (by omega);have hin:(Xom p r (i+1)).inn=s.ends.getD e (0,0):=by rw[q];rfl
 refine⟨s,e,a,b,by rw[hlie];exact o1,by rw[hlie];exact o2,?_,by rw[hin];exact n1,n2,Yeo g.may a (by omega) (by omega),fun h=> ?_⟩
 ·obtain⟨t,ht⟩:=Xu6 (p:=p) (r:=r) (i:=i+1) (Xs2 r).length (by omega) g.not;have hlen:=Xu5 i (Xry g.not i (by omega)) fun j hj=>by
   by_cases h:j+1=(Xs2 r).length
   ·omega
   ·exact .inr h
  obtain⟨l,hkp⟩:=Xoy (Xom p r i) s.pt (Xoq s (Xom p r i).inn.2 e) i;have ho:O=(Xom p r i).outs++([((Xs2 r)[i],(e:Int))]++t):=by
   rw[g.outs,ht,q,hkp];unfold Xt7;simp
  subst ho;exact⟨by simp;omega,by rw[dw (by omega)];simp [hlen]⟩
 ·obtain⟨x1,x2⟩:=x h;refine⟨fun h0=>by rw[hin];exact x1 h0,fun h0=> ?_⟩;obtain⟨y1,y2⟩:=x2 h0;rw[y1,y2];exact(Yfr g.may g.mem h0).2
theorem Zv {P:Program} {n:Nat} {fn:Func} {out:Nat->Option Res} {gives:List (Nat×Res)} {r r' q q' u u':AV} {a b c:Tmp} {e:Exit} {σ:AState} (he:e= .normal∨e= .ret) (hr:fn.results= #[.tmp a,.tmp b,.tmp c]) (hd:σ.df=[]) (h0:σ.n0=n)
  (ho:∀k,k<n->σ.out k=upd out gives k) (hx:σ.fr.getD a .top=r) (hy:σ.fr.getD b .top=q) (hz:σ.fr.getD c .top=u) (l1:AV.le r r') (l2:AV.le q q') (l3:AV.le u u'):Zq P n fn out gives (.tup [r',q',u']) e σ:=by
 refine⟨he,hd,h0,ho,fun M act hI hs=> ?_⟩;have h1:=hs.ev (.tmp a);have h2:=hs.ev (.tmp b);have h3:=hs.ev (.tmp c);simp only[AState.ev,Act.eval] at h1 h2 h3;rw[hx] at h1;rw[hy] at h2;rw[hz] at h3;refine⟨.tuple #[act.tmps.getD a undef,act.tmps.getD b undef,act.tmps.getD c undef],by simp [results,hr],.tup _ _ rfl fun i c v hi hv=> ?_⟩
 match i,hi,hv with
 |0,hi,hv=>simp at hi hv;subst hi;subst hv;simpa using h1.le l1
 |1,hi,hv=>simp at hi hv;subst hi;subst hv;simpa using h2.le l2
 |2,hi,hv=>simp at hi hv;subst hi;subst hv;simpa using h3.le l3
end Go.Proofs.YtdngdjbgmojcoaaGreat.Pln
namespace Go.Proofs.YtdngdjbgmojcoaaGreat.Pln
set_option linter.all false
set_option maxHeartbeats 8000000
set_option maxRecDepth 4000
open Go Go.VS Tab
attribute [local irreducible] AWp Xp0 Pg X5c Qy Lt Tp FdT Eb
def joC (l:List (Int×Int)):List AV:=[.sl 2 (l.map jnC) .sh]
def Xs0 (p:Pl):Int:=if Uf p then(match p.rts.find? (fun r=>Xrb p r !=0) with
 |some r=>Xrb p r
 |none=>0) else 8
def Xs1 (p:Pl):List Wy:=if Xs0 p=0 then p.rts.map (Xop p) else[]
def Xwf (p:Pl):List (List (Int×Int)):=if Xs0 p=0 then p.rts.map (Xpv p) else[]
theorem Xuq {α:Type} {f:α->Bool} {l:List α} {i:Nat} (hi:i<l.length) (hf:f l[i]=true) (hq:∀j (hj:j<l.length),j<i->f l[j]=false):l.find? f=some l[i]:=by
 rw[f9];exact⟨hf,i,hi,rfl,fun j hj=>by simp [hq j (by omega) hj]⟩
theorem Xur {α:Type} {f:α->Bool} {l:List α} (hq:∀j (hj:j<l.length),f l[j]=false):l.find? f=none:=by
 rw[cx];intro x hx;obtain⟨i,hi,rfl⟩:=am hx;simp [hq i hi]
theorem Xy1 (p:Pl) (hs:Sm p):Xr Tryz.prog 67 [plA p] [] (.tup [.sl 4 ((Xs1 p).map wyC) .sh,.sl 1 ((Xwf p).map joC) .sh,i64 (Xs0 p)]) []:=by
 have cc:=Dr p hs;have hrl:=hs.rts;cases hmy:Uf p with
 |false=>
  have e1:Xs0 p=8:=by unfold Xs0;rw[hmy];rfl
  have e2:Xs1 p=[]:=by unfold Xs1;rw[e1];rfl
  have e3:Xwf p=[]:=by unfold Xwf;rw[e1];rfl
  rw[e1,e2,e3];rw[hmy] at cc;refine Xc 5 Tryz.func67 rfl fun n out _ _=> ?_;simp only[sn,Tryz.ntmps67,simprocAttr];repeat' (first|refine Vk fun K hK=> ?_|apply V0|apply Vb|apply Vc|apply Vr|apply Vs|with_reducible apply ab|((first|apply gE|apply gR);simp only[zA,simprocAttr,plA,plC])|exact Vn|(refine X3 (cc) ?_)|(apply Vx;simp only[sb,reduceIte,Nat.reduceEqDiff])|(refine hK _ ?_;clear hK K)|refine Vt rfl ?_|refine Vf rfl ?_|refine Vi rfl (fun hg=> ?_) (fun hg=> ?_)|clear hK K)
  refine Yd (Zv (.inr rfl) rfl rfl rfl (fun _ _=>rfl) rfl rfl rfl ?_ ?_ ?_)<;>simp only[ag,sL]
 |true=>
  rw[hmy] at cc;have cf:∀(i:Nat) (hi:i<p.rts.length),Xr Tryz.prog 132 [plA p,rtA p.rts[i]] [] (.tup [wyA (Xop p p.rts[i]),.sl 2 ((Xpv p p.rts[i]).map jnC) .sh,i64 (Xrb p p.rts[i])]) []:=fun i hi=>by
   obtain⟨h1,en,_,h3,_,h5⟩:=Xu2 hmy (a8 hi);exact Xut p p.rts[i] hs (hs.rt _ (a8 hi)) h1 (by rw[h3];exact h5)
  obtain⟨RW,hRW⟩:∃RW,RW=Xs1 p:=⟨_,rfl⟩
  obtain⟨RO,hRO⟩:∃RO,RO=Xwf p:=⟨_,rfl⟩
  obtain⟨RE,hRE⟩:∃RE,RE=Xs0 p:=⟨_,rfl⟩
  rw[<- hRW,<- hRO,<- hRE];refine Xc 5 Tryz.func67 rfl fun n out _ _=> ?_;simp only[sn,Tryz.ntmps67,simprocAttr];repeat' (first|refine Vk fun K hK=> ?_|apply V0|apply Vb|apply Vc|apply Vr|apply Vs|with_reducible apply ab|((first|apply gE|apply gR);simp only[zA,simprocAttr,plA,plC])|exact Vn|(refine X3 (cc) ?_)|(apply Vx;simp only[sb,reduceIte,Nat.reduceEqDiff])|(refine hK _ ?_;clear hK K)|refine Vt rfl ?_|refine Vf rfl ?_|refine Vi rfl (fun hg=> ?_) (fun hg=> ?_)|clear hK K)
  refine Yy (Q9 (i:=1) 130 4 rfl) ?_;refine Yy (Q9 (i:=2) 73 1 rfl) ?_;simp only[s_0,s_s];apply V5;refine Xpw (p.rts.length) (fun i=>(∀j (hj:j<p.rts.length),j<i->(Xrb p p.rts[j] !=0)=false)) (fun m i=>tr 18 22 (tr 6 4 [(17,i64 (i:Int)),(4,i64 0),(1,.ptr (m+0) 0),(2,.sl 4 ((p.rts.take i).map fun r=>wyC (Xop p r)) (.own (m+1))),(3,.sl 1 ((p.rts.take i).map fun r=>joC (Xpv p r)) (.own (m+2)))])) (fun m i=>[some (.box 28 (plC p)),some (.row 130 4 i),some (.row 73 1 i),none,none]) (by intros;omega) ?_ fun m i hm hi=> ?_
  ·refine X2 ?_ ?_ (by first|rfl|(simp only[plC,List.take_zero,ag,ai];rfl)|simp only[plC,List.take_zero,ag,ai]) rfl rfl rfl<;>simp only[sL,plC,ag]
  obtain⟨hi,hq⟩:=hi;simp only[pt];have hw:=Yl (n:=i) 1 1 rfl (by omega);by_cases hlt:i<p.rts.length
  ·have gi:=Xg rtC p.rts i [] hlt;have cF:=cf i hlt;have next:(Xrb p p.rts[i] !=0)=false->∀j (hj:j<p.rts.length),j<i+1->(Xrb p p.rts[j] !=0)=false:=fun h j hj hji=>by
    by_cases h':j=i
    ·subst h';exact h
    ·exact hq j hj (by omega)
   have bad:(Xrb p p.rts[i] !=0)=true->Xs0 p=Xrb p p.rts[i]∧Xs1 p=[]∧Xwf p=[]:=fun h=>by
    have e1:Xs0 p=Xrb p p.rts[i]:=by
     unfold Xs0;rw[hmy,Xuq (f:=fun r=>Xrb p r !=0) hlt h hq];rfl
    have hn:¬Xs0 p=0:=by rw[e1];simpa using h
    exact⟨e1,by unfold Xs1;rw[if_neg hn],by unfold Xwf;rw[if_neg hn]⟩
   have hsw:=Xua (fun r=>wyC (Xop p r)) p.rts i hlt;have hso:=Xua (fun r=>joC (Xpv p r)) p.rts i hlt;clear hq cf;cases hb:(Xrb p p.rts[i] !=0) with
   |true=>
    obtain⟨e1,e2,e3⟩:=bad hb;rw[e1] at hRE;rw[e2] at hRW;rw[e3] at hRO;subst hRE hRW hRO;simp only[plA,plC,rtA,rtC,wyA,wyC] at cF;repeat' (first|refine Vk fun K hK=> ?_|apply V0|apply Vb|apply Vc|apply Vr|apply Vs|with_reducible apply ab|((first|apply gE|apply gR);simp only[zA,simprocAttr,Xi hm,plC,rtC,hlt,gi,X0,hb])|exact Vn|(refine X3 (cF) ?_)|(apply Vx;simp only[sb,reduceIte,Nat.reduceEqDiff])|(refine hK _ ?_;clear hK K)|refine Vt rfl ?_|refine Vf rfl ?_|refine Vi rfl (fun hg=> ?_) (fun hg=> ?_)|clear hK K)
    refine Yd (Zv (.inr rfl) rfl rfl rfl (fun _ _=>rfl) rfl rfl rfl ?_ ?_ ?_)<;>simp only[ag,sL]
   |false=>
    have nx:=next hb
    clear next bad
    have lw:∀(σ:AState) (K:AV->List (Nat×Res)->Prop),X1 tab σ K none 123 1 [(0,.agg [.sl 1 ((Xop p p.rts[i]).path.map Ym) .sh,.sl 1 ((Xop p p.rts[i]).over.map Ym) .sh,.sl 3 ((Xop p p.rts[i]).asks.map sgC) .sh,i64 (Xop p p.rts[i]).near])]=K (.sl 4 [[.sl 1 ((Xop p p.rts[i]).path.map Ym) .sh,.sl 1 ((Xop p p.rts[i]).over.map Ym) .sh,.sl 3 ((Xop p p.rts[i]).asks.map sgC) .sh,i64 (Xop p p.rts[i]).near]] .full) []:=fun σ K=>Yk (T:=tab) (ti:=ti123) (te:=ti130) rfl rfl rfl (by decide) (by decide) rfl rfl;have lo':∀(σ:AState) (K:AV->List (Nat×Res)->Prop),X1 tab σ K none 124 1 [(0,.sl 2 ((Xpv p p.rts[i]).map jnC) .sh)]=K (.sl 1 [[.sl 2 ((Xpv p p.rts[i]).map jnC) .sh]] .full) []:=fun σ K=>Yk (T:=tab) (ti:=ti124) (te:=ti73) rfl rfl rfl (by decide) (by decide) rfl rfl;have hsw':(p.rts.take i).map (fun r=>wyC (Xop p r))++[[.sl 1 ((Xop p p.rts[i]).path.map Ym) .sh,.sl 1 ((Xop p p.rts[i]).over.map Ym) .sh,.sl 3 ((Xop p p.rts[i]).asks.map sgC) .sh,i64 (Xop p p.rts[i]).near]]=(p.rts.take (i+1)).map fun r=>wyC (Xop p r):=hsw;have hso':(p.rts.take i).map (fun r=>joC (Xpv p r))++[[.sl 2 ((Xpv p p.rts[i]).map jnC) .sh]]=(p.rts.take (i+1)).map fun r=>joC (Xpv p r):=hso;simp only[plA,plC,rtA,rtC,wyA,wyC] at cF;have z1:(i+1)*80<=140737488355328:=by omega
    have z2:(i+1)*24<=140737488355328:=by omega
    have z3:i<=9223372036854775806:=by omega
    repeat' (first|refine Vk fun K hK=> ?_|apply V0|apply Vb|apply Vc|apply Vr|apply Vs|with_reducible apply ab|((first|apply gE|apply gR);simp only[zB,simprocAttr,lw,lo',Xi hm,plC,rtC,ba,Nat.min_eq_left hi,hlt,gi,X0,hb,hw,z1,z2,z3])|exact Vn|(refine X3 (cF) ?_)|(apply Vx;simp only[sb,reduceIte,Nat.reduceEqDiff])|(refine hK _ ?_;clear hK K)|refine Vt rfl ?_|refine Vf rfl ?_|refine Vi rfl (fun hg=> ?_) (fun hg=> ?_)|clear hK K)
    rw[hsw',hso'];refine⟨i+1,⟨by omega,nx⟩,by omega,?_⟩;refine Xx [true,true,true,false,false] ?_ ?_<;>intro n_<;>simp only[sM]
  ·have e1:Xs0 p=0:=by
    unfold Xs0;rw[hmy,Xur (f:=fun r=>Xrb p r !=0) fun j hj=>hq j hj (by omega)];rfl
   have e2:Xs1 p=p.rts.map (Xop p):=by unfold Xs1;rw[if_pos e1]
   have e3:Xwf p=p.rts.map (Xpv p):=by unfold Xwf;rw[if_pos e1]
   rw[e1] at hRE;rw[e2] at hRW;rw[e3] at hRO;subst hRE hRW hRO;obtain rfl:i=p.rts.length:=by omega
   clear hq;have hm1:(p.rts.map (Xop p)).map wyC=p.rts.map fun r=>wyC (Xop p r):=by rw[gr];rfl
   have hm2:(p.rts.map (Xpv p)).map joC=p.rts.map fun r=>joC (Xpv p r):=by rw[gr];rfl
   repeat' (first|refine Vk fun K hK=> ?_|apply V0|apply Vb|apply Vc|apply Vr|apply Vs|with_reducible apply ab|((first|apply gE|apply gR);simp only[zA,simprocAttr,hlt,bi])|exact Vn|(apply Vx;simp only[sb])|(refine hK _ ?_;clear hK K)|refine Vt rfl ?_|refine Vf rfl ?_|refine Vi rfl (fun hg=> ?_) (fun hg=> ?_)|clear hK K)
   refine Yd (Zv (.inr rfl) rfl rfl rfl (fun _ _=>rfl) rfl rfl rfl ?_ ?_ ?_)<;>simp only[hm1,hm2,sL]
end Go.Proofs.YtdngdjbgmojcoaaGreat.Pln
