/-
 The value-semantics layer: the frame of a law: from the contract of the law's function over abstract values to what its row's step asks.
-/
import Derived.Test.YtdngdjbgmojcoaaGreatZVsBits
import Derived.ProofKit
import Derived.OpenShut
import Derived.Carry
import Derived.JoinedCond
import Derived.SizedLaws
namespace Go.VS
set_option linter.all false
open Go Go.RowKit Go.ChangeShapes Go.WideShapes
def Mem.start (W:World):Mem:={w:=W,stb:=fun b o=>∃v,W.cell? ⟨b,o,none⟩=some v∧leaf v,β:=fun _=>0,cap:=fun _=>none,st:=fun _=>none,base:=W}
theorem Inv.start (W:World):Inv (Mem.start W):=
 ⟨Below.refl _ _,⟨0,fun _ _=>rfl⟩,fun k h=>by simp [Mem.owns,Mem.start] at h,fun j k h=>by simp [Mem.owns,Mem.start] at h,fun b o h=>h,
  fun k e cs h=>by simp [Mem.start] at h,fun k e sz m cap h=>by simp [Mem.start] at h,fun k b o fr h=>by simp [Mem.start] at h,fun j k b o fr o' fr' h=>by simp [Mem.start] at h,fun k e sz m cs h=>by simp [Mem.start] at h⟩
def Xqu (W:World) (l:List AV) (cs:List Value):Prop:=
 l.length=cs.length∧∀(i:Nat) (c:AV) (v:Value),l[i]? =some c->cs[i]? =some v->leaf v∧R (Mem.start W) c v
theorem Xqu.nil (W:World):Xqu W [] []:=⟨rfl,fun i c v h=>by simp at h⟩
theorem Xqu.one {W:World} {c:AV} {v:Value} (hl:leaf v) (h:R (Mem.start W) c v):Xqu W [c] [v]:=
 ⟨rfl,fun i c' v' h1 h2=>by
  match i with
  |0=>simp at h1 h2;subst h1;subst h2;exact⟨hl,h⟩
  |i+1=>simp at h1⟩
theorem Xqu.app {W:World} {l l':List AV} {cs cs':List Value} (h:Xqu W l cs) (h':Xqu W l' cs'):Xqu W (l++l') (cs++cs'):=by
 refine⟨by simp [h.1,h'.1],fun i c v h1 h2=> ?_⟩;by_cases hi:i<l.length
 ·rw[ay hi] at h1;rw[ay (by rw[<- h.1];exact hi)] at h2;exact h.2 i c v h1 h2
 ·rw[au (by omega)] at h1;rw[au (by rw[<- h.1];omega)] at h2;rw[h.1] at h1;exact h'.2 _ c v h1 h2
structure Opens (P:Program) (t:TypeId) {α:Type} (f:α->List AV) (ok:α->Prop):Prop where
 op:∀(H:Type) (enc:TypeId×Value->H) (W:World) (fuel:Nat) (cs:List Value) (x:DataW H×List MemPlace),
  DataW.trod enc P W 0 (fun _=>true) true fuel t cs=some x->(∀n,n∈x.1.weights P t->n<=reachBytes)->∃y:α,ok y∧Xqu W (f y) cs
theorem Xqv {H:Type} {P:Program} {e:TypeId}:∀{l:List (DataW H)} {d:DataW H},d∈l->∀n,n∈d.weights P e->n∈DataW.weightsAll P e l
 |d0::l,d,hd,n,hn=>by
  simp only[DataW.weightsAll,dh];rcases cn.1 hd with rfl|hd
  ·exact .inl hn
  ·exact .inr (Xqv hd n hn)
theorem Opens.map {P:Program} {t:TypeId} {α β:Type} {f:α->List AV} {ok:α->Prop} (h:Opens P t f ok) {g:β->List AV} {ok':β->Prop}
  (hg:∀y,ok y->∃z,ok' z∧g z=f y):Opens P t g ok':=⟨fun H enc W fuel cs x hx hw=>by
 obtain⟨y,hy,hc⟩:=h.op H enc W fuel cs x hx hw;obtain⟨z,hz,e⟩:=hg y hy;exact⟨z,hz,by rw[e];exact hc⟩⟩
theorem Xun {P:Program} {t:TypeId} (ht:P.underlying t=some .bool):Opens P t (fun b:Bool=>[.val (.bool b)]) (fun _=>True):=
 ⟨fun H enc W fuel cs x hx hw=>by
  obtain⟨b,rfl,_⟩:=DataW.trod_bool ht hx;exact⟨b,trivial,.one trivial (.val _ trivial)⟩⟩
theorem Tv {P:Program} {t:TypeId} {k:IntKind} (ht:P.underlying t=some (.int k)):Opens P t (fun n:Int=>[.val (.int k n)]) (fun n=>(Lit.int k n).wf=true):=
 ⟨fun H enc W fuel cs x hx hw=>by
  obtain⟨n,rfl,_,hw⟩:=DataW.trod_int ht hx;exact⟨n,hw,.one trivial (.val _ trivial)⟩⟩
theorem X1c {P:Program} {t:TypeId} (ht:P.underlying t=some (.int .u8)):Opens P t (fun n:UInt8=>[b8 n]) (fun _=>True):=
 (Tv ht).map fun n hn=>by
  have h:0<=n∧n<=255:=by simpa [Lit.wf,IntKind.min,IntKind.max,IntKind.signed,IntKind.bits] using hn
  refine⟨UInt8.ofNat n.toNat,trivial,?_⟩;have:(((UInt8.ofNat n.toNat).toNat:Nat):Int)=n:=by
   rw[UInt8.toNat_ofNat_of_lt' (by show n.toNat<256;omega)];omega
  show[AV.val (Value.int .u8 (((UInt8.ofNat n.toNat).toNat:Nat):Int))]= _
  rw[this]
theorem J6 {α:Type} {Q:Nat->α->Prop}:∀(n:Nat),(∀i,i<n->∃y,Q i y)->∃l:List α,l.length=n∧∀i y,l[i]? =some y->Q i y
 |0,_=>⟨[],rfl,fun i y h=>by simp at h⟩
 |n+1,h=>by
  obtain⟨l,hl,hq⟩:=J6 n fun i hi=>h i (by omega);obtain⟨y,hy⟩:=h n (by omega);refine⟨l++[y],by simp [hl],fun i z hz=> ?_⟩;by_cases hi:i<l.length
  ·rw[ay hi] at hz;exact hq i z hz
  ·rw[au (by omega)] at hz;have:i=n:=by
    have:=(ae.1 hz).1;simp at this;omega
   subst this;simp [hl] at hz;subst hz;exact hy
theorem Tw {W:World} {a:Addr} {n:Nat} {cs:List Value} (h:W.cells? 0 a n=some cs):cs.length=n∧∀i,i<n->W.cell? (a.add i)=cs[i]? :=by
 unfold World.cells? at h;rw[if_pos (br _)] at h;exact⟨by simpa using mapM_some_length h,fun i hi=>mapM_some_get h i i (by simp [hi])⟩
theorem Zg {P:Program} {t e:TypeId} {α:Type} {f:α->List AV} {ok:α->Prop} (ht:P.underlying t=some (.slice e)) (he:Opens P e f ok) {sz:Nat} (hsz:P.cellsOf e=sz) (hpos:0<sz) (hby:0<P.bytesOf e):
  Opens P t (fun l:List α=>[.sl sz (l.map f) .sh]) (fun l=>l.length<=reachBytes∧∀y,y∈l->ok y):=
 ⟨fun H enc W fuel cs x hx hw=>by
  rcases DataW.trod_slice ht hx with ⟨rfl,_⟩|⟨a,len,cap,elems,rest,n,rfl,rfl,rfl,_,hlc,hcm,hel,hget,hrest,_⟩
  ·exact⟨[],⟨br _,fun y hy=>by simp at hy⟩,.one trivial (.nil _ _ none (by intro h;cases h) (fun _=>rfl))⟩
  obtain⟨hrl,hrg⟩:=hrest rfl;have hbig:len<=reachBytes:=by
   have h1:=hw ((elems.length+rest.length)*P.bytesOf e) (by simp [DataW.weights,ht]);have h2:elems.length+rest.length<=(elems.length+rest.length)*P.bytesOf e:=Nat.le_mul_of_pos_right _ hby;omega
  have hwe:∀i (hi:i<elems.length),∀n,n∈(elems[i]).1.weights P e->n<=reachBytes:=fun i hi n hn=>hw n (by
   simp only[DataW.weights,ht];refine bz _ (dh.2 (.inl ?_));exact Xqv (eu.2 ⟨elems[i],a8 hi,rfl⟩) n hn)
  have cellspot:∀{i:Nat} {y:DataW H×List MemPlace},i=0->(W.cells? 0 (a.add (i*P.cellsOf e)) (P.cellsOf e)).bind (DataW.trod enc P W 0 (fun _=>true) true n e)=some y->a.spot=none:=fun{i y} h0 h=>by
   subst h0;obtain⟨cs,hc,_⟩:=Option.bind_eq_some_iff.1 h;obtain⟨h3,h4⟩:=Tw hc;have h5:=h4 0 (by omega);rw[ah (by omega)] at h5;have h6:=World.cell?_spot h5;simpa [Addr.add] using h6
  by_cases hcap:cap=0
  ·have hl0:len=0:=by omega
   subst hl0;subst hcap;exact⟨[],⟨br _,fun y hy=>by simp at hy⟩,.one trivial (.nil _ _ (some a) (by intro h;cases h) (by intro h;cases h))⟩
  have hs:a.spot=none:=by
   by_cases hl0:0<len
   ·have:=hget 0 hl0;rw[ah (by omega)] at this;exact cellspot rfl this
   ·have:=hrg 0 (by omega);rw[ah (by omega)] at this;exact cellspot (by omega) this
  have hadd:∀j,a.add j=⟨a.block,a.off+j,none⟩:=fun j=>by rw[Z9 a hs,Xo8]
  have each:∀i,i<len->∃y,ok y∧∃cs,W.cells? 0 (a.add (i*sz)) sz=some cs∧Xqu W (f y) cs:=fun i hi=>by
   have hg:=hget i hi;rw[hsz,ah (by omega)] at hg;obtain⟨cs,hc,hx⟩:=Option.bind_eq_some_iff.1 hg;obtain⟨y,hy,hcy⟩:=he.op H enc W n cs _ hx (hwe i (by omega));exact⟨y,hy,cs,hc,hcy⟩
  obtain⟨l,hl,hq⟩:=J6 len each;refine⟨l,⟨by show l.length<= _;omega,fun y hy=> ?_⟩,.one trivial ?_⟩
  ·obtain⟨i,hi⟩:=du hy;exact(hq i y hi).1
  have hrow:∀i y,l[i]? =some y->(f y).length=sz∧∀j,j<sz->∃v,W.cell? ⟨a.block,a.off+(i*sz+j),none⟩=some v∧leaf v∧∀c,(f y)[j]? =some c->R (Mem.start W) c v:=fun i y hi=>by
   obtain⟨_,cs,hc,hcy⟩:=hq i y hi;obtain⟨hcl,hg'⟩:=Tw hc;refine⟨hcy.1.trans hcl,fun j hj=> ?_⟩;have h3:=hg' j hj;rw[hadd,Xo8,ah (by omega),Nat.add_assoc] at h3;have hfl:j<(f y).length:=by rw[hcy.1];omega
   have h4:=hcy.2 j _ _ (ah hfl) (ah (by omega));refine⟨_,h3,h4.1,fun c hc'=> ?_⟩;rw[ah hfl] at hc';injection hc' with hc'
   rw[<- hc'];exact h4.2
  have hml:(l.map f).length=len:=by simp [hl]
  have key:=R.slice (M:=Mem.start W) sz (l.map f) .sh a cap hs (by omega)
   (fun row hr=>by
    obtain⟨y,hy,rfl⟩:=eu.1 hr;obtain⟨i,hi⟩:=du hy;exact(hrow i y hi).1)
   (fun o ho=>by
    rw[hml] at ho;have hszp:0<sz:=Nat.pos_of_ne_zero fun h0=>by subst h0;simp at ho
    have hi:o / sz<len:=Nat.div_lt_of_lt_mul (by rw[Nat.mul_comm];exact ho);obtain⟨v,hv,hlv,_⟩:=(hrow (o / sz) _ (ah (by omega))).2 (o % sz) (i6 _ hszp);rw[Nat.mul_comm,Nat.div_add_mod] at hv;exact⟨v,hv,hlv⟩)
   (fun i j row c v hi hj hv=>by
    rw[b9] at hi;obtain⟨y,hy,rfl⟩:=Option.map_eq_some_iff.1 hi;obtain⟨h5,h6⟩:=hrow i y hy;have hjl:j<sz:=by rw[<- h5];exact(ae.1 hj).1
    obtain⟨v',hv',_,hR⟩:=h6 j hjl;have hv2:W.cell? ⟨a.block,a.off+(i*sz+j),none⟩=some v:=hv;rw[hv'] at hv2;injection hv2 with hv2
    rw[<- hv2];exact hR c hj)
   trivial
  rw[hml] at key;exact key⟩
theorem Cr {P:Program} {t e:TypeId} (ht:P.underlying t=some (.slice e)) (he:P.underlying e=some (.int .u8)) (hsz:P.cellsOf e=1) (hby:0<P.bytesOf e):
  Opens P t (fun l:List UInt8=>[.sl 1 (Xo l) .sh]) (fun l=>l.length<=reachBytes):=
 (Zg ht (X1c he) hsz (by decide) hby).map fun l hl=>⟨l,hl.1,by simp [Xo,b8]⟩
structure OpensF (P:Program) (fs:List Field) (o tot:Nat) {α:Type} (g:α->List AV) (ok:α->Prop):Prop where
 op:∀(H:Type) (enc:TypeId×Value->H) (W:World) (n:Nat) (cs:List Value),cs.length=tot→
  (∀f,f∈fs->∃x,DataW.trod enc P W 0 (fun _=>true) true n f.type ((cs.drop f.offset).take (P.cellsOf f.type))=some x∧∀m,m∈x.1.weights P f.type->m<=reachBytes)->∃y:α,ok y∧Xqu W (g y) (cs.drop o)
theorem OpensF.nil {P:Program} {o:Nat}:OpensF P [] o o (fun _:Unit=>[]) (fun _=>True):=
 ⟨fun H enc W n cs hl _=>⟨(),trivial,by rw[il (by omega)];exact .nil _⟩⟩
theorem OpensF.cons {P:Program} {f:Field} {fs:List Field} {o o' s tot:Nat} {α β:Type} {ff:α->List AV} {okf:α->Prop} {g:β->List AV} {ok:β->Prop} (h:Opens P f.type ff okf) (ho:f.offset=o) (hs:P.cellsOf f.type=s) (ho':o'=o+s)
  (h':OpensF P fs o' tot g ok):OpensF P (f::fs) o tot (fun p:α×β=>ff p.1++g p.2) (fun p=>okf p.1∧ok p.2):=
 ⟨fun H enc W n cs hl hall=>by
  obtain⟨x,hx,hxw⟩:=hall f (by simp);rw[ho,hs] at hx;obtain⟨y,hy,hc⟩:=h.op H enc W n _ x hx hxw;obtain⟨z,hz,hcz⟩:=h'.op H enc W n cs hl fun f' hf'=>hall f' (by simp [hf']);subst ho';refine⟨(y,z),⟨hy,hz⟩,?_⟩;have h6:=hc.app hcz;rw[<- f7,dr] at h6;exact h6⟩
theorem Zh {P:Program} {t:TypeId} {fs:Array Field} {α:Type} {g:α->List AV} {ok:α->Prop} {tot:Nat} (ht:P.underlying t=some (.struct fs)) (hc:P.cellsOf t=tot) (h:OpensF P fs.toList 0 tot g ok):Opens P t g ok:=
 ⟨fun H enc W fuel cs x hx hw=>by
  obtain⟨xs,n,rfl,rfl,hcl,hxl,hget⟩:=DataW.trod_struct ht hx;obtain⟨y,hy,hcs⟩:=h.op H enc W n cs (by rw[hcl,hc]) fun f hf=>by
   obtain⟨i,hi⟩:=du hf;have h1:=hget i f (by simpa using hi);have hil:i<xs.length:=by rw[hxl];simpa using(ae.1 hi).1
   rw[ah hil] at h1;refine⟨_,h1,fun m hm=>hw m ?_⟩;simp only[DataW.weights,ht];exact DataW.weights_mem_each (j:=i) (t:=f.type) (d:=(xs[i]).1) (by simp only[b9];rw[hi];rfl) (by simp [hil]) m hm
  exact⟨y,hy,by simpa using hcs⟩⟩
structure OpensArg (P:Program) (t:TypeId) {α:Type} (f:α->AV) (ok:α->Prop):Prop where
 op:∀(H:Type) (enc:TypeId×Value->H) (W:World) (base:Nat) (v:Value) (d:DataW H) (ps:List MemPlace),
  Value.okWide P W .any base t v->DataW.Trod enc P W 0 (fun _=>true) true t v d ps->(∀n,n∈d.weights P t->n<=reachBytes)->∃y:α,ok y∧R (Mem.start W) (f y) v
theorem OpensArg.one {P:Program} {t:TypeId} {α:Type} {f:α->AV} {ok:α->Prop} (h:Opens P t (fun y=>[f y]) ok)
  (hone:∀(W:World) (base:Nat) (v:Value),Value.okWide P W .any base t v->v.cells= #[v]):OpensArg P t f ok:=
 ⟨fun H enc W base v d ps hv ht hw=>by
  obtain⟨fuel,hx⟩:=ht;rw[hone W base v hv] at hx;obtain⟨y,hy,hcs⟩:=h.op H enc W fuel [v] _ hx hw;exact⟨y,hy,(hcs.2 0 _ _ rfl rfl).2⟩⟩
theorem J7 {P:Program} {t e:TypeId} (ht:P.underlying t=some (.slice e)) (W:World) (base:Nat) (v:Value) (h:Value.okWide P W .any base t v):v.cells= #[v]:=by
 obtain⟨a,len,cap,rfl⟩:=okWide_slice ht h;rfl
theorem OpensArg.agg {P:Program} {t:TypeId} {α:Type} {f:α->List AV} {ok:α->Prop} (h:Opens P t f ok)
  (hagg:∀(W:World) (base:Nat) (v:Value),Value.okWide P W .any base t v->∃cs,v= .agg cs):OpensArg P t (fun y=> .agg (f y)) ok:=
 ⟨fun H enc W base v d ps hv ht hw=>by
  obtain⟨fuel,hx⟩:=ht;obtain⟨cs,rfl⟩:=hagg W base v hv;obtain⟨y,hy,hcs⟩:=h.op H enc W fuel cs.toList _ hx hw;refine⟨y,hy,.agg _ _ (by rw[hcs.1];simp) (fun i v hi=> ?_) (fun i c v hi hv=>(hcs.2 i c v hi (by simpa using hv)).2)⟩;have hil:=(Array.getElem?_eq_some_iff.1 hi).1;exact(hcs.2 i _ v (ah (by rw[hcs.1];simpa using hil)) (by simpa using hi)).1⟩
theorem X4g {P:Program} {t:TypeId} (ht:(∃n e,P.underlying t=some (.array n e))∨∃fs,P.underlying t=some (.struct fs)) (W:World) (base:Nat) (v:Value) (h:Value.okWide P W .any base t v):
  ∃cs,v= .agg cs:=by
 rcases ht with ⟨n,e,ht⟩|⟨fs,ht⟩<;>
 ·simp only[Value.okWide,ht] at h;obtain⟨cs,rfl,_,hr⟩:=h;exact⟨cs,rfl⟩
structure OpensAll (P:Program) (ts:List TypeId) {α:Type} (f:α->List AV) (ok:α->Prop):Prop where
 op:∀(H:Type) (enc:TypeId×Value->H) (W:World) (base:Nat) (vs:List Value) (ds:List (DataW H)) (ps:List MemPlace),
  (∀(j:Nat) t v,ts[j]? =some t->vs[j]? =some v->Value.okWide P W .any base t v)→
  DataW.TrodAll enc P W 0 (fun _=>true) true ts vs ds ps->(∀n,n∈DataW.weightsEach P ts ds->n<=reachBytes)->∃y:α,ok y∧(f y).length=vs.length∧∀(i:Nat) c v,(f y)[i]? =some c->vs[i]? =some v->R (Mem.start W) c v
theorem OpensAll.nil {P:Program}:OpensAll P [] (fun _:Unit=>[]) (fun _=>True):=
 ⟨fun H enc W base vs ds ps _ h _=>by
  obtain⟨rfl,_,_⟩:=trodAll_nil h;exact⟨(),trivial,rfl,fun i c v h=>by simp at h⟩⟩
theorem OpensAll.cons {P:Program} {t:TypeId} {ts:List TypeId} {α β:Type} {f:α->AV} {ok:α->Prop} {g:β->List AV} {ok':β->Prop} (h:OpensArg P t f ok) (h':OpensAll P ts g ok'):
  OpensAll P (t::ts) (fun p:α×β=>f p.1::g p.2) (fun p=>ok p.1∧ok' p.2):=
 ⟨fun H enc W base vs ds ps hv ht hw=>by
  obtain⟨v,vs',d,ds',p,q,rfl,rfl,rfl,h0,h1⟩:=trodAll_cons ht;obtain⟨y,hy,hR⟩:=h.op H enc W base v d p (hv 0 _ _ rfl rfl) h0 fun n hn=>hw n (by simp [DataW.weightsEach,hn]);obtain⟨z,hz,hl,hRz⟩:=h'.op H enc W base vs' ds' q (fun j t v h1 h2=>hv (j+1) t v (by simpa using h1) (by simpa using h2)) h1 fun n hn=>hw n (by simp [DataW.weightsEach,hn]);refine⟨(y,z),⟨hy,hz⟩,by simp [hl],fun i c v hi hv=> ?_⟩
  match i with
  |0=>simp at hi hv;subst hi;subst hv;exact hR
  |i+1=>exact hRz i c v (by simpa using hi) (by simpa using hv)⟩
theorem Xpr {H:Type} {enc:TypeId×Value->H} {P:Program} (hl:laidOutB P=true) {W W':World} (hb:Below W.heap.size W W') {sp:Nat->Bool}:∀{ts:List TypeId} {vs:List Value} {ds:List (DataW H)} {ps:List MemPlace},
  (∀t,t∈ts->P.readableRec t=true∧t<P.types.size)->DataW.TrodAll enc P W 0 (fun _=>true) true ts vs ds ps->(∀x∈ps,x.block<W.heap.size)->(∀x∈ps,sp x.block=true)->DataW.TrodAll enc P W' 0 sp true ts vs ds ps
 |[],vs,ds,ps,_,h,_,_=>by obtain⟨rfl,rfl,rfl⟩:=trodAll_nil h;exact trodAll_mk0
 |t::ts,vs,ds,ps,hts,h,hlt,hsp=>by
  obtain⟨v,vs',d,ds',p,q,rfl,rfl,rfl,h0,h1⟩:=trodAll_cons h;obtain⟨hr,hrow⟩:=hts t (by simp);exact trodAll_cons_mk (WideElems.Trod_stays hl hr hrow h0 (fun x hx=>hb.same (hlt x (by simp [hx]))) (fun x hx=>hsp x (by simp [hx])))
   (Xpr hl hb (fun t' ht'=>hts t' (by simp [ht'])) h1 (fun x hx=>hlt x (by simp [hx])) (fun x hx=>hsp x (by simp [hx])))
theorem M9 {H:Type} {enc:TypeId×Value->H} {P:Program} {W:World} {base:Nat} {sp:Nat->Bool} {held:Bool}:∀{ts:List TypeId} {vs:List Value} {ds:List (DataW H)} {ps:List MemPlace},
  DataW.TrodAll enc P W base sp held ts vs ds ps->ds.length=ts.length
 |[],vs,ds,ps,h=>by obtain⟨rfl,rfl,rfl⟩:=trodAll_nil h;rfl
 |t::ts,vs,ds,ps,h=>by
  obtain⟨v,vs',d,ds',p,q,rfl,rfl,rfl,h0,h1⟩:=trodAll_cons h;simp [M9 h1]
theorem Xr5 {H:Type} {P:Program}:∀{ts us:List TypeId} {ds gs:List (DataW H)} {n:Nat},n∈DataW.weightsEach P ts ds->n∈DataW.weightsEach P (ts++us) (ds++gs)
 |t::ts,us,d::ds,gs,n,h=>by
  simp only[List.cons_append,DataW.weightsEach,dh] at h⊢;exact h.imp id fun h=>Xr5 h
 |[],_,_,_,_,h=>by simp [DataW.weightsEach] at h
 | _:: _,_,[],_,_,h=>by simp [DataW.weightsEach] at h
theorem Tx {P:Program} {fid:FuncId} {f:Func} {s:ChangeSpec} {α:Type} {g:α->List AV} {ok:α->Prop} (hl:laidOutB P=true) (hpar:∀t,t∈f.params.toList->P.readableRec t=true∧t<P.types.size)
  {tb:TypeId} (hres:f.resultTypes= #[tb]) (htb:P.underlying tb=some .bool) (hvars:s.vars=[]) {ts:List TypeId} (hts:f.params.toList=ts) (O:OpensAll P ts g ok)
  (hspec:∀(H:Type) (ds:List (DataW H)),ds.length=f.params.toList.length->s.fn H ds={results:=[.lit (.bool true)],args:=ds})
  (hlaw:∀y,ok y->Xr P fid (g y) [] (.val (.bool true)) [])
  {H:Type} {enc:TypeId×Value->H} {W:World} {base:Nat} {args:Array Value} {ds gs:List (DataW H)} {before:List MemPlace}
  (hval:∀(j:Nat) t v,f.params[j]? =some t->args[j]? =some v->Value.okWide P W .any base t v)
  (hW:DataW.Whole enc P f.params.toList s.vars false W args.toList ds gs before) {us:List TypeId} (hsz:(DataW.weightsEach P (f.params.toList++us) (ds++gs)).all (· <=reachBytes)=true):
  Calls P fid args W fun e W'=>∃v,e= .returned v∧s.post enc P f false true false false W args v W':=by
 have hW':=hW;obtain⟨p,q,hA,hV,rfl,hfz,hnd⟩:=hW;rw[hvars] at hV;obtain⟨rfl,rfl⟩:=trodVars_none hV;have hds:=M9 hA;have hA2:=hA;rw[hts] at hA2;obtain⟨y,hy,hlen,hR⟩:=O.op H enc W base args.toList ds p (fun j t v h1 h2=>hval j t v (by rw[<- bh,hts];exact h1) (by simpa using h2)) hA2 (fun n hn=>by
  have hall:=az.1 hsz n ?_
  ·simpa using hall
  ·rw[<- hts] at hn;exact Xr5 hn)
 have hc:=hlaw y hy (Mem.start W) 0 args (Inv.start W) ⟨by rw[hlen];simp,fun i c v hi hv=>hR i c v hi (by simpa using hv)⟩ trivial (fun _ _=>rfl) trivial;refine hc.mono fun e W' hD=> ?_;obtain⟨v,rfl,M',hw,hE,hI,_,hv⟩:=hD;have hvb:v= .bool true:=by cases hv;rfl
 subst hvb;have hb:Below W.heap.size W W':=by
  have:=hI.below;rw[hE.base,hw] at this;exact this
 have hf:=hspec H (ds++[]) (by simpa using hds);have hlt:∀x∈p,x.block<W.heap.size:=fun x hx=>hW'.lt x (by simpa using hx);refine⟨_,rfl,ds,[],p++[],[],p,[],hW',?_,?_,?_,hb.frame _,fun h=>by cases h⟩
 ·rw[hf,hres];exact trodAll_mk1 (shut_bool htb _)
 ·rw[hf,a9];exact Xpr hl hb hpar hA hlt (fun x hx=>by simpa using hlt x hx)
 ·rw[hf,hvars];rfl
theorem J8 {P:Program} {t e:TypeId} (ht:P.underlying t=some (.slice e)) (he:P.underlying e=some (.int .u8)) (hsz:P.cellsOf e=1) (hby:0<P.bytesOf e):
  OpensArg P t (fun l:List UInt8=> .sl 1 (Xo l) .sh) (fun l=>l.length<=reachBytes):= .one (Cr ht he hsz hby) (J7 ht)
end Go.VS
