/- The layer of abstract values, joined: VsA. -/
import Derived.WalkKit
import Derived.RangeFuncIn
import Derived.RangeFuncOwn
import Derived.OrdersIn
import Derived.TacticsIn
namespace Go
set_option linter.all false
def ab:=@And.intro
def ac:=@List.length_append
def ad:=@Bool.and_eq_true
def ae:=@List.getElem?_eq_some_iff
def af:=@List.getD_eq_getElem?_getD
def ag:=@List.map_nil
def ah:=@List.getElem?_eq_getElem
def ai:=@List.length_map
def aj:=@List.take_succ_eq_append_getElem
def ak:=@decide_eq_false
def am:=@List.getElem_of_mem
def ao:=@decide_eq_true_eq
def aq:=@List.append_assoc
def ar:=@Bool.eq_iff_iff
def au:=@List.getElem?_append_right
def aw:=@List.map_append
def ax:=@decide_eq_true
def ay:=@List.getElem?_append_left
def az:=@List.all_eq_true
def a7:=@Sem.run_bind
def a8:=@List.getElem_mem
def a9:=@List.append_nil
def ba:=@List.length_take
def bb:=@Option.some.injEq
def bc:=@List.getElem?_take_of_lt
def bf:=@of_decide_eq_true
def bg:=@List.mem_of_find?_eq_some
def bh:=@Array.getElem?_toList
def bi:=@List.take_length
def bj:=@Int.eq_ofNat_of_zero_le
def bk:=@List.map_cons
def bl:=@Bool.false_eq_true
def bm:=@List.mem_take_iff_getElem
def bo:=@Bool.true_and
def bq:=@beq_iff_eq
def br:=@Nat.zero_le
def bt:=@List.length_drop
def bu:=@List.getElem?_drop
def bv:=@List.flatMap_nil
def bw:=@List.flatMap_cons
def bz:=@List.mem_cons_of_mem
def b0:=@List.flatMap_append
def b7:=@of_decide_eq_false
def b9:=@List.getElem?_map
def cd:=@List.drop_eq_getElem_cons
def cj:=@Nat.mul_le_mul_right
def ck:=@Bool.or_eq_true
def cn:=@List.mem_cons
def cu:=@Option.isSome_iff_exists
def cv:=@Bool.eq_false_iff
def cx:=@List.find?_eq_none
def cy:=@List.mem_cons_self
def cz:=@List.eq_nil_of_length_eq_zero
def c8:=@List.contains_iff_mem
def c9:=@Bool.not_eq_true'
def da:=@List.getElem_map
def db:=@List.take_of_length_le
def dc:=@Bool.false_and
def dd:=@List.not_mem_nil
def de:=@UInt8.toNat_ofNat'
def dg:=@List.find?_some
def dh:=@List.mem_append
def di:=@Bool.and_true
def dj:=@Bool.or_eq_false_iff
def dk:=@List.getElem_append_left
def dm:=@Bool.and_false
def dn:=@List.getElem?_eq_none
def dp:=@List.foldl_append
def dq:=@List.mem_range
def dr:=@List.take_append_drop
def dt:=@decide_eq_false_iff_not
def du:=@List.getElem?_of_mem
def dv:=@Classical.byContradiction
def dw:=@List.getElem_append_right
def dx:=@Bool.true_or
def dy:=@Bool.not_true
def dz:=@beq_eq_false_iff_ne
def d7:=@List.getElem?_toArray
def d8:=@Array.getD_eq_getD_getElem?
def d9:=@decide_false
def ec:=@List.getElem?_set_ne
def ed:=@List.mem_of_getElem?
def ee:=@Bool.false_or
def ef:=@eq_false
def eh:=@List.length_pos_iff
def er:=@List.map_congr_left
def es:=@Bool.not_false
def eu:=@List.mem_map
def ew:=@Bool.false_ne_true
def ez:=@List.mem_singleton
def e8:=@decide_true
def e9:=@Nat.succ_mul
def fb:=@Nat.add_one_ne_zero
def fc:=@Array.getElem?_modify
def fe:=@Bool.and_eq_false_iff
def fg:=@BitVec.toNat_ofNat
def fh:=@Nat.eq_zero_or_pos
def fi:=@List.any_eq_false
def fj:=@Array.getElem?_append_right
def fk:=@List.drop_of_length_le
def fm:=@List.getElem?_set_self
def fo:=@Nat.mod_eq_of_lt
def fp:=@decide_eq_decide
def fq:=@Array.getElem?_append_left
def ft:=@Array.getElem?_map
def fu:=@Nat.div_lt_iff_lt_mul
def fv:=@List.findIdx?_eq_some_iff_getElem
def fw:=@List.drop_left'
def fx:=@List.find?_append
def fy:=@List.size_toArray
def f0:=@Array.getElem?_setIfInBounds_ne
def f5:=@List.flatten_append
def f6:=@List.any_eq_true
def f7:=@List.drop_drop
def f8:=@List.drop_length
def f9:=@List.find?_eq_some_iff_getElem
def gc:=@List.getElem?_replicate
def gg:=@Nat.le_add_right
def gr:=@List.map_map
def gt:=@Bool.or_false
def gu:=@Prod.mk.injEq
def gv:=@Array.mem_of_getElem?
def gz:=@List.ext_getElem?
def g9:=@Array.getElem?_setIfInBounds_self_of_lt
def h9:=@List.getElem?_mapIdx
def ia:=@List.ext_getElem
def ib:=@Int.toNat_of_nonneg
def ic:=@List.find?_range_eq_some
def ie:=@List.head?_drop
def ig:=@List.not_any_eq_all_not
def ij:=@List.set_eq_take_append_cons_drop
def ik:=@Bool.and_assoc
def il:=@List.drop_eq_nil_of_le
def im:=@List.set_append_right
def io:=@List.mem_flatMap
def ip:=@List.map_take
def iq:=@List.mem_of_mem_drop
def ir:=@List.take_append_of_le_length
def iu:=@List.any_append
def iv:=@List.mem_filter
def iw:=@Array.toList_append
def ix:=@Array.foldl_toList
def iy:=@Bool.not_eq_false'
def iz:=@List.drop_zero
def i6:=@Nat.mod_lt
def i7:=@Array.size_append
def i8:=@Array.ext'
def i9:=@List.map_set
end Go
namespace Go.VS
set_option linter.all false
open Go Go.RowKit
inductive Md where
 |sh
 |full
 |own (k:Nat)
 |nil
 |nn
inductive AV where
 |val (v:Value)
 |agg (cs:List AV)
 |sl (sz:Nat) (els:List (List AV)) (md:Md)
 |ptr (k off:Nat)
 |bsl (k off len:Nat) (fl:Bool)
 |vsl (k n:Nat)
 |ref (cs:List AV)
 |fn (f:Fn) (caps:List AV)
 |iface (t:TypeId) (x:AV)
 |tup (l:List AV)
 |top
inductive Res where
 |box (e:TypeId) (cs:List AV)
 |row (e:TypeId) (sz n:Nat)
 |vec (e:TypeId) (sz n:Nat) (cs:List AV)
 |dead
 |pin (b:Nat) (o:Obj) (fr:List AV)
def Kt:Option Res->Prop
 |some (.box _ _)=>True
 |some .dead=>True
 | _=>False
def leaf:Value->Prop
 | .agg _=>False
 | .tuple _=>False
 | _=>True
structure Mem where
 w:World
 stb:Nat->Nat->Prop
 β:Nat->Nat
 cap:Nat->Option Nat
 st:Nat->Option Res
 base:World
def Ku (M:Mem) (k n:Nat) (v:Value):Prop:=
 match M.st k with
 |some (.vec _ _ m _)=>n<=m∧(m=n->(n=0∧(∃a,v= .slice a 0 0)∧M.cap k=none)∨∃cap,M.cap k=some cap∧v= .slice (some ⟨M.β k,0,none⟩) n cap)
 |some (.box _ _)=>True
 |some .dead=>True
 | _=>False
def X3k (M:Mem) (md:Md) (sz n:Nat) (a:Addr) (cap:Nat):Prop:=
 match md with
 | .sh=>True
 | .full=>cap=n
 | .nil=>False
 | .nn=>True
 | .own k=>∃e m,M.st k=some (.row e sz m)∧n<=m∧(m=n->cap=0∨(a.off=0∧a.block=M.β k∧M.cap k=some cap))
inductive R (M:Mem):AV->Value->Prop
 |top (v:Value):R M .top v
 |val (v:Value) (h:leaf v):R M (.val v) v
 |agg (cs:List AV) (vs:Array Value) (hl:cs.length=vs.size)
   (hf:∀(i:Nat) (v:Value),vs[i]? =some v->leaf v)
   (hc:∀(i:Nat) (c:AV) (v:Value),cs[i]? =some c->vs[i]? =some v->R M c v):R M (.agg cs) (.agg vs)
 |nil (sz:Nat) (md:Md) (a:Option Addr) (h:md= .nn->a≠none) (h':md= .nil->a=none):R M (.sl sz [] md) (.slice a 0 0)
 |slice (sz:Nat) (els:List (List AV)) (md:Md) (a:Addr) (cap:Nat) (hs:a.spot=none) (hcap:els.length<=cap)
   (hsz:∀row,row∈els->row.length=sz)
   (hst:∀o,o<els.length*sz->M.stb a.block (a.off+o))
   (hc:∀(i j:Nat) (row:List AV) (c:AV) (v:Value),els[i]? =some row->row[j]? =some c→
    M.w.cell? ⟨a.block,a.off+(i*sz+j),none⟩=some v->R M c v)
   (hmd:X3k M md sz els.length a cap):R M (.sl sz els md) (.slice (some a) els.length cap)
 |ptr (k off:Nat) (h:Kt (M.st k)):R M (.ptr k off) (.pointer (some ⟨M.β k,off,none⟩))
 |bsl (k off len cap:Nat) (fl:Bool) (h:Kt (M.st k)) (hc:len<=cap) (hf:fl=true->cap=len):R M (.bsl k off len fl) (.slice (some ⟨M.β k,off,none⟩) len cap)
 |bsl0 (k off:Nat) (a:Option Addr):R M (.bsl k off 0 false) (.slice a 0 0)
 |vsl (k n:Nat) (a:Option Addr) (l c:Nat) (h:Ku M k n (.slice a l c)):R M (.vsl k n) (.slice a l c)
 |ref (cs:List AV) (a:Addr) (hs:a.spot=none) (hst:∀j,j<cs.length->M.stb a.block (a.off+j))
   (hc:∀(j:Nat) (c:AV) (v:Value),cs[j]? =some c->M.w.cell? ⟨a.block,a.off+j,none⟩=some v->R M c v):
   R M (.ref cs) (.pointer (some a))
 |fn (f:Fn) (caps:List AV) (vs:Array Value) (hl:caps.length=vs.size)
   (hc:∀(i:Nat) (c:AV) (v:Value),caps[i]? =some c->vs[i]? =some v->R M c v):R M (.fn f caps) (.func f #[] vs)
 |iface (t:TypeId) (x:AV) (v:Value) (h:R M x v):R M (.iface t x) (.iface t v)
 |tup (l:List AV) (vs:Array Value) (hl:l.length=vs.size)
   (hc:∀(i:Nat) (c:AV) (v:Value),l[i]? =some c->vs[i]? =some v->R M c v):R M (.tup l) (.tuple vs)
structure Ext (M M':Mem):Prop where
 base:M'.base=M.base
 stb:∀b o,M.stb b o->M'.stb b o
 cell:∀b o,M.stb b o->M'.w.cell? ⟨b,o,none⟩=M.w.cell? ⟨b,o,none⟩
 box:∀k,Kt (M.st k)->Kt (M'.st k)∧M'.β k=M.β k
 row:∀k e sz m,M.st k=some (.row e sz m)->∃m',M'.st k=some (.row e sz m')∧m<=m'∧(m'=m->M'.β k=M.β k∧M'.cap k=M.cap k)
 vec:∀k e sz m cs,M.st k=some (.vec e sz m cs)->(∃m' cs',M'.st k=some (.vec e sz m' cs')∧m<=m'∧(m'=m->M'.β k=M.β k∧M'.cap k=M.cap k))∨Kt (M'.st k)
theorem Ext.refl (M:Mem):Ext M M:=
 ⟨rfl,fun _ _ h=>h,fun _ _ _=>rfl,fun _ h=>⟨h,rfl⟩,fun _ _ _ m h=>⟨m,h,Nat.le_refl _,fun _=>⟨rfl,rfl⟩⟩,fun _ _ _ m cs h=> .inl ⟨m,cs,h,Nat.le_refl _,fun _=>⟨rfl,rfl⟩⟩⟩
theorem Ext.trans {A B C:Mem} (h:Ext A B) (k:Ext B C):Ext A C:=by
 refine⟨k.base.trans h.base,fun b o hs=>k.stb b o (h.stb b o hs),fun b o hs=>(k.cell b o (h.stb b o hs)).trans (h.cell b o hs),fun n hn=> ?_,fun n e sz m hn=> ?_,fun n e sz m cs hn=> ?_⟩
 ·have h1:=h.box n hn;have h2:=k.box n h1.1;exact⟨h2.1,h2.2.trans h1.2⟩
 ·obtain⟨m1,e1,l1,q1⟩:=h.row n e sz m hn;obtain⟨m2,e2,l2,q2⟩:=k.row n e sz m1 e1;refine⟨m2,e2,Nat.le_trans l1 l2,fun hm=> ?_⟩;have hm1:m1=m:=by omega
  have hm2:m2=m1:=by omega
  exact⟨(q2 hm2).1.trans (q1 hm1).1,(q2 hm2).2.trans (q1 hm1).2⟩
 ·rcases h.vec n e sz m cs hn with ⟨m1,c1,e1,l1,q1⟩|hb
  ·rcases k.vec n e sz m1 c1 e1 with ⟨m2,c2,e2,l2,q2⟩|hb
   ·refine .inl ⟨m2,c2,e2,Nat.le_trans l1 l2,fun hm=> ?_⟩;have hm1:m1=m:=by omega
    have hm2:m2=m1:=by omega
    exact⟨(q2 hm2).1.trans (q1 hm1).1,(q2 hm2).2.trans (q1 hm1).2⟩
   ·exact .inr hb
  ·exact .inr (k.box n hb).1
theorem X3k.ext {M M':Mem} (e:Ext M M') {md:Md} {sz n:Nat} {a:Addr} {cap:Nat} (h:X3k M md sz n a cap):X3k M' md sz n a cap:=by
 cases md with
 |sh=>trivial
 |full=>exact h
 |nil=>exact h.elim
 |nn=>trivial
 |own k=>
  obtain⟨t,m,h1,h2,h3⟩:=h;obtain⟨m',e1,l1,q1⟩:=e.row k t sz m h1;refine⟨t,m',e1,Nat.le_trans h2 l1,fun hm=> ?_⟩;have hmn:m=n:=by omega
  have hm':m'=m:=by omega
  rcases h3 hmn with h0|⟨p0,p1,p2⟩
  ·exact .inl h0
  ·obtain⟨q2,q3⟩:=q1 hm';exact .inr ⟨p0,p1.trans q2.symm,q3.trans p2⟩
theorem Ku.of_box {M:Mem} {k n:Nat} {v:Value} (h:Kt (M.st k)):Ku M k n v:=by
 unfold Ku;revert h;cases M.st k with
 |none=>exact fun h=>h.elim
 |some r=>cases r<;>intro h<;>first|trivial|exact h.elim
theorem Ku.ext {M M':Mem} (e:Ext M M') {k n:Nat} {v:Value} (h:Ku M k n v):Ku M' k n v:=by
 unfold Ku at h;split at h
 ·rename_i t sz m cs hk;rcases e.vec k t sz m cs hk with ⟨m',cs',hk',hle,hq⟩|hb
  ·unfold Ku;rw[hk'];refine⟨Nat.le_trans h.1 hle,fun hm=> ?_⟩;have hm1:m=n:=by have:=h.1;omega
   obtain⟨q1,q2⟩:=hq (by omega);rcases h.2 hm1 with ⟨h1,h2,h3⟩|⟨cap,h1,h2⟩
   ·exact .inl ⟨h1,h2,q2.trans h3⟩
   ·exact .inr ⟨cap,q2.trans h1,by rw[q1];exact h2⟩
  ·exact .of_box hb
 ·rename_i t cs hk;exact .of_box (e.box k (by rw[hk];trivial)).1
 ·rename_i hk;exact .of_box (e.box k (by rw[hk];trivial)).1
 ·exact h.elim
theorem R.ext {M M':Mem} (e:Ext M M') {x:AV} {v:Value} (h:R M x v):R M' x v:=by
 induction h with
 |top v=>exact .top v
 |val v h=>exact .val v h
 |agg cs vs hl hf hc ih=>exact .agg cs vs hl hf ih
 |nil sz md a h h'=>exact .nil sz md a h h'
 |slice sz els md a cap hs hcap hsz hst hc hmd ih=>
  refine .slice sz els md a cap hs hcap hsz (fun o ho=>e.stb _ _ (hst o ho)) (fun i j row c v hi hj hv=> ?_) (hmd.ext e);refine ih i j row c v hi hj ?_;rw[<- e.cell]
  ·exact hv
  ·have h1:=hsz row (ed hi);have hi':i<els.length:=(ae.1 hi).1;have hj':j<row.length:=(ae.1 hj).1;refine hst _ ?_
   calc i*sz+j<i*sz+sz:=by omega
    _=(i+1)*sz:=by rw[e9]
    _<=els.length*sz:=cj _ hi'
 |ptr k off h=>
  have:=e.box k h;rw[<- this.2];exact .ptr k off this.1
 |bsl k off len cap fl h hc hf=>
  have:=e.box k h;rw[<- this.2];exact .bsl k off len cap fl this.1 hc hf
 |bsl0 k off a=>exact .bsl0 k off a
 |vsl k n a l c h=>exact .vsl k n a l c (h.ext e)
 |ref cs a hs hst hc ih=>
  refine .ref cs a hs (fun j hj=>e.stb _ _ (hst j hj)) (fun j c v hj hv=>ih j c v hj ?_);rw[<- e.cell]
  ·exact hv
  ·exact hst j (ae.1 hj).1
 |fn f caps vs hl hc ih=>exact .fn f caps vs hl ih
 |iface t x v h ih=>exact .iface t x v ih
 |tup l vs hl hc ih=>exact .tup l vs hl ih
def RL (M:Mem) (l:List AV) (vs:Array Value):Prop:=
 l.length=vs.size∧∀(i:Nat) (c:AV) (v:Value),l[i]? =some c->vs[i]? =some v->R M c v
theorem RL.ext {M M':Mem} (e:Ext M M') {l:List AV} {vs:Array Value} (h:RL M l vs):RL M' l vs:=⟨h.1,fun i c v hi hv=>(h.2 i c v hi hv).ext e⟩
def Xum (M:Mem) (b:Nat) (o:Obj) (fr:List AV):Prop:=
 M.w.heap[b]? =some o∧o.isCells=false∧M.base.heap.size<=b∧∀rec,o= .loop rec->RL M fr rec.tmps
theorem Xum.ext {M M':Mem} (e:Ext M M') {b:Nat} {o:Obj} {fr:List AV} (h:Xum M b o fr) (hh:M'.w.heap[b]? =some o):Xum M' b o fr:=
 ⟨hh,h.2.1,by rw[e.base];exact h.2.2.1,fun rec hr=>(h.2.2.2 rec hr).ext e⟩
def Mem.owns (M:Mem) (k:Nat):Prop:=
 match M.st k with
 |some (.box _ _)=>True
 |some (.row _ _ _)=>(M.cap k).isSome
 |some (.vec _ _ _ _)=>(M.cap k).isSome
 | _=>False
structure Inv (M:Mem):Prop where
 below:Below M.base.heap.size M.base M.w
 fin:∃N,∀k,N<=k->M.st k=none
 new:∀k,M.owns k->M.base.heap.size<=M.β k
 inj:∀j k,M.owns j->M.owns k->M.β j=M.β k->j=k
 stb:∀b o,M.stb b o->∃v,M.w.cell? ⟨b,o,none⟩=some v∧leaf v
 box:∀k e cs,M.st k=some (.box e cs)->∃vs:Array Value,M.w.heap[M.β k]? =some (.cells vs e (0,0))∧cs.length<=vs.size∧
  (∀(i:Nat) (v:Value),vs[i]? =some v->leaf v)∧
  (∀(i:Nat) (c:AV) (v:Value),cs[i]? =some c->vs[i]? =some v->R M c v)∧(∀o,¬M.stb (M.β k) o)
 row:∀k e sz m cap,M.st k=some (.row e sz m)->M.cap k=some cap->∃vs:Array Value,M.w.heap[M.β k]? =some (.cells vs e (0,0))∧vs.size=cap*sz∧m<=cap∧
  (∀o,m*sz<=o->¬M.stb (M.β k) o)∧(∀o,o<m*sz->M.stb (M.β k) o)
 pin:∀k b o fr,M.st k=some (.pin b o fr)->Xum M b o fr
 pinj:∀j k b o fr o' fr',M.st j=some (.pin b o fr)->M.st k=some (.pin b o' fr')->j=k
 vec:∀k e sz m cs,M.st k=some (.vec e sz m cs)->cs.length=m*sz∧(M.cap k=none->m=0)∧∀cap,M.cap k=some cap->∃vs:Array Value,M.w.heap[M.β k]? =some (.cells vs e (0,0))∧vs.size=cap*sz∧m<=cap∧
  (∀(i:Nat) (v:Value),vs[i]? =some v->leaf v)∧(∀(i:Nat) (c:AV) (v:Value),cs[i]? =some c->vs[i]? =some v->R M c v)∧(∀o,¬M.stb (M.β k) o)
def Xw (s:Nat->Option Res) (k:Nat) (r:Res):Nat->Option Res:=fun j=>if j=k then some r else s j
def upd (s:Nat->Option Res):List (Nat×Res)->Nat->Option Res
 |[]=>s
 |(k,r)::l=>upd (Xw s k r) l
theorem Xt (s:Nat->Option Res) (k:Nat) (r:Res):Xw s k r k=some r:=by simp [Xw]
theorem Zp (s:Nat->Option Res) {k j:Nat} (r:Res) (h:j≠k):Xw s k r j=s j:=by simp [Xw,h]
theorem Zj (w:World) (o:Obj) (b i:Nat) (h:b<w.heap.size):(w.alloc o).cell? ⟨b,i,none⟩=w.cell? ⟨b,i,none⟩:=
 World.cell?_alloc_lt w o ⟨b,i,none⟩ h
theorem F1 {w:World} {b i:Nat} {v:Value} (h:w.cell? ⟨b,i,none⟩=some v):b<w.heap.size:=
 World.block_lt_of_cell? w ⟨b,i,none⟩ h
theorem Q4 (w:World) (o:Obj):(w.alloc o).heap[w.heap.size]? =some o:=by
 show(w.heap.push o)[w.heap.size]? =some o
 simp
theorem Yv (w:World) (o:Obj) (b:Nat) (h:b<w.heap.size):(w.alloc o).heap[b]? =w.heap[b]? :=Below.heap_alloc w o b h
theorem Yj {w:World} {b i:Nat} {vs:Array Value} {e:TypeId} {fz:Nat×Nat} (h:w.heap[b]? =some (.cells vs e fz)):w.cell? ⟨b,i,none⟩=vs[i]? :=by
 simp [World.cell?,h]
theorem Y3j {w:World} {b:Nat} {o:Obj} (h:w.heap[b]? =some o):b<w.heap.size:=(Array.getElem?_eq_some_iff.1 h).1
section
variable {M:Mem}
theorem Inv.lt_owns (hI:Inv M) {k:Nat} (h:M.owns k):M.β k<M.w.heap.size:=by
 unfold Mem.owns at h;split at h
 ·rename_i e cs hk;obtain⟨vs,hv,_⟩:=hI.box k e cs hk;exact Y3j hv
 ·rename_i e sz m hk;obtain⟨c,hc⟩:=cu.1 h;obtain⟨vs,hv,_⟩:=hI.row k e sz m c hk hc;exact Y3j hv
 ·rename_i e sz m cs hk;obtain⟨c,hc⟩:=cu.1 h;obtain⟨vs,hv,_⟩:=(hI.vec k e sz m cs hk).2.2 c hc;exact Y3j hv
 ·exact h.elim
theorem Inv.lt_stb (hI:Inv M) {b o:Nat} (h:M.stb b o):b<M.w.heap.size:=by
 obtain⟨v,hv,_⟩:=hI.stb b o h;exact F1 hv
theorem Y0 {s:Nat->Option Res} {k j b:Nat} {r:Res} {o:Obj} {fr:List AV} (h:Xw s k r j=some (.pin b o fr)) (hr:r≠ .pin b o fr):s j=some (.pin b o fr):=by
 unfold Xw at h;split at h
 ·injection h with h;exact(hr h).elim
 ·exact h
theorem Yx {s:Nat->Option Res} {k j:Nat} {r:Res} {e:TypeId} {sz m:Nat} {cs:List AV} (h:Xw s k r j=some (.vec e sz m cs)) (hr:∀e sz m cs,r≠ .vec e sz m cs):s j=some (.vec e sz m cs)∧j≠k:=by
 unfold Xw at h;split at h
 ·injection h with h;exact(hr _ _ _ _ h).elim
 ·rename_i hne;exact⟨h,hne⟩
theorem Inv.vec_keep {M':Mem} (hI:Inv M) (ex:Ext M M') {j:Nat} {e:TypeId} {sz m:Nat} {cs:List AV} (hj:M.st j=some (.vec e sz m cs)) (hcap:M'.cap j=M.cap j) (hβ:M'.β j=M.β j)
  (hh:M.owns j->M'.w.heap[M.β j]? =M.w.heap[M.β j]?) (hs:M.owns j->∀o,M'.stb (M.β j) o->M.stb (M.β j) o):
  cs.length=m*sz∧(M'.cap j=none->m=0)∧∀cap,M'.cap j=some cap->∃vs:Array Value,M'.w.heap[M'.β j]? =some (.cells vs e (0,0))∧vs.size=cap*sz∧m<=cap∧
   (∀(i:Nat) (v:Value),vs[i]? =some v->leaf v)∧(∀(i:Nat) (c:AV) (v:Value),cs[i]? =some c->vs[i]? =some v->R M' c v)∧(∀o,¬M'.stb (M'.β j) o):=by
 obtain⟨h1,h2,h3⟩:=hI.vec j e sz m cs hj;refine⟨h1,fun h=>h2 (by rw[<- hcap];exact h),fun cap hc=> ?_⟩;rw[hcap] at hc;have ho:M.owns j:=by simp [Mem.owns,hj,hc]
 obtain⟨vs,g1,g2,g3,g4,g5,g6⟩:=h3 cap hc;exact⟨vs,by rw[hβ,hh ho];exact g1,g2,g3,g4,fun i c v hi hv=>(g5 i c v hi hv).ext ex,fun o hs'=>g6 o (hs ho o (by rw[<- hβ];exact hs'))⟩
theorem Lm (hI:Inv M) {k b:Nat} {o:Obj} {fr:List AV} (h:M.st k=some (.pin b o fr)) {M':Mem} (e:Ext M M') {x:Obj} (hw:M'.w=M.w.alloc x):Xum M' b o fr:=by
 have h1:=hI.pin k b o fr h;exact h1.ext e (by rw[hw];exact(Yv _ _ _ (Y3j h1.1)).trans h1.1)
theorem Bv (hI:Inv M) {k b:Nat} {o:Obj} {fr:List AV} (h:M.st k=some (.pin b o fr)) {M':Mem} (e:Ext M M') {c:Nat} {us:Array Value} {t:TypeId} {fz:Nat×Nat} (hc:M.w.heap[c]? =some (.cells us t fz))
  {vs:Array Value} (hw:M'.w=M.w.setRow c vs):Xum M' b o fr:=by
 have h1:=hI.pin k b o fr h;refine h1.ext e ?_;have hne:b≠c:=by
  rintro rfl;have h2:=h1.1;rw[hc] at h2;injection h2 with h2;have:=h1.2.1;rw[<- h2] at this;cases this
 rw[hw]
 show(M.w.heap.modify c _)[b]? =some o
 rw[fc,if_neg (by omega)];exact h1.1
def Mem.withW (M:Mem) (w':World):Mem:={M with w:=w'}
theorem Ext.withW {w':World} (h:w'.heap=M.w.heap):Ext M (M.withW w'):=
 ⟨rfl,fun _ _ h=>h,fun b o _=>by simp [Mem.withW,World.cell?,h],fun _ h=>⟨h,rfl⟩,fun _ _ _ m h=>⟨m,h,Nat.le_refl _,fun _=>⟨rfl,rfl⟩⟩,fun _ _ _ m cs h=> .inl ⟨m,cs,h,Nat.le_refl _,fun _=>⟨rfl,rfl⟩⟩⟩
theorem Inv.withW (hI:Inv M) {w':World} (h:w'.heap=M.w.heap) (h1:w'.os=M.w.os) (h2:w'.tape=M.w.tape) (h3:w'.output=M.w.output):Inv (M.withW w'):=by
 have e:=Ext.withW (M:=M) h;refine⟨?_,hI.fin,hI.new,hI.inj,fun b o hs=> ?_,fun k t cs hk=> ?_,fun k t sz m c hk hc=> ?_,fun k b o fr hk=> ?_,hI.pinj,fun k t sz m cs hk=>hI.vec_keep e hk rfl rfl (fun _=>by simp [Mem.withW,h]) (fun _ _ h=>h)⟩
 ·have b:=hI.below;exact⟨h1.trans b.os,h2.trans b.tape,h3.trans b.output,by simpa [Mem.withW,h] using b.size,fun k hk=>by simpa [Mem.withW,h] using b.block k hk⟩
 ·obtain⟨v,hv,hl⟩:=hI.stb b o hs;exact⟨v,(e.cell b o hs).trans hv,hl⟩
 ·obtain⟨vs,h1,h2,h3,h4,h5⟩:=hI.box k t cs hk;exact⟨vs,by simpa [Mem.withW,h] using h1,h2,h3,fun i c v hi hv=>(h4 i c v hi hv).ext e,h5⟩
 ·obtain⟨vs,h1,h2⟩:=hI.row k t sz m c hk hc;exact⟨vs,by simpa [Mem.withW,h] using h1,h2⟩
 ·have h1:=hI.pin k b o fr hk;exact h1.ext e (by simpa [Mem.withW,h] using h1.1)
def Mem.newBox (M:Mem) (k:Nat) (e:TypeId) (vs:Array Value) (cs:List AV):Mem:=
 {M with w:=M.w.alloc (.cells vs e),β:=fun j=>if j=k then M.w.heap.size else M.β j,st:=Xw M.st k (.box e cs)}
theorem Ext.newBox (hI:Inv M) {k:Nat} (hk:M.st k=none) (e:TypeId) (vs:Array Value) (cs:List AV):Ext M (M.newBox k e vs cs):=by
 refine⟨rfl,fun _ _ h=>h,fun b o h=> ?_,fun j hj=> ?_,fun j t sz m hj=> ?_,fun j t s m cs hj=>by
  have hne:j≠k:=by rintro rfl;rw[hk] at hj;cases hj
  exact .inl ⟨m,cs,by simp [Mem.newBox,Xw,hne,hj],Nat.le_refl _,fun _=>by simp [Mem.newBox,hne]⟩⟩
 ·exact Zj _ _ _ _ (hI.lt_stb h)
 ·have hne:j≠k:=by rintro rfl;rw[hk] at hj;exact hj
  simp [Mem.newBox,Xw,hne,hj]
 ·have hne:j≠k:=by rintro rfl;rw[hk] at hj;cases hj
  exact⟨m,by simp [Mem.newBox,Xw,hne,hj],Nat.le_refl _,fun _=>by simp [Mem.newBox,hne]⟩
theorem Inv.newBox (hI:Inv M) {k:Nat} (hk:M.st k=none) (e:TypeId) {vs:Array Value} {cs:List AV} (hl:cs.length<=vs.size)
  (hf:∀(i:Nat) (v:Value),vs[i]? =some v->leaf v)
  (hc:∀(i:Nat) (c:AV) (v:Value),cs[i]? =some c->vs[i]? =some v->R M c v):Inv (M.newBox k e vs cs):=by
 have ex:=Ext.newBox hI hk e vs cs;have hown:∀j,j≠k->((M.newBox k e vs cs).owns j↔M.owns j):=fun j hj=>by
  simp [Mem.owns,Mem.newBox,Xw,hj]
 have hβ:∀j,j≠k->(M.newBox k e vs cs).β j=M.β j:=fun j hj=>by simp [Mem.newBox,hj]
 have hβk:(M.newBox k e vs cs).β k=M.w.heap.size:=by simp [Mem.newBox]
 have hsz:=hI.below.size;refine⟨?_,?_,fun j hj=> ?_,fun i j hi hj hij=> ?_,fun b o hs=> ?_,fun j t ds hj=> ?_,fun j t sz m c hj hcap=> ?_,fun j b o fr hj=>Lm hI (Y0 hj (by simp)) ex rfl,fun i j b o fr o' fr' hi hj=>hI.pinj i j b o fr o' fr' (Y0 hi (by simp)) (Y0 hj (by simp)),fun j t sz m cs hj=>hI.vec_keep ex (Yx hj (by simp)).1 rfl (hβ j (Yx hj (by simp)).2) (fun ho=>Yv _ _ _ (hI.lt_owns ho)) (fun _ _ h=>h)⟩
 ·exact hI.below.alloc hsz _
 ·obtain⟨N,hN⟩:=hI.fin;exact⟨max N (k+1),fun j hj=>by
   have:j≠k:=by omega
   simp [Mem.newBox,Xw,this,hN j (by omega)]⟩
 ·by_cases e':j=k
  ·subst e';rw[hβk];exact hsz
  ·rw[hβ j e'];exact hI.new j ((hown j e').1 hj)
 ·by_cases ei:i=k<;>by_cases ej:j=k
  ·omega
  ·subst ei;rw[hβk,hβ j ej] at hij;have:=hI.lt_owns ((hown j ej).1 hj);omega
  ·subst ej;rw[hβk,hβ i ei] at hij;have:=hI.lt_owns ((hown i ei).1 hi);omega
  ·rw[hβ i ei,hβ j ej] at hij;exact hI.inj i j ((hown i ei).1 hi) ((hown j ej).1 hj) hij
 ·obtain⟨v,hv,hl⟩:=hI.stb b o hs;exact⟨v,(ex.cell b o hs).trans hv,hl⟩
 ·by_cases e':j=k
  ·subst e';simp only[Mem.newBox,Xt,bb,Res.box.injEq] at hj;obtain⟨rfl,rfl⟩:=hj;refine⟨vs,by rw[hβk];exact Q4 _ _,hl,hf,fun i c v hi hv=>(hc i c v hi hv).ext ex,fun o ho=> ?_⟩;rw[hβk] at ho;have:=hI.lt_stb ho;omega
  ·rw[hβ j e'];have hj':M.st j=some (.box t ds):=by simpa [Mem.newBox,Xw,e'] using hj
   obtain⟨us,h1,h2,h3,h4,h5⟩:=hI.box j t ds hj';exact⟨us,(Yv _ _ _ (Y3j h1)).trans h1,h2,h3,fun i c v hi hv=>(h4 i c v hi hv).ext ex,h5⟩
 ·have e':j≠k:=by rintro rfl;simp [Mem.newBox,Xt] at hj
  rw[hβ j e'];have hj':M.st j=some (.row t sz m):=by simpa [Mem.newBox,Xw,e'] using hj
  obtain⟨us,h1,h2⟩:=hI.row j t sz m c hj' hcap;exact⟨us,(Yv _ _ _ (Y3j h1)).trans h1,h2⟩
def Mem.newStb (M:Mem) (e:TypeId) (vs:Array Value) (n:Nat):Mem:=
 {M with w:=M.w.alloc (.cells vs e),stb:=fun b o=>M.stb b o∨(b=M.w.heap.size∧o<n)}
theorem Ext.newStb (hI:Inv M) (e:TypeId) (vs:Array Value) (n:Nat):Ext M (M.newStb e vs n):=
 ⟨rfl,fun _ _ h=> .inl h,fun b o h=>Zj _ _ _ _ (hI.lt_stb h),fun _ h=>⟨h,rfl⟩,fun _ _ _ m h=>⟨m,h,Nat.le_refl _,fun _=>⟨rfl,rfl⟩⟩,fun _ _ _ m cs h=> .inl ⟨m,cs,h,Nat.le_refl _,fun _=>⟨rfl,rfl⟩⟩⟩
theorem Inv.newStb (hI:Inv M) (e:TypeId) {vs:Array Value} {n:Nat} (hn:n<=vs.size) (hf:∀(i:Nat) (v:Value),vs[i]? =some v->leaf v):Inv (M.newStb e vs n):=by
 have ex:=Ext.newStb hI e vs n;refine⟨hI.below.alloc hI.below.size _,hI.fin,hI.new,hI.inj,fun b o hs=> ?_,fun j t ds hj=> ?_,fun j t sz m c hj hcap=> ?_,fun j b o fr hj=>Lm hI hj ex rfl,hI.pinj,fun j t sz m cs hj=>hI.vec_keep ex hj rfl rfl (fun ho=>Yv _ _ _ (hI.lt_owns ho)) (fun ho o h=>h.elim id fun h=>by have:=hI.lt_owns ho;omega)⟩
 ·rcases hs with hs|⟨rfl,ho⟩
  ·obtain⟨v,hv,hl⟩:=hI.stb b o hs;exact⟨v,(ex.cell b o hs).trans hv,hl⟩
  ·have ho':o<vs.size:=by omega
   exact⟨vs[o],by show(M.w.alloc _).cell? _= _;rw[Yj (Q4 _ _)];simp [ho'],hf o _ (by simp [ho'])⟩
 ·obtain⟨us,h1,h2,h3,h4,h5⟩:=hI.box j t ds hj;refine⟨us,(Yv _ _ _ (Y3j h1)).trans h1,h2,h3,fun i c v hi hv=>(h4 i c v hi hv).ext ex,fun o ho=> ?_⟩;rcases ho with ho|⟨hb,_⟩
  ·exact h5 o ho
  ·have:=Y3j h1;have hb':M.β j=M.w.heap.size:=hb;omega
 ·obtain⟨us,h1,h2,h3,h4,h5⟩:=hI.row j t sz m c hj hcap;refine⟨us,(Yv _ _ _ (Y3j h1)).trans h1,h2,h3,fun o ho hs=> ?_,fun o ho=> .inl (h5 o ho)⟩;rcases hs with hs|⟨hb,_⟩
  ·exact h4 o ho hs
  ·have:=Y3j h1;have hb':M.β j=M.w.heap.size:=hb;omega
def Mem.setBox (M:Mem) (k:Nat) (e:TypeId) (vs:Array Value) (cs:List AV):Mem:=
 {M with w:=M.w.setRow (M.β k) vs,st:=Xw M.st k (.box e cs)}
theorem Yp {w:World} {b:Nat} {us vs:Array Value} {e:TypeId} (h:w.heap[b]? =some (.cells us e (0,0))):
  (w.setRow b vs).heap[b]? =some (.cells vs e (0,0)):=by
 simp [World.setRow,fc,h]
theorem Yc {w:World} {b c:Nat} {vs:Array Value} (h:c≠b):(w.setRow b vs).heap[c]? =w.heap[c]? :=by
 simp only[World.setRow,fc];rw[if_neg (by omega)]
theorem Um {w:World} {b c i:Nat} {vs:Array Value} (h:c≠b):(w.setRow b vs).cell? ⟨c,i,none⟩=w.cell? ⟨c,i,none⟩:=by
 simp only[World.cell?];rw[Yc h]
theorem Ext.setBox (hI:Inv M) {k:Nat} {e:TypeId} {cs':List AV} (hk:M.st k=some (.box e cs')) (vs:Array Value) (cs:List AV):Ext M (M.setBox k e vs cs):=by
 obtain⟨us,h1,h2,h3,h4,h5⟩:=hI.box k e cs' hk;refine⟨rfl,fun _ _ h=>h,fun b o h=> ?_,fun j hj=> ?_,fun j t sz m hj=> ?_,fun j t s m cs hj=>by
  have hne:j≠k:=by rintro rfl;rw[hk] at hj;cases hj
  exact .inl ⟨m,cs,by simp [Mem.setBox,Xw,hne,hj],Nat.le_refl _,fun _=>by simp [Mem.setBox,hne]⟩⟩
 ·refine Um ?_;rintro rfl;exact h5 o h
 ·by_cases e':j=k
  ·subst e';simp [Mem.setBox,Xw,Kt]
  ·simp [Mem.setBox,Xw,e',hj]
 ·have hne:j≠k:=by rintro rfl;rw[hk] at hj;cases hj
  exact⟨m,by simp [Mem.setBox,Xw,hne,hj],Nat.le_refl _,fun _=>by simp [Mem.setBox]⟩
theorem W6 {B:Nat} {a w:World} (h:Below B a w) {b:Nat} (hb:B<=b) (vs:Array Value):Below B a (w.setRow b vs):=
 h.trans ⟨rfl,rfl,rfl,by simp [World.setRow],fun k hk=>Yc (by omega)⟩
theorem Inv.setBox (hI:Inv M) {k:Nat} {e:TypeId} {cs':List AV} (hk:M.st k=some (.box e cs')) {vs:Array Value} {cs:List AV} (hl:cs.length<=vs.size)
  (hf:∀(i:Nat) (v:Value),vs[i]? =some v->leaf v)
  (hc:∀(i:Nat) (c:AV) (v:Value),cs[i]? =some c->vs[i]? =some v->R M c v):Inv (M.setBox k e vs cs):=by
 have ex:=Ext.setBox hI hk vs cs;have hok:M.owns k:=by simp [Mem.owns,hk]
 have hown:∀j,(M.setBox k e vs cs).owns j↔M.owns j:=fun j=>by
  by_cases e':j=k
  ·subst e';simp [Mem.owns,Mem.setBox,Xw,hk]
  ·simp [Mem.owns,Mem.setBox,Xw,e']
 obtain⟨us,h1,h2,h3,h4,h5⟩:=hI.box k e cs' hk;refine⟨W6 hI.below (hI.new k hok) _,?_,fun j hj=>hI.new j ((hown j).1 hj),fun i j hi hj=>hI.inj i j ((hown i).1 hi) ((hown j).1 hj),fun b o hs=> ?_,fun j t ds hj=> ?_,fun j t sz m c hj hcap=> ?_,fun j b o fr hj=>Bv hI (Y0 hj (by simp)) ex h1 rfl,fun i j b o fr o' fr' hi hj=>hI.pinj i j b o fr o' fr' (Y0 hi (by simp)) (Y0 hj (by simp)),fun j t sz m cs hj=>hI.vec_keep ex (Yx hj (by simp)).1 rfl rfl (fun ho=>Yc fun hb=>(Yx hj (by simp)).2 (hI.inj j k ho hok hb)) (fun _ _ h=>h)⟩
 ·obtain⟨N,hN⟩:=hI.fin;exact⟨max N (k+1),fun j hj=>by
   have:j≠k:=by omega
   simp [Mem.setBox,Xw,this,hN j (by omega)]⟩
 ·obtain⟨v,hv,hl⟩:=hI.stb b o hs;exact⟨v,(ex.cell b o hs).trans hv,hl⟩
 ·by_cases e':j=k
  ·subst e';simp only[Mem.setBox,Xt,bb,Res.box.injEq] at hj;obtain⟨rfl,rfl⟩:=hj;exact⟨vs,Yp h1,hl,hf,fun i c v hi hv=>(hc i c v hi hv).ext ex,h5⟩
  ·have hj':M.st j=some (.box t ds):=by simpa [Mem.setBox,Xw,e'] using hj
   obtain⟨ws,g1,g2,g3,g4,g5⟩:=hI.box j t ds hj';refine⟨ws,(Yc fun hb=>e' ?_).trans g1,g2,g3,fun i c v hi hv=>(g4 i c v hi hv).ext ex,g5⟩;exact hI.inj j k (by simp [Mem.owns,hj']) hok hb
 ·have e':j≠k:=by rintro rfl;simp [Mem.setBox,Xt] at hj
  have hj':M.st j=some (.row t sz m):=by simpa [Mem.setBox,Xw,e'] using hj
  obtain⟨ws,g1,g2⟩:=hI.row j t sz m c hj' hcap;refine⟨ws,(Yc fun hb=>e' ?_).trans g1,g2⟩;have hcap':M.cap j=some c:=hcap;exact hI.inj j k (by simp [Mem.owns,hj',hcap']) hok hb
def Mem.freeze (M:Mem) (k n:Nat):Mem:=
 {M with st:=Xw M.st k .dead,stb:=fun b o=>M.stb b o∨(b=M.β k∧o<n)}
theorem Ext.freeze (M:Mem) {k n:Nat} {e:TypeId} {cs:List AV} (hk:M.st k=some (.box e cs)):Ext M (M.freeze k n):=by
 refine⟨rfl,fun _ _ h=> .inl h,fun _ _ _=>rfl,fun j hj=> ?_,fun j t sz m hj=> ?_,fun j t s m cs hj=>by
  have hne:j≠k:=by rintro rfl;rw[hk] at hj;cases hj
  exact .inl ⟨m,cs,by simp [Mem.freeze,Xw,hne,hj],Nat.le_refl _,fun _=>by simp [Mem.freeze,hne]⟩⟩
 ·by_cases e':j=k
  ·subst e';simp [Mem.freeze,Xw,Kt]
  ·simp [Mem.freeze,Xw,e',hj]
 ·have hne:j≠k:=by rintro rfl;rw[hk] at hj;cases hj
  exact⟨m,by simp [Mem.freeze,Xw,hne,hj],Nat.le_refl _,fun _=>by simp [Mem.freeze]⟩
theorem Inv.freeze (hI:Inv M) {k:Nat} {e:TypeId} {cs:List AV} (hk:M.st k=some (.box e cs)):Inv (M.freeze k cs.length):=by
 have ex:=Ext.freeze M (n:=cs.length) hk;have hok:M.owns k:=by simp [Mem.owns,hk]
 have hown:∀j,(M.freeze k cs.length).owns j->j≠k∧M.owns j:=fun j hj=>by
  by_cases e':j=k
  ·subst e';simp [Mem.owns,Mem.freeze,Xw] at hj
  ·exact⟨e',by simpa [Mem.owns,Mem.freeze,Xw,e'] using hj⟩
 obtain⟨us,h1,h2,h3,h4,h5⟩:=hI.box k e cs hk;refine⟨hI.below,?_,fun j hj=>hI.new j (hown j hj).2,fun i j hi hj=>hI.inj i j (hown i hi).2 (hown j hj).2,fun b o hs=> ?_,fun j t ds hj=> ?_,fun j t sz m c hj hcap=> ?_,fun j b o fr hj=>(hI.pin j b o fr (Y0 hj (by simp))).ext ex (hI.pin j b o fr (Y0 hj (by simp))).1,fun i j b o fr o' fr' hi hj=>hI.pinj i j b o fr o' fr' (Y0 hi (by simp)) (Y0 hj (by simp)),fun j t sz m cs hj=>hI.vec_keep ex (Yx hj (by simp)).1 rfl rfl (fun _=>rfl) (fun ho o h=>h.elim id fun h=>((Yx hj (by simp)).2 (hI.inj j k ho hok h.1)).elim)⟩
 ·obtain⟨N,hN⟩:=hI.fin;exact⟨max N (k+1),fun j hj=>by
   have:j≠k:=by omega
   simp [Mem.freeze,Xw,this,hN j (by omega)]⟩
 ·rcases hs with hs|⟨rfl,ho⟩
  ·exact hI.stb b o hs
  ·have ho':o<us.size:=by omega
   exact⟨us[o],by show M.w.cell? _= _;rw[Yj h1];simp [ho'],h3 o _ (by simp [ho'])⟩
 ·have e':j≠k:=by rintro rfl;simp [Mem.freeze,Xt] at hj
  have hj':M.st j=some (.box t ds):=by simpa [Mem.freeze,Xw,e'] using hj
  obtain⟨ws,g1,g2,g3,g4,g5⟩:=hI.box j t ds hj';refine⟨ws,g1,g2,g3,fun i c v hi hv=>(g4 i c v hi hv).ext ex,fun o ho=> ?_⟩;rcases ho with ho|⟨hb,_⟩
  ·exact g5 o ho
  ·exact e' (hI.inj j k (by simp [Mem.owns,hj']) hok hb)
 ·have e':j≠k:=by rintro rfl;simp [Mem.freeze,Xt] at hj
  have hj':M.st j=some (.row t sz m):=by simpa [Mem.freeze,Xw,e'] using hj
  obtain⟨ws,g1,g2,g3,g4,g5⟩:=hI.row j t sz m c hj' hcap;refine⟨ws,g1,g2,g3,fun o ho hs=> ?_,fun o ho=> .inl (g5 o ho)⟩;rcases hs with hs|⟨hb,_⟩
  ·exact g4 o ho hs
  ·have hcap':M.cap j=some c:=hcap;exact e' (hI.inj j k (by simp [Mem.owns,hj',hcap']) hok hb)
def Mem.newRow (M:Mem) (k:Nat) (e:TypeId) (sz:Nat):Mem:=
 {M with cap:=fun j=>if j=k then none else M.cap j,st:=Xw M.st k (.row e sz 0)}
theorem Ext.newRow (M:Mem) {k:Nat} (hk:M.st k=none) (e:TypeId) (sz:Nat):Ext M (M.newRow k e sz):=by
 refine⟨rfl,fun _ _ h=>h,fun _ _ _=>rfl,fun j hj=> ?_,fun j t s m hj=> ?_,fun j t s m cs hj=>by
  have hne:j≠k:=by rintro rfl;rw[hk] at hj;cases hj
  exact .inl ⟨m,cs,by simp [Mem.newRow,Xw,hne,hj],Nat.le_refl _,fun _=>by simp [Mem.newRow,hne]⟩⟩
 ·have hne:j≠k:=by rintro rfl;rw[hk] at hj;exact hj
  simp [Mem.newRow,Xw,hne,hj]
 ·have hne:j≠k:=by rintro rfl;rw[hk] at hj;cases hj
  exact⟨m,by simp [Mem.newRow,Xw,hne,hj],Nat.le_refl _,fun _=>by simp [Mem.newRow,hne]⟩
theorem Inv.newRow (hI:Inv M) {k:Nat} (hk:M.st k=none) (e:TypeId) (sz:Nat):Inv (M.newRow k e sz):=by
 have ex:=Ext.newRow M hk e sz;have hown:∀j,(M.newRow k e sz).owns j->j≠k∧M.owns j:=fun j hj=>by
  by_cases e':j=k
  ·subst e';simp [Mem.owns,Mem.newRow,Xw] at hj
  ·exact⟨e',by simpa [Mem.owns,Mem.newRow,Xw,e'] using hj⟩
 refine⟨hI.below,?_,fun j hj=>hI.new j (hown j hj).2,fun i j hi hj=>hI.inj i j (hown i hi).2 (hown j hj).2,hI.stb,fun j t ds hj=> ?_,fun j t s m c hj hcap=> ?_,fun j b o fr hj=>(hI.pin j b o fr (Y0 hj (by simp))).ext ex (hI.pin j b o fr (Y0 hj (by simp))).1,fun i j b o fr o' fr' hi hj=>hI.pinj i j b o fr o' fr' (Y0 hi (by simp)) (Y0 hj (by simp)),fun j t sz m cs hj=>hI.vec_keep ex (Yx hj (by simp)).1 (by simp [Mem.newRow,(Yx hj (by simp)).2]) rfl (fun _=>rfl) (fun _ _ h=>h)⟩
 ·obtain⟨N,hN⟩:=hI.fin;exact⟨max N (k+1),fun j hj=>by
   have:j≠k:=by omega
   simp [Mem.newRow,Xw,this,hN j (by omega)]⟩
 ·have e':j≠k:=by rintro rfl;simp [Mem.newRow,Xt] at hj
  have hj':M.st j=some (.box t ds):=by simpa [Mem.newRow,Xw,e'] using hj
  obtain⟨ws,g1,g2,g3,g4,g5⟩:=hI.box j t ds hj';exact⟨ws,g1,g2,g3,fun i c v hi hv=>(g4 i c v hi hv).ext ex,g5⟩
 ·by_cases e':j=k
  ·subst e';simp [Mem.newRow] at hcap
  ·have hj':M.st j=some (.row t s m):=by simpa [Mem.newRow,Xw,e'] using hj
   exact hI.row j t s m c hj' (by simpa [Mem.newRow,e'] using hcap)
def Mem.moveRow (M:Mem) (k:Nat) (e:TypeId) (sz:Nat) (vs:Array Value) (m cap:Nat):Mem:=
 {M with w:=M.w.alloc (.cells vs e),β:=fun j=>if j=k then M.w.heap.size else M.β j,cap:=fun j=>if j=k then some cap else M.cap j,st:=Xw M.st k (.row e sz m),stb:=fun b o=>M.stb b o∨(b=M.w.heap.size∧o<m*sz)}
def Xoz (M:Mem) (k:Nat) (e:TypeId) (sz m:Nat):Prop:=M.st k=none∨∃m',M.st k=some (.row e sz m')∧m'<m
theorem Ext.moveRow (hI:Inv M) {k:Nat} {e:TypeId} {sz m:Nat} (hk:Xoz M k e sz m) (vs:Array Value) (cap:Nat):Ext M (M.moveRow k e sz vs m cap):=by
 refine⟨rfl,fun _ _ h=> .inl h,fun b o h=>Zj _ _ _ _ (hI.lt_stb h),fun j hj=> ?_,fun j t s n hj=> ?_,fun j t s m cs hj=>by
  have hne:j≠k:=by rintro rfl;rcases hk with hk|⟨m',hk,_⟩<;>(rw[hk] at hj;cases hj)
  exact .inl ⟨m,cs,by simp [Mem.moveRow,Xw,hne,hj],Nat.le_refl _,fun _=>by simp [Mem.moveRow,hne]⟩⟩
 ·have hne:j≠k:=by
   rintro rfl;rcases hk with hk|⟨m',hk,_⟩<;>(rw[hk] at hj;exact hj)
  simp [Mem.moveRow,Xw,hne,hj]
 ·by_cases e':j=k
  ·subst e';rcases hk with hk|⟨m',hk,hm⟩
   ·rw[hk] at hj;cases hj
   ·rw[hk] at hj;simp only[bb,Res.row.injEq] at hj;obtain⟨rfl,rfl,rfl⟩:=hj;exact⟨m,by simp [Mem.moveRow,Xw],by omega,fun h=>by omega⟩
  ·exact⟨n,by simp [Mem.moveRow,Xw,e',hj],Nat.le_refl _,fun _=>by simp [Mem.moveRow,e']⟩
theorem Inv.moveRow (hI:Inv M) {k:Nat} {e:TypeId} {sz m:Nat} (hk:Xoz M k e sz m) {vs:Array Value} {cap:Nat} (hv:vs.size=cap*sz) (hm:m<=cap)
  (hf:∀(i:Nat) (v:Value),vs[i]? =some v->leaf v):Inv (M.moveRow k e sz vs m cap):=by
 have ex:=Ext.moveRow hI hk vs cap;have hown:∀j,j≠k->((M.moveRow k e sz vs m cap).owns j↔M.owns j):=fun j hj=>by
  simp [Mem.owns,Mem.moveRow,Xw,hj]
 have hβ:∀j,j≠k->(M.moveRow k e sz vs m cap).β j=M.β j:=fun j hj=>by simp [Mem.moveRow,hj]
 have hβk:(M.moveRow k e sz vs m cap).β k=M.w.heap.size:=by simp [Mem.moveRow]
 have hsz:=hI.below.size;refine⟨hI.below.alloc hsz _,?_,fun j hj=> ?_,fun i j hi hj hij=> ?_,fun b o hs=> ?_,fun j t ds hj=> ?_,fun j t s n c hj hcap=> ?_,fun j b o fr hj=>Lm hI (Y0 hj (by simp)) ex rfl,fun i j b o fr o' fr' hi hj=>hI.pinj i j b o fr o' fr' (Y0 hi (by simp)) (Y0 hj (by simp)),fun j t s n cs hj=>hI.vec_keep ex (Yx hj (by simp)).1 (by simp [Mem.moveRow,(Yx hj (by simp)).2]) (hβ j (Yx hj (by simp)).2) (fun ho=>Yv _ _ _ (hI.lt_owns ho)) (fun ho o h=>h.elim id fun h=>by have:=hI.lt_owns ho;omega)⟩
 ·obtain⟨N,hN⟩:=hI.fin;exact⟨max N (k+1),fun j hj=>by
   have:j≠k:=by omega
   simp [Mem.moveRow,Xw,this,hN j (by omega)]⟩
 ·by_cases e':j=k
  ·subst e';rw[hβk];exact hsz
  ·rw[hβ j e'];exact hI.new j ((hown j e').1 hj)
 ·by_cases ei:i=k<;>by_cases ej:j=k
  ·omega
  ·subst ei;rw[hβk,hβ j ej] at hij;have:=hI.lt_owns ((hown j ej).1 hj);omega
  ·subst ej;rw[hβk,hβ i ei] at hij;have:=hI.lt_owns ((hown i ei).1 hi);omega
  ·rw[hβ i ei,hβ j ej] at hij;exact hI.inj i j ((hown i ei).1 hi) ((hown j ej).1 hj) hij
 ·rcases hs with hs|⟨rfl,ho⟩
  ·obtain⟨v,hv,hl⟩:=hI.stb b o hs;exact⟨v,(ex.cell b o (by exact hs)).trans hv,hl⟩
  ·have ho':o<vs.size:=by
    rw[hv];exact Nat.lt_of_lt_of_le ho (cj _ hm)
   exact⟨vs[o],by show(M.w.alloc _).cell? _= _;rw[Yj (Q4 _ _)];simp [ho'],hf o _ (by simp [ho'])⟩
 ·have e':j≠k:=by rintro rfl;simp [Mem.moveRow,Xt] at hj
  rw[hβ j e'];have hj':M.st j=some (.box t ds):=by simpa [Mem.moveRow,Xw,e'] using hj
  obtain⟨us,h1,h2,h3,h4,h5⟩:=hI.box j t ds hj';refine⟨us,(Yv _ _ _ (Y3j h1)).trans h1,h2,h3,fun i c v hi hv=>(h4 i c v hi hv).ext ex,fun o ho=> ?_⟩;rcases ho with ho|⟨hb,_⟩
  ·exact h5 o ho
  ·have:=Y3j h1;omega
 ·by_cases e':j=k
  ·subst e';have hst:(M.moveRow j e sz vs m cap).st j=some (.row e sz m):=by simp [Mem.moveRow,Xw]
   rw[hst] at hj;simp only[bb,Res.row.injEq] at hj;obtain⟨rfl,rfl,rfl⟩:=hj;have hcc:(M.moveRow j e sz vs m cap).cap j=some cap:=by simp [Mem.moveRow]
   rw[hcc] at hcap;obtain rfl:cap=c:=by injection hcap
   refine⟨vs,by rw[hβk];exact Q4 _ _,hv,hm,fun o ho hs=> ?_,fun o ho=> .inr ⟨hβk,ho⟩⟩;rw[hβk] at hs;rcases hs with hs|⟨_,hlt⟩
   ·have:=hI.lt_stb hs;omega
   ·omega
  ·rw[hβ j e'];have hj':M.st j=some (.row t s n):=by simpa [Mem.moveRow,Xw,e'] using hj
   have hcap':M.cap j=some c:=by simpa [Mem.moveRow,e'] using hcap
   obtain⟨us,h1,h2,h3,h4,h5⟩:=hI.row j t s n c hj' hcap';refine⟨us,(Yv _ _ _ (Y3j h1)).trans h1,h2,h3,fun o ho hs=> ?_,fun o ho=> .inl (h5 o ho)⟩;rcases hs with hs|⟨hb,_⟩
   ·exact h4 o ho hs
   ·have:=Y3j h1;omega
def Mem.growRow (M:Mem) (k:Nat) (e:TypeId) (sz:Nat) (vs:Array Value) (m:Nat):Mem:=
 {M with w:=M.w.setRow (M.β k) vs,st:=Xw M.st k (.row e sz m),stb:=fun b o=>M.stb b o∨(b=M.β k∧o<m*sz)}
theorem Ext.growRow (hI:Inv M) {k:Nat} {e:TypeId} {sz m m' cap:Nat} (hk:M.st k=some (.row e sz m')) (hcap:M.cap k=some cap) (hm:m'<=m)
  {us vs:Array Value} (hu:M.w.heap[M.β k]? =some (.cells us e (0,0)))
  (hsame:∀o,o<m'*sz->vs[o]? =us[o]?):Ext M (M.growRow k e sz vs m):=by
 obtain⟨us',h1,h2,h3,h4,h5⟩:=hI.row k e sz m' cap hk hcap;refine⟨rfl,fun _ _ h=> .inl h,fun b o h=> ?_,fun j hj=> ?_,fun j t s n hj=> ?_,fun j t s m cs hj=>by
  have hne:j≠k:=by rintro rfl;rw[hk] at hj;cases hj
  exact .inl ⟨m,cs,by simp [Mem.growRow,Xw,hne,hj],Nat.le_refl _,fun _=>by simp [Mem.growRow,hne]⟩⟩
 ·by_cases hb:b=M.β k
  ·subst hb;have ho:o<m'*sz:=by
    rcases Nat.lt_or_ge o (m'*sz) with h'|h'
    ·exact h'
    ·exact(h4 o h' h).elim
   show(M.w.setRow _ _).cell? _= _
   rw[Yj (Yp hu),Yj hu,hsame o ho]
  ·exact Um hb
 ·have hne:j≠k:=by rintro rfl;rw[hk] at hj;exact hj
  simp [Mem.growRow,Xw,hne,hj]
 ·by_cases e':j=k
  ·subst e';rw[hk] at hj;simp only[bb,Res.row.injEq] at hj;obtain⟨rfl,rfl,rfl⟩:=hj;exact⟨m,by simp [Mem.growRow,Xw],hm,fun _=>by simp [Mem.growRow]⟩
  ·exact⟨n,by simp [Mem.growRow,Xw,e',hj],Nat.le_refl _,fun _=>by simp [Mem.growRow]⟩
theorem Inv.growRow (hI:Inv M) {k:Nat} {e:TypeId} {sz m m' cap:Nat} (hk:M.st k=some (.row e sz m')) (hcap:M.cap k=some cap) (hm:m'<=m) (hmc:m<=cap)
  {us vs:Array Value} (hu:M.w.heap[M.β k]? =some (.cells us e (0,0))) (hv:vs.size=us.size)
  (hsame:∀o,o<m'*sz->vs[o]? =us[o]?) (hf:∀o v,o<m*sz->m'*sz<=o->vs[o]? =some v->leaf v):Inv (M.growRow k e sz vs m):=by
 have ex:=Ext.growRow hI hk hcap hm hu hsame;have hok:M.owns k:=by simp [Mem.owns,hk,hcap]
 have hown:∀j,(M.growRow k e sz vs m).owns j↔M.owns j:=fun j=>by
  by_cases e':j=k
  ·subst e';simp [Mem.owns,Mem.growRow,Xw,hk]
  ·simp [Mem.owns,Mem.growRow,Xw,e']
 obtain⟨us',h1,h2,h3,h4,h5⟩:=hI.row k e sz m' cap hk hcap;rw[hu] at h1;simp only[bb,Obj.cells.injEq,and_true] at h1;subst h1;refine⟨W6 hI.below (hI.new k hok) _,?_,fun j hj=>hI.new j ((hown j).1 hj),fun i j hi hj=>hI.inj i j ((hown i).1 hi) ((hown j).1 hj),fun b o hs=> ?_,fun j t ds hj=> ?_,fun j t s n c hj hcap'=> ?_,fun j b o fr hj=>Bv hI (Y0 hj (by simp)) ex hu rfl,fun i j b o fr o' fr' hi hj=>hI.pinj i j b o fr o' fr' (Y0 hi (by simp)) (Y0 hj (by simp)),fun j t s n cs hj=>hI.vec_keep ex (Yx hj (by simp)).1 rfl rfl (fun ho=>Yc fun hb=>(Yx hj (by simp)).2 (hI.inj j k ho hok hb)) (fun ho o h=>h.elim id fun h=>((Yx hj (by simp)).2 (hI.inj j k ho hok h.1)).elim)⟩
 ·obtain⟨N,hN⟩:=hI.fin;exact⟨max N (k+1),fun j hj=>by
   have:j≠k:=by omega
   simp [Mem.growRow,Xw,this,hN j (by omega)]⟩
 ·by_cases hs':M.stb b o
  ·obtain⟨v,hv,hl⟩:=hI.stb b o hs';exact⟨v,(ex.cell b o hs').trans hv,hl⟩
  ·rcases hs with hs|⟨rfl,ho⟩
   ·exact absurd hs hs'
   ·have ho':o<vs.size:=by
     rw[hv,h2];exact Nat.lt_of_lt_of_le ho (cj _ hmc)
    have hcell:(M.growRow k e sz vs m).w.cell? ⟨M.β k,o,none⟩=some vs[o]:=by
     show(M.w.setRow _ _).cell? _= _
     rw[Yj (Yp hu)];simp [ho']
    by_cases hlo:m'*sz<=o
    ·exact⟨vs[o],hcell,hf o _ ho hlo (by simp [ho'])⟩
    ·exact absurd (h5 o (by omega)) hs'
 ·have e':j≠k:=by rintro rfl;simp [Mem.growRow,Xt] at hj
  have hj':M.st j=some (.box t ds):=by simpa [Mem.growRow,Xw,e'] using hj
  obtain⟨ws,g1,g2,g3,g4,g5⟩:=hI.box j t ds hj';have hne:M.β j≠M.β k:=fun hb=>e' (hI.inj j k (by simp [Mem.owns,hj']) hok hb);refine⟨ws,(Yc hne).trans g1,g2,g3,fun i c v hi hv=>(g4 i c v hi hv).ext ex,fun o ho=> ?_⟩;rcases ho with ho|⟨hb,_⟩
  ·exact g5 o ho
  ·exact hne hb
 ·by_cases e':j=k
  ·subst e';have hst:(M.growRow j e sz vs m).st j=some (.row e sz m):=by simp [Mem.growRow,Xw]
   rw[hst] at hj;simp only[bb,Res.row.injEq] at hj;obtain⟨rfl,rfl,rfl⟩:=hj;have hcc:(M.growRow j e sz vs m).cap j=some cap:=hcap;rw[hcc] at hcap';obtain rfl:cap=c:=by injection hcap'
   refine⟨vs,Yp hu,by rw[hv,h2],hmc,fun o ho hs=> ?_,fun o ho=> .inr ⟨rfl,ho⟩⟩;rcases hs with hs|⟨_,hlt⟩
   ·exact h4 o (Nat.le_trans (cj _ hm) ho) hs
   ·omega
  ·have hj':M.st j=some (.row t s n):=by simpa [Mem.growRow,Xw,e'] using hj
   have hcap2:M.cap j=some c:=hcap';obtain⟨ws,g1,g2,g3,g4,g5⟩:=hI.row j t s n c hj' hcap2;have hne:M.β j≠M.β k:=fun hb=>e' (hI.inj j k (by simp [Mem.owns,hj',hcap2]) hok hb);refine⟨ws,(Yc hne).trans g1,g2,g3,fun o ho hs=> ?_,fun o ho=> .inl (g5 o ho)⟩;rcases hs with hs|⟨hb,_⟩
   ·exact g4 o ho hs
   ·exact hne hb
end
def holds (s:Nat->Option Res):List (Nat×Option Res)->Prop
 |[]=>True
 |(k,r)::l=>s k=r∧holds s l
theorem Q5 {s:Nat->Option Res} {l:List (Nat×Option Res)}:holds s l↔∀x,x∈l->s x.1=x.2:=by
 induction l with
 |nil=>simp [holds]
 |cons x l ih=>obtain⟨k,r⟩:=x;simp [holds,ih]
def Mc (N:Nat):List (Nat×Res)->Prop
 |[]=>True
 |(k,_)::l=>k<N∧Mc N l
theorem Ht {N:Nat} {l:List (Nat×Res)}:Mc N l↔∀x,x∈l->x.1<N:=by
 induction l with
 |nil=>simp [Mc]
 |cons x l ih=>obtain⟨k,r⟩:=x;simp [Mc,ih]
def Sf (M:Mem) (N:Nat) (gives:List (Nat×Res)) (r:AV) (v:Value) (w':World):Prop:=
 ∃M',M'.w=w'∧Ext M M'∧Inv M'∧(∀k,k<N->M'.st k=upd M.st gives k)∧R M' r v
def Xr (P:Program) (f:FuncId) (args:List AV) (needs:List (Nat×Option Res)) (r:AV) (gives:List (Nat×Res)):Prop:=
 ∀(M:Mem) (N:Nat) (vs:Array Value),Inv M->RL M args vs->holds M.st needs->(∀k,N<=k->M.st k=none)->Mc N gives→
  Calls P f vs M.w fun e w'=>∃v,e= .returned v∧Sf M N gives r v w'
def Y49 (P:Program) (K:Value->World->Prop):Result Next->Prop
 | .ok (.value v) w'=>K v w'
 | .ok .skip w'=>K undef w'
 | .ok (.enter f args) w'=>Calls P f args w' fun e w''=>∃v,e= .returned v∧K v w''
 | .ok (.round l f tmps assign body) w'=>RoundIn Fence.wide 0 P l f tmps assign body w' fun e w''=>∃v,e= .returned v∧K v w''
 | _=>False
abbrev FR (ro:Option Nat):Fence:={fn:=fun _=>True,depth:=none,alive:=false,round:=ro}
theorem Y49.mono {P:Program} {K K':Value->World->Prop} {r:Result Next} (h:Y49 P K r) (hk:∀v w,K v w->K' v w):Y49 P K' r:=by
 cases r with
 |ok n w=>cases n<;>simp only[Y49] at h⊢<;>first|exact hk _ _ h|exact Calls.mono h (fun e w ⟨v,h1,h2⟩=>⟨v,h1,hk _ _ h2⟩)|exact RoundIn.mono h (fun e w ⟨v,h1,h2⟩=>⟨v,h1,hk _ _ h2⟩)
 |halt x w=>exact h
theorem Y49.not_defer {P:Program} {o:Oper} {ρ:Operand->Value} {w:World} {K:Value->World->Prop} (h:Y49 P K ((execOp ρ o).run P w)):∀c,o.op≠ .defer c:=by
 intro c hc;obtain⟨d,op,ty,pos,aft,gd⟩:=o;dsimp only at hc;subst hc;simp only[execOp,a7] at h;generalize (resolve ρ c ty).run P w=r at h;cases r<;>exact h.elim
theorem Y49.wp {P:Program} {ro:Option Nat} {n:Nat} {o:Oper} {a:Act} {w:World} {K:Act->World->Prop} {Q:Exit->Act->World->Prop}
  (h:Y49 P (fun v w'=>K (a.put o.dst v) w') ((execOp a.eval o).run P w)):o.wpIn (FR ro) n P a w K Q:=by
 refine⟨fun _ _=>trivial,?_⟩;rw[Oper.semAt_eq _ _ _ h.not_defer];generalize (execOp a.eval o).run P w=r at*;cases r with
 |ok x w=>
  cases x<;>simp only[Y49,Oper.uponIn] at h⊢<;>first
   |exact h
   |(refine⟨fun h0=>(by cases h0),⟨trivial,fun cs _=> ?_⟩⟩;obtain⟨e,w',fr,⟨v,rfl,h2⟩,hs,hx⟩:=h cs;exact⟨.returned v,w',fr,h2,comesIn_wide.2 hs,hx⟩)
   |(refine⟨fun h0=>(by cases h0),⟨trivial,fun c cs _=> ?_⟩⟩;obtain⟨e,w',⟨v,rfl,h2⟩,hs⟩:=h.2 c cs (room_wide _);exact⟨.returned v,w',h2,hs⟩)
 |halt x w=>exact h.elim
def AOk (P:Program) (o:Oper) (ρA:Operand->AV) (needs:List (Nat×Option Res)) (r:AV) (gives:List (Nat×Res)):Prop:=
 (∀cs b,o.op≠ .select cs b)∧
 ∀(M:Mem) (N:Nat) (ρ:Operand->Value),Inv M->(∀x,x∈o.op.operands->R M (ρA x) (ρ x))->(∀v,ρ (.const v)=v)->(∀f,ρ (.func f)= .func (.func f) #[] #[])→
  holds M.st needs->(∀k,N<=k->M.st k=none)->Mc N gives→
  Y49 P (fun v w'=>Sf M N gives r v w') ((execOp ρ o).run P M.w)
theorem AOk.congr {P:Program} {o:Oper} {ρ ρ':Operand->AV} {needs:List (Nat×Option Res)} {r:AV} {gives:List (Nat×Res)} (h:AOk P o ρ needs r gives)
  (he:∀x,x∈o.op.operands->ρ x=ρ' x):AOk P o ρ' needs r gives:=
 ⟨h.1,fun M N σ hI hx=>h.2 M N σ hI fun x hm=>by rw[he x hm];exact hx x hm⟩
structure AState where
 fr:List AV
 lo:List (Option Res)
 out:Nat->Option Res
 n0:Nat
 n:Nat
 df:List Deferred:=[]
def X0m:Value->Bool
 | .agg _=>false
 | .tuple _=>false
 | _=>true
theorem Uw {v:Value} (h:X0m v=true):leaf v:=by
 cases v<;>first|trivial|cases h
def Yq:Value->AV
 | .slice none 0 0=> .sl 0 [] .nil
 | .agg cs=>if cs.toList.all X0m then .agg (cs.toList.map .val) else .top
 | .tuple _=> .top
 |v=> .val v
def AState.ev (σ:AState):Operand->AV
 | .tmp t=>σ.fr.getD t .top
 | .const v=>Yq v
 | .func f=> .fn (.func f) []
 | .global _=> .top
def AState.look (σ:AState) (k:Nat):Option Res:=if k<σ.n0 then σ.out k else(σ.lo[k - σ.n]?).join
def AState.dom (σ:AState) (k:Nat):Prop:=k<σ.n0∨(σ.n<=k∧k<σ.n+σ.lo.length)
def L2 (σ:AState):List (Nat×Res)->Prop
 |[]=>True
 |(k,_)::l=>σ.dom k∧L2 σ l
theorem Yn {σ:AState} {l:List (Nat×Res)}:L2 σ l↔∀x,x∈l->σ.dom x.1:=by
 induction l with
 |nil=>simp [L2]
 |cons x l ih=>obtain⟨k,r⟩:=x;simp [L2,ih]
def AState.give (σ:AState):List (Nat×Res)->AState
 |[]=>σ
 |(k,r)::l=>AState.give (if k<σ.n0 then{σ with out:=Xw σ.out k r} else{σ with lo:=σ.lo.set (k - σ.n) (some r)}) l
def AState.put (σ:AState) (d:Option Tmp) (x:AV):AState:=
 match d with
 |some t=>{σ with fr:=σ.fr.set t x}
 |none=>σ
def AState.next (σ:AState) (d:Option Tmp) (x:AV) (gives:List (Nat×Res)):AState:=(σ.put d x).give gives
theorem Ux (l:List (Nat×Res)):∀σ:AState,(σ.give l).lo.length=σ.lo.length∧(σ.give l).fr=σ.fr∧(σ.give l).df=σ.df∧(σ.give l).n0=σ.n0∧(σ.give l).n=σ.n:=by
 induction l with
 |nil=>intro σ;exact⟨rfl,rfl,rfl,rfl,rfl⟩
 |cons x l ih=>
  intro σ;obtain⟨k,r⟩:=x;simp only[AState.give];obtain⟨h1,h2,h3,h4,h5⟩:=ih (if k<σ.n0 then{σ with out:=Xw σ.out k r} else{σ with lo:=σ.lo.set (k - σ.n) (some r)});rw[h1,h2,h3,h4,h5];split<;>simp
theorem Wu (l:List (Nat×Res)) (σ:AState):(σ.give l).lo.length=σ.lo.length:=(Ux l σ).1
theorem N7 (l:List (Nat×Res)) (σ:AState):(σ.give l).fr=σ.fr:=(Ux l σ).2.1
theorem Bw (l:List (Nat×Res)) (σ:AState):(σ.give l).df=σ.df:=(Ux l σ).2.2.1
theorem Rm (l:List (Nat×Res)) (σ:AState):(σ.give l).n0=σ.n0:=(Ux l σ).2.2.2.1
theorem Dv (l:List (Nat×Res)) (σ:AState):(σ.give l).n=σ.n:=(Ux l σ).2.2.2.2
theorem X23 (σ:AState) (d:Option Tmp) (x:AV):(σ.put d x).lo=σ.lo:=by cases d<;>rfl
theorem X66 (σ:AState) (d:Option Tmp) (x:AV):(σ.put d x).df=σ.df:=by cases d<;>rfl
theorem Hu (σ:AState) (d:Option Tmp) (x:AV):(σ.put d x).n0=σ.n0:=by cases d<;>rfl
theorem X67 (σ:AState) (d:Option Tmp) (x:AV):(σ.put d x).n=σ.n:=by cases d<;>rfl
theorem Dw (σ:AState) (d:Option Tmp) (x:AV):(σ.put d x).look=σ.look:=by cases d<;>rfl
theorem X3l (σ:AState) (d:Option Tmp) (x:AV) (g:List (Nat×Res)):(σ.next d x g).lo.length=σ.lo.length:=by
 simp only[AState.next];rw[Wu,X23]
theorem N8 (σ:AState) (d:Option Tmp) (x:AV) (g:List (Nat×Res)):(σ.next d x g).n=σ.n:=by
 simp only[AState.next];rw[Dv,X67]
theorem Y7e (σ:AState) (d:Option Tmp) (x:AV) (g:List (Nat×Res)):(σ.next d x g).n0=σ.n0:=by
 simp only[AState.next];rw[Rm,Hu]
theorem Mn (σ:AState) (d:Option Tmp) (x:AV) (g:List (Nat×Res)) (k:Nat):(σ.next d x g).dom k↔σ.dom k:=by
 simp only[AState.dom,X3l,N8,Y7e]
theorem Rn (σ:AState) (d:Option Tmp) (x:AV) (k:Nat):(σ.put d x).dom k↔σ.dom k:=by
 simp only[AState.dom,X23,X67,Hu]
theorem Xpa (σ:AState) (d:Option Tmp) (x:AV) (l:List (Nat×Res)):L2 (σ.put d x) l↔L2 σ l:=by
 rw[Yn,Yn];exact⟨fun h y hy=>(Rn σ d x _).1 (h y hy),fun h y hy=>(Rn σ d x _).2 (h y hy)⟩
theorem Kv (l:List (Nat×Res)):∀(σ:AState),L2 σ l->∀k,σ.dom k->(σ.give l).look k=upd σ.look l k:=by
 induction l with
 |nil=>intro σ _ k _;rfl
 |cons x l ih=>
  intro σ hu k hk;obtain⟨j,r⟩:=x;obtain⟨hj,hu⟩:=hu;simp only[AState.give,upd];have key:∀k,σ.dom k->(if j<σ.n0 then{σ with out:=Xw σ.out j r} else{σ with lo:=σ.lo.set (j - σ.n) (some r)}:AState).look k=Xw σ.look j r k:=by
   intro k hk;by_cases hjn:j<σ.n0
   ·simp only[hjn,if_true,AState.look,Xw];by_cases hkj:k=j
    ·subst hkj;simp [hjn]
    ·simp [hkj]
   ·have hj':σ.n<=j∧j<σ.n+σ.lo.length:=by rcases hj with h|h;exact absurd h hjn;exact h
    simp only[hjn,if_false,AState.look,Xw];by_cases hkj:k=j
    ·subst hkj;simp only[hjn,if_false,if_true];rw[fm (by omega)];rfl
    ·by_cases hkn:k<σ.n0
     ·simp [hkj,hkn]
     ·have hk':σ.n<=k∧k<σ.n+σ.lo.length:=by rcases hk with h|h;exact absurd h hkn;exact h
      simp only[hkn,if_false,hkj];rw[ec (by omega)]
  have hdom:∀m,σ.dom m->(if j<σ.n0 then{σ with out:=Xw σ.out j r} else{σ with lo:=σ.lo.set (j - σ.n) (some r)}:AState).dom m:=by
   intro m hm;split
   ·exact hm
   ·simpa [AState.dom] using hm
  rw[ih _ (Yn.2 fun y hy=>hdom _ (Yn.1 hu y hy)) k (hdom k hk)];have congr:∀(l:List (Nat×Res)) (s s':Nat->Option Res),s k=s' k->upd s l k=upd s' l k:=by
   intro l;induction l with
   |nil=>intro s s' h;exact h
   |cons y l ih=>
    intro s s' h;obtain⟨j,q⟩:=y;simp only[upd];exact ih _ _ (by simp only[Xw];split<;>first|rfl|exact h)
  exact congr l _ _ (key k hk)
structure Sim (M:Mem) (a:Act) (σ:AState):Prop where
 df:a.defers=σ.df
 fr:RL M σ.fr a.tmps
 le:σ.n0<=σ.n
 st:∀k,σ.dom k->M.st k=σ.look k
theorem X6 (σ:AState) (h:σ.n0<=σ.n) (i:Nat):σ.look (σ.n+i)=(σ.lo[i]?).join:=by
 have:¬σ.n+i<σ.n0:=by omega
 simp [AState.look,this]
theorem Xb (σ:AState) {i:Nat} (h:i<σ.lo.length):σ.dom (σ.n+i):= .inr ⟨by omega,by omega⟩
theorem Sim.ev {M:Mem} {a:Act} {σ:AState} (h:Sim M a σ) (x:Operand):R M (σ.ev x) (a.eval x):=by
 cases x with
 |tmp t=>
  simp only[AState.ev,Act.eval];rcases Nat.lt_or_ge t σ.fr.length with ht|ht
  ·have ht':t<a.tmps.size:=by rw[<- h.fr.1];exact ht
   have:=h.fr.2 t σ.fr[t] a.tmps[t] (by simp [ht]) (by simp [ht']);simpa [List.getD,ht,ht'] using this
  ·simp only[List.getD,dn ht,Option.getD_none];exact .top _
 |const v=>
  simp only[AState.ev,Act.eval];unfold Yq;split
  ·exact .nil _ _ none (by intro h;cases h) (fun _=>rfl)
  ·rename_i cs;split
   ·rename_i hl;have hl':∀(i:Nat) (v:Value),cs[i]? =some v->leaf v:=fun i v hv=>
     Uw (az.1 hl v (ed (i:=i) (by simpa using hv)))
    refine .agg _ _ (by simp) hl' fun i c v hi hv=> ?_;simp only[b9,bh,hv,Option.map_some,bb] at hi;subst hi;exact .val v (hl' i v hv)
   ·exact .top _
  ·exact .top _
  ·rename_i h1 h2 h3;exact .val _ (by cases v<;>first|trivial|exact(h2 _ rfl).elim|exact(h3 _ rfl).elim)
 |func f=>exact .fn _ _ _ rfl (fun i c v hi=>by simp at hi)
 |global g=>exact .top _
def Zw (ops:Array Oper) (σ:AState) (o:Oper):Option Bool:=
 match o.guard with
 |none=>some true
 |some (j,want)=>
  match (ops[j]?).bind (·.dst) with
  |some d=>
   match σ.fr[d]? with
   |some (.val (.bool b))=>some (b==want)
   |some (.tup [])=>some false
   | _=>none
  |none=>some false
theorem Sz {M:Mem} {a:Act} {σ:AState} (hs:Sim M a σ) {ops:Array Oper} {o:Oper} {b:Bool} (h:Zw ops σ o=some b):
  Region.wanted o (yielded ops a.tmps)=b:=by
 unfold Zw at h;unfold Region.wanted;cases hg:o.guard with
 |none=>simp only[hg] at h;injection h
 |some g=>
  obtain⟨j,want⟩:=g;simp only[hg] at h
  show(yielded ops a.tmps j==some want)=b
  cases hd:(ops[j]?).bind (·.dst) with
  |none=>
   have hy:yielded ops a.tmps j=none:=by unfold yielded;rw[hd];rfl
   rw[hy];simp only[hd] at h;injection h
  |some d=>
   simp only[hd] at h;cases hx:σ.fr[d]? with
   |none=>simp [hx] at h
   |some x=>
    have hlt:d<a.tmps.size:=by rw[<- hs.fr.1];exact(ae.1 hx).1
    have hR:=hs.fr.2 d x a.tmps[d] hx (by simp [hlt]);have hget:a.tmps[d]? =some a.tmps[d]:=by simp [hlt]
    simp only[hx] at h;split at h
    ·rename_i c e;injection e with e;subst e
     have hy:yielded ops a.tmps j=some c:=by
      unfold yielded;rw[hd,Option.bind_some,hget];generalize a.tmps[d]=v at hR;cases hR;rfl
     rw[hy];injection h
    ·rename_i e;injection e with e;subst e
     have hy:yielded ops a.tmps j=none:=by
      unfold yielded;rw[hd,Option.bind_some,hget];generalize a.tmps[d]=v at hR;cases hR;rfl
     rw[hy];injection h
    ·cases h
def Zf (P:Program) (ops:Array Oper) (RD WR:Nat->Nat->Prop) (i:Nat) (o:Oper) (r:AV) (gives:List (Nat×Res)) (σ:AState):Prop:=
 (Zw ops σ o=some true∧∃needs,AOk P o σ.ev needs r gives∧holds σ.look needs∧L2 σ gives∧(∀x,x∈needs->σ.dom x.1)∧
  (∀x,x∈needs->RD i x.1)∧(∀x,x∈gives->WR i x.1))∨
 (Zw ops σ o=some false∧r= .tup []∧gives=[])
def aOp (P:Program) (ops:Array Oper) (RD WR:Nat->Nat->Prop) (i:Nat) (K:AState->Prop) (σ:AState):Prop:=
 match ops[i]? with
 |none=>K σ
 |some o=>∃r gives,Zf P ops RD WR i o r gives σ∧K (σ.next o.dst r gives)
theorem X0n {P:Program} {ops:Array Oper} {RD WR:Nat->Nat->Prop} {i:Nat} {K K':AState->Prop} {σ:AState} (h:∀σ,K σ->K' σ)
  (hh:aOp P ops RD WR i K σ):aOp P ops RD WR i K' σ:=by
 unfold aOp at*;split
 ·rename_i ho;simp only[ho] at hh;exact h _ hh
 ·rename_i o ho;simp only[ho] at hh;obtain⟨r,g,h1,h2⟩:=hh;exact⟨r,g,h1,h _ h2⟩
theorem RL.put {M M':Mem} {l:List AV} {vs:Array Value} (h:RL M l vs) (e:Ext M M') (t:Nat) {x:AV} {v:Value} (hx:R M' x v):RL M' (l.set t x) (vs.setIfInBounds t v):=by
 refine⟨by simp [h.1],fun i c u hi hu=> ?_⟩;by_cases hit:t=i
 ·subst hit;have h1:t<l.length:=by
   have:=(ae.1 hi).1;simpa using this
  have h2:t<vs.size:=by rw[<- h.1];exact h1
  rw[fm h1] at hi;rw[g9 h2] at hu;injection hi with hi;injection hu with hu
  subst hi;subst hu;exact hx
 ·rw[ec hit] at hi;rw[f0 hit] at hu;exact(h.2 i c u hi hu).ext e
theorem Sim.next {M M':Mem} {a:Act} {σ:AState} (hs:Sim M a σ) (e:Ext M M') {N:Nat} (hN:σ.n+σ.lo.length<=N) (d:Option Tmp) {x:AV} {v:Value} (hx:R M' x v)
  {gives:List (Nat×Res)} (hu:L2 σ gives) (hst:∀k,k<N->M'.st k=upd M.st gives k):Sim M' (a.put d v) (σ.next d x gives):=by
 refine⟨?_,?_,?_,?_⟩
 ·have h1:=hs.df;simp only[AState.next];rw[Bw,X66,<- h1];cases d<;>rfl
 ·simp only[AState.next];rw[N7];cases d with
  |none=>exact hs.fr.ext e
  |some t=>exact hs.fr.put e t hx
 ·rw[Y7e,N8];exact hs.le
 ·intro k hk;rw[Mn] at hk;have hkN:k<N:=by
   have:=hs.le;rcases hk with h|h<;>omega
  rw[hst k hkN];simp only[AState.next];rw[Kv gives (σ.put d x) ((Xpa σ d x gives).2 hu) k ((Rn σ d x k).2 hk),Dw];have key:∀(l:List (Nat×Res)) (s s':Nat->Option Res),s k=s' k->upd s l k=upd s' l k:=by
   intro l;induction l with
   |nil=>intro s s' h;exact h
   |cons y l ih=>
    intro s s' h;obtain⟨j,q⟩:=y;simp only[upd];exact ih _ _ (by simp only[Xw];split<;>first|rfl|exact h)
  exact key gives _ _ (hs.st k hk)
theorem Hv {M:Mem} {a:Act} {σ:AState} (hs:Sim M a σ):∀(needs:List (Nat×Option Res)),(∀x,x∈needs->σ.dom x.1)->holds σ.look needs->holds M.st needs:=by
 intro needs hu h;rw[Q5] at*;intro x hx;rw[hs.st x.1 (hu x hx)];exact h x hx
theorem Xsf {σ:AState} {N:Nat} (hle:σ.n0<=σ.n) (hN:σ.n+σ.lo.length<=N) {g:List (Nat×Res)} (h:L2 σ g):Mc N g:=
 Ht.2 fun x hx=>by rcases Yn.1 h x hx with h|h<;>omega
theorem Ly {P:Program} {ro:Option Nat} {n:Nat} {ops:Array Oper} {RD WR:Nat->Nat->Prop} {i:Nat} {o:Oper} (ho:ops[i]? =some o) {r:AV} {gives:List (Nat×Res)} {M:Mem} {a:Act} {σ:AState}
  (hI:Inv M) (hs:Sim M a σ) (h:Zf P ops RD WR i o r gives σ) {K:Act->World->Prop} {Q:Exit->Act->World->Prop}
  (hK:∀M' v,Ext M M'->Inv M'->Sim M' (a.put o.dst v) (σ.next o.dst r gives)->K (a.put o.dst v) M'.w):wpOpIn (FR ro) n P ops Q i K a M.w:=by
 unfold wpOpIn;simp only[ho];rcases h with ⟨hw,needs,hok,hh,hu,hdm,_,_⟩|⟨hw,rfl,rfl⟩
 ·rw[Sz hs hw];simp only[if_true];refine Y49.wp ?_;obtain⟨N0,hN0⟩:=hI.fin;have:=hok.2 M (max N0 (σ.n+σ.lo.length)) a.eval hI (fun x _=>hs.ev x) (fun _=>rfl) (fun _=>rfl) (Hv hs needs hdm hh) (fun k hk=>hN0 k (by omega)) (Xsf hs.le (by omega) hu);refine this.mono fun v w' ⟨M',hw',hext,hinv,hst,hr⟩=> ?_;subst hw';exact hK M' v hext hinv (hs.next hext (by omega) o.dst hr hu hst)
 ·rw[Sz hs hw];simp only[bl,if_false];refine⟨fun _ _=>trivial,?_⟩;exact hK M undef (Ext.refl M) hI (hs.next (Ext.refl M) (Nat.le_refl _) o.dst (.tup [] #[] rfl (fun i c v hi=>by simp at hi)) trivial (fun k _=>rfl))
def T1 (P:Program) (md:Region.Mode) (ops:Array Oper) (RD WR:Nat->Nat->Prop) (Q:AState->Prop):Nat->Array Bool->AState->Prop
 |0,listed,σ=>Region.ready md ops listed=[]∧Q σ
 |fuel+1,listed,σ=>
  (Region.ready md ops listed=[]->Q σ)∧
  ∀i,i∈Region.ready md ops listed->aOp P ops RD WR i (T1 P md ops RD WR Q fuel (listed.setIfInBounds i true)) σ
def Xq8 (M:Mem) (Q:Exit->AState->Prop) (e:Exit) (a':Act) (w':World):Prop:=
 ∃M' σ',M'.w=w'∧Ext M M'∧Inv M'∧Sim M' a' σ'∧Q e σ'
theorem Pr {P:Program} {ro:Option Nat} {n:Nat} {md:Region.Mode} {ops:Array Oper} {RD WR:Nat->Nat->Prop} {Q:Exit->AState->Prop} {M0:Mem}:∀(fuel:Nat) (listed:Array Bool) (M:Mem) (a:Act) (σ:AState),
  Ext M0 M->Inv M->Sim M a σ->T1 P md ops RD WR (Q .normal) fuel listed σ->wpAnyIn (FR ro) n P md ops (Xq8 M0 Q) fuel listed a M.w
 |0,_,M,_,σ,he,hI,hs,h=>⟨h.1,M,σ,rfl,he,hI,hs,h.2⟩
 |fuel+1,listed,M,a,σ,he,hI,hs,h=>by
  refine⟨fun h0=>⟨M,σ,rfl,he,hI,hs,h.1 h0⟩,fun i hi=> ?_⟩;have h1:=h.2 i hi;obtain⟨_,o,ho,_⟩:=mem_ready.1 hi;unfold aOp at h1;simp only[ho] at h1;obtain⟨r,g,hy,hk⟩:=h1;refine Ly ho hI hs hy fun M' v he' hI' hs'=> ?_;exact Pr fuel _ M' _ _ (he.trans he') hI' hs' hk
inductive Dep (md:Region.Mode) (ops:Array Oper):Nat->Nat->Prop
 |one {j i:Nat} {o:Oper} {e:Edge} (ho:ops[j]? =some o) (he:e∈o.after) (hb:Region.binds md e=true) (hi:e.on=i):Dep md ops j i
 |more {j k i:Nat} (h:Dep md ops j k) (h':Dep md ops k i):Dep md ops j i
def Fa (md:Region.Mode) (ops:Array Oper) (listed:Array Bool):Prop:=
 ∀j o,ops[j]? =some o->listed.getD j false=true->∀e,e∈o.after->Region.binds md e=true->listed.getD e.on false=true
theorem Fa.dep {md:Region.Mode} {ops:Array Oper} {listed:Array Bool} (h:Fa md ops listed) {j i:Nat} (hd:Dep md ops j i) (hj:listed.getD j false=true):listed.getD i false=true:=by
 induction hd with
 |one ho he hb hi=>subst hi;exact h _ _ ho hj _ he hb
 |more _ _ ih1 ih2=>exact ih2 (ih1 hj)
theorem Fa.ready {md:Region.Mode} {ops:Array Oper} {listed:Array Bool} (h:Fa md ops listed) {j i:Nat} (hd:Dep md ops j i) (hj:j∈Region.ready md ops listed):listed.getD i false=true:=by
 induction hd with
 |one ho' he hb hi=>
  obtain⟨_,o,ho,hall⟩:=mem_ready.1 hj;subst hi;rw[ho] at ho';injection ho' with ho';subst ho'
  exact hall _ he hb
 |more _ h' ih1 _=>exact h.dep h' (ih1 hj)
theorem Fa.set {md:Region.Mode} {ops:Array Oper} {listed:Array Bool} (h:Fa md ops listed) {i:Nat} (hi:i∈Region.ready md ops listed):Fa md ops (listed.setIfInBounds i true):=by
 intro j o ho hj e he hb;obtain⟨_,oi,hoi,hall⟩:=mem_ready.1 hi;have up:∀k,listed.getD k false=true->(listed.setIfInBounds i true).getD k false=true:=fun k hk=>getD_set_true hk;by_cases hji:j=i
 ·subst hji;rw[ho] at hoi;injection hoi with hoi;subst hoi
  exact up _ (hall e he hb)
 ·rw[getD_set_ne false (Ne.symm hji)] at hj;exact up _ (h j o ho hj e he hb)
def X5b (md:Region.Mode) (ops:Array Oper) (RD WR:Nat->Nat->Prop):Prop:=
 ∀i j k,i≠j->¬Dep md ops i j->¬Dep md ops j i->WR i k->¬RD j k∧¬WR j k
theorem X3m {σ:AState} {d:Option Tmp} {x:AV} {g:List (Nat×Res)} {y:Operand} (h:∀t,d=some t->y≠ .tmp t):(σ.next d x g).ev y=σ.ev y:=by
 cases y with
 |tmp t=>
  simp only[AState.ev,AState.next];rw[N7];cases d with
  |none=>rfl
  |some u=>
   have hne:u≠t:=fun e=>h u rfl (e▸rfl);simp [AState.put,List.getD,ec hne]
 | _=>rfl
theorem Bz {ops:Array Oper} {σ:AState} {d:Option Tmp} {x:AV} {g:List (Nat×Res)} {o:Oper} (h:∀t,d=some t->t ∉ o.looksAt ops):
  Zw ops (σ.next d x g) o=Zw ops σ o:=by
 unfold Zw;cases hg:o.guard with
 |none=>rfl
 |some gw=>
  obtain⟨j,want⟩:=gw;simp only;cases hd:(ops[j]?).bind (·.dst) with
  |none=>rfl
  |some t=>
   simp only;have:(σ.next d x g).fr[t]? =σ.fr[t]? :=by
    simp only[AState.next];rw[N7];cases d with
    |none=>rfl
    |some u=>
     have hne:u≠t:=fun e=>h u rfl (by subst e;simp [Oper.looksAt,hg,hd]);simp [AState.put,ec hne]
   rw[this]
theorem Hw {σ:AState} {d:Option Tmp} {x:AV} {g:List (Nat×Res)} (hu:L2 σ g) {k:Nat} (hd:σ.dom k) (hk:∀y,y∈g->y.1≠k):(σ.next d x g).look k=σ.look k:=by
 simp only[AState.next];rw[Kv g _ ((Xpa σ d x g).2 hu) k ((Rn σ d x k).2 hd),Dw];have key:∀(l:List (Nat×Res)) (s:Nat->Option Res),(∀y,y∈l->y.1≠k)->upd s l k=s k:=by
  intro l;induction l with
  |nil=>intro s _;rfl
  |cons y l ih=>
   intro s h;obtain⟨j,q⟩:=y;simp only[upd];rw[ih _ (fun y hy=>h y (bz _ hy)),Zp];exact fun e=>h (j,q) (cy ..) e.symm
 exact key g _ hk
theorem Dx (g:List (Nat×Res)):∀(σ:AState) (d:Option Tmp) (x:AV),(σ.give g).put d x=(σ.put d x).give g:=by
 induction g with
 |nil=>intro σ d x;rfl
 |cons y g ih=>
  intro σ d x;obtain⟨k,r⟩:=y;simp only[AState.give];rw[ih]
  congr 1
  rw[Hu];cases d<;>(split<;>rfl)
theorem T2 (σ:AState) {d d':Option Tmp} (x y:AV) (h:∀t,d=some t->d'≠some t):(σ.put d x).put d' y=(σ.put d' y).put d x:=by
 cases d with
 |none=>rfl
 |some t=>
  cases d' with
  |none=>rfl
  |some u=>
   have hne:t≠u:=fun e=>h t rfl (e▸rfl);simp [AState.put,List.set_comm _ _ hne]
theorem Ro (σ:AState) (k j:Nat) (r q:Res) (h:k≠j) (hk':σ.dom k) (hj':σ.dom j):(σ.give [(k,r)]).give [(j,q)]=(σ.give [(j,q)]).give [(k,r)]:=by
 simp only[AState.give];by_cases hk:k<σ.n0<;>by_cases hj:j<σ.n0<;>simp only[hk,hj,if_true,if_false]
 ·congr 1
  funext m;simp only[Xw];by_cases h1:m=j<;>by_cases h2:m=k<;>simp [h1,h2]<;>omega
 ·have a1:σ.n<=k:=by rcases hk' with h|h<;>omega
  have a2:σ.n<=j:=by rcases hj' with h|h<;>omega
  rw[List.set_comm _ _ (by omega)]
theorem Kx (σ:AState) (x:Nat×Res) (l:List (Nat×Res)):σ.give (x::l)=(σ.give [x]).give l:=by
 obtain⟨k,r⟩:=x;rfl
theorem Ky (σ:AState) (l:List (Nat×Res)) (k:Nat):(σ.give l).dom k↔σ.dom k:=by
 simp only[AState.dom,Wu,Dv,Rm]
theorem N9 (σ:AState) (g l:List (Nat×Res)):L2 (σ.give g) l↔L2 σ l:=by
 rw[Yn,Yn];exact⟨fun h y hy=>(Ky σ g _).1 (h y hy),fun h y hy=>(Ky σ g _).2 (h y hy)⟩
theorem Hx:∀(g g':List (Nat×Res)) (σ:AState),L2 σ g->L2 σ g'->(∀x,x∈g->∀y,y∈g'->x.1≠y.1)->(σ.give g).give g'=(σ.give g').give g:=by
 intro g;induction g with
 |nil=>intro g' σ _ _ _;rfl
 |cons x g ih=>
  intro g' σ hg hg' h;have hx:σ.dom x.1:=Yn.1 hg x (cy ..);have hgt:L2 σ g:=Yn.2 fun y hy=>Yn.1 hg y (bz _ hy);rw[Kx,ih g' _ ((N9 σ [x] g).2 hgt) ((N9 σ [x] g').2 hg') (fun y hy z hz=>h y (bz _ hy) z hz),Kx _ x g]
  congr 1
  have h':∀y,y∈g'->x.1≠y.1:=fun y hy=>h x (cy ..) y hy;clear h ih hg hgt;induction g' generalizing σ with
  |nil=>rfl
  |cons y g' ih=>
   have hy:σ.dom y.1:=Yn.1 hg' y (cy ..);have hgt':L2 σ g':=Yn.2 fun z hz=>Yn.1 hg' z (bz _ hz);rw[Kx,Kx σ y g'];obtain⟨k,r⟩:=x;obtain⟨j,q⟩:=y;rw[Ro σ k j r q (h' (j,q) (cy ..)) hx hy];exact ih _ ((N9 σ [(j,q)] g').2 hgt') ((Ky σ [(j,q)] k).2 hx) (fun y hy=>h' y (bz _ hy))
theorem Hy (σ:AState) {d d':Option Tmp} (x y:AV) {g g':List (Nat×Res)} (h:∀t,d=some t->d'≠some t) (h1:L2 σ g) (h2:L2 σ g') (hg:∀x,x∈g->∀y,y∈g'->x.1≠y.1):
  (σ.next d x g).next d' y g'=(σ.next d' y g').next d x g:=by
 simp only[AState.next];rw[Dx,Dx,T2 _ _ _ h,Hx g g' _ ((Xpa _ _ _ _).2 ((Xpa _ _ _ _).2 h1)) ((Xpa _ _ _ _).2 ((Xpa _ _ _ _).2 h2)) hg]
theorem Hz (σ:AState) (d:Option Tmp) (x:AV) (g l:List (Nat×Res)):L2 (σ.next d x g) l↔L2 σ l:=by
 rw[Yn,Yn];exact⟨fun h y hy=>(Mn σ d x g _).1 (h y hy),fun h y hy=>(Mn σ d x g _).2 (h y hy)⟩
theorem Zf.keep {P:Program} {ops:Array Oper} {RD WR:Nat->Nat->Prop} {i:Nat} {o:Oper} {r:AV} {g:List (Nat×Res)} {σ:AState}
  {d:Option Tmp} {x:AV} {g':List (Nat×Res)} (hu:L2 σ g') (hd:∀t,d=some t->t ∉ o.looksAt ops) (hg:∀y,y∈g'->¬RD i y.1):
  Zf P ops RD WR i o r g σ↔Zf P ops RD WR i o r g (σ.next d x g'):=by
 have hw:=Bz (ops:=ops) (σ:=σ) (x:=x) (g:=g') (o:=o) hd;have hev:∀y,y∈o.op.operands->(σ.next d x g').ev y=σ.ev y:=fun y hy=>X3m fun t ht e=>by
  subst e;refine hd t ht ?_;unfold Oper.looksAt;exact List.mem_append_left _ (List.mem_filterMap.2 ⟨.tmp t,by simpa using hy,rfl⟩)
 have hl:∀needs:List (Nat×Option Res),(∀y,y∈needs->σ.dom y.1)->(∀y,y∈needs->RD i y.1)->(holds (σ.next d x g').look needs↔holds σ.look needs):=fun needs hdm hn=>by
  rw[Q5,Q5];have:∀y,y∈needs->(σ.next d x g').look y.1=σ.look y.1:=fun y hy=>Hw hu (hdm y hy) fun z hz e=>hg z hz (by rw[e];exact hn y hy);exact⟨fun h y hy=>(this y hy).symm.trans (h y hy),fun h y hy=>(this y hy).trans (h y hy)⟩
 unfold Zf;rw[hw,Hz];simp only[Mn];constructor
 ·rintro(⟨h1,needs,h2,h3,h4,h5,h6,h7⟩|h)
  ·exact .inl ⟨h1,needs,h2.congr fun y hy=>(hev y hy).symm,(hl needs h5 h6).2 h3,h4,h5,h6,h7⟩
  ·exact .inr h
 ·rintro(⟨h1,needs,h2,h3,h4,h5,h6,h7⟩|h)
  ·exact .inl ⟨h1,needs,h2.congr fun y hy=>hev y hy,(hl needs h5 h6).1 h3,h4,h5,h6,h7⟩
  ·exact .inr h
theorem Zf.wr {P:Program} {ops:Array Oper} {RD WR:Nat->Nat->Prop} {i:Nat} {o:Oper} {r:AV} {g:List (Nat×Res)} {σ:AState} (h:Zf P ops RD WR i o r g σ):
  L2 σ g∧∀x,x∈g->WR i x.1:=by
 rcases h with ⟨_,_,_,_,h,_,_,h'⟩|⟨_,_,rfl⟩
 ·exact⟨h,h'⟩
 ·exact⟨trivial,fun x hx=>by simp at hx⟩
theorem X3n {P:Program} {md:Region.Mode} {ops:Array Oper} {RD WR:Nat->Nat->Prop} (hdis:X5b md ops RD WR) {i j:Nat} {oi oj:Oper} {r:AV} {g:List (Nat×Res)}
  (hij:i≠j) (h1:¬Dep md ops i j) (h2:¬Dep md ops j i) (hj:ops[j]? =some oj) (hap:oi.apart ops oj=true) {K:AState->Prop} {σ:AState}
  (hy:Zf P ops RD WR i oi r g σ) (h:aOp P ops RD WR j K (σ.next oi.dst r g)):
  aOp P ops RD WR j (fun σ'=>Zf P ops RD WR i oi r g σ'∧K (σ'.next oi.dst r g)) σ:=by
 obtain⟨a1,a2,a3⟩:=Oper.apart_spec hap;unfold aOp at*;simp only[hj] at*;obtain⟨q,gj,hyj,hK⟩:=h;obtain⟨hui,hwi⟩:=hy.wr;have hyj':Zf P ops RD WR j oj q gj σ:=(Zf.keep hui a1 (fun y hy=>(hdis i j y.1 hij h1 h2 (hwi y hy)).1)).2 hyj;obtain⟨huj,hwj⟩:=hyj'.wr;refine⟨q,gj,hyj',(Zf.keep huj a3 (fun y hy=>(hdis j i y.1 (Ne.symm hij) h2 h1 (hwj y hy)).1)).1 hy,?_⟩;rw[<- Hy σ r q a2 hui huj (fun x hx y hy e=>(hdis i j x.1 hij h1 h2 (hwi x hx)).2 (by rw[e];exact hwj y hy))];exact hK
theorem Zf.aOp {P:Program} {ops:Array Oper} {RD WR:Nat->Nat->Prop} {i:Nat} {o:Oper} {r:AV} {g:List (Nat×Res)} {σ:AState} (hi:ops[i]? =some o)
  (hy:Zf P ops RD WR i o r g σ) {K:AState->Prop} (h:K (σ.next o.dst r g)):VS.aOp P ops RD WR i K σ:=by
 unfold VS.aOp;simp only[hi];exact⟨r,g,hy,h⟩
theorem T3 {P:Program} {md:Region.Mode} {ops:Array Oper} {RD WR:Nat->Nat->Prop} (hdis:X5b md ops RD WR) {Q:AState->Prop} {i:Nat} {oi:Oper} {r:AV} {g:List (Nat×Res)} (hi:ops[i]? =some oi):
  ∀(fuel:Nat) (listed:Array Bool) (σ:AState),Fa md ops listed→
   (∀j oj,ops[j]? =some oj->j≠i->listed.getD j true=false->(∀e∈oj.after,Region.binds md e=true->e.on≠i)->oi.apart ops oj=true)→
   i∈Region.ready md ops listed->Zf P ops RD WR i oi r g σ→
   T1 P md ops RD WR Q fuel (listed.setIfInBounds i true) (σ.next oi.dst r g)->T1 P md ops RD WR Q (fuel+1) listed σ:=by
 intro fuel;induction fuel with
 |zero=>
  intro listed σ _ _ hr hy H;refine⟨fun h=>(by rw[h] at hr;cases hr),fun j hj=> ?_⟩;by_cases hji:j=i
  ·subst hji;exact hy.aOp hi H
  ·have:=ready_mono hj hji;rw[H.1] at this;cases this
 |succ fuel ih=>
  intro listed σ hcl hfree hr hy H;refine⟨fun h=>(by rw[h] at hr;cases hr),fun j hj=> ?_⟩;by_cases hji:j=i
  ·subst hji;exact hy.aOp hi H
  ·have h1:=H.2 j (ready_mono hj hji);obtain⟨hjun,oj,hoj,hall⟩:=mem_ready.1 hj;have unl:∀k,listed.getD k true=false->listed.getD k false=true->False:=fun k h0 h1=>by
    rcases Nat.lt_or_ge k listed.size with h'|h'
    ·simp [h'] at h0 h1;rw[h0] at h1;cases h1
    ·simp [Array.getElem?_eq_none h'] at h1
   have hnot:∀e∈oj.after,Region.binds md e=true->e.on≠i:=fun e he hb heq=>by
    have h1:=hall e he hb;rw[heq] at h1;exact unl i (mem_ready.1 hr).1 h1
   have d1:¬Dep md ops i j:=fun hd=>unl j hjun (hcl.ready hd hr);have d2:¬Dep md ops j i:=fun hd=>unl i (mem_ready.1 hr).1 (hcl.ready hd hj);have h2:=X3n hdis (Ne.symm hji) d1 d2 hoj (hfree j oj hoj hji hjun hnot) hy h1;have hfree':∀k ok,ops[k]? =some ok->k≠i->(listed.setIfInBounds j true).getD k true=false→
     (∀e∈ok.after,Region.binds md e=true->e.on≠i)->oi.apart ops ok=true:=fun k ok hk hki hun hno=>by
    refine hfree k ok hk hki ?_ hno;by_cases hjk:j=k
    ·subst hjk;exact hjun
    ·rw[getD_set_ne true hjk] at hun;exact hun
   refine X0n (fun σ' h3=>ih (listed.setIfInBounds j true) σ' (hcl.set hj) hfree' (ready_mono hr (Ne.symm hji)) h3.1 ?_) h2;rw[Array.setIfInBounds_comm _ _ hji];exact h3.2
def X0o (P:Program) (ops:Array Oper) (RD WR:Nat->Nat->Prop) (K:AState->Prop):Nat->List Oper->AState->Prop
 | _,[],σ=>K σ
 |i,o::rest,σ=>∃r gives,Zf P ops RD WR i o r gives σ∧X0o P ops RD WR K (i+1) rest (σ.next o.dst r gives)
theorem Ps {P:Program} {md:Region.Mode} {ops:Array Oper} {RD WR:Nat->Nat->Prop} (hdis:X5b md ops RD WR) {Q:AState->Prop}:∀(l:List Oper) (k:Nat) (listed:Array Bool) (σ:AState),Fa md ops listed->(∀j,l[j]? =ops[k+j]?)→
  Region.lexFrom md ops l.length k listed=true->X0o P ops RD WR Q k l σ->T1 P md ops RD WR Q l.length listed σ
 |[],_,_,_,_,_,hB,h=>⟨by simpa [Region.lexFrom] using hB,h⟩
 |o::l,k,listed,σ,hcl,hl,hB,h=>by
  have h0:ops[k]? =some o:=by simpa using(hl 0).symm
  simp only[List.length_cons,Region.lexFrom,ad] at hB;obtain⟨⟨hr,hf⟩,hB'⟩:=hB;obtain⟨r,g,hy,hK⟩:=h;have hr':k∈Region.ready md ops listed:=by simpa using hr
  exact T3 hdis h0 l.length listed σ hcl (Region.free_spec h0 hf) hr' hy
   (Ps hdis l (k+1) _ _ (hcl.set hr') (fun j=>by have:=hl (j+1);simpa [Nat.add_assoc,Nat.add_comm 1 j] using this) hB' hK)
def AWp (P:Program) (c:Code) (Q:Exit->AState->Prop) (σ:AState):Prop:=
 ∀(ro:Option Nat) (n:Nat) (M:Mem) (a:Act),Inv M->Sim M a σ->c.wpIn (FR ro) n P (Xq8 M Q) a M.w
section
variable {P:Program} {Q:Exit->AState->Prop} {σ:AState}
theorem Xhj (h:Q .normal σ):AWp P .skip Q σ:=fun _ _ M _ hI hs=>wpIn_skip ⟨M,σ,rfl,Ext.refl M,hI,hs,h⟩
theorem Qi {id:Nat} (h:Q (.exit id) σ):AWp P (.exit id) Q σ:=fun _ _ M _ hI hs=>wpIn_exit ⟨M,σ,rfl,Ext.refl M,hI,hs,h⟩
theorem Yd (h:Q .ret σ):AWp P .ret Q σ:=fun _ _ M _ hI hs=>wpIn_ret ⟨M,σ,rfl,Ext.refl M,hI,hs,h⟩
def Qd (next:AState->Prop) (Q:Exit->AState->Prop):Exit->AState->Prop
 | .normal,σ=>next σ
 |e,σ=>Q e σ
theorem Yfn {x y:Code} (h:AWp P x (Qd (AWp P y Q) Q) σ):AWp P (.seq x y) Q σ:=fun ro n M a hI hs=>by
 refine wpIn_seq (wpIn_mono (h ro n M a hI hs) ?_);rintro e a' w' ⟨M',σ',rfl,he,hI',hs',hq⟩;cases e with
 |normal=>
  refine wpIn_mono (hq ro n M' a' hI' hs') ?_;rintro e a2 w2 ⟨M2,σ2,rfl,he2,hI2,hs2,hq2⟩;exact⟨M2,σ2,rfl,he.trans he2,hI2,hs2,hq2⟩
 | _=>exact⟨M',σ',rfl,he,hI',hs',hq⟩
theorem X9 {x y:Code} (h:∀K:AState->Prop,(∀σ,AWp P y Q σ->K σ)->AWp P x (Qd K Q) σ):AWp P (.seq x y) Q σ:=Yfn (h _ fun _ h=>h)
theorem Rp {c:Operand} {x y:Code} {t:Bool} (hc:σ.ev c= .val (.bool t)) (h:AWp P (if t then x else y) Q σ):AWp P (.cond c x y) Q σ:=fun ro n M a hI hs=>by
 have hr:=hs.ev c;rw[hc] at hr;refine wpIn_cond (t:=t) ?_ (h ro n M a hI hs);generalize a.eval c=v at hr;cases hr;rfl
theorem Wm {c:Operand} {x y:Code} (hc:σ.ev c= .val (.bool true)) (h:AWp P x Q σ):AWp P (.cond c x y) Q σ:=Rp hc h
theorem Uy {c:Operand} {x y:Code} (hc:σ.ev c= .val (.bool false)) (h:AWp P y Q σ):AWp P (.cond c x y) Q σ:=Rp hc h
theorem Uz {c:Operand} {x y:Code} {t:Bool} (hc:σ.ev c= .val (.bool t)) (ht:t=true->AWp P x Q σ) (hf:t=false->AWp P y Q σ):AWp P (.cond c x y) Q σ:=by
 refine Rp hc ?_;cases t
 ·exact hf rfl
 ·exact ht rfl
def Z4 (id:Nat) (Q:Exit->AState->Prop):Exit->AState->Prop
 | .exit id',σ=>if id'=id then Q .normal σ else Q (.exit id') σ
 |e,σ=>Q e σ
theorem Xe {id:Nat} {c:Code} (h:AWp P c (Z4 id Q) σ):AWp P (.block id c) Q σ:=fun ro n M a hI hs=>by
 refine wpIn_block (wpIn_mono (h ro n M a hI hs) ?_);rintro e a' w' ⟨M',σ',h1,h2,h3,h4,hq⟩;cases e with
 |exit id'=>
  simp only[Exit.inBlock,Z4] at hq⊢;split
  ·rename_i hid;rw[if_pos hid] at hq;exact⟨M',σ',h1,h2,h3,h4,hq⟩
  ·rename_i hid;rw[if_neg hid] at hq;exact⟨M',σ',h1,h2,h3,h4,hq⟩
 | _=>exact⟨M',σ',h1,h2,h3,h4,hq⟩
def AState.le (σ σ':AState):Prop:=∀M a,Inv M->Sim M a σ->∃M',M'.w=M.w∧Ext M M'∧Inv M'∧Sim M' a σ'
theorem AState.le_refl (σ:AState):σ.le σ:=fun M _ hI hs=>⟨M,rfl,Ext.refl M,hI,hs⟩
theorem AState.le_trans {σ τ υ:AState} (h:σ.le τ) (k:τ.le υ):σ.le υ:=fun M a hI hs=>by
 obtain⟨M1,e1,x1,i1,s1⟩:=h M a hI hs;obtain⟨M2,e2,x2,i2,s2⟩:=k M1 a i1 s1;exact⟨M2,e2.trans e1,x1.trans x2,i2,s2⟩
theorem Yy {c:Code} {σ':AState} (hle:σ.le σ') (h:AWp P c Q σ'):AWp P c Q σ:=fun ro n M a hI hs=>by
 obtain⟨M',hw,he,hI',hs'⟩:=hle M a hI hs;rw[<- hw];refine wpIn_mono (h ro n M' a hI' hs') ?_;rintro e a2 w2 ⟨M2,σ2,rfl,he2,hI2,hs2,hq2⟩;exact⟨M2,σ2,rfl,he.trans he2,hI2,hs2,hq2⟩
theorem Lz {F:Fence} {n:Nat} {c:Code} {Q:Exit->Act->World->Prop} (I:Nat->Act->World->Prop) {m:Nat} {a:Act} {w:World} (h₀:I m a w)
  (round:∀m a w,I m a w->c.wpIn F n P (Exit.then (fun a' w'=>∃m',m'<m∧I m' a' w') Q) a w):(Code.loop c).wpIn F n P Q a w:=by
 intro b k cs hro hb hr;have key:∀j a w,I j a w→
   ∃e a' w',Q e a' w'∧ArrivesIn (Machine.fenced P F) P (lone (b.atR a (.code c:: .inLoop c::k)) cs w) b k cs e a' w':=by
  intro j;induction j using Nat.strongRecOn with
  | _ j ih=>
   intro a w hI;obtain⟨e,a₁,w₁,hq,harr⟩:=round j a w hI b (.inLoop c::k) cs hro hb hr;cases e with
   |normal=>
    obtain⟨m',hlt,hI₁⟩:=hq;obtain⟨e₂,a₂,w₂,hq₂,harr₂⟩:=ih m' hlt a₁ w₁ hI₁;exact⟨e₂,a₂,w₂,hq₂,.of_steps (StepsIn.trans harr (.one (fenced_calm hb hr rfl) stepR_inLoop)) harr₂⟩
   |exit id=>exact⟨_,a₁,w₁,hq,.pass (x:= .inLoop c) rfl (fun _ _=> .inl (by simp)) harr⟩
   |goto l=>exact⟨_,a₁,w₁,hq,.pass (x:= .inLoop c) rfl (fun _ _=> .inl (by simp)) harr⟩
   |ret=>exact⟨_,a₁,w₁,hq,.pass (x:= .inLoop c) rfl (fun _ _=> .inl (by simp)) harr⟩
   |panic ch=>exact⟨_,a₁,w₁,hq,.pass (x:= .inLoop c) rfl (fun _ _=> .inl (by simp)) harr⟩
   |outgrown=>exact⟨_,a₁,w₁,hq,.pass (x:= .inLoop c) rfl (fun _ _=> .inl (by simp)) harr⟩
 obtain⟨e,a',w',hq,harr⟩:=key _ a w h₀;exact⟨e,a',w',hq,.of_steps (.one (fenced_calm hb hr rfl) stepR_loop) harr⟩
def AState.leSome (σ:AState) (F:Nat->AState):Prop:=∀M a,Inv M->Sim M a σ->∃M' n,M'.w=M.w∧Ext M M'∧Inv M'∧Sim M' a (F n)
theorem AState.le.some {σ:AState} {F:Nat->AState} (n:Nat) (h:σ.le (F n)):σ.leSome F:=fun M a hI hs=>by
 obtain⟨M',h1,h2,h3,h4⟩:=h M a hI hs;exact⟨M',n,h1,h2,h3,h4⟩
theorem AState.le.then {σ τ:AState} {F:Nat->AState} (h:σ.le τ) (k:τ.leSome F):σ.leSome F:=fun M a hI hs=>by
 obtain⟨M1,e1,x1,i1,s1⟩:=h M a hI hs;obtain⟨M2,n,e2,x2,i2,s2⟩:=k M1 a i1 s1;exact⟨M2,n,e2.trans e1,x1.trans x2,i2,s2⟩
theorem AState.leSome.then {σ:AState} {F G:Nat->AState} (h:σ.leSome F) (k:∀n,(F n).leSome G):σ.leSome G:=fun M a hI hs=>by
 obtain⟨M1,n1,e1,x1,i1,s1⟩:=h M a hI hs;obtain⟨M2,n,e2,x2,i2,s2⟩:=k n1 M1 a i1 s1;exact⟨M2,n,e2.trans e1,x1.trans x2,i2,s2⟩
theorem X0p {α:Type} {c:Code} (inv:Nat->α->AState) (ok:α->Prop) (μ:α->Nat) (x0:α) (h0:ok x0) (hle:σ.leSome fun n=>inv n x0)
  (round:∀n x,ok x->AWp P c (Qd (fun σ'=>∃y,ok y∧μ y<μ x∧σ'.leSome fun n=>inv n y) Q) (inv n x)):AWp P (.loop c) Q σ:=fun ro nn M a hI hs=>by
 obtain⟨M',n',hw,he,hI',hs'⟩:=hle M a hI hs;refine Lz (fun m a' w'=>∃x n M',m=μ x∧ok x∧M'.w=w'∧Ext M M'∧Inv M'∧Sim M' a' (inv n x)) (m:=μ x0) ⟨x0,n',M',rfl,h0,hw,he,hI',hs'⟩ ?_;rintro m a' w' ⟨x,n,M1,rfl,hx,rfl,he1,hI1,hs1⟩;refine wpIn_mono (round n x hx ro nn M1 a' hI1 hs1) ?_;rintro e a2 w2 ⟨M2,σ2,rfl,he2,hI2,hs2,hq⟩;cases e with
 |normal=>
  obtain⟨y,hy,hlt,hle2⟩:=hq;obtain⟨M3,n3,hw3,he3,hI3,hs3⟩:=hle2 M2 a2 hI2 hs2;exact⟨μ y,hlt,y,n3,M3,rfl,hy,hw3,(he1.trans he2).trans he3,hI3,hs3⟩
 | _=>exact⟨M2,σ2,rfl,he1.trans he2,hI2,hs2,hq⟩
def RD1:Nat->Nat->Prop:=fun _ _=>True
def WR1:Nat->Nat->Prop:=fun _ _=>True
def WR0:Nat->Nat->Prop:=fun _ _=>False
theorem Wv {ro:Option Nat} {n:Nat} {ops:Array Oper} {RD WR:Nat->Nat->Prop} {M0:Mem}:∀(l:List Oper) (i:Nat) (M:Mem) (a:Act) (σ:AState),(∀j,l[j]? =ops[i+j]?)->Ext M0 M->Inv M->Sim M a σ→
  X0o P ops RD WR (Q .normal) i l σ->wpListIn (FR ro) n P ops (Xq8 M0 Q) l a M.w
 |[],_,M,_,σ,_,he,hI,hs,h=>⟨M,σ,rfl,he,hI,hs,h⟩
 |o::l,i,M,a,σ,hl,he,hI,hs,h=>by
  obtain⟨r,g,hy,hk⟩:=h;have h0:ops[i]? =some o:=by simpa using(hl 0).symm
  have key:=Ly (P:=P) (ro:=ro) (n:=n) h0 hI hs hy (K:=wpListIn (FR ro) n P ops (Xq8 M0 Q) l) (Q:=Xq8 M0 Q) fun M' v he' hI' hs'=>
   Wv l (i+1) M' _ _ (fun j=>by have:=hl (j+1);simpa [Nat.add_assoc,Nat.add_comm 1 j] using this) (he.trans he') hI' hs' hk
  unfold wpOpIn at key;simp only[h0] at key;exact key
theorem F2 {id:Nat} {l:List Oper} (h:X0o P l.toArray RD1 WR1 (Q .normal) 0 l σ):AWp P (.region id l.toArray false) Q σ:=fun ro n M a hI hs=>
 wpIn_region_lit (Wv l 0 M a σ (by simp) (Ext.refl M) hI hs h)
theorem X0q {M:Mem} (hI:Inv M) {a:Act} (hs:Sim M a σ):∃M',M'.w={M.w with drawn:=M.w.drawn+1}∧Ext M M'∧Inv M'∧Sim M' a σ:=
 have e:=Ext.withW (M:=M) (w':={M.w with drawn:=M.w.drawn+1}) rfl
 ⟨M.withW {M.w with drawn:=M.w.drawn+1},rfl,e,hI.withW rfl rfl rfl rfl,hs.df,hs.fr.ext e,hs.le,hs.st⟩
theorem Ub {id:Nat} {l:List Oper} {RD WR:Nat->Nat->Prop} (hm:P.follows .mixedOrders=true) (hB:Region.lexB .any l.toArray=true) (hdis:X5b .any l.toArray RD WR)
  (h:X0o P l.toArray RD WR (Q .normal) 0 l σ):AWp P (.region id l.toArray true) Q σ:=fun ro n M a hI hs=>by
 obtain⟨M',hw,he,hI',hs'⟩:=X0q hI hs;simp only[Region.lexB,ad] at hB;refine wpIn_region_any hm ?_;rw[<- hw];refine Pr (RD:=RD) (WR:=WR) _ _ M' a σ he hI' hs' ?_;have:=Ps hdis l 0 (Array.replicate l.toArray.size false) σ (fun j o _ hj=>by
  have:(Array.replicate l.toArray.size false).getD j false=false:=by
   simp only[d8,Array.getElem?_replicate];split<;>rfl
  rw[this] at hj;cases hj) (by simp) (by simpa using hB.2) h
 simpa using this
theorem Me {id:Nat} {l:List Oper} (hm:P.follows .mixedOrders=true) (hB:Region.lexB .any l.toArray=true)
  (h:X0o P l.toArray RD1 WR0 (Q .normal) 0 l σ):AWp P (.region id l.toArray true) Q σ:=
 Ub hm hB (fun _ _ _ _ _ _ h=>h.elim) h
def Zq (P:Program) (n:Nat) (fn:Func) (out:Nat->Option Res) (gives:List (Nat×Res)) (r:AV):Exit->AState->Prop:=fun e σ=>
 (e= .normal∨e= .ret)∧σ.df=[]∧σ.n0=n∧(∀k,k<n->σ.out k=upd out gives k)∧
  ∀M a,Inv M->Sim M a σ->∃v,(results fn a.tmps).run P M.w= .ok v M.w∧R M r v
theorem T4 {s s':Nat->Option Res} {k:Nat}:∀(l:List (Nat×Res)),s k=s' k->upd s l k=upd s' l k:=by
 intro l;induction l generalizing s s' with
 |nil=>intro h;exact h
 |cons y l ih=>
  intro h;obtain⟨j,q⟩:=y;simp only[upd];exact ih (by simp only[Xw];split<;>first|rfl|exact h)
theorem Kz {f:FuncId} {fn:Func} {c:Code} {args:List AV} {needs:List (Nat×Option Res)} {r:AV} {gives:List (Nat×Res)} (m:Nat)
  (hf:P.funcs[f]? =some fn) (hb:fn.body=some c)
  (h:∀n out,holds out needs->Mc n gives->(∀k,n<=k->out k=none)→
   AWp P c (Zq P n fn out gives r) ⟨args++List.replicate (fn.ntmps - args.length) (.tup []),List.replicate m none,out,n,n,[]⟩):Xr P f args needs r gives:=by
 intro M N vs hI hargs hneeds hN hg;refine calls_of_wp hf hb ?_;have hs:Sim M {tmps:=vs++Array.replicate (fn.ntmps - vs.size) undef,defers:=[]} ⟨args++List.replicate (fn.ntmps - args.length) (.tup []),List.replicate m none,M.st,N,N,[]⟩:=by
  refine⟨rfl,⟨by simp [hargs.1],fun i c v hi hv=> ?_⟩,Nat.le_refl _,fun k hk=> ?_⟩
  ·rcases Nat.lt_or_ge i args.length with h1|h1
   ·rw[ay h1] at hi;rw[fq (by rw[<- hargs.1];exact h1)] at hv;exact hargs.2 i c v hi hv
   ·rw[au h1] at hi;rw[fj (by rw[<- hargs.1];exact h1)] at hv;have hc:c= .tup []:=List.eq_of_mem_replicate (ed hi);have hv':v=undef:=by
     have:=gv hv;simpa using(Array.mem_replicate.1 this).2
    subst hc;subst hv';exact .tup [] #[] rfl (fun i c v hi=>by simp at hi)
  ·simp only[AState.look];split
   ·rfl
   ·rename_i hk';rw[hN k (by omega)];rw[gc];split<;>rfl
 refine wp_mono (wpIn_wide.1 (h N M.st hneeds hg hN none 0 M _ hI hs)) ?_;rintro e a' w' ⟨M',σ',rfl,he,hI',hs',hret,hdf,hn0,hout,hres⟩;obtain⟨v,hv,hr⟩:=hres M' a' hI' hs';have hdone:Sf M N gives r v M'.w:=by
  refine⟨M',rfl,he,hI',fun k hk=> ?_,hr⟩;have hk':k<σ'.n0:=by rw[hn0];exact hk
  rw[hs'.st k (.inl hk')];simp only[AState.look,hk',if_true];exact hout k hk
 rcases hret with rfl|rfl
 ·exact⟨hs'.df.trans hdf,v,hv,v,rfl,hdone⟩
 ·exact⟨hs'.df.trans hdf,v,hv,v,rfl,hdone⟩
theorem Xc {f:FuncId} {fn:Func} {c:Code} {args:List AV} {needs:List (Nat×Option Res)} {r:AV} {gives:List (Nat×Res)} (m:Nat)
  (hf:P.funcs[f]? =some fn) (hb:fn.body=some c)
  (h:∀n out,holds out needs->Mc n gives→
   AWp P c (Zq P n fn out gives r) ⟨args++List.replicate (fn.ntmps - args.length) (.tup []),List.replicate m none,out,n,n,[]⟩):Xr P f args needs r gives:=
 Kz m hf hb fun n out h1 h2 _=>h n out h1 h2
theorem Qv {n:Nat} {fn:Func} {out:Nat->Option Res} {gives:List (Nat×Res)} {r:AV} {t:Tmp} {e:Exit} (he:e= .normal∨e= .ret) (hr:fn.results= #[.tmp t]) (hd:σ.df=[]) (h0:σ.n0=n)
  (ho:∀k,k<n->σ.out k=upd out gives k) (hx:σ.fr.getD t .top=r):Zq P n fn out gives r e σ:=by
 refine⟨he,hd,h0,ho,fun M a _ hs=>⟨_,results_tmp hr _ _ _,?_⟩⟩;have:=hs.ev (.tmp t);simp only[AState.ev,Act.eval] at this;rw[<- hx];exact this
theorem X0r {n:Nat} {fn:Func} {out:Nat->Option Res} {gives:List (Nat×Res)} {r q:AV} {t u:Tmp} {e:Exit} (he:e= .normal∨e= .ret) (hr:fn.results= #[.tmp t,.tmp u]) (hd:σ.df=[]) (h0:σ.n0=n)
  (ho:∀k,k<n->σ.out k=upd out gives k) (hx:σ.fr.getD t .top=r) (hy:σ.fr.getD u .top=q):Zq P n fn out gives (.tup [r,q]) e σ:=by
 refine⟨he,hd,h0,ho,fun M a _ hs=>⟨_,results_tmp2 hr _ _ _,?_⟩⟩;have h1:=hs.ev (.tmp t);have h2:=hs.ev (.tmp u);simp only[AState.ev,Act.eval] at h1 h2;rw[hx] at h1;rw[hy] at h2;refine .tup _ _ rfl fun i c v hi hv=> ?_
 match i,hi,hv with
 |0,hi,hv=>simp at hi hv;subst hi;subst hv;simpa using h1
 |1,hi,hv=>simp at hi hv;subst hi;subst hv;simpa using h2
end
end Go.VS
