/- The layer of abstract values, joined. -/
import Derived.Test.YtgpdghbmiihfbaaGreatZVsView
import Derived.Test.YtgpdghbmiihfbaaGreatZP5
import Derived.Test.YtgpdghbmiihfbaaGreatZS2
import Derived.Test.YtgpdghbmiihfbaaGreatZW14
import Derived.Test.YtgpdghbmiihfbaaGreatZVsDrawF
namespace Go.VS
set_option maxHeartbeats 1000000
open Go Go.RowKit
def Y62 (K:Nat):List (Option Res)->List (Nat×Res)
 |[]=>[]
 |none::l=>Y62 (K+1) l
 |some r::l=>(K,r)::Y62 (K+1) l
def Xev (K:Nat):List (Option Res)->List (Nat×Option Res)
 |[]=>[]
 |none::l=>Xev (K+1) l
 |some _::l=>(K,none)::Xev (K+1) l
def Xfx (K:Nat):List (Option Res)->List (Nat×Option Res)
 |[]=>[]
 |none::l=>Xfx (K+1) l
 |some r::l=>(K,some r)::Xfx (K+1) l
theorem Xwj {l:List (Option Res)}:∀{K:Nat} {x:Nat×Res},x∈Y62 K l↔∃j,l[j]? =some (some x.2)∧x.1=K+j:=by
 induction l with
 |nil=>intro K x;simp [Y62]
 |cons y l ih=>
  intro K x;have key:(∃j,(y::l)[j]? =some (some x.2)∧x.1=K+j)↔(y=some x.2∧x.1=K)∨∃j,l[j]? =some (some x.2)∧x.1=K+1+j:=by
   constructor
   ·rintro⟨j,h1,h2⟩;cases j with
    |zero=>simp at h1;exact .inl ⟨h1,h2⟩
    |succ j=>exact .inr ⟨j,by simpa using h1,by omega⟩
   ·rintro(⟨h1,h2⟩|⟨j,h1,h2⟩)
    ·exact⟨0,by simp [h1],h2⟩
    ·exact⟨j+1,by simpa using h1,by omega⟩
  rw[key,<- ih];cases y with
  |none=>simp [Y62]
  |some r=>obtain⟨a,b⟩:=x;simp [Y62,Prod.ext_iff,and_comm,eq_comm]
theorem Xwk {l:List (Option Res)}:∀{K:Nat} {x:Nat×Option Res},x∈Xev K l↔x.2=none∧∃j r,l[j]? =some (some r)∧x.1=K+j:=by
 induction l with
 |nil=>intro K x;simp [Xev]
 |cons y l ih=>
  intro K x;have key:(∃j r,(y::l)[j]? =some (some r)∧x.1=K+j)↔(y≠none∧x.1=K)∨∃j r,l[j]? =some (some r)∧x.1=K+1+j:=by
   constructor
   ·rintro⟨j,r,h1,h2⟩;cases j with
    |zero=>simp at h1;exact .inl ⟨by simp [h1],h2⟩
    |succ j=>exact .inr ⟨j,r,by simpa using h1,by omega⟩
   ·rintro(⟨h1,h2⟩|⟨j,r,h1,h2⟩)
    ·cases y with
     |none=>exact(h1 rfl).elim
     |some r=>exact⟨0,r,rfl,h2⟩
    ·exact⟨j+1,r,by simpa using h1,by omega⟩
  rw[key];cases y with
  |none=>rw[Xev,ih];simp
  |some r=>
   rw[Xev,bq,ih];obtain⟨a,b⟩:=x;simp only[ji,ne_eq,reduceCtorEq,not_false_eq_true,true_and];constructor
   ·rintro(⟨rfl,rfl⟩|⟨h1,h2⟩)
    ·exact⟨rfl,.inl rfl⟩
    ·exact⟨h1,.inr h2⟩
   ·rintro⟨h1,h2|h2⟩
    ·exact .inl ⟨h2,h1⟩
    ·exact .inr ⟨h1,h2⟩
theorem Xu8 {l:List (Option Res)}:∀{K:Nat} {x:Nat×Option Res},x∈Xfx K l↔∃j r,l[j]? =some (some r)∧x=(K+j,some r):=by
 induction l with
 |nil=>intro K x;simp [Xfx]
 |cons y l ih=>
  intro K x;have key:(∃j r,(y::l)[j]? =some (some r)∧x=(K+j,some r))↔(∃r,y=some r∧x=(K,some r))∨∃j r,l[j]? =some (some r)∧x=(K+1+j,some r):=by
   constructor
   ·rintro⟨j,r,h1,h2⟩;cases j with
    |zero=>simp at h1;exact .inl ⟨r,h1,h2⟩
    |succ j=>exact .inr ⟨j,r,by simpa using h1,by rw[h2,Nat.add_assoc,Nat.add_comm 1]⟩
   ·rintro(⟨r,h1,h2⟩|⟨j,r,h1,h2⟩)
    ·exact⟨0,r,by simp [h1],h2⟩
    ·exact⟨j+1,r,by simpa using h1,by rw[h2,Nat.add_assoc,Nat.add_comm 1]⟩
  rw[key,<- ih];cases y with
  |none=>simp [Xfx]
  |some r=>simp [Xfx]
def ofL (s:Nat->Option Res) (K:Nat) (l:List (Option Res)):Nat->Option Res:=fun k=>if K<=k then(match (l[k - K]?).join with|some r=>some r|none=>s k) else s k
theorem K3 {l:List (Option Res)}:∀{s:Nat->Option Res} {K:Nat},upd s (Y62 K l)=ofL s K l:=by
 induction l with
 |nil=>intro s K;funext k;simp [Y62,upd,ofL]
 |cons y l ih=>
  intro s K;have step:∀(s:Nat->Option Res) (k:Nat),K+1<=k->ofL s (K+1) l k=(match ((y::l)[k - K]?).join with|some r=>some r|none=>s k):=fun s k hk=>by
   unfold ofL;rw[if_pos hk,show k - K=(k - (K+1))+1 from by omega,List.getElem?_cons_succ]
  cases y with
  |none=>
   show upd s (Y62 (K+1) l)= _
   rw[ih];funext k;by_cases h:K+1<=k
   ·rw[step s k h];unfold ofL;rw[if_pos (by omega)]
   ·unfold ofL;rw[if_neg h];by_cases h2:K<=k
    ·have:k=K:=by omega
     subst this;simp
    ·rw[if_neg h2]
  |some r=>
   show upd (Xw s K r) (Y62 (K+1) l)= _
   rw[ih];funext k;by_cases h:K+1<=k
   ·rw[step _ k h,Zp s r (by omega)];unfold ofL;rw[if_pos (by omega)]
   ·unfold ofL;rw[if_neg h];by_cases h2:K<=k
    ·have:k=K:=by omega
     subst this;simp [Xw]
    ·rw[if_neg h2,Zp s r (by omega)]
theorem Xrq {s:Nat->Option Res} {K j:Nat} {l:List (Option Res)} {r:Res} (h:l[j]? =some (some r)):ofL s K l (K+j)=some r:=by
 unfold ofL;rw[if_pos (by omega),Nat.add_sub_cancel_left,h];rfl
theorem Xf6 {s:Nat->Option Res} {K j:Nat} {l:List (Option Res)} (h:l[j]? =some none):ofL s K l (K+j)=s (K+j):=by
 unfold ofL;rw[if_pos (by omega),Nat.add_sub_cancel_left,h];rfl
theorem Xge {s:Nat->Option Res} {K k:Nat} {l:List (Option Res)} (h:k<K∨K+l.length<=k):ofL s K l k=s k:=by
 unfold ofL;split
 ·rw[dz (by omega)];rfl
 ·rfl
theorem Y6k {s:Nat->Option Res} {K j:Nat} {l:List (Option Res)} {r:Res} (h:j<l.length):Xw (ofL s K l) (K+j) r=ofL s K (l.set j (some r)):=by
 funext k;unfold Xw ofL;by_cases hk:k=K+j
 ·subst hk;rw[if_pos rfl,if_pos (by omega),Nat.add_sub_cancel_left,dg h];rfl
 ·rw[if_neg hk];split
  ·rw[cx (by omega)]
  ·rfl
theorem Xfh {s:Nat->Option Res} {K:Nat} {l:List (Option Res)} (h:∀x,x∈l->x=none):ofL s K l=s:=by
 funext k;unfold ofL;split
 ·cases hx:l[k - K]? with
  |none=>rfl
  |some x=>rw[h x (bl hx)];rfl
 ·rfl
theorem K2 {N K:Nat} {l:List (Option Res)} (h:Mc N (Y62 K l)) {j:Nat} {r:Res} (hj:l[j]? =some (some r)):K+j<N:=
 Ht.1 h (K+j,r) (Xwj.2 ⟨j,hj,rfl⟩)
theorem Y4i {s:Nat->Option Res} {K:Nat} {l:List (Option Res)} (h:holds s (Xev K l)) {j:Nat} {r:Res} (hj:l[j]? =some (some r)):s (K+j)=none:=
 Q5.1 h (K+j,none) (Xwk.2 ⟨rfl,j,r,hj,rfl⟩)
theorem Xpz {s:Nat->Option Res} {K:Nat} {l:List (Option Res)} (h:holds s (Xfx K l)) {j:Nat} {r:Res} (hj:l[j]? =some (some r)):s (K+j)=some r:=
 Q5.1 h (K+j,some r) (Xu8.2 ⟨j,r,hj,rfl⟩)
def szL (sz:Nat) (els:List (List AV)):Prop:=∀e,e∈els->e.length=sz
theorem E5 {α:Type} {sz:Nat} {f:α->List AV} (h:∀a,(f a).length=sz) (l:List α):szL sz (l.map f):=fun e he=>by
 obtain⟨a,_,rfl⟩:=dj.1 he;exact h a
theorem Xre {sz:Nat}:∀{els:List (List AV)},szL sz els->els.flatten.length=els.length*sz
 |[],_=>by simp
 |x::l,h=>by
  rw[List.flatten_cons,ac,h x (by simp),Xre fun e he=>h e (by simp [he]),List.length_cons,eq,Nat.add_comm]
theorem Xfi {sz:Nat} {els:List (List AV)} (h:szL sz els):∀(i:Nat),els.flatten.drop (i*sz)=(els.drop i).flatten:=by
 intro i;induction i generalizing els with
 |zero=>simp
 |succ i ih=>
  cases els with
  |nil=>simp
  |cons x l=>
   have hx:=h x (by simp);have hd:(x::l).flatten.drop sz=l.flatten:=by rw[List.flatten_cons,<- hx,jp]
   rw[eq,Nat.add_comm,<- f3,hd,fp];exact ih fun e he=>h e (by simp [he])
theorem Xfj {sz:Nat} {els:List (List AV)} (h:szL sz els) {i:Nat} {x:List AV} (hi:els[i]? =some x):pick true sz (els.flatten.drop (i*sz))=some (.agg x):=by
 obtain⟨hl,he⟩:=ab.1 hi;have hx:=h x (bl hi);rw[Xfi h,dd hl,he,List.flatten_cons];unfold pick;rw[if_pos rfl,if_pos (by simp [hx]),fm (by omega),bo (by omega)]
theorem Hm {sz:Nat} {els:List (List AV)} (h:szL sz els) {i j s:Nat} {x:List AV} {c:AV} (hi:els[i]? =some x) (hj:x[j]? =some c):pick false s (els.flatten.drop (i*sz+j))=some c:=by
 obtain⟨hl,he⟩:=ab.1 hi;obtain⟨hl2,he2⟩:=ab.1 hj;have hx:=h x (bl hi);rw[<- f3,Xfi h,dd hl,he,List.flatten_cons,ic (by omega),dd hl2,he2];rfl
theorem Xgp {sz:Nat} {els:List (List AV)} (h:szL sz els) {i j:Nat} {x:List AV} {c:AV} (hi:els[i]? =some x) (hj:x[j]? =some c):els.flatten[i*sz+j]? =some c:=by
 have:=Hm (s:=0) h hi hj;unfold pick at this;rw[if_neg (by decide),ga] at this;exact this
theorem Xf7 {sz:Nat} {els:List (List AV)} (h:szL sz els) {i:Nat} {x:List AV} (hi:els[i]? =some x):els.flatten=(els.take i).flatten++(x++(els.drop (i+1)).flatten)∧(els.take i).flatten.length=i*sz:=by
 obtain⟨hl,he⟩:=ab.1 hi;refine⟨?_,?_⟩
 ·conv=>lhs;rw[<- f4 i els,es,dd hl,he,List.flatten_cons]
 ·rw[Xre (sz:=sz) fun e he=>h e (fk he),aj,Nat.min_eq_left (by omega)]
theorem Xg6 {els:List (List AV)} {i:Nat} {x y:List AV} (hi:els[i]? =some x):(els.set i y).flatten=(els.take i).flatten++(y++(els.drop (i+1)).flatten):=by
 obtain⟨hl,he⟩:=ab.1 hi;rw[fb,if_pos hl,es,List.flatten_cons]
theorem Xfk {sz:Nat} {els:List (List AV)} (h:szL sz els) {i:Nat} {x y:List AV} (hi:els[i]? =some x) (hy:y.length=sz):Yf els.flatten (i*sz) y=(els.set i y).flatten:=by
 obtain⟨h1,h2⟩:=Xf7 h hi;have hx:=h x (bl hi);rw[Xg6 hi,h1];unfold Yf;rw[<- h2,List.take_left,aw]
 congr 2
 rw[<- f3,jp,hy,<- hx,jp]
theorem Xul {sz:Nat} {els:List (List AV)} (h:szL sz els) {i j:Nat} {x:List AV} {c d:AV} (hi:els[i]? =some x) (hj:x[j]? =some c):Yf els.flatten (i*sz+j) [d]=(els.set i (x.set j d)).flatten:=by
 obtain⟨h1,h2⟩:=Xf7 h hi;obtain⟨hl2,he2⟩:=ab.1 hj;rw[Xg6 hi,h1];unfold Yf;rw[<- h2,ip,bo (by omega),Nat.add_sub_cancel_left,fm (by omega),aw,aw]
 congr 1
 rw[fb,if_pos hl2,aw,List.cons_append]
 congr 1
 show d:: _= _
 congr 1
 rw[show(List.take i els).flatten.length+j+([d]:List AV).length=(List.take i els).flatten.length+(j+1) from by simp;omega,<- f3,jp,ic (by omega)];rfl
def stg {α β:Type} (d:Nat) (f g:Nat->α->β) (l:List α):List β:=l.mapIdx fun i x=>if i<d then f i x else g i x
theorem V8 {α β:Type} (d:Nat) (f g:Nat->α->β) (l:List α):(stg d f g l).length=l.length:=by simp [stg]
theorem Xq0 {α β:Type} (d:Nat) (f g:Nat->α->β) (l:List α) (i:Nat):(stg d f g l)[i]? =l[i]?.map fun x=>if i<d then f i x else g i x:=by simp [stg]
theorem Y3e {α β:Type} {d:Nat} {f g:Nat->α->β} {l:List α} {i:Nat} {x:α} (h:l[i]? =some x) (hi:i<d):(stg d f g l)[i]? =some (f i x):=by rw[Xq0,h,Option.map_some,if_pos hi]
theorem Rf {α β:Type} {d:Nat} {f g:Nat->α->β} {l:List α} {i:Nat} {x:α} (h:l[i]? =some x) (hi:d<=i):(stg d f g l)[i]? =some (g i x):=by rw[Xq0,h,Option.map_some,if_neg (by omega)]
theorem Xuz {α β:Type} {d:Nat} {f g:Nat->α->β} {l:List α} {x:α} (h:l[d]? =some x):(stg d f g l).set d (f d x)=stg (d+1) f g l:=by
 apply dw;intro i;have hl:=(ab.1 h).1;by_cases e:i=d
 ·subst e;rw[dg (by rw[V8];exact hl),Y3e h (Nat.lt_succ_self _)]
 ·rw[cx (by omega),Xq0,Xq0]
  congr 1
  funext y;by_cases h2:i<d
  ·rw[if_pos h2,if_pos (by omega)]
  ·rw[if_neg h2,if_neg (by omega)]
theorem Xwn {α β:Type} {d:Nat} {f g:Nat->α->β} {l:List α} {x:α} (h:l[d]? =some x) (e:f d x=g d x):stg d f g l=stg (d+1) f g l:=by
 rw[<- Xuz h,e];apply dw;intro i;have hl:=(ab.1 h).1;by_cases e:i=d
 ·subst e;rw[dg (by rw[V8];exact hl),Rf h (Nat.le_refl _)]
 ·rw[cx (by omega)]
theorem Xwl {α β:Type} (f g:Nat->α->β) (l:List α):stg 0 f g l=l.mapIdx g:=by simp [stg]
theorem Xqh {α β:Type} (f:Nat->α->β) (g:α->β) (l:List α):stg 0 f (fun _=>g) l=l.map g:=by
 rw[Xwl];apply dw;intro i;simp
theorem Y7d {α β:Type} {d:Nat} {f g:Nat->α->β} {l:List α} (h:l.length<=d):stg d f g l=l.mapIdx f:=by
 apply dw;intro i;rw[Xq0,jj];cases hx:l[i]? with
 |none=>rfl
 |some x=>rw[Option.map_some,Option.map_some,if_pos (by have:=(ab.1 hx).1;omega)]
theorem Xqs {α:Type} {sz d:Nat} {f g:Nat->α->List AV} {l:List α} (hf:∀i x,(f i x).length=sz) (hg:∀i x,(g i x).length=sz):szL sz (stg d f g l):=fun e he=>by
 obtain⟨i,hi⟩:=di he;rw[Xq0] at hi;cases hx:l[i]? with
 |none=>rw[hx] at hi;cases hi
 |some x=>
  rw[hx,Option.map_some] at hi;injection hi with hi
  rw[<- hi];split
  ·exact hf i x
  ·exact hg i x
def bxR (e:TypeId) (els:List (List AV)):Option Res:=if els.length=0 then none else some (.box e els.flatten)
theorem Xg0 {e:TypeId} {els:List (List AV)} (h:0<els.length):bxR e els=some (.box e els.flatten):=if_neg (by omega)
theorem Xfl {s:Nat->Option Res} {k sz:Nat} {e:TypeId} {els els':List (List AV)} (hs:∀r,bxR e els=some r->s k=some r) (hz:szL sz els) (hz':szL sz els') (hl:els.length=els'.length)
  (h:∀(i j:Nat) (x x':List AV) (c c':AV),els[i]? =some x->els'[i]? =some x'->x[j]? =some c->x'[j]? =some c'->RV s c c'):RV s (.bsl k 0 els.length false) (.sl sz els' .sh):=by
 by_cases h0:els.length=0
 ·have e1:els'=[]:=bj (by omega);rw[h0,e1];exact .bsl0 k 0 false sz
 ·refine .bsl k 0 els.length false e els.flatten sz els' (hs _ (Xg0 (by omega))) (by rw[Xre hz];omega) hl.symm hz' fun i j r c c' hi hj hc=> ?_;have hil:i<els.length:=by rw[hl];exact(ab.1 hi).1
  have e1:=ae hil;have hjl:j<(els[i]).length:=by rw[hz _ (ak hil),<- hz' r (bl hi)];exact(ab.1 hj).1
  have e2:=ae hjl;have e3:=Xgp hz e1 e2;rw[Nat.zero_add,e3] at hc;injection hc with hc
  exact h i j _ r c c' e1 hi (by rw[e2,hc]) hj
theorem Xfm {s:Nat->Option Res} {k sz:Nat} {e:TypeId} {els:List (List AV)} (hs:∀r,bxR e els=some r->s k=some r) (hz:szL sz els) (hv:∀x,x∈els->∀c,c∈x->∃v,c= .val v):RV s (.bsl k 0 els.length false) (.sl sz els .sh):=
 Xfl hs hz hz rfl fun i j x x' c c' hi hi' hc hc'=>by
  rw[hi] at hi';injection hi' with hi';subst hi'
  rw[hc] at hc';injection hc' with hc';subst hc'
  obtain⟨v,rfl⟩:=hv x (bl hi) c (bl hc);exact .val v
theorem Y4j {s:Nat->Option Res} {sz:Nat} {els:List (List AV)} (md:Md) (hv:∀x,x∈els->∀c,c∈x->∃v,c= .val v):RV s (.sl sz els md) (.sl sz els .sh):=
 .sl sz els els md rfl (fun i r r' h h'=>by rw[h] at h';injection h' with h';rw[h']) fun i j r r' c c' hi hi' hc hc'=>by
  rw[hi] at hi';injection hi' with hi';subst hi'
  rw[hc] at hc';injection hc' with hc';subst hc'
  obtain⟨v,rfl⟩:=hv r (bl hi) c (bl hc);exact .val v
def bxD (e:TypeId) (els:List (List AV)):Res:=if els.length=0 then .dead else .box e els.flatten
theorem K1 {e:TypeId} {els:List (List AV)} (h:0<els.length):bxD e els= .box e els.flatten:=if_neg (by omega)
theorem Xet {e:TypeId} {els:List (List AV)} {r:Res} (h:bxR e els=some r):bxD e els=r∧r≠ .dead:=by
 unfold bxR at h;split at h
 ·cases h
 ·rename_i h0;injection h with h
  subst h;exact⟨if_neg h0,by intro h;cases h⟩
theorem Ext.killN {M:Mem} {k:Nat} (hk:M.st k=none):Ext M (M.kill k):=by
 refine⟨rfl,fun _ _ h=>h,fun _ _ _=>rfl,fun j hj=> ?_,fun j t sz m hj=> ?_,fun j t s m cs hj=>by
  have hne:j≠k:=by rintro rfl;rw[hk] at hj;cases hj
  exact .inl ⟨m,cs,by simp [Mem.kill,Xw,hne,hj],Nat.le_refl _,fun _=>⟨rfl,rfl⟩⟩⟩
 ·have hne:j≠k:=by rintro rfl;rw[hk] at hj;exact hj
  simp [Mem.kill,Xw,hne,hj]
 ·have hne:j≠k:=by rintro rfl;rw[hk] at hj;cases hj
  exact⟨m,by simp [Mem.kill,Xw,hne,hj],Nat.le_refl _,fun _=>⟨rfl,rfl⟩⟩
theorem Inv.killN {M:Mem} (hI:Inv M) {k:Nat} (hk:M.st k=none):Inv (M.kill k):=by
 have ex:=Ext.killN hk;have hown:∀j,(M.kill k).owns j->j≠k∧M.owns j:=fun j hj=>by
  by_cases e':j=k
  ·subst e';simp [Mem.owns,Mem.kill,Xw] at hj
  ·exact⟨e',by simpa [Mem.owns,Mem.kill,Xw,e'] using hj⟩
 refine⟨hI.below,?_,fun j hj=>hI.new j (hown j hj).2,fun i j hi hj=>hI.inj i j (hown i hi).2 (hown j hj).2,hI.stb,fun j t ds hj=> ?_,fun j t sz m c hj hcap=> ?_,fun j c o' fr' hj=>(hI.pin j c o' fr' (E1 hj (by simp))).ext ex (hI.pin j c o' fr' (E1 hj (by simp))).1,fun i j c o' fr' o'' fr'' hi hj=>hI.pinj i j c _ _ _ _ (E1 hi (by simp)) (E1 hj (by simp)),fun j t sz m cs hj=>hI.vec_keep ex (Yx hj (by simp)).1 rfl rfl (fun _=>rfl) (fun _ _ h=>h)⟩
 ·obtain⟨N,hN⟩:=hI.fin;exact⟨max N (k+1),fun j hj=>by
   have:j≠k:=by omega
   simp [Mem.kill,Xw,this,hN j (by omega)]⟩
 ·have e':j≠k:=by rintro rfl;simp [Mem.kill,Xt] at hj
  have hj':M.st j=some (.box t ds):=by simpa [Mem.kill,Xw,e'] using hj
  obtain⟨ws,g1,g2,g3,g4,g5⟩:=hI.box j t ds hj';exact⟨ws,g1,g2,g3,fun i c v hi hv=>(g4 i c v hi hv).ext ex,g5⟩
 ·have e':j≠k:=by rintro rfl;simp [Mem.kill,Xt] at hj
  have hj':M.st j=some (.row t sz m):=by simpa [Mem.kill,Xw,e'] using hj
  exact hI.row j t sz m c hj' hcap
theorem Xq4 {P:Program} {f:FuncId} {args:List AV} {sz k off:Nat} (h:Xr P f args [] (.sl sz [] .full) []):Xr P f args [(k,none)] (.bsl k off 0 false) [(k,.dead)]:=fun M N vs hI hR hn hN hu=>
 (h M N vs hI hR trivial hN trivial).mono fun e w' ⟨v,he,M',h1,h2,h3,h4,h5⟩=>by
  have hk:M'.st k=none:=(h4 k hu.1).trans hn.1;obtain⟨a,rfl⟩:=Xff (.inr rfl) h5;refine⟨_,he,M'.kill k,h1,h2.trans (Ext.killN hk),h3.killN hk,fun j hj=> ?_,.bsl0 _ _ a⟩
  show Xw M'.st k .dead j=Xw M.st k .dead j
  unfold Xw;split
  ·rfl
  ·exact h4 j hj
theorem Xv0 {s:Nat->Option Res} {K:Nat} {l:List (Option Res)}:holds (ofL s K l) (Xfx K l):=Q5.2 fun x hx=>by
 obtain⟨j,q,h1,h2⟩:=Xu8.1 hx;rw[h2];exact Xrq h1
def Xgg (l:List (Option Res)):List (Option Res):=l.map fun o=>match o with|some .dead=>none|o=>o
theorem Xen {l:List (Option Res)} {j:Nat} {r:Res} (h:l[j]? =some (some r)) (hr:r≠ .dead):(Xgg l)[j]? =some (some r):=by
 unfold Xgg;rw[bw,h];cases r<;>first|rfl|exact(hr rfl).elim
theorem Xg8 {l:List (Option Res)} {j:Nat} {r:Res} (h:(Xgg l)[j]? =some (some r)):l[j]? =some (some r)∧r≠ .dead:=by
 unfold Xgg at h;rw[bw] at h;cases hl:l[j]? with
 |none=>rw[hl] at h;cases h
 |some o=>
  rw[hl,Option.map_some] at h;cases o with
  |none=>simp at h
  |some q=>
   cases q<;>simp at h<;>subst h<;>exact⟨rfl,by intro h;cases h⟩
end Go.VS
namespace Go.Proofs.YtgpdghbmiihfbaaGreat.Pln
set_option linter.all false
set_option maxHeartbeats 8000000
set_option maxRecDepth 4000
open Go Go.VS Tab
attribute [local irreducible] AWp Xp0 Pg X5c Qy Lt Tp FdT Eb
def Mw (a b:Sec):Bool:=a.id==b.id&&a.pt==b.pt&&a.ends==b.ends
def Lw (l m':List Sec):Bool:=Fv Mw l m'
theorem Eo (a:Sec):Mw a a=true:=by simp [Mw]
theorem Bp (l:List Sec):Lw l l=true:=Xo4 rfl fun i hi hi'=>Eo _
def Ks (a b:Rt):Bool:=a.id==b.id&&(a.entry==b.entry&&(a.ex==b.ex&&(a.timer==b.timer&&(a.path==b.path&&(a.over==b.over&&a.flanks==b.flanks)))))
theorem Sx {a b:Rt}:Ks a b=true↔a=b:=by
 unfold Ks;simp only[ag,cv];constructor
 ·rintro⟨h1,h2,h3,h4,h5,h6,h7⟩;cases a;cases b;simp only at*;subst h1 h2 h3 h4 h5 h6 h7;rfl
 ·rintro rfl;exact⟨rfl,rfl,rfl,rfl,rfl,rfl,rfl⟩
def Sy (a b:Pl):Bool:=a.ver==b.ver&&(a.par==b.par&&(Lw a.secs b.secs&&(a.pts==b.pts&&(a.sgs==b.sgs&&Fv Ks a.rts b.rts))))
theorem Pq (p:Pl):Sy p p=true:=by
 unfold Sy;rw[Bp,Xo4 (p:=Ks) rfl fun i hi _=>Sx.2 rfl];simp
theorem Xfy (a b:Sec) (hl:a.ends.length<=1000000):Xr Tryz.prog 114 [Qh a,Qh b] [] (bool (Mw a b)) []:=by
 have c:=Xga a.ends b.ends (by omega);unfold Mw;generalize (a.ends==b.ends)=E at*;refine Xc 2 Tryz.func114 rfl fun n out _ _=> ?_;simp only[sn,Tryz.ntmps114,simprocAttr];have hg:=Nat.le_refl 0;repeat' (first|refine Vk fun K hK=> ?_|apply V0|((first|apply gE|apply gR|apply gS);simp only[zA,simprocAttr,hg,Qh,secC])|(apply Vz;refine Vo rfl rfl rfl (fun _ _=>rfl) ?_<;>first|rfl|(simp only[g_0,g_s];refine congrArg VS.bool ?_;simp_all;done)|skip)|(refine X3 (c) ?_)|((refine Vg (fun hg=> ?_) (fun hg=> ?_))<;>try simp only[nb] at hg)|(refine hK _ ?_;clear hK K))
theorem Xfz (a b:Rt) (h:a.path.length<=1000000∧a.over.length<=1000000∧a.flanks.length<=1000000):Xr Tryz.prog 117 [rtA a,rtA b] [] (bool (Ks a b)) []:=by
 have c1:=Xf5 a.path b.path (by omega);have c2:=Xf5 a.over b.over (by omega);have c3:=Xgc a.flanks b.flanks (by omega);unfold Ks;generalize (a.path==b.path)=P1 at*;generalize (a.over==b.over)=P2 at*;generalize (a.flanks==b.flanks)=P3 at*;refine Xc 2 Tryz.func117 rfl fun n out _ _=> ?_;simp only[sn,Tryz.ntmps117,simprocAttr];have hg:=Nat.le_refl 0;repeat' (first|refine Vk fun K hK=> ?_|apply V0|((first|apply gE|apply gR|apply gS);simp only[zA,simprocAttr,hg,rtA,rtC])|(apply Vz;refine Vo rfl rfl rfl (fun _ _=>rfl) ?_<;>first|rfl|(simp only[g_0,g_s];refine congrArg VS.bool ?_;simp_all;done)|skip)|(refine X3 (c1) ?_)|(refine X3 (c2) ?_)|(refine X3 (c3) ?_)|((refine Vg (fun hg=> ?_) (fun hg=> ?_))<;>try simp only[nb] at hg)|(refine hK _ ?_;clear hK K))
theorem Xgf (a b:Pl) (ha:Sm a):Xr Tryz.prog 55 [plA a,plA b] [] (bool (Sy a b)) []:=by
 have hB1:Xd Tryz.prog 114=True:=hb0 _ (by decide) (by decide);have hB2:Xd Tryz.prog 117=True:=hb0 _ (by decide) (by decide);have q1:=ha.secs;have q2:=ha.pts;have q3:=ha.sgs;have q4:=ha.rts;have c1:=Xeq a.secs b.secs 114 [] Mw hB1 (by omega) fun x hx y _=>Xfy x y (by have:=ha.ends x hx;omega);have c2:=Xf0 a.rts b.rts 117 [] Ks hB2 (by omega) fun x hx y _=>Xfz x y (by obtain⟨x,y,z⟩:=ha.rt _ hx;omega);have c3:=Xgb a.pts b.pts (by omega);have c4:=Xgd a.sgs b.sgs (by omega);unfold Sy Lw;generalize (Fv Mw a.secs b.secs)=P1 at*;generalize (Fv Ks a.rts b.rts)=P2 at*;generalize (a.pts==b.pts)=P3 at*;generalize (a.sgs==b.sgs)=P4 at*;refine Xc 2 Tryz.func55 rfl fun n out _ _=> ?_;simp only[sn,Tryz.ntmps55,simprocAttr];have hg:=Nat.le_refl 0;repeat' (first|refine Vk fun K hK=> ?_|apply V0|((first|apply gE|apply gR|apply gS);simp only[zA,simprocAttr,hg,plA,plC,hB1,hB2])|(apply Vz;refine Vo rfl rfl rfl (fun _ _=>rfl) ?_<;>first|rfl|(simp only[g_0,g_s];refine congrArg VS.bool ?_;simp_all;done)|skip)|(refine X3 (c1) ?_)|(refine X3 (c2) ?_)|(refine X3 (c3) ?_)|(refine X3 (c4) ?_)|((refine Vg (fun hg=> ?_) (fun hg=> ?_))<;>try simp only[nb] at hg)|(refine hK _ ?_;clear hK K))
theorem Ycg (F te sz:Nat) (hq:(F=148∧te=154∧sz=3)∨(F=149∧te=161∧sz=7)∨(F=150∧te=167∧sz=2)∨(F=212∧te=3∧sz=1)∨(F=152∧te=156∧sz=2)∨(F=153∧te=131∧sz=3)∨(F=154∧te=95∧sz=4)) (k:Nat) (els:List (List AV)) (hl:els.length<=1000000):Xr Tryz.prog F [.sl sz els .sh] [(k,none)] (.bsl k 0 els.length false) [(k,bxD te els)]:=by
 have hw:∀k,k<=140->els.length*k<=140737488355328:=fun k hk=>Nat.le_trans (Nat.mul_le_mul hl hk) (by decide);rcases hq with ⟨rfl,rfl,e3⟩|⟨rfl,rfl,e3⟩|⟨rfl,rfl,e3⟩|⟨rfl,rfl,e3⟩|⟨rfl,rfl,e3⟩|⟨rfl,rfl,e3⟩|⟨rfl,rfl,e3⟩
 all_goals
  obtain⟨z,hz⟩:∃z,z=sz:=⟨_,rfl⟩
  subst e3;by_cases h0:els.length=0
  ·have e0:els=[]:=bj h0;subst e0;refine Xq4 (sz:=z) (Xbz (fun h=> ?_) ?_)<;>subst hz
   ·first|refine Xc 0 Tryz.func148 rfl fun n out _ _=> ?_|refine Xc 0 Tryz.func149 rfl fun n out _ _=> ?_|refine Xc 0 Tryz.func150 rfl fun n out _ _=> ?_|refine Xc 0 Tryz.func212 rfl fun n out _ _=> ?_|refine Xc 0 Tryz.func152 rfl fun n out _ _=> ?_|refine Xc 0 Tryz.func153 rfl fun n out _ _=> ?_|refine Xc 0 Tryz.func154 rfl fun n out _ _=> ?_
    simp only[sn,Tryz.ntmps148,Tryz.ntmps149,Tryz.ntmps150,Tryz.ntmps212,Tryz.ntmps152,Tryz.ntmps153,Tryz.ntmps154,simprocAttr];refine Vy fun K hK=> ?_;simp only[zA,simprocAttr]
    (refine hK _ ?_;clear hK K)
    refine Vk fun KB hKB=> ?_;refine Vy fun K hK=> ?_;simp only[zA,simprocAttr]
    (refine hK _ ?_;clear hK K)
    refine Wm rfl ?_;refine Vy fun K hK=> ?_;simp only[zA,simprocAttr]
    (refine hK _ ?_;clear hK K)
    apply Vz;exact Xv (.inr rfl) rfl rfl rfl (fun _ _=>rfl) ((Cp _ _).2 trivial) rfl
   ·first|refine Xc 0 Tryz.func148 rfl fun n out _ _=> ?_|refine Xc 0 Tryz.func149 rfl fun n out _ _=> ?_|refine Xc 0 Tryz.func150 rfl fun n out _ _=> ?_|refine Xc 0 Tryz.func212 rfl fun n out _ _=> ?_|refine Xc 0 Tryz.func152 rfl fun n out _ _=> ?_|refine Xc 0 Tryz.func153 rfl fun n out _ _=> ?_|refine Xc 0 Tryz.func154 rfl fun n out _ _=> ?_
    simp only[sn,Tryz.ntmps148,Tryz.ntmps149,Tryz.ntmps150,Tryz.ntmps212,Tryz.ntmps152,Tryz.ntmps153,Tryz.ntmps154,simprocAttr];refine Vy fun K hK=> ?_;simp only[zA,simprocAttr]
    (refine hK _ ?_;clear hK K)
    refine Vk fun KB hKB=> ?_;refine Vy fun K hK=> ?_;simp only[zA,simprocAttr]
    (refine hK _ ?_;clear hK K)
    refine Uy rfl (Xhj (hKB _ ?_));refine Vy fun K hK=> ?_;simp only[zA,simprocAttr,List.length_nil]
    (refine hK _ ?_;clear hK K)
    apply Vz;exact Xv (.inr rfl) rfl rfl rfl (fun _ _=>rfl) (.rfl _) rfl
  ·have h1:0<els.length:=by omega
   have hne:els≠[]:=fun h=>by rw[h] at h1;exact absurd h1 (by decide)
   rw[K1 h1];refine Xbz (fun h=>absurd h hne) ?_;first|refine Xc 1 Tryz.func148 rfl fun n out _ _=> ?_|refine Xc 1 Tryz.func149 rfl fun n out _ _=> ?_|refine Xc 1 Tryz.func150 rfl fun n out _ _=> ?_|refine Xc 1 Tryz.func212 rfl fun n out _ _=> ?_|refine Xc 1 Tryz.func152 rfl fun n out _ _=> ?_|refine Xc 1 Tryz.func153 rfl fun n out _ _=> ?_|refine Xc 1 Tryz.func154 rfl fun n out _ _=> ?_
   simp only[sn,Tryz.ntmps148,Tryz.ntmps149,Tryz.ntmps150,Tryz.ntmps212,Tryz.ntmps152,Tryz.ntmps153,Tryz.ntmps154,simprocAttr];rename_i hneeds hgv;obtain⟨hk,_⟩:=hneeds;obtain⟨hkn,_⟩:=hgv;refine Vy fun K hK=> ?_;simp only[zA,simprocAttr]
   (refine hK _ ?_;clear hK K)
   refine Vk fun KB hKB=> ?_;refine Vy fun K hK=> ?_;simp only[zA,simprocAttr]
   (refine hK _ ?_;clear hK K)
   refine Uy rfl (Xhj (hKB _ ?_));clear hKB KB;refine Vk fun K hK=>Xn Xj [(1007,none)] ?_;simp only[zA,simprocAttr,hw 8 (by decide),hw 16 (by decide),hw 24 (by decide),hw 32 (by decide),hw 40 (by decide),hw 104 (by decide),show els.length<=9223372036854775807 by omega,hne]
   (refine hK _ ?_;clear hK K)
   refine Yy (Xf9 (i:=0) (m:=els.length) (sz:= _) (e:= _) (cs:=els.flatten) rfl h1) ?_;simp only[bg,ad,AV.bxv,s_0,s_s,reduceCtorEq,if_true,if_false,Nat.reduceEqDiff,reduceIte,and_self];refine Yy (Ja (i:=0) (k:=k) rfl (by exact hkn) (by exact hk)) ?_;simp only[bg,ad,Option.map_some,Option.map_none,Res.ren1,AV.ren1,Nat.add_left_cancel_iff,Nat.reduceEqDiff,Nat.one_ne_zero,reduceIte,Xoe,s_0,s_s];apply Vz;exact Qv (.inr rfl) rfl rfl rfl (fun _ _=>rfl) rfl
theorem Xer (k:Nat) (els:List (List AV)) (hl:els.length<=1000000):Xr Tryz.prog 148 [.sl 3 els .sh] [(k,none)] (.bsl k 0 els.length false) [(k,bxD 154 els)]:=Ycg _ _ _ (by decide) k els hl
theorem Xf1 (k:Nat) (els:List (List AV)) (hl:els.length<=1000000):Xr Tryz.prog 149 [.sl 7 els .sh] [(k,none)] (.bsl k 0 els.length false) [(k,bxD 161 els)]:=Ycg _ _ _ (by decide) k els hl
theorem Xf2 (k:Nat) (els:List (List AV)) (hl:els.length<=1000000):Xr Tryz.prog 150 [.sl 2 els .sh] [(k,none)] (.bsl k 0 els.length false) [(k,bxD 167 els)]:=Ycg _ _ _ (by decide) k els hl
theorem Xes (k:Nat) (els:List (List AV)) (hl:els.length<=1000000):Xr Tryz.prog 212 [.sl 1 els .sh] [(k,none)] (.bsl k 0 els.length false) [(k,bxD 3 els)]:=Ycg _ _ _ (by decide) k els hl
theorem Xsz (k:Nat) (els:List (List AV)) (hl:els.length<=1000000):Xr Tryz.prog 152 [.sl 2 els .sh] [(k,none)] (.bsl k 0 els.length false) [(k,bxD 156 els)]:=Ycg _ _ _ (by decide) k els hl
theorem Xt0 (k:Nat) (els:List (List AV)) (hl:els.length<=1000000):Xr Tryz.prog 153 [.sl 3 els .sh] [(k,none)] (.bsl k 0 els.length false) [(k,bxD 131 els)]:=Ycg _ _ _ (by decide) k els hl
theorem Xt1 (k:Nat) (els:List (List AV)) (hl:els.length<=1000000):Xr Tryz.prog 154 [.sl 4 els .sh] [(k,none)] (.bsl k 0 els.length false) [(k,bxD 95 els)]:=Ycg _ _ _ (by decide) k els hl
end Go.Proofs.YtgpdghbmiihfbaaGreat.Pln
namespace Go.VS
set_option linter.all false
set_option maxHeartbeats 1000000
open Go Go.RowKit
section
variable {s out:Nat->Option Res} {K k i:Nat} {L L':List (Option Res)} {r q:Res}
theorem Xmb {outs:List (Nat×Nat)} {wr:List Nat} {R:AState->Prop} {σ:AState} {d:Option Tmp} {x:AV} {z:Nat} (h3:z∈wr) (h4:100<=z) (h5:outs[z - 100]? =some (K,1))
  (h:R (AState.next σ d x [(K,q)])):Xj2 outs wr R σ d x [(K,q)]:=by
 refine⟨fun p hp=> ?_,h⟩;rw[e8] at hp;subst hp;exact⟨z,h3,.inr ⟨h4,_,h5,Xii.2 (by dsimp only;omega)⟩⟩
end
theorem R.rvF {M M2:Mem} {s:Nat->Option Res} (hI:Inv M) (hw:M2.w=M.w) (hst:∀b o,M.stb b o->M2.stb b o)
  (hs:∀k e cs,s k=some (.box e cs)->M.st k=some (.box e cs)∧∀o,o<cs.length->M2.stb (M.β k) o) {x y:AV} (h:RV s x y):∀{v:Value},R M x v->R M2 y v:=by
 induction h with
 |val u=>intro v hR;cases hR with|val _ hl=>exact .val _ hl
 |top x=>intro v hR;exact .top v
 |agg cs cs' hl h ih=>
  intro v hR;cases hR with
  |agg _ vs hl2 hf hc=>
   refine .agg cs' vs (hl.symm.trans hl2) hf fun i c v hi hv=> ?_;have hil:i<cs.length:=by rw[hl];exact(ab.1 hi).1
   have e:=ae hil;exact ih i _ c e hi (hc i _ v e hv)
 |sl sz els els' md hl hr h ih=>
  intro v hR;cases hR with
  |nil _ _ a h1 h2=>
   have:els'=[]:=bj (by simpa using hl.symm);subst this;exact .nil _ _ a (by intro h;cases h) (by intro h;cases h)
  |slice _ _ _ a cap hs hcap hsz hst' hc hmd=>
   rw[hl];refine .slice sz els' .sh a cap hs (by rw[<- hl];exact hcap) (fun r hr'=> ?_) (fun o ho=> ?_) (fun i j row c v hi hj hv=> ?_) trivial
   ·obtain⟨i,hi⟩:=di hr';have hil:i<els.length:=by rw[hl];exact(ab.1 hi).1
    have e:=ae hil;rw[<- hr i _ _ e hi];exact hsz _ (ak hil)
   ·exact hst _ _ (hst' o (by rw[hl];exact ho))
   ·have hil:i<els.length:=by rw[hl];exact(ab.1 hi).1
    have e:=ae hil;have hjl:j<(els[i]).length:=by rw[hr i _ _ e hi];exact(ab.1 hj).1
    have e2:=ae hjl;exact ih i j _ _ _ c e hi e2 hj (hc i j _ _ v e e2 (by rw[<- hw];exact hv))
 |nil sz sz' md=>
  intro v hR;cases hR with
  |nil _ _ a h1 h2=>exact .nil _ _ a (by intro h;cases h) (by intro h;cases h)
  |slice _ _ _ a cap hs hcap hsz hst hc hmd=>exact .slice sz' [] .sh a cap hs (ba _) (fun r h=>by simp at h) (fun o ho=>by simp at ho) (fun i j row c v h=>by simp at h) trivial
 |bsl k off len fl e cs sz els' hk hf hl hr h ih=>
  intro v hR;cases hR with
  |bsl _ _ _ cap _ h1 h2 h3=>
   obtain⟨hk',hfast⟩:=hs k e cs hk;obtain⟨vs,g1,g2,g3,g4,g5⟩:=hI.box k e cs hk';have hcell:∀o,M2.w.cell? ⟨M.β k,o,none⟩=vs[o]? :=fun o=>by
    rw[hw];simp [World.cell?,g1]
   subst hl;refine .slice sz els' .sh _ cap rfl h2 hr (fun o ho=>hfast _ (by show off+o<cs.length;omega)) (fun i j row c v hi hj hv=> ?_) trivial;have hil:i<els'.length:=(ab.1 hi).1;have hjl:j<sz:=by rw[<- hr _ (bl hi)];exact(ab.1 hj).1
   have hm:(i+1)*sz<=els'.length*sz:=b7 _ hil;rw[eq] at hm;have hlt:off+(i*sz+j)<cs.length:=by omega
   have e1:=ae hlt;refine ih i j row _ c hi hj e1 (g4 _ _ v e1 ?_);rw[<- hcell];exact hv
  |bsl0 _ _ a=>
   have:els'=[]:=bj hl;subst this;exact .nil _ _ a (by intro h;cases h) (by intro h;cases h)
 |bsl0 k off fl sz=>
  intro v hR;cases hR with
  |bsl _ _ _ cap _ h1 h2 h3=>exact .slice sz [] .sh _ cap rfl (ba _) (fun r h=>by simp at h) (fun o ho=>by simp at ho) (fun i j row c v h=>by simp at h) trivial
  |bsl0 _ _ a=>exact .nil _ _ a (by intro h;cases h) (by intro h;cases h)
theorem Xq1:∀(l:List (Option Res)) (K:Nat) (M:Mem),Inv M->(∀j r,l[j]? =some (some r)->M.st (K+j)=some r)→
  ∃M2,M2.w=M.w∧Ext M M2∧Inv M2∧(∀k,k<K->M2.st k=M.st k)∧(∀b o,M.stb b o->M2.stb b o)∧∀j e cs,l[j]? =some (some (.box e cs))->∀o,o<cs.length->M2.stb (M.β (K+j)) o
 |[],K,M,hI,_=>⟨M,rfl,Ext.refl M,hI,fun _ _=>rfl,fun _ _ h=>h,fun j e cs h=>by simp at h⟩
 |x::l,K,M,hI,h=>by
  have hx:∀r,x=some r->M.st K=some r:=fun r hr=>h 0 r (by rw[hr];rfl);by_cases hb:∃e cs,x=some (.box e cs)
  ·obtain⟨e,cs,rfl⟩:=hb;have hk:=hx _ rfl;obtain⟨M2,h1,h2,h3,h4,h5,h6⟩:=Xq1 l (K+1) (M.freeze K cs.length) (hI.freeze hk) fun j r hj=>by
    have:=h (j+1) r (by simpa using hj)
    show Xw M.st K .dead (K+1+j)=some r
    rw[Zp _ _ (by omega),<- this];congr 1;omega
   refine⟨M2,h1,(Ext.freeze M hk).trans h2,h3,fun k hk=> ?_,fun b o hs=>h5 b o (.inl hs),fun j e' cs' hj o ho=> ?_⟩
   ·rw[h4 k (by omega)]
    show Xw M.st K .dead k= _
    rw[Zp _ _ (by omega)]
   ·cases j with
    |zero=>
     simp at hj;obtain⟨_,rfl⟩:=hj;exact h5 _ o (.inr ⟨rfl,ho⟩)
    |succ j=>
     have:=h6 j e' cs' (by simpa using hj) o ho;rw[show K+(j+1)=K+1+j from by omega];exact this
  ·obtain⟨M2,h1,h2,h3,h4,h5,h6⟩:=Xq1 l (K+1) M hI fun j r hj=>by
    have:=h (j+1) r (by simpa using hj);rw[<- this];congr 1;omega
   refine⟨M2,h1,h2,h3,fun k hk=>h4 k (by omega),h5,fun j e' cs' hj o ho=> ?_⟩;cases j with
   |zero=>
    simp at hj;exact(hb ⟨e',cs',hj⟩).elim
   |succ j=>
    have:=h6 j e' cs' (by simpa using hj) o ho;rw[show K+(j+1)=K+1+j from by omega];exact this
theorem Xwo {K:Nat} {l:List (Option Res)} {k:Nat} {r:Res} (h:ofL (fun _=>none) K l k=some r):∃j,k=K+j∧l[j]? =some (some r):=by
 by_cases h1:k<K∨K+l.length<=k
 ·rw[Xge h1] at h;cases h
 ·have hlt:k - K<l.length:=by omega
  have e:=ae hlt;refine⟨k - K,by omega,?_⟩;have ek:k=K+(k - K):=by omega
  rw[ek] at h;cases hx:l[k - K] with
  |none=>rw[hx] at e;rw[Xf6 e] at h;cases h
  |some q=>rw[hx] at e;rw[Xrq e] at h;rw[e,<- h]
theorem Y63 {P:Program} {f:FuncId} {args:List AV} {r:Nat->AV} {r':AV} {l:Nat->List (Option Res)} (h:∀K,Xr P f args (Xev K (l K)) (r K) (Y62 K (l K))) (hv:∀K s,holds s (Xfx K (Xgg (l K)))->RV s (r K) r'):Xr P f args [] r' []:=fun M N vs hI hR hn hN hu=>by
 obtain⟨K,hK⟩:=hI.fin;refine(h (max N K) M (max N K+(l (max N K)).length) vs hI hR (Q5.2 fun x hx=> ?_) (fun k hk=>hN k (by omega)) (Ht.2 fun x hx=> ?_)).mono fun e w' ⟨v,he,M',h1,h2,h3,h4,h5⟩=> ?_
 ·obtain⟨h0,j,r,_,hx1⟩:=Xwk.1 hx;rw[h0,hx1];exact hK _ (by omega)
 ·obtain⟨j,h0,hx1⟩:=Xwj.1 hx;have:=(ab.1 h0).1;omega
 ·have hst:∀j r,(l (max N K))[j]? =some (some r)->M'.st (max N K+j)=some r:=fun j r hj=>by
   rw[h4 _ (by have:=(ab.1 hj).1;omega),K3];exact Xrq hj
  obtain⟨M2,g1,g2,g3,g4,g5,g6⟩:=Xq1 (l (max N K)) (max N K) M' h3 hst;refine⟨v,he,M2,g1.trans h1,h2.trans g2,g3,fun k hk=> ?_,?_⟩
  ·rw[g4 k (by omega),h4 k (by omega),K3,Xge (by omega)];rfl
  ·refine R.rvF h3 g1 g5 (s:=ofL (fun _=>none) (max N K) (Xgg (l (max N K)))) (fun k e cs hk=> ?_) (hv _ _ Xv0) h5;obtain⟨j,rfl,hj⟩:=Xwo hk;obtain⟨hj',_⟩:=Xg8 hj;exact⟨hst j _ hj',g6 j e cs hj'⟩
theorem Y9b {P:Program} {f:FuncId} {args:List AV} {r:Nat->AV} {r':AV} {l:List (Option Res)} (h:∀K,Xr P f args (Xev K l) (r K) (Y62 K l)) (hv:∀K s,holds s (Xfx K (Xgg l))->RV s (r K) r'):Xr P f args [] r' []:=Y63 (l:=fun _=>l) h hv
theorem Xub {P:Program} {f:FuncId} {args:List AV} {r:Nat->List AV} {r':List AV} {l:List (Option Res)} (h:∀K,Xr P f args (Xev K l) (.tup (r K)) (Y62 K l)) (hv:∀K s,holds s (Xfx K (Xgg l))->rvL s (r K) r'):Xr P f args [] (.tup r') []:=fun M N vs hI hR hn hN hu=>by
 obtain⟨K,hK⟩:=hI.fin;refine(h (max N K) M (max N K+l.length) vs hI hR (Q5.2 fun x hx=> ?_) (fun k hk=>hN k (by omega)) (Ht.2 fun x hx=> ?_)).mono fun e w' ⟨v,he,M',h1,h2,h3,h4,h5⟩=> ?_
 ·obtain⟨h0,j,r,_,hx1⟩:=Xwk.1 hx;rw[h0,hx1];exact hK _ (by omega)
 ·obtain⟨j,h0,hx1⟩:=Xwj.1 hx;have:=(ab.1 h0).1;omega
 ·have hst:∀j r,l[j]? =some (some r)->M'.st (max N K+j)=some r:=fun j r hj=>by
   rw[h4 _ (by have:=(ab.1 hj).1;omega),K3];exact Xrq hj
  obtain⟨M2,g1,g2,g3,g4,g5,g6⟩:=Xq1 l (max N K) M' h3 hst;refine⟨v,he,M2,g1.trans h1,h2.trans g2,g3,fun k hk=> ?_,?_⟩
  ·rw[g4 k (by omega),h4 k (by omega),K3,Xge (by omega)];rfl
  ·cases h5 with
   |tup _ vs hl hc=>
    obtain⟨e1,e2⟩:=Xfw (hv _ _ (Xv0 (s:=fun _=>none) (K:=max N K) (l:=Xgg l)));refine .tup _ _ (e1.symm.trans hl) fun i c u hi hu=> ?_;have hil:i<(r (max N K)).length:=by rw[e1];exact(ab.1 hi).1
    have e:=ae hil;refine R.rvF h3 g1 g5 (s:=ofL (fun _=>none) (max N K) (Xgg l)) (fun k e cs hk=> ?_) (e2 i _ c e hi) (hc i _ u e hu);obtain⟨j,rfl,hj⟩:=Xwo hk;obtain⟨hj',_⟩:=Xg8 hj;exact⟨hst j _ hj',g6 j e cs hj'⟩
end Go.VS
