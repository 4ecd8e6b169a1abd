/- The layer of abstract values, joined. -/
import Derived.Test.YtjgbbjooeibppaaZE4
import Derived.Test.YtjgbbjooeibppaaZE7
import Derived.Test.YtjgbbjooeibppaaZVsView
import Derived.Test.YtjgbbjooeibppaaZD2
import Derived.Test.YtjgbbjooeibppaaZVsBits
import Derived.Test.YtjgbbjooeibppaaZVsDrawF
namespace Go.Proofs.Ytjgbbjooeibppaa
set_option linter.unusedVariables false
open Go Go.VS Tab
theorem Hs:Opens Try.prog 60 rcC (fun r=>r.text.length≤Xiv):=
 (Zh Try.underlying60 (tot:=2) (by kernel_rfl) (.cons (s:=1) (Y9j Try.underlying58) rfl (by kernel_rfl) rfl (.cons (s:=1) Xki rfl (by kernel_rfl) rfl .nil))).map
  fun p hp=>⟨⟨p.1,p.2.1⟩,hp.2.1,rfl⟩
theorem Ycq:OpensArg Try.prog 60 rcA (fun r=>r.text.length≤Xiv):= .agg Hs (X4g (.inr ⟨_,Try.underlying60⟩))
end Go.Proofs.Ytjgbbjooeibppaa
namespace Go.VS
set_option maxHeartbeats 1000000
open Go Go.RowKit
def Y62 (K:Nat):List (Option Res)→List (Nat×Res)
 |[]=>[]
 |none::l=>Y62 (K+1) l
 |some r::l=>(K,r)::Y62 (K+1) l
def Xev (K:Nat):List (Option Res)→List (Nat×Option Res)
 |[]=>[]
 |none::l=>Xev (K+1) l
 |some _::l=>(K,none)::Xev (K+1) l
def Xfx (K:Nat):List (Option Res)→List (Nat×Option Res)
 |[]=>[]
 |none::l=>Xfx (K+1) l
 |some r::l=>(K,some r)::Xfx (K+1) l
theorem Xwj {l:List (Option Res)}:∀{K:Nat} {x:Nat×Res},x∈Y62 K l↔∃j,l[j]? =some (some x.2)∧x.1=K+j:=by
 induction l with
 |nil=>intro K x;simp [Y62]
 |cons y l ih=>
  intro K x
  have key:(∃j,(y::l)[j]? =some (some x.2)∧x.1=K+j)↔(y=some x.2∧x.1=K)∨∃j,l[j]? =some (some x.2)∧x.1=K+1+j:=by
   constructor
   ·rintro⟨j,h1,h2⟩
    cases j with
    |zero=>simp at h1;exact .inl ⟨h1,h2⟩
    |succ j=>exact .inr ⟨j,by simpa using h1,by omega⟩
   ·rintro(⟨h1,h2⟩|⟨j,h1,h2⟩)
    ·exact⟨0,by simp [h1],h2⟩
    ·exact⟨j+1,by simpa using h1,by omega⟩
  rw[key,← ih]
  cases y with
  |none=>simp [Y62]
  |some r=>obtain⟨a,b⟩:=x;simp [Y62,Prod.ext_iff,and_comm,eq_comm]
theorem Xwk {l:List (Option Res)}:∀{K:Nat} {x:Nat×Option Res},x∈Xev K l↔x.2=none∧∃j r,l[j]? =some (some r)∧x.1=K+j:=by
 induction l with
 |nil=>intro K x;simp [Xev]
 |cons y l ih=>
  intro K x
  have key:(∃j r,(y::l)[j]? =some (some r)∧x.1=K+j)↔(y≠none∧x.1=K)∨∃j r,l[j]? =some (some r)∧x.1=K+1+j:=by
   constructor
   ·rintro⟨j,r,h1,h2⟩
    cases j with
    |zero=>simp at h1;exact .inl ⟨by simp [h1],h2⟩
    |succ j=>exact .inr ⟨j,r,by simpa using h1,by omega⟩
   ·rintro(⟨h1,h2⟩|⟨j,r,h1,h2⟩)
    ·cases y with
     |none=>exact(h1 rfl).elim
     |some r=>exact⟨0,r,rfl,h2⟩
    ·exact⟨j+1,r,by simpa using h1,by omega⟩
  rw[key]
  cases y with
  |none=>rw[Xev,ih];simp
  |some r=>
   rw[Xev,List.mem_cons,ih]
   obtain⟨a,b⟩:=x
   simp only[Prod.mk.injEq,ne_eq,reduceCtorEq,not_false_eq_true,true_and]
   constructor
   ·rintro(⟨rfl,rfl⟩|⟨h1,h2⟩)
    ·exact⟨rfl,.inl rfl⟩
    ·exact⟨h1,.inr h2⟩
   ·rintro⟨h1,h2|h2⟩
    ·exact .inl ⟨h2,h1⟩
    ·exact .inr ⟨h1,h2⟩
theorem Xu8 {l:List (Option Res)}:∀{K:Nat} {x:Nat×Option Res},x∈Xfx K l↔∃j r,l[j]? =some (some r)∧x=(K+j,some r):=by
 induction l with
 |nil=>intro K x;simp [Xfx]
 |cons y l ih=>
  intro K x
  have key:(∃j r,(y::l)[j]? =some (some r)∧x=(K+j,some r))↔(∃r,y=some r∧x=(K,some r))∨∃j r,l[j]? =some (some r)∧x=(K+1+j,some r):=by
   constructor
   ·rintro⟨j,r,h1,h2⟩
    cases j with
    |zero=>simp at h1;exact .inl ⟨r,h1,h2⟩
    |succ j=>exact .inr ⟨j,r,by simpa using h1,by rw[h2,Nat.add_assoc,Nat.add_comm 1]⟩
   ·rintro(⟨r,h1,h2⟩|⟨j,r,h1,h2⟩)
    ·exact⟨0,r,by simp [h1],h2⟩
    ·exact⟨j+1,r,by simpa using h1,by rw[h2,Nat.add_assoc,Nat.add_comm 1]⟩
  rw[key,← ih]
  cases y with
  |none=>simp [Xfx]
  |some r=>simp [Xfx]
def ofL (s:Nat→Option Res) (K:Nat) (l:List (Option Res)):Nat→Option Res:=fun k=>if K≤k then(match (l[k - K]?).join with|some r=>some r|none=>s k) else s k
theorem K3 {l:List (Option Res)}:∀{s:Nat→Option Res} {K:Nat},upd s (Y62 K l)=ofL s K l:=by
 induction l with
 |nil=>intro s K;funext k;simp [Y62,upd,ofL]
 |cons y l ih=>
  intro s K
  have step:∀(s:Nat→Option Res) (k:Nat),K+1≤k→ofL s (K+1) l k=(match ((y::l)[k - K]?).join with|some r=>some r|none=>s k):=fun s k hk=>by
   unfold ofL
   rw[if_pos hk,show k - K=(k - (K+1))+1 from by omega,List.getElem?_cons_succ]
  cases y with
  |none=>
   show upd s (Y62 (K+1) l)= _
   rw[ih]
   funext k
   by_cases h:K+1≤k
   ·rw[step s k h];unfold ofL;rw[if_pos (by omega)]
   ·unfold ofL
    rw[if_neg h]
    by_cases h2:K≤k
    ·have:k=K:=by omega
     subst this;simp
    ·rw[if_neg h2]
  |some r=>
   show upd (Xw s K r) (Y62 (K+1) l)= _
   rw[ih]
   funext k
   by_cases h:K+1≤k
   ·rw[step _ k h,Zp s r (by omega)];unfold ofL;rw[if_pos (by omega)]
   ·unfold ofL
    rw[if_neg h]
    by_cases h2:K≤k
    ·have:k=K:=by omega
     subst this;simp [Xw]
    ·rw[if_neg h2,Zp s r (by omega)]
theorem Xrq {s:Nat→Option Res} {K j:Nat} {l:List (Option Res)} {r:Res} (h:l[j]? =some (some r)):ofL s K l (K+j)=some r:=by
 unfold ofL;rw[if_pos (by omega),Nat.add_sub_cancel_left,h];rfl
theorem Xf6 {s:Nat→Option Res} {K j:Nat} {l:List (Option Res)} (h:l[j]? =some none):ofL s K l (K+j)=s (K+j):=by
 unfold ofL;rw[if_pos (by omega),Nat.add_sub_cancel_left,h];rfl
theorem Xge {s:Nat→Option Res} {K k:Nat} {l:List (Option Res)} (h:k<K∨K+l.length≤k):ofL s K l k=s k:=by
 unfold ofL
 split
 ·rw[List.getElem?_eq_none (by omega)];rfl
 ·rfl
theorem Y6k {s:Nat→Option Res} {K j:Nat} {l:List (Option Res)} {r:Res} (h:j<l.length):Xw (ofL s K l) (K+j) r=ofL s K (l.set j (some r)):=by
 funext k
 unfold Xw ofL
 by_cases hk:k=K+j
 ·subst hk
  rw[if_pos rfl,if_pos (by omega),Nat.add_sub_cancel_left,List.getElem?_set_self h];rfl
 ·rw[if_neg hk]
  split
  ·rw[List.getElem?_set_ne (by omega)]
  ·rfl
theorem Xfh {s:Nat→Option Res} {K:Nat} {l:List (Option Res)} (h:∀x,x∈l→x=none):ofL s K l=s:=by
 funext k
 unfold ofL
 split
 ·cases hx:l[k - K]? with
  |none=>rfl
  |some x=>rw[h x (List.mem_of_getElem? hx)];rfl
 ·rfl
theorem K2 {N K:Nat} {l:List (Option Res)} (h:Mc N (Y62 K l)) {j:Nat} {r:Res} (hj:l[j]? =some (some r)):K+j<N:=
 Ht.1 h (K+j,r) (Xwj.2 ⟨j,hj,rfl⟩)
theorem Y4i {s:Nat→Option Res} {K:Nat} {l:List (Option Res)} (h:holds s (Xev K l)) {j:Nat} {r:Res} (hj:l[j]? =some (some r)):s (K+j)=none:=
 Q5.1 h (K+j,none) (Xwk.2 ⟨rfl,j,r,hj,rfl⟩)
theorem Xpz {s:Nat→Option Res} {K:Nat} {l:List (Option Res)} (h:holds s (Xfx K l)) {j:Nat} {r:Res} (hj:l[j]? =some (some r)):s (K+j)=some r:=
 Q5.1 h (K+j,some r) (Xu8.2 ⟨j,r,hj,rfl⟩)
end Go.VS
namespace Go.Proofs.Ytjgbbjooeibppaa.Pln
set_option linter.unusedSimpArgs false
set_option linter.unusedVariables false
set_option maxHeartbeats 1000000
open Go Go.VS
def idx {α:Type} (p:α→Bool) (l:List α):Int:=match l.findIdx? p with
 |some i=>i
 |none=> -1
theorem Kn {α:Type} {p:α→Bool} {l:List α} (h:∀i (hi:i<l.length),p l[i]=false):idx p l= -1:=by
 have:l.findIdx? p=none:=by
  rw[List.findIdx?_eq_none_iff]
  intro x hx
  obtain⟨i,hi,rfl⟩:=List.getElem_of_mem hx
  exact h i hi
 rw[idx,this]
theorem Ko {α:Type} {p:α→Bool} {l:List α} {i:Nat} (hi:i<l.length) (hp:p l[i]=true) (h:∀j (hj:j<i),p (l[j]'(by omega))=false):idx p l=i:=by
 have:l.findIdx? p=some i:=by
  rw[List.findIdx?_eq_some_iff_getElem]
  exact⟨hi,hp,fun j hj=>by simp [h j hj]⟩
 rw[idx,this]
theorem Ze {α:Type} (p:α→Bool) (l:List α):(idx p l= -1∧l.find? p=none∧∀x,x∈l→p x=false)∨∃(i:Nat) (hi:i<l.length),idx p l=i∧l.find? p=some l[i]∧p l[i]=true∧∀j (hj:j<i),p (l[j]'(by omega))=false:=by
 cases h:l.findIdx? p with
 |none=>
  left
  have h':=h
  rw[List.findIdx?_eq_none_iff] at h
  refine⟨by rw[idx,h'],?_,h⟩
  rw[List.find?_eq_none]
  intro x hx;rw[h x hx];decide
 |some i=>
  right
  have h':=h
  rw[List.findIdx?_eq_some_iff_getElem] at h
  obtain⟨hi,hp,hq⟩:=h
  refine⟨i,hi,by rw[idx,h'],?_,hp,fun j hj=>by simpa using hq j hj⟩
  rw[List.find?_eq_some_iff_getElem]
  exact⟨hp,i,hi,rfl,fun j hj=>by simpa using hq j hj⟩
theorem X3h {α:Type} (p:α→Bool) (l:List α):decide (idx p l≥0)=l.any p:=by
 rcases Ze p l with ⟨h1,_,h3⟩|⟨i,hi,h1,_,h3,_⟩
 ·have:l.any p=false:=by rw[List.any_eq_false];intro x hx;simp [h3 x hx]
  rw[h1,this];rfl
 ·have:l.any p=true:=List.any_eq_true.2 ⟨_,List.getElem_mem hi,h3⟩
  rw[h1,this];simp
theorem Xg {α β:Type} (f:α→β) (l:List α) (i:Nat) (d:β) (h:i<l.length):(l.map f).getD i d=f l[i]:=by
 simp [List.getD_eq_getElem?_getD,h]
theorem Xua {α β:Type} (g:α→β) (l:List α) (i:Nat) (h:i<l.length):(l.take i).map g++[g l[i]]=(l.take (i+1)).map g:=by
 rw[List.take_succ_eq_append_getElem h,List.map_append];rfl
structure Sec where
 id:Int
 pt:Int
 ends:List (Int×Int)
structure Rt where
 id:Int
 entry:Int
 ex:Int
 path:List Int
 over:List Int
 flanks:List (Int×Int)
 timer:Int
def Ym (n:Int):List AV:=[i64 n]
def jnC (j:Int×Int):List AV:=[i64 j.1,i64 j.2]
def Y6 (s:Sec):List AV:=[i64 s.id,i64 s.pt,.sl 2 (s.ends.map jnC) .sh]
def Qh (s:Sec):AV:= .agg (Y6 s)
theorem X0b (s:Sec):pick true 3 (Y6 s)=some (Qh s):=rfl
theorem Xj7 (n:Int):pick false 1 (Ym n)=some (i64 n):=rfl
def Qt (l:List Sec) (n:Int):Option Sec:=l.find? fun s=>s.id==n
def Zs (l:List Rt) (n:Int):Option Rt:=l.find? fun x=>x.id==n
end Go.Proofs.Ytjgbbjooeibppaa.Pln
namespace Go.VS
set_option linter.unusedSimpArgs false
set_option linter.unusedVariables false
set_option maxHeartbeats 1000000
open Go Go.RowKit
def stg {α β:Type} (d:Nat) (f g:Nat→α→β) (l:List α):List β:=l.mapIdx fun i x=>if i<d then f i x else g i x
theorem V8 {α β:Type} (d:Nat) (f g:Nat→α→β) (l:List α):(stg d f g l).length=l.length:=by simp [stg]
theorem Xq0 {α β:Type} (d:Nat) (f g:Nat→α→β) (l:List α) (i:Nat):(stg d f g l)[i]? =l[i]?.map fun x=>if i<d then f i x else g i x:=by simp [stg]
theorem Y3e {α β:Type} {d:Nat} {f g:Nat→α→β} {l:List α} {i:Nat} {x:α} (h:l[i]? =some x) (hi:i<d):(stg d f g l)[i]? =some (f i x):=by rw[Xq0,h,Option.map_some,if_pos hi]
theorem Rf {α β:Type} {d:Nat} {f g:Nat→α→β} {l:List α} {i:Nat} {x:α} (h:l[i]? =some x) (hi:d≤i):(stg d f g l)[i]? =some (g i x):=by rw[Xq0,h,Option.map_some,if_neg (by omega)]
theorem Xuz {α β:Type} {d:Nat} {f g:Nat→α→β} {l:List α} {x:α} (h:l[d]? =some x):(stg d f g l).set d (f d x)=stg (d+1) f g l:=by
 apply List.ext_getElem?
 intro i
 have hl:=(List.getElem?_eq_some_iff.1 h).1
 by_cases e:i=d
 ·subst e
  rw[List.getElem?_set_self (by rw[V8];exact hl),Y3e h (Nat.lt_succ_self _)]
 ·rw[List.getElem?_set_ne (by omega),Xq0,Xq0]
  congr 1
  funext y
  by_cases h2:i<d
  ·rw[if_pos h2,if_pos (by omega)]
  ·rw[if_neg h2,if_neg (by omega)]
theorem Xwl {α β:Type} (f g:Nat→α→β) (l:List α):stg 0 f g l=l.mapIdx g:=by simp [stg]
theorem Xqh {α β:Type} (f:Nat→α→β) (g:α→β) (l:List α):stg 0 f (fun _=>g) l=l.map g:=by
 rw[Xwl];apply List.ext_getElem?;intro i;simp
theorem Y7d {α β:Type} {d:Nat} {f g:Nat→α→β} {l:List α} (h:l.length≤d):stg d f g l=l.mapIdx f:=by
 apply List.ext_getElem?
 intro i
 rw[Xq0,List.getElem?_mapIdx]
 cases hx:l[i]? with
 |none=>rfl
 |some x=>rw[Option.map_some,Option.map_some,if_pos (by have:=(List.getElem?_eq_some_iff.1 hx).1;omega)]
theorem Y4j {s:Nat→Option Res} {sz:Nat} {els:List (List AV)} (md:Md) (hv:∀x,x∈els→∀c,c∈x→∃v,c= .val v):RV s (.sl sz els md) (.sl sz els .sh):=
 .sl sz els els md rfl (fun i r r' h h'=>by rw[h] at h';injection h' with h';rw[h']) fun i j r r' c c' hi hi' hc hc'=>by
  rw[hi] at hi';injection hi' with hi';subst hi'
  rw[hc] at hc';injection hc' with hc';subst hc'
  obtain⟨v,rfl⟩:=hv r (List.mem_of_getElem? hi) c (List.mem_of_getElem? hc)
  exact .val v
def bxD (e:TypeId) (els:List (List AV)):Res:=if els.length=0 then .dead else .box e els.flatten
theorem K1 {e:TypeId} {els:List (List AV)} (h:0<els.length):bxD e els= .box e els.flatten:=if_neg (by omega)
theorem Ext.killN {M:Mem} {k:Nat} (hk:M.st k=none):Ext M (M.kill k):=by
 refine⟨rfl,fun _ _ h=>h,fun _ _ _=>rfl,fun j hj=> ?_,fun j t sz m hj=> ?_,fun j t s m cs hj=>by
  have hne:j≠k:=by rintro rfl;rw[hk] at hj;cases hj
  exact .inl ⟨m,cs,by simp [Mem.kill,Xw,hne,hj],Nat.le_refl _,fun _=>⟨rfl,rfl⟩⟩⟩
 ·have hne:j≠k:=by rintro rfl;rw[hk] at hj;exact hj
  simp [Mem.kill,Xw,hne,hj]
 ·have hne:j≠k:=by rintro rfl;rw[hk] at hj;cases hj
  exact⟨m,by simp [Mem.kill,Xw,hne,hj],Nat.le_refl _,fun _=>⟨rfl,rfl⟩⟩
theorem Inv.killN {M:Mem} (hI:Inv M) {k:Nat} (hk:M.st k=none):Inv (M.kill k):=by
 have ex:=Ext.killN hk
 have hown:∀j,(M.kill k).owns j→j≠k∧M.owns j:=fun j hj=>by
  by_cases e':j=k
  ·subst e';simp [Mem.owns,Mem.kill,Xw] at hj
  ·exact⟨e',by simpa [Mem.owns,Mem.kill,Xw,e'] using hj⟩
 refine⟨hI.below,?_,fun j hj=>hI.new j (hown j hj).2,fun i j hi hj=>hI.inj i j (hown i hi).2 (hown j hj).2,hI.stb,fun j t ds hj=> ?_,fun j t sz m c hj hcap=> ?_,fun j c o' fr' hj=>(hI.pin j c o' fr' (E1 hj (by simp))).ext ex (hI.pin j c o' fr' (E1 hj (by simp))).1,fun i j c o' fr' o'' fr'' hi hj=>hI.pinj i j c _ _ _ _ (E1 hi (by simp)) (E1 hj (by simp)),fun j t sz m cs hj=>hI.vec_keep ex (Yx hj (by simp)).1 rfl rfl (fun _=>rfl) (fun _ _ h=>h)⟩
 ·obtain⟨N,hN⟩:=hI.fin
  exact⟨max N (k+1),fun j hj=>by
   have:j≠k:=by omega
   simp [Mem.kill,Xw,this,hN j (by omega)]⟩
 ·have e':j≠k:=by rintro rfl;simp [Mem.kill,Xt] at hj
  have hj':M.st j=some (.box t ds):=by simpa [Mem.kill,Xw,e'] using hj
  obtain⟨ws,g1,g2,g3,g4,g5⟩:=hI.box j t ds hj'
  exact⟨ws,g1,g2,g3,fun i c v hi hv=>(g4 i c v hi hv).ext ex,g5⟩
 ·have e':j≠k:=by rintro rfl;simp [Mem.kill,Xt] at hj
  have hj':M.st j=some (.row t sz m):=by simpa [Mem.kill,Xw,e'] using hj
  exact hI.row j t sz m c hj' hcap
theorem Xq4 {P:Program} {f:FuncId} {args:List AV} {sz k off:Nat} (h:Xr P f args [] (.sl sz [] .full) []):Xr P f args [(k,none)] (.bsl k off 0 false) [(k,.dead)]:=fun M N vs hI hR hn hN hu=>
 (h M N vs hI hR trivial hN trivial).mono fun e w' ⟨v,he,M',h1,h2,h3,h4,h5⟩=>by
  have hk:M'.st k=none:=(h4 k hu.1).trans hn.1
  obtain⟨a,rfl⟩:=Xff (.inr rfl) h5
  refine⟨_,he,M'.kill k,h1,h2.trans (Ext.killN hk),h3.killN hk,fun j hj=> ?_,.bsl0 _ _ a⟩
  show Xw M'.st k .dead j=Xw M.st k .dead j
  unfold Xw
  split
  ·rfl
  ·exact h4 j hj
theorem Xem:∀(l:List (Option Res)) (K:Nat) (fr:List AV) (lo:List (Option Res)) (out:Nat→Option Res) (n0 n:Nat) (df:List Deferred),Mc n0 (Y62 K l)→AState.give ⟨fr,lo,out,n0,n,df⟩ (Y62 K l)=⟨fr,lo,ofL out K l,n0,n,df⟩
 |[],K,fr,lo,out,n0,n,df,h=>by
  rw[← K3];rfl
 |none::l,K,fr,lo,out,n0,n,df,h=>by
  rw[← K3]
  show AState.give _ (Y62 (K+1) l)=⟨_,_,upd out (Y62 (K+1) l),_,_,_⟩
  rw[K3]
  exact Xem l (K+1) fr lo out n0 n df h
 |some r::l,K,fr,lo,out,n0,n,df,h=>by
  rw[← K3]
  have hk:K<n0:=h.1
  show AState.give (if K<n0 then _ else _) (Y62 (K+1) l)=⟨_,_,upd (Xw out K r) (Y62 (K+1) l),_,_,_⟩
  rw[if_pos hk,K3]
  exact Xem l (K+1) fr lo (Xw out K r) n0 n df h.2
theorem Xg7 {fr:List AV} {lo:List (Option Res)} {out:Nat→Option Res} {n0 n K:Nat} {df:List Deferred} {l:List (Option Res)} (h:Mc n0 (Y62 K l)) (t:Tmp) (x:AV):AState.next ⟨fr,lo,out,n0,n,df⟩ (some t) x (Y62 K l)=⟨fr.set t x,lo,ofL out K l,n0,n,df⟩:=
 Xem l K _ lo out n0 n df h
theorem Xg1 {P:Program} {σ:AState} {Kc:AV→List (Nat×Res)→Prop} {f:FuncId} {args:List AV} {K:Nat} {l:List (Option Res)} {r:AV} (h:Xr P f args (Xev K l) r (Y62 K l)) (hu:Mc σ.n0 (Y62 K l)) (hn:holds σ.out (Xev K l)) (hK:Kc r (Y62 K l)):M8 P σ Kc f args:=by
 have hd:∀x,x∈Xev K l→x.1<σ.n0:=fun x hx=>by
  obtain⟨_,j,q,h1,h2⟩:=Xwk.1 hx
  rw[h2]
  exact K2 hu h1
 refine⟨_,r,_,h,Q5.2 fun x hx=> ?_,Yn.2 fun x hx=> .inl (Ht.1 hu x hx),fun x hx=>⟨.inl (hd x hx),by rw[(Xwk.1 hx).1];intro h;cases h⟩,hK⟩
 unfold AState.look
 rw[if_pos (hd x hx)]
 exact Q5.1 hn x hx
def Xgg (l:List (Option Res)):List (Option Res):=l.map fun o=>match o with|some .dead=>none|o=>o
theorem Xg8 {l:List (Option Res)} {j:Nat} {r:Res} (h:(Xgg l)[j]? =some (some r)):l[j]? =some (some r)∧r≠ .dead:=by
 unfold Xgg at h
 rw[List.getElem?_map] at h
 cases hl:l[j]? with
 |none=>rw[hl] at h;cases h
 |some o=>
  rw[hl,Option.map_some] at h
  cases o with
  |none=>simp at h
  |some q=>
   cases q<;>simp at h<;>subst h<;>exact⟨rfl,by intro h;cases h⟩
section
variable {s out:Nat→Option Res} {K k i:Nat} {L L':List (Option Res)} {r q:Res}
theorem Xj8 (h:k<K∨K+L.length≤k):ofL (Xw s k r) K L=Xw (ofL s K L) k r:=by
 funext j
 by_cases hj:j=k
 ·subst hj
  rw[Xge h,Xt,Xt]
 ·rw[Zp _ _ hj]
  unfold ofL
  rw[Zp _ _ hj]
theorem Xnb:ofL (ofL s K L) (K+L.length) L'=ofL s K (L++L'):=by
 funext j
 unfold ofL
 by_cases h1:K+L.length≤j
 ·rw[if_pos h1,if_pos (by omega:K≤j),if_pos (by omega:K≤j),List.getElem?_append_right (by omega),List.getElem?_eq_none (by omega:L.length≤j - K),show j - (K+L.length)=j - K - L.length from by omega]
  rfl
 ·rw[if_neg h1]
  by_cases h2:K≤j
  ·rw[if_pos h2,if_pos h2,List.getElem?_append_left (by omega)]
  ·rw[if_neg h2,if_neg h2]
theorem Xj9:∀(L:List (Option Res)) {K:Nat},Xev K (L++L')=Xev K L++Xev (K+L.length) L'
 |[],K=>by simp [Xev]
 |none::L,K=>by
  have:=Xj9 L (K:=K+1)
  simp only[List.cons_append,Xev,this,List.length_cons]
  rw[Nat.add_assoc,Nat.add_comm 1]
 |some r::L,K=>by
  have:=Xj9 L (K:=K+1)
  simp only[List.cons_append,Xev,this,List.length_cons]
  rw[Nat.add_assoc,Nat.add_comm 1]
theorem Xja:∀(L:List (Option Res)) {K:Nat},Y62 K (L++L')=Y62 K L++Y62 (K+L.length) L'
 |[],K=>by simp [Y62]
 |none::L,K=>by
  have:=Xja L (K:=K+1)
  simp only[List.cons_append,Y62,this,List.length_cons]
  rw[Nat.add_assoc,Nat.add_comm 1]
 |some r::L,K=>by
  have:=Xja L (K:=K+1)
  simp only[List.cons_append,Y62,this,List.length_cons]
  rw[Nat.add_assoc,Nat.add_comm 1]
theorem Xji {a b:List (Nat×Option Res)}:holds s (a++b)↔holds s a∧holds s b:=by
 simp only[Q5,List.mem_append,or_imp,forall_and]
theorem Xiq {N:Nat} {a b:List (Nat×Res)}:Mc N (a++b)↔Mc N a∧Mc N b:=by
 simp only[Ht,List.mem_append,or_imp,forall_and]
theorem Xi6 (a b:List (Nat×Res)):upd s (a++b)=upd (upd s a) b:=by
 induction a generalizing s with
 |nil=>rfl
 |cons x a ih=>exact ih
theorem Xm9 {m:Nat} (h:holds s (Xev m L')) (hm:m+L'.length≤K∨K+L.length≤m):holds (ofL s K L) (Xev m L'):=Q5.2 fun x hx=>by
 obtain⟨h0,j,q,h1,h2⟩:=Xwk.1 hx
 have:=(List.getElem?_eq_some_iff.1 h1).1
 rw[Xge (by omega)]
 exact Q5.1 h x hx
theorem Xix {rd:List Nat} {outs:List (Nat×Nat)} {x:Nat} (hn:holds out (Xev K L)) (hx:x∈rd) (h1:100≤x) (h2:outs[x - 100]? =some (K,L.length)):holds (Xlu rd outs out) (Xev K L):=Q5.2 fun y hy=>by
 obtain⟨h0,j,q,h3,h4⟩:=Xwk.1 hy
 have:=(List.getElem?_eq_some_iff.1 h3).1
 rw[Xlg hx h1 h2 (by rw[h4];dsimp only;omega)]
 exact Q5.1 hn y hy
theorem Xlc {n:Nat} (hu:Mc n (Y62 K L)):∀x,x∈Xev K L→x.1<n:=fun x hx=>by
 obtain⟨_,j,q,h1,h2⟩:=Xwk.1 hx
 rw[h2]
 exact K2 hu h1
theorem Xhu {P:Program} {σ:AState} {Kc:AV→List (Nat×Res)→Prop} {f:FuncId} {args:List AV} {x:AV} (h:Xr P f args ((k,none)::Xev K L) x ((k,q)::Y62 K L)) (hl:σ.look k=none) (hd:σ.dom k) (hu:Mc σ.n0 (Y62 K L)) (hn:holds σ.out (Xev K L)) (hK:Kc x ((k,q)::Y62 K L)):M8 P σ Kc f args:=by
 refine⟨_,x,_,h,⟨hl,Q5.2 fun y hy=> ?_⟩,⟨hd,Yn.2 fun y hy=> .inl (Ht.1 hu y hy)⟩,fun y hy=> ?_,hK⟩
 ·unfold AState.look
  rw[if_pos (Xlc hu y hy)]
  exact Q5.1 hn y hy
 ·rcases List.mem_cons.1 hy with rfl|hy
  ·exact⟨hd,by intro h;cases h⟩
  ·exact⟨.inl (Xlc hu y hy),by rw[(Xwk.1 hy).1];intro h;cases h⟩
theorem Xjp {outs:List (Nat×Nat)} {wr:List Nat} {R:AState→Prop} {fr:List AV} {lo:List (Option Res)} {n0 n:Nat} {df:List Deferred} {d:Option Tmp} {x:AV} {y z:Nat} (h1:y∈wr) (h2:y<100) (h3:z∈wr) (h4:100≤z) (h5:outs[z - 100]? =some (K,L.length)) (hn0:n0≤n) (hu:Mc n0 (Y62 K L))
  (h:R (AState.next ⟨fr,lo.set y (some q),out,n0,n,df⟩ d x (Y62 K L))):Xj2 outs wr R ⟨fr,lo,out,n0,n,df⟩ d x ((n+y,q)::Y62 K L):=by
 refine⟨fun p hp=> ?_,?_⟩
 ·rcases List.mem_cons.1 hp with rfl|hp
  ·exact⟨y,h1,.inl ⟨h2,rfl⟩⟩
  ·obtain⟨j,g1,g2⟩:=Xwj.1 hp
   have:=(List.getElem?_eq_some_iff.1 g1).1
   exact⟨z,h3,.inr ⟨h4,_,h5,Xii.2 (by rw[g2];dsimp only;omega)⟩⟩
 ·rw[Xjn hn0]
  exact h
theorem Xma {outs:List (Nat×Nat)} {wr:List Nat} {R:AState→Prop} {σ:AState} {d:Option Tmp} {x:AV} {z:Nat} (h3:z∈wr) (h4:100≤z) (h5:outs[z - 100]? =some (K,L.length))
  (h:R (AState.next σ d x (Y62 K L))):Xj2 outs wr R σ d x (Y62 K L):=by
 refine⟨fun p hp=> ?_,h⟩
 obtain⟨j,g1,g2⟩:=Xwj.1 hp
 have:=(List.getElem?_eq_some_iff.1 g1).1
 exact⟨z,h3,.inr ⟨h4,_,h5,Xii.2 (by rw[g2];dsimp only;omega)⟩⟩
theorem Xmb {outs:List (Nat×Nat)} {wr:List Nat} {R:AState→Prop} {σ:AState} {d:Option Tmp} {x:AV} {z:Nat} (h3:z∈wr) (h4:100≤z) (h5:outs[z - 100]? =some (K,1))
  (h:R (AState.next σ d x [(K,q)])):Xj2 outs wr R σ d x [(K,q)]:=by
 refine⟨fun p hp=> ?_,h⟩
 rw[List.mem_singleton] at hp
 subst hp
 exact⟨z,h3,.inr ⟨h4,_,h5,Xii.2 (by dsimp only;omega)⟩⟩
theorem Xih {n:Nat} (h:Mc n (Y62 K L)) (hL:∀x,x∈L→x≠none):∀j,j<L.length→K+j<n:=fun j hj=>by
 cases hx:L[j] with
 |none=>exact(hL _ (List.getElem_mem hj) hx).elim
 |some r=>exact K2 h (by rw[List.getElem?_eq_getElem hj,hx])
theorem Xld {P:Program} {f:FuncId} {args:List AV} {needs:List (Nat×Option Res)} {x y:AV} {gives:List (Nat×Res)} (h:Xr P f args needs x gives) (hle:AV.le x y):Xr P f args needs y gives:=fun M N vs hI hR hn hN hu=>
 (h M N vs hI hR hn hN hu).mono fun e w' ⟨v,he,M',h1,h2,h3,h4,h5⟩=>⟨v,he,M',h1,h2,h3,h4,h5.le hle⟩
theorem Xjq {P:Program} {f:FuncId} {args:List AV} {x:AV} {needs:Nat→List (Nat×Option Res)} {gives:Nat→List (Nat×Res)} {m:Nat} (h:∀B,Xr P f args (needs B) x (gives B))
  (hn:∀B y,y∈needs B→y.2=none∧B≤y.1) (hg:∀B y,y∈gives B→B≤y.1∧y.1<B+m):Xr P f args [] x []:=fun M N vs hI hR _ hN _=>by
 obtain⟨A,hA⟩:=hI.fin
 refine(h (max N A) M (max N A+m) vs hI hR (Q5.2 fun y hy=> ?_) (fun k hk=>hN k (by omega)) (Ht.2 fun y hy=>(hg _ y hy).2)).mono fun e w' ⟨v,he,M',h1,h2,h3,h4,h5⟩=>⟨v,he,M',h1,h2,h3,fun k hk=> ?_,h5⟩
 ·obtain⟨h0,h1⟩:=hn _ y hy
  rw[h0]
  exact hA _ (by omega)
 ·rw[h4 k (by omega),Sd _ fun y hy=>by have:=(hg _ y hy).1;omega];rfl
end
end Go.VS
