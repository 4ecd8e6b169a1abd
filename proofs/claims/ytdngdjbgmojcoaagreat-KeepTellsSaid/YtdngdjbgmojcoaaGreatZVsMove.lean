/-
 The value-semantics layer: local names counted anew, some of them forgotten.
-/
import Derived.Test.YtdngdjbgmojcoaaGreatZVsFor
namespace Go.VS
set_option linter.all false
open Go Go.RowKit
inductive Mv (keep:List Bool) (n n':Nat):AV->AV->Prop
 |le {x y:AV} (h:AV.le x y):Mv keep n n' x y
 |own (sz:Nat) (els:List (List AV)) (i:Nat) (h:keep[i]? =some true):Mv keep n n' (.sl sz els (.own (n+i))) (.sl sz els (.own (n'+i)))
 |ptr (i off:Nat) (h:keep[i]? =some true):Mv keep n n' (.ptr (n+i) off) (.ptr (n'+i) off)
 |bsl (i off len:Nat) (fl:Bool) (h:keep[i]? =some true):Mv keep n n' (.bsl (n+i) off len fl) (.bsl (n'+i) off len fl)
 |vsl (i m:Nat) (h:keep[i]? =some true):Mv keep n n' (.vsl (n+i) m) (.vsl (n'+i) m)
 |fn (f:Fn) (cs cs':List AV) (hl:cs.length=cs'.length) (h:∀(i:Nat) (c c':AV),cs[i]? =some c->cs'[i]? =some c'->Mv keep n n' c c'):Mv keep n n' (.fn f cs) (.fn f cs')
 |agg (cs cs':List AV) (hl:cs.length=cs'.length) (h:∀(i:Nat) (c c':AV),cs[i]? =some c->cs'[i]? =some c'->Mv keep n n' c c'):Mv keep n n' (.agg cs) (.agg cs')
 |sl (sz:Nat) (els els':List (List AV)) (md:Md) (hl:els.length=els'.length) (hr:∀(i:Nat) (r r':List AV),els[i]? =some r->els'[i]? =some r'->r.length=r'.length)
   (h:∀(i j:Nat) (r r':List AV) (c c':AV),els[i]? =some r->els'[i]? =some r'->r[j]? =some c->r'[j]? =some c'->Mv keep n n' c c'):Mv keep n n' (.sl sz els md) (.sl sz els' .sh)
def mvL (keep:List Bool) (n n':Nat):List AV->List AV->Prop
 |[],[]=>True
 |x::l,y::l'=>Mv keep n n' x y∧mvL keep n n' l l'
 | _,_=>False
theorem Kb {keep:List Bool} {n n':Nat}:∀{l l':List AV},mvL keep n n' l l'->l.length=l'.length∧∀(i:Nat) (x y:AV),l[i]? =some x->l'[i]? =some y->Mv keep n n' x y
 |[],[],_=>⟨rfl,fun i x y h=>by simp at h⟩
 |x::l,y::l',h=>by
  obtain⟨h1,h2⟩:=Kb h.2;refine⟨by simp [h1],fun i a b ha hb=> ?_⟩;cases i with
  |zero=>simp at ha hb;subst ha;subst hb;exact h.1
  |succ i=>exact h2 i a b (by simpa using ha) (by simpa using hb)
 |[],_:: _,h=>h.elim
 | _:: _,[],h=>h.elim
def Zk (keep:List Bool) (n n':Nat):Option Res->Option Res->Prop
 |some (.box e cs),some (.box e' cs')=>e=e'∧mvL keep n n' cs cs'
 |some (.vec e sz m cs),some (.vec e' sz' m' cs')=>e=e'∧sz=sz'∧m=m'∧mvL keep n n' cs cs'
 |some (.pin b o fr),some (.pin b' o' fr')=>b=b'∧o=o'∧mvL keep n n' fr fr'
 |a,b=>a=b
def mvR (keep:List Bool) (n n':Nat):List Bool->List (Option Res)->List (Option Res)->Prop
 |[],[],[]=>True
 |true::ks,r::l,r'::l'=>Zk keep n n' r r'∧mvR keep n n' ks l l'
 |false::ks,_::l,r'::l'=>r'=none∧mvR keep n n' ks l l'
 | _,_,_=>False
theorem Cs {keep:List Bool} {n n':Nat}:∀{ks:List Bool} {l l':List (Option Res)},mvR keep n n' ks l l'->ks.length=l.length∧l'.length=l.length∧
  ∀i:Nat,(ks[i]? =some true∧Zk keep n n' (l[i]?).join (l'[i]?).join)∨(ks[i]? ≠some true∧(l'[i]?).join=none)
 |[],[],[],_=>⟨rfl,rfl,fun i=> .inr ⟨by simp,rfl⟩⟩
 |true::ks,r::l,r'::l',h=>by
  obtain⟨h1,h2,h3⟩:=Cs h.2;refine⟨by simp [h1],by simp [h2],fun i=> ?_⟩;cases i with
  |zero=>exact .inl ⟨rfl,h.1⟩
  |succ i=>simpa using h3 i
 |false::ks,r::l,r'::l',h=>by
  obtain⟨h1,h2,h3⟩:=Cs h.2;refine⟨by simp [h1],by simp [h2],fun i=> ?_⟩;cases i with
  |zero=>exact .inr ⟨by simp,by simpa using h.1⟩
  |succ i=>simpa using h3 i
 |true:: _,[],_,h=>h.elim
 |false:: _,[],_,h=>h.elim
 |true:: _,_:: _,[],h=>h.elim
 |false:: _,_:: _,[],h=>h.elim
 |[],_:: _,_,h=>by simp [mvR] at h
 |[],[],_:: _,h=>h.elim
def Xoe:Option Res->Option Res
 |some (.box _ _)=>some .dead
 |some .dead=>some .dead
 |some (.vec _ _ _ _)=>some .dead
 |some (.row e sz m)=>some (.row e sz (m+1))
 |some (.pin _ _ _)=>none
 |none=>none
theorem Yg {keep:List Bool} {n n':Nat} {a b:Option Res} (h:Zk keep n n' a b):(∃e cs cs',a=some (.box e cs)∧b=some (.box e cs')∧mvL keep n n' cs cs')∨
  (∃e sz m cs cs',a=some (.vec e sz m cs)∧b=some (.vec e sz m cs')∧mvL keep n n' cs cs')∨(∃c o fr fr',a=some (.pin c o fr)∧b=some (.pin c o fr')∧mvL keep n n' fr fr')∨
  (a=b∧(a=none∨a=some .dead∨∃e sz m,a=some (.row e sz m))):=by
 unfold Zk at h;split at h
 ·obtain⟨rfl,h⟩:=h;exact .inl ⟨_,_,_,rfl,rfl,h⟩
 ·obtain⟨rfl,rfl,rfl,h⟩:=h;exact .inr (.inl ⟨_,_,_,_,_,rfl,rfl,h⟩)
 ·obtain⟨rfl,rfl,h⟩:=h;exact .inr (.inr (.inl ⟨_,_,_,_,rfl,rfl,h⟩))
 ·rename_i h1 h2 h3;subst h;refine .inr (.inr (.inr ⟨rfl,?_⟩));cases a with
  |none=>exact .inl rfl
  |some r=>cases r with
   |box e cs=>exact(h1 _ _ _ _ rfl rfl).elim
   |row e sz m=>exact .inr (.inr ⟨_,_,_,rfl⟩)
   |vec e sz m cs=>exact(h2 _ _ _ _ _ _ _ _ rfl rfl).elim
   |dead=>exact .inr (.inl rfl)
   |pin b o fr=>exact(h3 _ _ _ _ _ _ rfl rfl).elim
section
variable (M:Mem) (g:Nat->Option Res) (keep:List Bool) (n len n':Nat) (lo':List (Option Res))
def Xo7 (k:Nat):Prop:=n<=k∧k<n+len∧keep[k - n]? =some true
def Up (k:Nat):Prop:=n'<=k∧k<n'+len
instance (k:Nat):Decidable (Xo7 keep n len k):=by unfold Xo7;exact inferInstance
instance (k:Nat):Decidable (Up len n' k):=by unfold Up;exact inferInstance
def Mem.move:Mem:=
 {M with
  st:=fun k=>if Xo7 keep n len k then Xoe (M.st k) else if Up len n' k then(lo'[k - n']?).join else g k
  β:=fun k=>if Up len n' k then M.β (n+(k - n')) else M.β k
  cap:=fun k=>if Xo7 keep n len k then none else if Up len n' k then M.cap (n+(k - n')) else M.cap k}
end
section
variable {M:Mem} {g:Nat->Option Res} {keep:List Bool} {n len n':Nat} {lo':List (Option Res)}
theorem Ud {keep:List Bool} {n n':Nat}:∀l:List AV,mvL keep n n' l l
 |[]=>trivial
 |x::l=>⟨.le (.rfl x),Ud l⟩
theorem U9 {keep:List Bool} {n n':Nat} (r:Option Res):Zk keep n n' r r:=by
 cases r with
 |none=>rfl
 |some r=>cases r<;>first|exact⟨rfl,Ud _⟩|exact⟨rfl,rfl,rfl,Ud _⟩|exact⟨rfl,rfl,Ud _⟩|rfl
theorem Ext.move (hf:∀k,Up len n' k->M.st k=none) (hg:∀k,Zk keep n n' (M.st k) (g k)):Ext M (M.move g keep n len n' lo'):=by
 have old:∀k,M.st k≠none->¬Up len n' k:=fun k h h'=>h (hf k h');refine⟨rfl,fun _ _ h=>h,fun _ _ _=>rfl,fun k hk=> ?_,fun k e sz m hk=> ?_,fun k e sz m cs hk=> ?_⟩
 ·have ho:=old k (by intro h;rw[h] at hk;exact hk);refine⟨?_,by simp [Mem.move,ho]⟩;simp only[Mem.move,ho,if_false];split
  ·revert hk;cases M.st k with
   |none=>exact fun h=>h
   |some r=>cases r<;>intro h<;>first|trivial|exact h
  ·rcases Yg (hg k) with ⟨_,_,_,q,q',_⟩|⟨_,_,_,_,_,q,q',_⟩|⟨_,_,_,_,q,q',_⟩|⟨q,_⟩
   ·rw[q'];trivial
   ·rw[q] at hk;exact hk.elim
   ·rw[q] at hk;exact hk.elim
   ·rw[<- q];exact hk
 ·have ho:=old k (by rw[hk];simp);simp only[Mem.move,ho,if_false];split
  ·exact⟨m+1,by rw[hk];rfl,by omega,fun h=>by omega⟩
  ·refine⟨m,?_,Nat.le_refl _,fun _=>by simp⟩;rcases Yg (hg k) with ⟨_,_,_,q,q',_⟩|⟨_,_,_,_,_,q,q',_⟩|⟨_,_,_,_,q,q',_⟩|⟨q,_⟩
   ·rw[q] at hk;cases hk
   ·rw[q] at hk;cases hk
   ·rw[q] at hk;cases hk
   ·rw[<- q];exact hk
 ·have ho:=old k (by rw[hk];simp);simp only[Mem.move,ho,if_false];split
  ·right;rw[hk];trivial
  ·left
   rcases Yg (hg k) with ⟨_,_,_,q,q',_⟩|⟨_,_,_,_,_,q,q',_⟩|⟨_,_,_,_,q,q',_⟩|⟨q,_⟩
   ·rw[q] at hk;cases hk
   ·rw[q] at hk;cases hk;exact⟨_,_,q',Nat.le_refl _,fun _=>by simp⟩
   ·rw[q] at hk;cases hk
   ·exact⟨m,cs,by rw[<- q];exact hk,Nat.le_refl _,fun _=>by simp⟩
theorem Wp (hnn:n+len<=n'∨n'+len<=n) {i:Nat} (hi:i<len):(M.move g keep n len n' lo').st (n'+i)=(lo'[i]?).join∧(M.move g keep n len n' lo').β (n'+i)=M.β (n+i)∧(M.move g keep n len n' lo').cap (n'+i)=M.cap (n+i):=by
 have h1:¬Xo7 keep n len (n'+i):=fun h=>by have:=h.1;have:=h.2.1;omega
 have h2:Up len n' (n'+i):=⟨by omega,by omega⟩
 simp [Mem.move,h1,h2]
theorem R.mv (hnn:n+len<=n'∨n'+len<=n) (hf:∀k,Up len n' k->M.st k=none) (hg:∀k,Zk keep n n' (M.st k) (g k)) (hkl:keep.length=len) (hres:∀i:Nat,keep[i]? =some true->Zk keep n n' (M.st (n+i)) (lo'[i]?).join) {x y:AV} {v:Value} (h:R M x v) (hm:Mv keep n n' x y):
  R (M.move g keep n len n' lo') y v:=by
 have ex:=Ext.move (keep:=keep) (n:=n) (len:=len) (lo':=lo') hf hg;have lt:∀{i:Nat},keep[i]? =some true->i<len:=fun h=>by have:=(ae.1 h).1;omega
 induction hm generalizing v with
 |le hle=>exact(h.ext ex).le hle
 |own sz els i hi=>
  have hil:=lt hi;obtain⟨g1,g2,g3⟩:=Wp (M:=M) (g:=g) (keep:=keep) (lo':=lo') hnn hil;cases h with
  |nil _ _ a hn hn'=>exact .nil _ _ a (by intro h;cases h) (by intro h;cases h)
  |slice _ _ _ a cap hs hcap hsz hst hc hmd=>
   refine .slice sz els _ a cap hs hcap hsz hst (fun i j row c v hi hj hv=>(hc i j row c v hi hj hv).ext ex) ?_;obtain⟨e,m,h1,h2,h3⟩:=hmd;have hr:=hres i hi;rw[h1] at hr;refine⟨e,m,?_,h2,fun hm=> ?_⟩
   ·rw[g1];rcases Yg hr with ⟨_,_,_,q,_⟩|⟨_,_,_,_,_,q,_⟩|⟨_,_,_,_,q,_⟩|⟨q,_⟩
    ·cases q
    ·cases q
    ·cases q
    ·exact q.symm
   ·rw[g2,g3];exact h3 hm
 |ptr i off hi=>
  have hil:=lt hi;obtain⟨g1,g2,g3⟩:=Wp (M:=M) (g:=g) (keep:=keep) (lo':=lo') hnn hil;cases h with
  |ptr _ _ hb=>
   rw[<- g2];refine .ptr _ _ ?_;rw[g1];have hr:=hres i hi;rcases Yg hr with ⟨_,_,_,q,q',_⟩|⟨_,_,_,_,_,q,_⟩|⟨_,_,_,_,q,_⟩|⟨q,_⟩
   ·rw[q'];trivial
   ·rw[q] at hb;exact hb.elim
   ·rw[q] at hb;exact hb.elim
   ·rw[<- q];exact hb
 |bsl i off l fl hi=>
  have hil:=lt hi;obtain⟨g1,g2,g3⟩:=Wp (M:=M) (g:=g) (keep:=keep) (lo':=lo') hnn hil;cases h with
  |bsl _ _ _ cap _ hb hc hfl=>
   rw[<- g2];refine .bsl _ _ _ cap _ ?_ hc hfl;rw[g1];have hr:=hres i hi;rcases Yg hr with ⟨_,_,_,q,q',_⟩|⟨_,_,_,_,_,q,_⟩|⟨_,_,_,_,q,_⟩|⟨q,_⟩
   ·rw[q'];trivial
   ·rw[q] at hb;exact hb.elim
   ·rw[q] at hb;exact hb.elim
   ·rw[<- q];exact hb
  |bsl0 _ _ a=>exact .bsl0 _ _ a
 |vsl i m hi=>
  have hil:=lt hi;obtain⟨g1,g2,g3⟩:=Wp (M:=M) (g:=g) (keep:=keep) (lo':=lo') hnn hil;cases h with
  |vsl _ _ a l c hv=>
   refine .vsl _ _ a l c ?_;unfold Ku at hv⊢;rw[g1];have hr:=hres i hi;rcases Yg hr with ⟨_,_,_,q,q',_⟩|⟨_,_,_,_,_,q,q',_⟩|⟨_,_,_,_,q,_⟩|⟨q,_⟩
   ·rw[q'];trivial
   ·rw[q] at hv;rw[q'];dsimp only at hv⊢;rw[g2,g3];exact hv
   ·rw[q] at hv;exact hv.elim
   ·rw[<- q];revert hv;cases M.st (n+i) with
    |none=>exact fun h=>h
    |some r=>cases r<;>intro hv<;>first|exact hv|(dsimp only at hv⊢;rw[g2,g3];exact hv)
 |fn f cs cs' hl hh ih=>
  cases h with
  |fn _ _ vs hvl hc=>
   exact .fn f cs' vs (hl.symm.trans hvl) fun i c v hi hv=>by
    have hil:i<cs.length:=by rw[hl];exact(ae.1 hi).1
    have e1:=ah hil;exact ih i _ _ e1 hi (hc i _ v e1 hv)
 |agg cs cs' hl hh ih=>
  cases h with
  |agg _ vs hvl hf' hc=>
   exact .agg cs' vs (hl.symm.trans hvl) hf' fun i c v hi hv=>by
    have hil:i<cs.length:=by rw[hl];exact(ae.1 hi).1
    have e1:=ah hil;exact ih i _ _ e1 hi (hc i _ v e1 hv)
 |sl sz els els' md hl hr hh ih=>
  cases h with
  |nil _ _ a hn hn'=>
   have:els'=[]:=cz (by simpa using hl.symm);subst this;exact .nil _ _ a (by intro h;cases h) (by intro h;cases h)
  |slice _ _ _ a cap hs hcap hsz hst hc hmd=>
   rw[hl];refine .slice sz els' .sh a cap hs (by rw[<- hl];exact hcap) (fun row hrow=> ?_) (fun o ho=>id (hst o (by rw[hl];exact ho))) (fun i j row c v hi hj hv=> ?_) trivial
   ·obtain⟨i,hi⟩:=du hrow;have hil:i<els.length:=by rw[hl];exact(ae.1 hi).1
    rw[<- hr i _ _ (ah hil) hi];exact hsz _ (a8 hil)
   ·have hil:i<els.length:=by rw[hl];exact(ae.1 hi).1
    have e1:=ah hil;have hjl:j<(els[i]).length:=by rw[hr i _ _ e1 hi];exact(ae.1 hj).1
    have e2:=ah hjl;exact ih i j _ _ _ _ e1 hi e2 hj (hc i j _ _ v e1 e2 hv)
theorem J9 (hnn:n+len<=n'∨n'+len<=n) (hf:∀k,Up len n' k->M.st k=none) (hg:∀k,Zk keep n n' (M.st k) (g k)) (hkl:keep.length=len) (hres:∀i:Nat,keep[i]? =some true->Zk keep n n' (M.st (n+i)) (lo'[i]?).join) {cs cs':List AV} (h:mvL keep n n' cs cs') {vs:Array Value}
  (hc:∀(i:Nat) (c:AV) (v:Value),cs[i]? =some c->vs[i]? =some v->R M c v):∀(i:Nat) (c:AV) (v:Value),cs'[i]? =some c->vs[i]? =some v->R (M.move g keep n len n' lo') c v:=fun i c v hi hv=>by
 obtain⟨h1,h2⟩:=Kb h;have hil:i<cs.length:=by rw[h1];exact(ae.1 hi).1
 exact(hc i _ v (ah hil) hv).mv hnn hf hg hkl hres (h2 i _ _ (ah hil) hi)
theorem X4h (hnn:n+len<=n'∨n'+len<=n) (hf:∀k,Up len n' k->M.st k=none) (hg:∀k,Zk keep n n' (M.st k) (g k)) (hll:lo'.length=len) (hres:∀i:Nat,keep[i]? =some true->Zk keep n n' (M.st (n+i)) (lo'[i]?).join) (hnone:∀i:Nat,keep[i]? ≠some true->(lo'[i]?).join=none) (k:Nat):
  (∃j,Zk keep n n' (M.st j) ((M.move g keep n len n' lo').st k)∧(M.move g keep n len n' lo').β k=M.β j∧(M.move g keep n len n' lo').cap k=M.cap j∧
   ((∃i,k=n'+i∧j=n+i∧keep[i]? =some true)∨(j=k∧¬Xo7 keep n len k∧¬Up len n' k)))∨
  (Xo7 keep n len k∧(M.move g keep n len n' lo').st k=Xoe (M.st k)∧(M.move g keep n len n' lo').cap k=none)∨(M.move g keep n len n' lo').st k=none:=by
 by_cases h1:Xo7 keep n len k
 ·exact .inr (.inl ⟨h1,by simp [Mem.move,h1],by simp [Mem.move,h1]⟩)
 by_cases h2:Up len n' k
 ·obtain⟨i,rfl⟩:∃i,k=n'+i:=⟨k - n',by have:=h2.1;omega⟩
  have hil:i<len:=by have:=h2.2;omega
  obtain⟨g1,g2,g3⟩:=Wp (M:=M) (g:=g) (keep:=keep) (lo':=lo') hnn hil;by_cases hk:keep[i]? =some true
  ·exact .inl ⟨n+i,by rw[g1];exact hres i hk,g2,g3,.inl ⟨i,rfl,rfl,hk⟩⟩
  ·exact .inr (.inr (by rw[g1];exact hnone i hk))
 ·exact .inl ⟨k,by simp only[Mem.move,h1,h2,if_false];exact hg k,by simp [Mem.move,h2],by simp [Mem.move,h1,h2],.inr ⟨rfl,h1,h2⟩⟩
theorem Inv.move (hI:Inv M) (hnn:n+len<=n'∨n'+len<=n) (hf:∀k,Up len n' k->M.st k=none) (hg:∀k,Zk keep n n' (M.st k) (g k)) (hkl:keep.length=len) (hll:lo'.length=len)
  (hres:∀i:Nat,keep[i]? =some true->Zk keep n n' (M.st (n+i)) (lo'[i]?).join) (hnone:∀i:Nat,keep[i]? ≠some true->(lo'[i]?).join=none):Inv (M.move g keep n len n' lo'):=by
 have ex:=Ext.move (keep:=keep) (n:=n) (len:=len) (lo':=lo') hf hg;have cases_st:=X4h (M:=M) (g:=g) (keep:=keep) (lo':=lo') hnn hf hg hll hres hnone;have moved:∀{i:Nat},keep[i]? =some true->Xo7 keep n len (n+i):=fun{i} h=>⟨by omega,by have:=(ae.1 h).1;omega,by rw[Nat.add_sub_cancel_left];exact h⟩
 have gone:∀{k:Nat} {r:Res},(M.move g keep n len n' lo').st k=Xoe (M.st k)->(M.move g keep n len n' lo').st k=some r->r= .dead∨∃e sz m,r= .row e sz m:=fun{k r} hs hk=>by
  rw[hs] at hk;revert hk;cases M.st k with
  |none=>exact fun h=>by cases h
  |some q=>cases q<;>intro h<;>cases h<;>first|exact .inl rfl|exact .inr ⟨_,_,_,rfl⟩
 have own:∀k,(M.move g keep n len n' lo').owns k->∃j,M.owns j∧(M.move g keep n len n' lo').β k=M.β j∧((∃i,k=n'+i∧j=n+i∧keep[i]? =some true)∨(j=k∧¬Xo7 keep n len k∧¬Up len n' k)):=by
  intro k hk;rcases cases_st k with ⟨j,hm,hb,hc,hw⟩|⟨h1,hs,hc⟩|hs
  ·refine⟨j,?_,hb,hw⟩;unfold Mem.owns at hk⊢;rw[hc] at hk;rcases Yg hm with ⟨_,_,_,q,q',_⟩|⟨_,_,_,_,_,q,q',_⟩|⟨_,_,_,_,q,q',_⟩|⟨q,_⟩
   ·rw[q];trivial
   ·rw[q];rw[q'] at hk;exact hk
   ·rw[q'] at hk;exact hk.elim
   ·rw[q];exact hk
  ·exfalso;unfold Mem.owns at hk;rw[hs,hc] at hk;revert hk;cases M.st k with
   |none=>exact fun h=>h
   |some r=>cases r<;>simp [Xoe]
  ·exfalso;unfold Mem.owns at hk;rw[hs] at hk;exact hk
 refine⟨hI.below,?_,fun k hk=> ?_,fun j k hj hk hjk=> ?_,fun b o hs=>hI.stb b o hs,fun k e cs hk=> ?_,fun k e sz m cap hk hc=> ?_,fun k b o fr hk=> ?_,fun j k b o fr o' fr' hj hk=> ?_,fun k e sz m cs hk=> ?_⟩
 ·obtain⟨N0,hN0⟩:=hI.fin;refine⟨max N0 (max (n+len) (n'+len)),fun k hk=> ?_⟩;have h1:¬Xo7 keep n len k:=fun h=>by have:=h.2.1;omega
  have h2:¬Up len n' k:=fun h=>by have:=h.2;omega
  simp only[Mem.move,h1,h2,if_false];have h3:=hg k;rw[hN0 k (by omega)] at h3;rcases Yg h3 with ⟨_,_,_,q,_⟩|⟨_,_,_,_,_,q,_⟩|⟨_,_,_,_,q,_⟩|⟨q,_⟩
  ·cases q
  ·cases q
  ·cases q
  ·exact q.symm
 ·obtain⟨j,h1,h2,_⟩:=own k hk;rw[h2];exact hI.new j h1
 ·obtain⟨a,h1,h2,h3⟩:=own j hj;obtain⟨b,g1,g2,g3⟩:=own k hk;rw[h2,g2] at hjk;have hab:=hI.inj a b h1 g1 hjk;subst hab;rcases h3 with ⟨i,e1,e2,e3⟩|⟨e1,e2,e3⟩<;>rcases g3 with ⟨i',q1,q2,q3⟩|⟨q1,q2,q3⟩
  ·omega
  ·exact(q2 (by rw[<- q1,e2];exact moved e3)).elim
  ·exact(e2 (by rw[<- e1,q2];exact moved q3)).elim
  ·omega
 ·rcases cases_st k with ⟨j,hm,hb,hc,hw⟩|⟨h1,hs,hc⟩|hs
  ·rw[hk] at hm;rcases Yg hm with ⟨e1,cs1,cs2,q,q',hl⟩|⟨_,_,_,_,_,q,q',_⟩|⟨_,_,_,_,q,q',_⟩|⟨q,q'⟩
   ·injection q' with q';injection q' with q1 q2;subst q1;subst q2
    obtain⟨vs,g1,g2,g3,g4,g5⟩:=hI.box _ _ _ q;exact⟨vs,by rw[hb];exact g1,by rw[<- (Kb hl).1];exact g2,g3,J9 hnn hf hg hkl hres hl g4,by rw[hb];exact g5⟩
   ·cases q'
   ·cases q'
   ·rw[q] at q';rcases q' with q'|q'|⟨_,_,_,q'⟩<;>cases q'
  ·rcases gone hs hk with h|⟨_,_,_,h⟩<;>cases h
  ·rw[hs] at hk;cases hk
 ·rcases cases_st k with ⟨j,hm,hb,hc',hw⟩|⟨h1,hs,hc'⟩|hs
  ·rw[hk] at hm;rcases Yg hm with ⟨e1,cs1,cs2,q,q',hl⟩|⟨_,_,_,_,_,q,q',_⟩|⟨_,_,_,_,q,q',_⟩|⟨q,q'⟩
   ·cases q'
   ·cases q'
   ·cases q'
   ·rw[hb];rw[hc'] at hc;exact hI.row _ _ _ _ _ q hc
  ·rw[hc'] at hc;cases hc
  ·rw[hs] at hk;cases hk
 ·rcases cases_st k with ⟨j,hm,hb,hc',hw⟩|⟨h1,hs,hc'⟩|hs
  ·rw[hk] at hm;rcases Yg hm with ⟨e1,cs1,cs2,q,q',hl⟩|⟨_,_,_,_,_,q,q',_⟩|⟨_,_,_,_,q,q',hl⟩|⟨q,q'⟩
   ·cases q'
   ·cases q'
   ·injection q' with q';injection q' with q1 q2 q3;subst q1;subst q2;subst q3
    obtain⟨g1,g2,g3,g4⟩:=hI.pin _ _ _ _ q;refine⟨g1,g2,g3,fun rec hr=> ?_⟩;have hRL:=g4 rec hr;exact⟨(Kb hl).1.symm.trans hRL.1,J9 hnn hf hg hkl hres hl hRL.2⟩
   ·rw[q] at q';rcases q' with q'|q'|⟨_,_,_,q'⟩<;>cases q'
  ·rcases gone hs hk with h|⟨_,_,_,h⟩<;>cases h
  ·rw[hs] at hk;cases hk
 ·have back:∀k o fr,(M.move g keep n len n' lo').st k=some (.pin b o fr)->∃j fr2,M.st j=some (.pin b o fr2)∧((∃i,k=n'+i∧j=n+i∧keep[i]? =some true)∨(j=k∧¬Xo7 keep n len k)):=by
   intro k o fr hk;rcases cases_st k with ⟨j,hm,hb,hc',hw⟩|⟨h1,hs,hc'⟩|hs
   ·rw[hk] at hm;rcases Yg hm with ⟨e1,cs1,cs2,q,q',hl⟩|⟨_,_,_,_,_,q,q',_⟩|⟨_,_,_,_,q,q',hl⟩|⟨q,q'⟩
    ·cases q'
    ·cases q'
    ·injection q' with q';injection q' with q1 q2 q3;subst q1;subst q2;subst q3
     exact⟨j,_,q,hw.imp id fun h=>⟨h.1,h.2.1⟩⟩
    ·rw[q] at q';rcases q' with q'|q'|⟨_,_,_,q'⟩<;>cases q'
   ·rcases gone hs hk with h|⟨_,_,_,h⟩<;>cases h
   ·rw[hs] at hk;cases hk
  obtain⟨a,f1,ha,ca⟩:=back j o fr hj;obtain⟨c,f2,hc,cc⟩:=back k o' fr' hk;have hac:=hI.pinj a c b _ _ _ _ ha hc;subst hac;rcases ca with ⟨i,e1,e2,e3⟩|⟨e1,e2⟩<;>rcases cc with ⟨i',q1,q2,q3⟩|⟨q1,q2⟩
  ·omega
  ·exact(q2 (by rw[<- q1,e2];exact moved e3)).elim
  ·exact(e2 (by rw[<- e1,q2];exact moved q3)).elim
  ·omega
 ·rcases cases_st k with ⟨j,hm,hb,hc,hw⟩|⟨h1,hs,hc⟩|hs
  ·rw[hk] at hm;rcases Yg hm with ⟨e1,cs1,cs2,q,q',hl⟩|⟨_,_,_,_,_,q,q',hl⟩|⟨_,_,_,_,q,q',_⟩|⟨q,q'⟩
   ·cases q'
   ·injection q' with q';injection q' with q1 q2 q3 q4;subst q1;subst q2;subst q3;subst q4
    obtain⟨g1,g2,g3⟩:=hI.vec _ _ _ _ _ q;refine⟨by rw[<- (Kb hl).1];exact g1,fun h=>g2 (by rw[<- hc];exact h),fun cap hcap=> ?_⟩;rw[hc] at hcap;obtain⟨vs,p1,p2,p3,p4,p5,p6⟩:=g3 cap hcap;exact⟨vs,by rw[hb];exact p1,p2,p3,p4,J9 hnn hf hg hkl hres hl p5,by rw[hb];exact p6⟩
   ·cases q'
   ·rw[q] at q';rcases q' with q'|q'|⟨_,_,_,q'⟩<;>cases q'
  ·rcases gone hs hk with h|⟨_,_,_,h⟩<;>cases h
  ·rw[hs] at hk;cases hk
end
theorem Xx {σ:AState} (keep:List Bool) {fr':Nat->List AV} {lo':Nat->List (Option Res)} (h:∀n',mvL keep σ.n n' σ.fr (fr' n')) (hl:∀n',mvR keep σ.n n' keep σ.lo (lo' n')):
  σ.leSome fun n'=>{σ with fr:=fr' n',lo:=lo' n',n:=n'}:=fun M a hI hs=>by
 obtain⟨N0,hN0⟩:=hI.fin
 let n':=max N0 (σ.n+σ.lo.length)
 obtain⟨k1,k2,k3⟩:=Cs (hl n');have hnn:σ.n+σ.lo.length<=n':=Nat.le_max_right _ _;have hf:∀k,Up σ.lo.length n' k->M.st k=none:=fun k hk=>hN0 k (Nat.le_trans (Nat.le_max_left _ _) hk.1);have hres:∀i,keep[i]? =some true->Zk keep σ.n n' (M.st (σ.n+i)) (((lo' n'))[i]?).join:=fun i hi=>by
  have hil:i<σ.lo.length:=by have:=(ae.1 hi).1;omega
  rw[hs.st _ (Xb σ hil),X6 σ hs.le];rcases k3 i with ⟨_,h⟩|⟨h,_⟩
  ·exact h
  ·exact(h hi).elim
 have hnone:∀i,keep[i]? ≠some true->((lo' n')[i]?).join=none:=fun i hi=>by
  rcases k3 i with ⟨h,_⟩|⟨_,h⟩
  ·exact(hi h).elim
  ·exact h
 have hg:∀k,Zk keep σ.n n' (M.st k) (M.st k):=fun k=>U9 _;refine⟨M.move M.st keep σ.n σ.lo.length n' (lo' n'),n',rfl,Ext.move hf hg,hI.move (.inl hnn) hf hg k1 k2 hres hnone,hs.df,?_,?_,fun k hk=> ?_⟩
 ·exact⟨(Kb (h n')).1.symm.trans hs.fr.1,J9 (.inl hnn) hf hg k1 hres (h n') hs.fr.2⟩
 ·show σ.n0<=n'
  have:=hs.le;omega
 ·have hle:=hs.le;rcases hk with hk|⟨hk1,hk2⟩
  ·have hk':k<σ.n0:=hk;have h1:¬Xo7 keep σ.n σ.lo.length k:=fun h=>by have:=h.1;omega
   have h2:¬Up σ.lo.length n' k:=fun h=>by have:=h.1;omega
   simp only[Mem.move,h1,h2,if_false,AState.look,hk',if_true];have:=hs.st k (.inl hk');simpa [AState.look,hk'] using this
  ·have hk1':n'<=k:=hk1;have hk2':k<n'+(lo' n').length:=hk2;obtain⟨i,rfl⟩:∃i,k=n'+i:=⟨k - n',by omega⟩
   obtain⟨g1,_,_⟩:=Wp (M:=M) (g:=M.st) (keep:=keep) (lo':=lo' n') (.inl hnn) (i:=i) (by omega);rw[g1];have hk3:¬n'+i<σ.n0:=by omega
   simp [AState.look,hk3]
theorem E7 {σ:AState} {i k:Nat} {r r':Option Res} {fr':List AV} {lo1:List (Option Res)} (hi:σ.lo[i]? =some r) (hk:k<σ.n0) (hfree:σ.out k=none) (h:mvL [true] (σ.n+i) k σ.fr fr') (hr:Zk [true] (σ.n+i) k r r')
  (hl:lo1.length=σ.lo.length) (hg1:∀j:Nat,Zk [true] (σ.n+i) k (σ.lo[j]?).join (lo1[j]?).join):
  σ.le {σ with fr:=fr',lo:=lo1.set i (Xoe r),out:=fun j=>if j=k then r' else σ.out j}:=fun M a hI hs=>by
 have hil:i<σ.lo.length:=(ae.1 hi).1;have hle:=hs.le;have hsi:M.st (σ.n+i)=r:=by rw[hs.st _ (Xb σ hil),X6 σ hs.le,hi];rfl
 have hsk:M.st k=none:=by rw[hs.st k (.inl hk)];simp [AState.look,hk,hfree]
 have hf:∀j,Up 1 k j->M.st j=none:=fun j hj=>by
  have:j=k:=by have:=hj.1;have:=hj.2;omega
  rw[this];exact hsk
 have hnn:(σ.n+i)+1<=k∨k+1<=σ.n+i:= .inr (by omega)
 let g:Nat->Option Res:=fun j=>if σ.n<=j∧j<σ.n+σ.lo.length then(lo1[j - σ.n]?).join else M.st j
 have hg:∀j,Zk [true] (σ.n+i) k (M.st j) (g j):=fun j=>by
  show Zk [true] (σ.n+i) k (M.st j) (if σ.n<=j∧j<σ.n+σ.lo.length then(lo1[j - σ.n]?).join else M.st j)
  by_cases hj:σ.n<=j∧j<σ.n+σ.lo.length
  ·rw[if_pos hj];obtain⟨q,rfl⟩:∃q,j=σ.n+q:=⟨j - σ.n,by omega⟩
   rw[hs.st _ (.inr hj),X6 σ hs.le,Nat.add_sub_cancel_left];exact hg1 q
  ·rw[if_neg hj];exact U9 _
 have hres:∀j:Nat,[true][j]? =some true->Zk [true] (σ.n+i) k (M.st (σ.n+i+j)) ([r'][j]?).join:=fun j hj=>by
  have:j=0:=by
   cases j with
   |zero=>rfl
   |succ j=>simp at hj
  subst this;simp only[Nat.add_zero,List.getElem?_cons_zero,Option.join_some];rw[hsi];exact hr
 have hnone:∀j:Nat,[true][j]? ≠some true->([r'][j]?).join=none:=fun j hj=>by
  cases j with
  |zero=>exact(hj rfl).elim
  |succ j=>rfl
 refine⟨M.move g [true] (σ.n+i) 1 k [r'],rfl,Ext.move hf hg,hI.move hnn hf hg rfl rfl hres hnone,hs.df,?_,hs.le,fun j hj=> ?_⟩
 ·exact⟨(Kb h).1.symm.trans hs.fr.1,J9 hnn hf hg rfl hres h hs.fr.2⟩
 ·have hj':σ.dom j:=by simpa [AState.dom,hl] using hj
  have hst:=hs.st j hj';have hkn:¬Xo7 [true] (σ.n+i) 1 k:=fun h=>by have:=h.1;omega
  by_cases hjk:j=k
  ·subst hjk;have h2:Up 1 j j:=⟨Nat.le_refl _,by omega⟩
   simp [Mem.move,hkn,h2,AState.look,hk]
  ·have h2:¬Up 1 k j:=fun h=>by have:=h.1;have:=h.2;omega
   by_cases hji:j=σ.n+i
   ·subst hji;have h3:Xo7 [true] (σ.n+i) 1 (σ.n+i):=⟨Nat.le_refl _,by omega,by simp⟩
    have h4:¬σ.n+i<σ.n0:=by omega
    simp [Mem.move,h3,AState.look,h4,hsi,hil,hl]
   ·have h3:¬Xo7 [true] (σ.n+i) 1 j:=fun h=>by have:=h.1;have:=h.2.1;omega
    simp only[Mem.move,h3,h2,if_false]
    show(if σ.n<=j∧j<σ.n+σ.lo.length then(lo1[j - σ.n]?).join else M.st j)= _
    simp only[AState.look];by_cases hj0:j<σ.n0
    ·rw[if_neg (by omega),hst];simp [AState.look,hj0,hjk]
    ·have hj2:σ.n<=j∧j<σ.n+σ.lo.length:=by rcases hj' with h|h;exact absurd h hj0;exact h
     rw[if_pos hj2];simp only[hj0,if_false];rw[ec (by omega)]
def AV.ren1 (k0 k:Nat):AV->AV
 | .sl sz els md=>match md with
  | .own j=> .sl sz els (.own (if j=k0 then k else j))
  |md=> .sl sz els md
 | .ptr j off=> .ptr (if j=k0 then k else j) off
 | .bsl j off len fl=> .bsl (if j=k0 then k else j) off len fl
 | .vsl j m=> .vsl (if j=k0 then k else j) m
 |x=>x
theorem X4i (k0 k:Nat) (x:AV):Mv [true] k0 k x (x.ren1 k0 k):=by
 unfold AV.ren1;split
 ·rename_i sz els md;split
  ·rename_i j;by_cases h:j=k0
   ·subst h;rw[if_pos rfl];exact Mv.own (n:=j) (n':=k) sz els 0 rfl
   ·rw[if_neg h];exact .le (.rfl _)
  ·exact .le (.rfl _)
 ·rename_i j off;by_cases h:j=k0
  ·subst h;rw[if_pos rfl];exact Mv.ptr (n:=j) (n':=k) 0 off rfl
  ·rw[if_neg h];exact .le (.rfl _)
 ·rename_i j off len fl;by_cases h:j=k0
  ·subst h;rw[if_pos rfl];exact Mv.bsl (n:=j) (n':=k) 0 off len fl rfl
  ·rw[if_neg h];exact .le (.rfl _)
 ·rename_i j m;by_cases h:j=k0
  ·subst h;rw[if_pos rfl];exact Mv.vsl (n:=j) (n':=k) 0 m rfl
  ·rw[if_neg h];exact .le (.rfl _)
 ·exact .le (.rfl _)
theorem Mp (k0 k:Nat):∀l:List AV,mvL [true] k0 k l (l.map (AV.ren1 k0 k))
 |[]=>trivial
 |x::l=>⟨X4i k0 k x,Mp k0 k l⟩
def Res.ren1 (k0 k:Nat):Res->Res
 | .box e cs=> .box e (cs.map (AV.ren1 k0 k))
 | .vec e sz m cs=> .vec e sz m (cs.map (AV.ren1 k0 k))
 |r=>r
theorem Fj (k0 k:Nat) (r:Option Res):Zk [true] k0 k r (r.map (Res.ren1 k0 k)):=by
 cases r with
 |none=>rfl
 |some r=>cases r<;>first|exact⟨rfl,Mp _ _ _⟩|exact⟨rfl,rfl,rfl,Mp _ _ _⟩|exact⟨rfl,rfl,Ud _⟩|rfl
theorem Ja {σ:AState} {i k:Nat} {q:Res} (hi:σ.lo[i]? =some (some q)) (hk:k<σ.n0) (hfree:σ.out k=none):
  σ.le {σ with fr:=σ.fr.map (AV.ren1 (σ.n+i) k),lo:=(σ.lo.map fun r=>r.map (Res.ren1 (σ.n+i) k)).set i (Xoe (some q)),out:=Xw σ.out k q}:=
 E7 hi hk hfree (Mp _ _ _) (U9 _) (by simp) fun j=>by
  rw[b9];cases σ.lo[j]? with
  |none=>rfl
  |some r=>exact Fj _ _ r
theorem Jc {k0 k:Nat} (off:Nat):Mv [true] k0 k (.ptr k0 off) (.ptr k off)↔True:=⟨fun _=>trivial,fun _=>Mv.ptr (n:=k0) (n':=k) 0 off rfl⟩
theorem Xl {P:Program} {Q:Exit->AState->Prop} {σ:AState} {α:Type} {c:Code} (l:Nat->α->List (Nat×AV)) (lo:Nat->α->List (Option Res)) (ou:α->Nat->Option Res) (ok:α->Prop) (μ:α->Nat) (x0:α) (h0:ok x0)
  (hle:σ.le {σ with fr:=X4 σ.fr (l σ.n x0),lo:=lo σ.n x0,out:=ou x0})
  (round:∀m x,σ.n0<=m->ok x->AWp P c (Qd (fun σ'=>∃y,ok y∧μ y<μ x∧σ'.leSome fun m=>{σ with fr:=X4 σ.fr (l m y),lo:=lo m y,out:=ou y,n:=m}) Q) {σ with fr:=X4 σ.fr (l m x),lo:=lo m x,out:=ou x,n:=m}):
  AWp P (.loop c) Q σ:=by
 refine X0p (fun m x=>{σ with fr:=X4 σ.fr (l m x),lo:=lo m x,out:=ou x,n:=m}) ok μ x0 h0 (AState.le.some σ.n hle) fun m x hx=> ?_;intro ro nn M a hI hs;exact round m x hs.le hx ro nn M a hI hs
theorem Jf {keep:List Bool} {n n':Nat} (x:AV):Mv keep n n' x x↔True:=⟨fun _=>trivial,fun _=> .le (.rfl x)⟩
theorem Fk {keep:List Bool} {n n':Nat} (x:AV):Mv keep n n' x .top↔True:=⟨fun _=>trivial,fun _=> .le (.top x)⟩
theorem Xuo {keep:List Bool} {n n':Nat} (sz sz':Nat):Mv keep n n' (.sl sz [] .nil) (.sl sz' [] .sh)↔True:=⟨fun _=>trivial,fun _=> .le ((Py sz sz').2 trivial)⟩
theorem Ct {keep:List Bool} {n n':Nat} (sz sz' k:Nat):Mv keep n n' (.sl sz [] .nil) (.sl sz' [] (.own k))↔True:=⟨fun _=>trivial,fun _=> .le ((Nz sz sz' k).2 trivial)⟩
theorem Jg {keep:List Bool} {n n':Nat} (sz:Nat) (els:List (List AV)) (md:Md):Mv keep n n' (.sl sz els md) (.sl sz els .sh)↔True:=⟨fun _=>trivial,fun _=> .le (.sh sz els md)⟩
def B7 (keep:List Bool) (i:Nat):Prop:=keep[i]? =some true
theorem X6j (l:List Bool):B7 (true::l) 0↔True:=by simp [B7]
theorem X6k (a:Bool) (l:List Bool):B7 (a::true::l) 1↔True:=by simp [B7]
theorem X6l (a b:Bool) (l:List Bool):B7 (a::b::true::l) 2↔True:=by simp [B7]
theorem X6m (a b c:Bool) (l:List Bool):B7 (a::b::c::true::l) 3↔True:=by simp [B7]
theorem X6n (a b c d:Bool) (l:List Bool):B7 (a::b::c::d::true::l) 4↔True:=by simp [B7]
theorem X6o (a b c d e:Bool) (l:List Bool):B7 (a::b::c::d::e::true::l) 5↔True:=by simp [B7]
theorem X6p {keep:List Bool} {n n':Nat} (sz:Nat) (els:List (List AV)) (i:Nat) (h:B7 keep i):Mv keep n n' (.sl sz els (.own (n+i))) (.sl sz els (.own (n'+i)))↔True:=⟨fun _=>trivial,fun _=> .own sz els i h⟩
theorem X6q {keep:List Bool} {n n':Nat} (i off:Nat) (h:B7 keep i):Mv keep n n' (.ptr (n+i) off) (.ptr (n'+i) off)↔True:=⟨fun _=>trivial,fun _=> .ptr i off h⟩
theorem X6r {keep:List Bool} {n n':Nat} (i off len:Nat) (fl:Bool) (h:B7 keep i):Mv keep n n' (.bsl (n+i) off len fl) (.bsl (n'+i) off len fl)↔True:=⟨fun _=>trivial,fun _=> .bsl i off len fl h⟩
theorem X6s {keep:List Bool} {n n':Nat} (i m:Nat) (h:B7 keep i):Mv keep n n' (.vsl (n+i) m) (.vsl (n'+i) m)↔True:=⟨fun _=>trivial,fun _=> .vsl i m h⟩
theorem X28:∀{keep:List Bool} {n n':Nat} {l l':List AV},l.length=l'.length->(∀(i:Nat) (x y:AV),l[i]? =some x->l'[i]? =some y->Mv keep n n' x y)->mvL keep n n' l l'
 | _,_,_,[],[],_,_=>trivial
 | _,_,_,x::l,y::l',h,hh=>⟨hh 0 x y rfl rfl,X28 (by simpa using h) fun i a b ha hb=>hh (i+1) a b (by simpa using ha) (by simpa using hb)⟩
 | _,_,_,[],_:: _,h,_=>by simp at h
 | _,_,_,_:: _,[],h,_=>by simp at h
theorem X1d {keep:List Bool} {n n':Nat} (x y:AV) (l l':List AV):mvL keep n n' (x::l) (y::l')↔Mv keep n n' x y∧mvL keep n n' l l':=Iff.rfl
theorem X4j {keep:List Bool} {n n':Nat}:mvL keep n n' [] []↔True:=Iff.rfl
theorem X1e {keep:List Bool} {n n':Nat} (l:List AV):mvL keep n n' l l↔True:=⟨fun _=>trivial,fun _=>X28 rfl fun i x y h h'=>by rw[h] at h';injection h' with h';rw[h'];exact .le (.rfl _)⟩
theorem X89 {keep:List Bool} {n n':Nat} (ks:List Bool) (r r':Option Res) (l l':List (Option Res)):mvR keep n n' (true::ks) (r::l) (r'::l')↔Zk keep n n' r r'∧mvR keep n n' ks l l':=Iff.rfl
theorem X8a {keep:List Bool} {n n':Nat} (ks:List Bool) (r:Option Res) (l l':List (Option Res)):mvR keep n n' (false::ks) (r::l) (none::l')↔mvR keep n n' ks l l':=⟨fun h=>h.2,fun h=>⟨rfl,h⟩⟩
theorem X4k {keep:List Bool} {n n':Nat}:mvR keep n n' [] [] []↔True:=Iff.rfl
theorem Jh {keep:List Bool} {n n':Nat} (e:TypeId) (sz m:Nat):Zk keep n n' (some (.row e sz m)) (some (.row e sz m))↔True:=⟨fun _=>trivial,fun _=>rfl⟩
theorem Fm {keep:List Bool} {n n':Nat}:Zk keep n n' none none↔True:=⟨fun _=>trivial,fun _=>rfl⟩
theorem Fo {keep:List Bool} {n n':Nat}:Zk keep n n' (some .dead) (some .dead)↔True:=⟨fun _=>trivial,fun _=>rfl⟩
theorem Ji {keep:List Bool} {n n':Nat} (e:TypeId) (cs cs':List AV):Zk keep n n' (some (.box e cs)) (some (.box e cs'))↔mvL keep n n' cs cs':=⟨fun h=>h.2,fun h=>⟨rfl,h⟩⟩
theorem Jj {keep:List Bool} {n n':Nat} (e:TypeId) (sz m:Nat) (cs cs':List AV):Zk keep n n' (some (.vec e sz m cs)) (some (.vec e sz m cs'))↔mvL keep n n' cs cs':=⟨fun h=>h.2.2.2,fun h=>⟨rfl,rfl,rfl,h⟩⟩
theorem Jk {keep:List Bool} {n n':Nat} (b:Nat) (o:Obj) (fr fr':List AV):Zk keep n n' (some (.pin b o fr)) (some (.pin b o fr'))↔mvL keep n n' fr fr':=⟨fun h=>h.2.2,fun h=>⟨rfl,rfl,h⟩⟩
inductive Fz (k sz:Nat) (cs:List AV):AV->AV->Prop
 |same (x:AV):Fz k sz cs x x
 |ptr (off:Nat):Fz k sz cs (.ptr k off) (.ref (cs.drop off))
 |bsl (off len:Nat) (fl:Bool) (h:0<len∧off+len*sz<=cs.length):Fz k sz cs (.bsl k off len fl) (.sl sz (Yh sz len (cs.drop off)) .sh)
 |ref (l l':List AV) (hl:l.length=l'.length) (h:∀(i:Nat) (c c':AV),l[i]? =some c->l'[i]? =some c'->Fz k sz cs c c'):Fz k sz cs (.ref l) (.ref l')
 |agg (l l':List AV) (hl:l.length=l'.length) (h:∀(i:Nat) (c c':AV),l[i]? =some c->l'[i]? =some c'->Fz k sz cs c c'):Fz k sz cs (.agg l) (.agg l')
 |sl (sz':Nat) (els els':List (List AV)) (md:Md) (hl:els.length=els'.length) (hr:∀(i:Nat) (r r':List AV),els[i]? =some r->els'[i]? =some r'->r.length=r'.length)
   (h:∀(i j:Nat) (r r':List AV) (c c':AV),els[i]? =some r->els'[i]? =some r'->r[j]? =some c->r'[j]? =some c'->Fz k sz cs c c'):Fz k sz cs (.sl sz' els md) (.sl sz' els' .sh)
theorem R.fz {M:Mem} (hI:Inv M) {k:Nat} {e:TypeId} {cs:List AV} (hk:M.st k=some (.box e cs)) {sz:Nat} {x y:AV} {v:Value} (h:R M x v) (hz:Fz k sz cs x y):R (M.freeze k cs.length) y v:=by
 have ex:=Ext.freeze M (n:=cs.length) hk;induction hz generalizing v with
 |same x=>exact h.ext ex
 |ptr off=>
  have:=h.frz hI hk (sz:=sz) (by intro _ _ _ h;cases h);simpa [AV.frz] using this
 |bsl off len fl hfit=>
  have:=h.frz hI hk (sz:=sz) (by intro o l f h;cases h;exact hfit);simp only[AV.frz,if_true] at this;exact this.le (.sh _ _ _)
 |ref l l' hl hh ih=>
  cases h with
  |ref _ a hs hst hc=>
   exact .ref l' a hs (fun j hj=>ex.stb _ _ (hst j (by omega))) fun j c v hj hv=>by
    have hjl:j<l.length:=by rw[hl];exact(ae.1 hj).1
    have e1:=ah hjl;refine ih j _ _ e1 hj (hc j _ v e1 ?_);rw[<- ex.cell]
    ·exact hv
    ·exact hst j hjl
 |agg cs cs' hl hh ih=>
  cases h with
  |agg _ vs hvl hf' hc=>
   exact .agg cs' vs (hl.symm.trans hvl) hf' fun i c v hi hv=>by
    have hil:i<cs.length:=by rw[hl];exact(ae.1 hi).1
    have e1:=ah hil;exact ih i _ _ e1 hi (hc i _ v e1 hv)
 |sl sz els els' md hl hr hh ih=>
  cases h with
  |nil _ _ a hn hn'=>
   have:els'=[]:=cz (by simpa using hl.symm);subst this;exact .nil _ _ a (by intro h;cases h) (by intro h;cases h)
  |slice _ _ _ a cap hs hcap hsz hst hc hmd=>
   rw[hl];refine .slice sz els' .sh a cap hs (by rw[<- hl];exact hcap) (fun row hrow=> ?_) (fun o ho=>ex.stb _ _ (hst o (by rw[hl];exact ho))) (fun i j row c v hi hj hv=> ?_) trivial
   ·obtain⟨i,hi⟩:=du hrow;have hil:i<els.length:=by rw[hl];exact(ae.1 hi).1
    rw[<- hr i _ _ (ah hil) hi];exact hsz _ (a8 hil)
   ·have hil:i<els.length:=by rw[hl];exact(ae.1 hi).1
    have e1:=ah hil;have hjl:j<(els[i]).length:=by rw[hr i _ _ e1 hi];exact(ae.1 hj).1
    have e2:=ah hjl;exact ih i j _ _ _ _ e1 hi e2 hj (hc i j _ _ v e1 e2 hv)
theorem Zi {σ:AState} {i t:Nat} {e:TypeId} {cs:List AV} {x:AV} (sz:Nat) (y:AV) (hi:σ.lo[i]? =some (some (.box e cs))) (ht:σ.fr[t]? =some x) (h:Fz (σ.n+i) sz cs x y):
  σ.le {σ with fr:=σ.fr.set t y,lo:=σ.lo.set i (some .dead)}:=fun M a hI hs=>by
 have hlt:i<σ.lo.length:=(ae.1 hi).1;have hk:M.st (σ.n+i)=some (.box e cs):=by
  rw[hs.st (σ.n+i) (Xb σ hlt),X6 σ hs.le,hi];rfl
 have ex:=Ext.freeze M (n:=cs.length) hk;refine⟨M.freeze (σ.n+i) cs.length,rfl,ex,hI.freeze hk,hs.df,⟨by simp [hs.fr.1],fun j c v hj hv=> ?_⟩,hs.le,fun k hk'=> ?_⟩
 ·by_cases hjt:t=j
  ·subst hjt;have hl:t<σ.fr.length:=(ae.1 ht).1;simp only[fm hl,bb] at hj;subst hj;exact(hs.fr.2 t _ v ht hv).fz hI hk h
  ·simp only[ec hjt] at hj;exact(hs.fr.2 j c v hj hv).ext ex
 ·have hk2:σ.dom k:=by simpa [AState.dom] using hk'
  rw[Vv hs.le hk2 hlt];simp only[Mem.freeze,Xw];split
  ·rfl
  ·exact hs.st k hk2
theorem Jl {P:Program} {Q:Exit->AState->Prop} {σ:AState} {c:Code} {σ':AState} (hle:σ.le σ') (h:Cv P c Q σ'):Cv P c Q σ:=fun n M a hI hs=>by
 obtain⟨M',hw,he,hI',hs'⟩:=hle M a hI hs;rw[<- hw];refine wpIn_mono (h n M' a hI' hs') ?_;rintro e a2 w2 ⟨M2,σ2,rfl,he2,hI2,hs2,hq2⟩;exact⟨M2,σ2,rfl,he.trans he2,hI2,hs2,hq2⟩
end Go.VS
