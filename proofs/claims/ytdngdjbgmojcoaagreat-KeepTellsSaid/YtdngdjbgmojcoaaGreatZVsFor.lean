/-
 The value-semantics layer, part 12: loops said by what changes; contracts met; small equations for the reckoning.
-/
import Derived.Test.YtdngdjbgmojcoaaGreatZVsEvOk
namespace Go.VS
set_option linter.all false
open Go Go.RowKit
def X4 (fr:List AV):List (Nat×AV)->List AV
 |[]=>fr
 |(i,x)::l=>X4 (fr.set i x) l
theorem Co (x:AV):AV.le x x↔True:=⟨fun _=>trivial,fun _=> .rfl x⟩
theorem Fe (x:AV):AV.le x .top↔True:=⟨fun _=>trivial,fun _=> .top x⟩
theorem Py (sz sz':Nat):AV.le (.sl sz [] .nil) (.sl sz' [] .sh)↔True:=⟨fun _=>trivial,fun _=> .nil sz sz' .sh (by intro h;cases h)⟩
theorem Nz (sz sz' k:Nat):AV.le (.sl sz [] .nil) (.sl sz' [] (.own k))↔True:=⟨fun _=>trivial,fun _=> .nil sz sz' (.own k) (by intro h;cases h)⟩
theorem Cp (sz sz':Nat):AV.le (.sl sz [] .nil) (.sl sz' [] .full)↔True:=⟨fun _=>trivial,fun _=> .nil sz sz' .full (by intro h;cases h)⟩
theorem J1 (sz:Nat) (els:List (List AV)) (md:Md):AV.le (.sl sz els md) (.sl sz els .sh)↔True:=⟨fun _=>trivial,fun _=> .sh sz els md⟩
theorem X18 (x y:AV) (l l':List AV):leL (x::l) (y::l')↔AV.le x y∧leL l l':=Iff.rfl
theorem X4a:leL [] []↔True:=Iff.rfl
theorem Qp:∀l:List AV,leL l l
 |[]=>trivial
 |x::l=>⟨.rfl x,Qp l⟩
theorem Tq (l:List AV):leL l l↔True:=⟨fun _=>trivial,fun _=>Qp l⟩
theorem Qa:∀{l l':List AV},leL l l'->l.length=l'.length∧∀(i:Nat) (x y:AV),l[i]? =some x->l'[i]? =some y->AV.le x y
 |[],[],_=>⟨rfl,fun i x y h=>by simp at h⟩
 |x::l,y::l',h=>by
  obtain⟨h1,h2⟩:=Qa h.2;refine⟨by simp [h1],fun i a b ha hb=> ?_⟩;cases i with
  |zero=>simp at ha hb;subst ha;subst hb;exact h.1
  |succ i=>exact h2 i a b (by simpa using ha) (by simpa using hb)
 |[],_:: _,h=>h.elim
 | _:: _,[],h=>h.elim
theorem Pz:∀{l l':List AV},l.length=l'.length->(∀(i:Nat) (x y:AV),l[i]? =some x->l'[i]? =some y->AV.le x y)->leL l l'
 |[],[],_,_=>trivial
 |x::l,y::l',h,hh=>⟨hh 0 x y rfl rfl,Pz (by simpa using h) fun i a b ha hb=>hh (i+1) a b (by simpa using ha) (by simpa using hb)⟩
 |[],_:: _,h,_=>by simp at h
 | _:: _,[],h,_=>by simp at h
theorem Ff (l l':List AV):AV.le (.agg l) (.agg l')↔leL l l':=
 ⟨fun h=>by
  cases h with
  |rfl=>exact Qp _
  |agg _ _ hl hh=>exact Pz hl hh,fun h=> .agg l l' (Qa h).1 (Qa h).2⟩
theorem Fg (l l':List AV):AV.le (.tup l) (.tup l')↔leL l l':=
 ⟨fun h=>by
  cases h with
  |rfl=>exact Qp _
  |tup _ _ hl hh=>exact Pz hl hh,fun h=> .tup l l' (Qa h).1 (Qa h).2⟩
theorem Fh (l l':List AV):AV.le (.ref l) (.ref l')↔leL l l':=
 ⟨fun h=>by
  cases h with
  |rfl=>exact Qp _
  |ref _ _ hl hh=>exact Pz hl hh,fun h=> .ref l l' (Qa h).1 (Qa h).2⟩
theorem J2 (f:Fn) (l l':List AV):AV.le (.fn f l) (.fn f l')↔leL l l':=
 ⟨fun h=>by
  cases h with
  |rfl=>exact Qp _
  |fn _ _ _ hl hh=>exact Pz hl hh,fun h=> .fn f l l' (Qa h).1 (Qa h).2⟩
def leE:List (List AV)->List (List AV)->Prop
 |[],[]=>True
 |x::l,y::l'=>leL x y∧leE l l'
 | _,_=>False
theorem J3:∀{l l':List (List AV)},leE l l'->l.length=l'.length∧∀(i:Nat) (x y:List AV),l[i]? =some x->l'[i]? =some y->leL x y
 |[],[],_=>⟨rfl,fun i x y h=>by simp at h⟩
 |x::l,y::l',h=>by
  obtain⟨h1,h2⟩:=J3 h.2;refine⟨by simp [h1],fun i a b ha hb=> ?_⟩;cases i with
  |zero=>simp at ha hb;subst ha;subst hb;exact h.1
  |succ i=>exact h2 i a b (by simpa using ha) (by simpa using hb)
 |[],_:: _,h=>h.elim
 | _:: _,[],h=>h.elim
theorem X26:∀{l l':List (List AV)},l.length=l'.length->(∀(i:Nat) (x y:List AV),l[i]? =some x->l'[i]? =some y->leL x y)->leE l l'
 |[],[],_,_=>trivial
 |x::l,y::l',h,hh=>⟨hh 0 x y rfl rfl,X26 (by simpa using h) fun i a b ha hb=>hh (i+1) a b (by simpa using ha) (by simpa using hb)⟩
 |[],_:: _,h,_=>by simp at h
 | _:: _,[],h,_=>by simp at h
theorem Wo:∀l:List (List AV),leE l l
 |[]=>trivial
 |x::l=>⟨Qp x,Wo l⟩
theorem Tr (l:List (List AV)):leE l l↔True:=⟨fun _=>trivial,fun _=>Wo l⟩
theorem X19 (x y:List AV) (l l':List (List AV)):leE (x::l) (y::l')↔leL x y∧leE l l':=Iff.rfl
theorem X4b:leE [] []↔True:=Iff.rfl
theorem X4c (l a b:List (List AV)):leE (l++a) (l++b)↔leE a b:=by
 induction l with
 |nil=>exact Iff.rfl
 |cons x l ih=>exact⟨fun h=>ih.1 h.2,fun h=>⟨Qp x,ih.2 h⟩⟩
theorem X27 {sz:Nat} {els els':List (List AV)} {md md':Md} (hm:md'=md∨md'= .sh) (h:leE els els'):AV.le (.sl sz els md) (.sl sz els' md'):=by
 obtain⟨h1,h2⟩:=J3 h;exact .sl sz els els' md md' hm h1 (fun i r r' hi hi'=>(Qa (h2 i r r' hi hi')).1) fun i j r r' c c' hi hi' hj hj'=>(Qa (h2 i r r' hi hi')).2 j c c' hj hj'
theorem Xsg {els els':List (List AV)} (hl:els.length=els'.length)
   (hr:∀(i:Nat) (r r':List AV),els[i]? =some r->els'[i]? =some r'->r.length=r'.length)
   (h:∀(i j:Nat) (r r':List AV) (c c':AV),els[i]? =some r->els'[i]? =some r'->r[j]? =some c->r'[j]? =some c'->AV.le c c'):leE els els':=
 X26 hl fun i r r' hi hi'=>Pz (hr i r r' hi hi') fun j c c' hj hj'=>h i j r r' c c' hi hi' hj hj'
theorem Fi (sz:Nat) (els els':List (List AV)) (md:Md):AV.le (.sl sz els md) (.sl sz els' md)↔leE els els':=
 ⟨fun h=>by
  cases h with
  |rfl=>exact Wo _
  |sl _ _ _ _ _ hm hl hr hh=>exact Xsg hl hr hh
  |nil=>exact Wo _,fun h=>X27 (.inl rfl) h⟩
theorem Cq (sz:Nat) (els els':List (List AV)) (md:Md):AV.le (.sl sz els md) (.sl sz els' .sh)↔leE els els':=
 ⟨fun h=>by
  cases h with
  |rfl=>exact Wo _
  |sl _ _ _ _ _ hm hl hr hh=>exact Xsg hl hr hh
  |nil=>exact Wo _,fun h=>X27 (.inr rfl) h⟩
def Res.le:Option Res->Option Res->Prop
 |some (.box e cs),some (.box e' cs')=>e=e'∧leL cs cs'
 |some (.vec e sz m cs),some (.vec e' sz' m' cs')=>e=e'∧sz=sz'∧m=m'∧leL cs cs'
 |a,b=>a=b
theorem Res.le_refl (a:Option Res):Res.le a a:=by
 cases a with
 |none=>rfl
 |some r=>cases r<;>first|exact⟨rfl,Qp _⟩|exact⟨rfl,rfl,rfl,Qp _⟩|rfl
theorem Res.le_cases {a b:Option Res} (h:Res.le a b):(∃e cs cs',a=some (.box e cs)∧b=some (.box e cs')∧leL cs cs')∨(∃e sz m cs cs',a=some (.vec e sz m cs)∧b=some (.vec e sz m cs')∧leL cs cs')∨a=b:=by
 unfold Res.le at h;split at h
 ·obtain⟨rfl,h⟩:=h;exact .inl ⟨_,_,_,rfl,rfl,h⟩
 ·obtain⟨rfl,rfl,rfl,h⟩:=h;exact .inr (.inl ⟨_,_,_,_,_,rfl,rfl,h⟩)
 ·exact .inr (.inr h)
def Mem.withSt (M:Mem) (s:Nat->Option Res):Mem:={M with st:=s}
theorem Ext.withSt {M:Mem} {s:Nat->Option Res} (h:∀k,Res.le (M.st k) (s k)):Ext M (M.withSt s):=by
 refine⟨rfl,fun _ _ h=>h,fun _ _ _=>rfl,fun k hk=>⟨?_,rfl⟩,fun k e sz m hk=>⟨m,?_,Nat.le_refl _,fun _=>⟨rfl,rfl⟩⟩,fun k e sz m cs hk=> .inl ?_⟩
 ·show Kt (s k)
  rcases Res.le_cases (h k) with ⟨e,cs,cs',h1,h2,_⟩|⟨e,sz,m,cs,cs',h1,h2,_⟩|h1
  ·rw[h2];trivial
  ·rw[h1] at hk;exact hk.elim
  ·rw[<- h1];exact hk
 ·show s k= _
  rcases Res.le_cases (h k) with ⟨e,cs,cs',h1,h2,_⟩|⟨e,sz,m,cs,cs',h1,h2,_⟩|h1
  ·rw[h1] at hk;cases hk
  ·rw[h1] at hk;cases hk
  ·rw[<- h1];exact hk
 ·rcases Res.le_cases (h k) with ⟨e,cs,cs',h1,h2,_⟩|⟨e,sz,m,cs,cs',h1,h2,_⟩|h1
  ·rw[h1] at hk;cases hk
  ·rw[h1] at hk;cases hk;exact⟨_,cs',h2,Nat.le_refl _,fun _=>⟨rfl,rfl⟩⟩
  ·exact⟨m,cs,by show s k= _;rw[<- h1];exact hk,Nat.le_refl _,fun _=>⟨rfl,rfl⟩⟩
theorem X6g {M:Mem} {cs cs':List AV} (h:leL cs cs') {vs:Array Value} (hc:∀(i:Nat) (c:AV) (v:Value),cs[i]? =some c->vs[i]? =some v->R M c v):∀(i:Nat) (c:AV) (v:Value),cs'[i]? =some c->vs[i]? =some v->R M c v:=fun i c v hi hv=>by
 obtain⟨h1,h2⟩:=Qa h;have hil:i<cs.length:=by rw[h1];exact(ae.1 hi).1
 exact(hc i _ v (ah hil) hv).le (h2 i _ _ (ah hil) hi)
theorem Inv.withSt {M:Mem} (hI:Inv M) {s:Nat->Option Res} (h:∀k,Res.le (M.st k) (s k)):Inv (M.withSt s):=by
 have ex:=Ext.withSt h;have hown:∀k,(M.withSt s).owns k↔M.owns k:=fun k=>by
  show(match s k with|some (.box _ _)=>True|some (.row _ _ _)=>(M.cap k).isSome|some (.vec _ _ _ _)=>(M.cap k).isSome| _=>False:Prop)↔ _
  unfold Mem.owns;rcases Res.le_cases (h k) with ⟨e,cs,cs',h1,h2,_⟩|⟨e,sz,m,cs,cs',h1,h2,_⟩|h1
  ·rw[h1,h2]
  ·rw[h1,h2];first|done|exact Iff.rfl
  ·rw[h1];exact Iff.rfl
 refine⟨hI.below,?_,fun k hk=>hI.new k ((hown k).1 hk),fun j k hj hk=>hI.inj j k ((hown j).1 hj) ((hown k).1 hk),fun b o hs=>hI.stb b o hs,fun k e cs hk=> ?_,fun k e sz m cap hk hc=> ?_,fun k b o fr hk=> ?_,fun j k b o fr o' fr' hj hk=> ?_,fun k e sz m cs hk=> ?_⟩
 ·obtain⟨N,hN⟩:=hI.fin;refine⟨N,fun k hk=> ?_⟩
  show s k=none
  rcases Res.le_cases (h k) with ⟨e,cs,cs',h1,h2,_⟩|⟨e,sz,m,cs,cs',h1,h2,_⟩|h1
  ·rw[hN k hk] at h1;cases h1
  ·rw[hN k hk] at h1;cases h1
  ·rw[<- h1];exact hN k hk
 ·have hk':s k=some (.box e cs):=hk;rcases Res.le_cases (h k) with ⟨e1,cs1,cs',h1,h2,hl⟩|⟨e1,sz,m,cs1,cs',h1,h2,_⟩|h1
  ·rw[h2] at hk';injection hk' with hk';injection hk' with q1 q2;subst q1;subst q2
   obtain⟨vs,g1,g2,g3,g4,g5⟩:=hI.box k _ _ h1;exact⟨vs,g1,by rw[<- (Qa hl).1];exact g2,g3,X6g hl (fun i c v hi hv=>(g4 i c v hi hv).ext ex),g5⟩
  ·rw[h2] at hk';cases hk'
  ·rw[<- h1] at hk';obtain⟨vs,g1,g2,g3,g4,g5⟩:=hI.box k _ _ hk';exact⟨vs,g1,g2,g3,fun i c v hi hv=>(g4 i c v hi hv).ext ex,g5⟩
 ·have hk':s k=some (.row e sz m):=hk;rcases Res.le_cases (h k) with ⟨e1,cs1,cs',h1,h2,hl⟩|⟨e1,sz,m,cs1,cs',h1,h2,_⟩|h1
  ·rw[h2] at hk';cases hk'
  ·rw[h2] at hk';cases hk'
  ·rw[<- h1] at hk';exact hI.row k e sz m cap hk' hc
 ·have hk':s k=some (.pin b o fr):=hk;rcases Res.le_cases (h k) with ⟨e1,cs1,cs',h1,h2,hl⟩|⟨e1,sz,m,cs1,cs',h1,h2,_⟩|h1
  ·rw[h2] at hk';cases hk'
  ·rw[h2] at hk';cases hk'
  ·rw[<- h1] at hk';exact(hI.pin k b o fr hk').ext ex (hI.pin k b o fr hk').1
 ·have hj':s j=some (.pin b o fr):=hj;have hk':s k=some (.pin b o' fr'):=hk;have back:∀{k o fr},s k=some (.pin b o fr)->M.st k=some (.pin b o fr):=fun{k o fr} hk=>by
   rcases Res.le_cases (h k) with ⟨e1,cs1,cs',h1,h2,hl⟩|⟨e1,sz,m,cs1,cs',h1,h2,_⟩|h1
   ·rw[h2] at hk;cases hk
   ·rw[h2] at hk;cases hk
   ·rw[h1];exact hk
  exact hI.pinj j k b o fr o' fr' (back hj') (back hk')
 ·have hk':s k=some (.vec e sz m cs):=hk;rcases Res.le_cases (h k) with ⟨e1,cs1,cs',h1,h2,hl⟩|⟨e1,sz1,m1,cs1,cs',h1,h2,hl⟩|h1
  ·rw[h2] at hk';cases hk'
  ·rw[h2] at hk';injection hk' with hk';injection hk' with q1 q2 q3 q4;subst q1;subst q2;subst q3;subst q4
   obtain⟨g1,g2,g3⟩:=hI.vec k _ _ _ _ h1;refine⟨by rw[<- (Qa hl).1];exact g1,g2,fun cap hc=> ?_⟩;obtain⟨vs,p1,p2,p3,p4,p5,p6⟩:=g3 cap hc;exact⟨vs,p1,p2,p3,p4,X6g hl (fun i c v hi hv=>(p5 i c v hi hv).ext ex),p6⟩
  ·rw[<- h1] at hk';obtain⟨g1,g2,g3⟩:=hI.vec k _ _ _ _ hk';refine⟨g1,g2,fun cap hc=> ?_⟩;obtain⟨vs,p1,p2,p3,p4,p5,p6⟩:=g3 cap hc;exact⟨vs,p1,p2,p3,p4,fun i c v hi hv=>(p5 i c v hi hv).ext ex,p6⟩
def leR:List (Option Res)->List (Option Res)->Prop
 |[],[]=>True
 |x::l,y::l'=>Res.le x y∧leR l l'
 | _,_=>False
theorem J4:∀{l l':List (Option Res)},leR l l'->l.length=l'.length∧∀i:Nat,Res.le (l[i]?).join (l'[i]?).join
 |[],[],_=>⟨rfl,fun i=>Res.le_refl _⟩
 |x::l,y::l',h=>by
  obtain⟨h1,h2⟩:=J4 h.2;refine⟨by simp [h1],fun i=> ?_⟩;cases i with
  |zero=>simpa using h.1
  |succ i=>simpa using h2 i
 |[],_:: _,h=>h.elim
 | _:: _,[],h=>h.elim
theorem X6h {σ:AState} {fr':List AV} {lo':List (Option Res)} (h:leL σ.fr fr') (hl:leR σ.lo lo'):σ.le {σ with fr:=fr',lo:=lo'}:=fun M a hI hs=>by
 classical
 obtain⟨hlen,hget⟩:=J4 hl
 let s:Nat->Option Res:=fun k=>if σ.dom k then AState.look {σ with fr:=fr',lo:=lo'} k else M.st k
 have hle:∀k,Res.le (M.st k) (s k):=fun k=>by
  show Res.le (M.st k) (if σ.dom k then AState.look {σ with fr:=fr',lo:=lo'} k else M.st k)
  by_cases hd:σ.dom k
  ·rw[if_pos hd,hs.st k hd];unfold AState.look;by_cases h0:k<σ.n0
   ·simp only[h0,if_true];exact Res.le_refl _
   ·simp only[h0,if_false];exact hget _
  ·rw[if_neg hd];exact Res.le_refl _
 have ex:=Ext.withSt hle;refine⟨M.withSt s,rfl,ex,hI.withSt hle,hs.df,(hs.fr.le h).ext ex,hs.le,fun k hk=> ?_⟩;have hk':σ.dom k:=by simpa [AState.dom,hlen] using hk
 show(if σ.dom k then _ else _)= _
 rw[if_pos hk']
theorem X1a (x y:Option Res) (l l':List (Option Res)):leR (x::l) (y::l')↔Res.le x y∧leR l l':=Iff.rfl
theorem X4d:leR [] []↔True:=Iff.rfl
theorem Tt (x:Option Res):Res.le x x↔True:=⟨fun _=>trivial,fun _=>Res.le_refl x⟩
theorem X4e (e:TypeId) (cs cs':List AV):Res.le (some (.box e cs)) (some (.box e cs'))↔leL cs cs':=⟨fun h=>h.2,fun h=>⟨rfl,h⟩⟩
theorem X4f (e:TypeId) (sz m:Nat) (cs cs':List AV):Res.le (some (.vec e sz m cs)) (some (.vec e sz m cs'))↔leL cs cs':=⟨fun h=>h.2.2.2,fun h=>⟨rfl,rfl,rfl,h⟩⟩
theorem X2 {σ σ':AState} (h:leL σ.fr σ'.fr) (h1:leR σ.lo σ'.lo) (h2:σ.out=σ'.out) (h3:σ.n0=σ'.n0) (h4:σ.n=σ'.n) (h5:σ.df=σ'.df):σ.le σ':=by
 have:=X6h (σ:=σ) (fr':=σ'.fr) (lo':=σ'.lo) h h1;have e:({σ with fr:=σ'.fr,lo:=σ'.lo}:AState)=σ':=by
  obtain⟨a,b,c,d,e,f⟩:=σ;obtain⟨a',b',c',d',e',f'⟩:=σ';simp only at h2 h3 h4 h5;subst h2;subst h3;subst h4;subst h5;rfl
 rwa [e] at this
section
variable {P:Program} {Q:Exit->AState->Prop} {σ:AState}
theorem J5 {α:Type} {c:Code} (inv:α->AState) (ok:α->Prop) (μ:α->Nat) (x0:α) (h0:ok x0) (hle:σ.le (inv x0))
  (round:∀x,ok x->AWp P c (Qd (fun σ'=>∃y,ok y∧μ y<μ x∧σ'.le (inv y)) Q) (inv x)):AWp P (.loop c) Q σ:=fun ro n M a hI hs=>by
 obtain⟨M',hw,he,hI',hs'⟩:=hle M a hI hs;refine Lz (fun m a' w'=>∃x M',m=μ x∧ok x∧M'.w=w'∧Ext M M'∧Inv M'∧Sim M' a' (inv x)) (m:=μ x0) ⟨x0,M',rfl,h0,hw,he,hI',hs'⟩ ?_;rintro m a' w' ⟨x,M1,rfl,hx,rfl,he1,hI1,hs1⟩;refine wpIn_mono (round x hx ro n M1 a' hI1 hs1) ?_;rintro e a2 w2 ⟨M2,σ2,rfl,he2,hI2,hs2,hq⟩;cases e with
 |normal=>
  obtain⟨y,hy,hlt,hle2⟩:=hq;obtain⟨M3,hw3,he3,hI3,hs3⟩:=hle2 M2 a2 hI2 hs2;exact⟨μ y,hlt,y,M3,rfl,hy,hw3,(he1.trans he2).trans he3,hI3,hs3⟩
 | _=>exact⟨M2,σ2,rfl,he1.trans he2,hI2,hs2,hq⟩
theorem Xz {α:Type} {c:Code} (l:α->List (Nat×AV)) (lo:α->List (Option Res)) (ou:α->Nat->Option Res) (ok:α->Prop) (μ:α->Nat) (x0:α) (h0:ok x0)
  (hle:σ.le {σ with fr:=X4 σ.fr (l x0),lo:=lo x0,out:=ou x0})
  (round:∀x,ok x->AWp P c (Qd (fun σ'=>∃y,ok y∧μ y<μ x∧σ'.le {σ with fr:=X4 σ.fr (l y),lo:=lo y,out:=ou y}) Q) {σ with fr:=X4 σ.fr (l x),lo:=lo x,out:=ou x}):AWp P (.loop c) Q σ:=
 J5 (fun x=>{σ with fr:=X4 σ.fr (l x),lo:=lo x,out:=ou x}) ok μ x0 h0 hle round
theorem Qf {x y:Code} (lE:List (Nat×AV)) (loE:List (Option Res)) (ouE:Nat->Option Res) (hE:AWp P y Q {σ with fr:=X4 σ.fr lE,lo:=loE,out:=ouE})
  (h:AWp P x (fun e σ'=>(e= .normal∧σ'.le {σ with fr:=X4 σ.fr lE,lo:=loE,out:=ouE})∨(e≠ .normal∧Q e σ')) σ):AWp P (.seq x y) Q σ:=by
 refine Yfn ?_;intro ro n M a hI hs;refine wpIn_mono (h ro n M a hI hs) ?_;rintro e a' w' ⟨M',σ',rfl,he,hI',hs',hq⟩;rcases hq with ⟨rfl,hle⟩|⟨hne,hq⟩
 ·obtain⟨M2,hw2,he2,hI2,hs2⟩:=hle M' a' hI' hs';exact⟨M2,_,hw2,he.trans he2,hI2,hs2,hE⟩
 ·refine⟨M',σ',rfl,he,hI',hs',?_⟩;cases e<;>first|exact(hne rfl).elim|exact hq
theorem Xsh {id:Nat} {c:Code} (lE:List (Nat×AV)) (loE:List (Option Res)) (ouE:Nat->Option Res) (hE:Q .normal {σ with fr:=X4 σ.fr lE,lo:=loE,out:=ouE})
  (h:AWp P c (Z4 id fun e σ'=>(e= .normal∧σ'.le {σ with fr:=X4 σ.fr lE,lo:=loE,out:=ouE})∨(e≠ .normal∧Q e σ')) σ):AWp P (.block id c) Q σ:=by
 have key:AWp P (.block id c) (fun e σ'=>(e= .normal∧σ'.le {σ with fr:=X4 σ.fr lE,lo:=loE,out:=ouE})∨(e≠ .normal∧Q e σ')) σ:=Xe h;intro ro n M a hI hs;refine wpIn_mono (key ro n M a hI hs) ?_;rintro e a' w' ⟨M',σ',rfl,he,hI',hs',hq⟩;rcases hq with ⟨rfl,hle⟩|⟨_,hq⟩
 ·obtain⟨M2,hw2,he2,hI2,hs2⟩:=hle M' a' hI' hs';exact⟨M2,_,hw2,he.trans he2,hI2,hs2,hE⟩
 ·exact⟨M',σ',rfl,he,hI',hs',hq⟩
theorem X3 {K:AV->List (Nat×Res)->Prop} {f:FuncId} {args:List AV} {r:AV} (h:Xr P f args [] r []) (hK:K r []):M8 P σ K f args:=
 ⟨[],r,[],h,trivial,trivial,(fun x hx=>by cases hx),hK⟩
theorem Sb {K:AV->List (Nat×Res)->Prop} {f:FuncId} {args:List AV} {k:Nat} {q:Option Res} {q':Res} {r:AV} (h:Xr P f args [(k,q)] r [(k,q')]) (h1:σ.look k=q) (h2:σ.dom k)
  (h3:q≠some .dead) (hK:K r [(k,q')]):M8 P σ K f args:=⟨_,r,_,h,⟨h1,trivial⟩,⟨h2,trivial⟩,(fun x hx=>by simp at hx;subst hx;exact⟨h2,h3⟩),hK⟩
end
theorem X6i {P:Program} {σ:AState} {K:AV->List (Nat×Res)->Prop} {l:Nat} {args:List AV} {needs:List (Nat×Option Res)} {r:AV} {gives:List (Nat×Res)} (h:X6t P l args needs r gives) (h1:holds σ.look needs) (h2:L2 σ gives)
  (h3:∀x,x∈needs->σ.dom x.1∧x.2≠some .dead) (hK:K r gives):X43 P σ K l args:=⟨needs,r,gives,h,h1,h2,h3,hK⟩
theorem Xv {P:Program} {n:Nat} {fn:Func} {out:Nat->Option Res} {gives:List (Nat×Res)} {r q:AV} {t:Tmp} {e:Exit} {σ:AState} (he:e= .normal∨e= .ret) (hr:fn.results= #[.tmp t]) (hd:σ.df=[]) (h0:σ.n0=n)
  (ho:∀k,k<n->σ.out k=upd out gives k) (hl:AV.le q r) (hx:σ.fr.getD t .top=q):Zq P n fn out gives r e σ:=by
 obtain⟨h1,h2,h3,h4,h5⟩:=Qv (P:=P) he hr hd h0 ho hx;exact⟨h1,h2,h3,h4,fun M a hI hs=>let ⟨v,hv,hR⟩:=h5 M a hI hs;⟨v,hv,hR.le hl⟩⟩
theorem Xy {P:Program} {n:Nat} {fn:Func} {out:Nat->Option Res} {gives:List (Nat×Res)} {e:Exit} {σ:AState} (he:e= .normal∨e= .ret) (hr:fn.results= #[]) (hd:σ.df=[]) (h0:σ.n0=n)
  (ho:∀k,k<n->σ.out k=upd out gives k):Zq P n fn out gives (.tup []) e σ:=
 ⟨he,hd,h0,ho,fun M a _ _=>⟨.tuple #[],by simp [results,hr],.tup [] #[] rfl (fun i c v hi=>by simp at hi)⟩⟩
theorem X1b {P:Program} {n:Nat} {fn:Func} {out:Nat->Option Res} {gives:List (Nat×Res)} {r:AV} {a:Tmp} {t:TypeId} {ti:TI} {e:Exit} {σ:AState} (he:e= .normal∨e= .ret) (hr:fn.results= #[.cell a t]) (hd:σ.df=[]) (h0:σ.n0=n)
  (ho:∀k,k<n->σ.out k=upd out gives k) (ht:TIok P t ti) {k off:Nat} {eb:TypeId} {cs:List AV} (hx:σ.fr.getD a .top= .ptr k off) (hk:σ.dom k) (hl:σ.look k=some (.box eb cs)) (hp:pick ti.agg ti.size (cs.drop off)=some r):Zq P n fn out gives r e σ:=by
 refine⟨he,hd,h0,ho,fun M act hI hs=> ?_⟩;have h1:=hs.ev (.tmp a);simp only[AState.ev,Act.eval] at h1;rw[hx] at h1;have hv:=Dy h1;obtain⟨vs,g1,g2,g3,g4,_⟩:=hI.box k eb cs (by rw[hs.st k hk];exact hl);have cell:∀j,M.w.cell? ⟨M.β k,j,none⟩=vs[j]? :=fun j=>Yj g1;obtain⟨u,hu,hR⟩:=U3 (M:=M) ht (cs:=cs.drop off) (b:=M.β k) (o:=off)
  (fun j hj=>by
   have hj':off+j<vs.size:=by simp at hj;omega
   exact⟨vs[off+j],by rw[cell];simp [hj'],g3 (off+j) _ (by simp [hj'])⟩)
  (fun j c v hj hv=>g4 (off+j) c v (by rwa [bu] at hj) (by rwa [cell] at hv)) hp
 have hv':act.tmps[a]?.getD undef= .pointer (some ⟨M.β k,off,none⟩):=by rw[<- d8];exact hv
 exact⟨u,by simp [results,hr,hv',asAddr,hu],hR⟩
theorem Xu {P:Program} {n:Nat} {fn:Func} {out:Nat->Option Res} {gives:List (Nat×Res)} {r r':AV} {a:Tmp} {t:TypeId} {ti:TI} {e:Exit} {σ:AState} (he:e= .normal∨e= .ret) (hr:fn.results= #[.cell a t]) (hd:σ.df=[]) (h0:σ.n0=n)
  (ho:∀k,k<n->σ.out k=upd out gives k) (ht:TIok P t ti) {k off:Nat} {eb:TypeId} {cs:List AV} (hx:σ.fr.getD a .top= .ptr k off) (hk:σ.dom k) (hl:σ.look k=some (.box eb cs)) (hp:pick ti.agg ti.size (cs.drop off)=some r) (hle:AV.le r r'):Zq P n fn out gives r' e σ:=by
 obtain⟨h1,h2,h3,h4,h5⟩:=X1b he hr hd h0 ho ht hx hk hl hp;exact⟨h1,h2,h3,h4,fun M a hI hs=>let ⟨v,hv,hR⟩:=h5 M a hI hs;⟨v,hv,hR.le hle⟩⟩
theorem Tu {P:Program} {n:Nat} {fn:Func} {out:Nat->Option Res} {gives:List (Nat×Res)} {r q:AV} {a b:Tmp} {t:TypeId} {ti:TI} {e:Exit} {σ:AState} (he:e= .normal∨e= .ret) (hr:fn.results= #[.cell a t,.tmp b]) (hd:σ.df=[]) (h0:σ.n0=n)
  (ho:∀k,k<n->σ.out k=upd out gives k) (ht:TIok P t ti) {k off:Nat} {eb:TypeId} {cs:List AV} (hx:σ.fr.getD a .top= .ptr k off) (hk:σ.dom k) (hl:σ.look k=some (.box eb cs)) (hp:pick ti.agg ti.size (cs.drop off)=some r)
  (hy:σ.fr.getD b .top=q):Zq P n fn out gives (.tup [r,q]) e σ:=by
 refine⟨he,hd,h0,ho,fun M act hI hs=> ?_⟩;have h1:=hs.ev (.tmp a);have h2:=hs.ev (.tmp b);simp only[AState.ev,Act.eval] at h1 h2;rw[hx] at h1;rw[hy] at h2;have hv:=Dy h1;obtain⟨vs,g1,g2,g3,g4,_⟩:=hI.box k eb cs (by rw[hs.st k hk];exact hl);have cell:∀j,M.w.cell? ⟨M.β k,j,none⟩=vs[j]? :=fun j=>Yj g1;obtain⟨u,hu,hR⟩:=U3 (M:=M) ht (cs:=cs.drop off) (b:=M.β k) (o:=off)
  (fun j hj=>by
   have hj':off+j<vs.size:=by simp at hj;omega
   exact⟨vs[off+j],by rw[cell];simp [hj'],g3 (off+j) _ (by simp [hj'])⟩)
  (fun j c v hj hv=>g4 (off+j) c v (by rwa [bu] at hj) (by rwa [cell] at hv)) hp
 have hv':act.tmps[a]?.getD undef= .pointer (some ⟨M.β k,off,none⟩):=by rw[<- d8];exact hv
 refine⟨.tuple #[u,act.tmps.getD b undef],by simp [results,hr,hv',asAddr,hu],.tup _ _ rfl fun i c v hi hv=> ?_⟩
 match i,hi,hv with
 |0,hi,hv=>simp at hi hv;subst hi;subst hv;exact hR
 |1,hi,hv=>simp at hi hv;subst hi;subst hv;simpa using h2
theorem Xp {P:Program} {n:Nat} {fn:Func} {out:Nat->Option Res} {gives:List (Nat×Res)} {r q R':AV} {a b:Tmp} {t:TypeId} {ti:TI} {e:Exit} {σ:AState} (he:e= .normal∨e= .ret) (hr:fn.results= #[.cell a t,.tmp b]) (hd:σ.df=[]) (h0:σ.n0=n)
  (ho:∀k,k<n->σ.out k=upd out gives k) (ht:TIok P t ti) {k off:Nat} {eb:TypeId} {cs:List AV} (hx:σ.fr.getD a .top= .ptr k off) (hk:σ.dom k) (hl:σ.look k=some (.box eb cs)) (hp:pick ti.agg ti.size (cs.drop off)=some r)
  (hy:σ.fr.getD b .top=q) (hle:AV.le (.tup [r,q]) R'):Zq P n fn out gives R' e σ:=by
 obtain⟨h1,h2,h3,h4,h5⟩:=Tu he hr hd h0 ho ht hx hk hl hp hy;exact⟨h1,h2,h3,h4,fun M a hI hs=>let ⟨v,hv,hR⟩:=h5 M a hI hs;⟨v,hv,hR.le hle⟩⟩
theorem Za {P:Program} {n:Nat} {fn:Func} {out:Nat->Option Res} {gives:List (Nat×Res)} {r r' q q':AV} {a b:Tmp} {e:Exit} {σ:AState} (he:e= .normal∨e= .ret) (hr:fn.results= #[.tmp a,.tmp b]) (hd:σ.df=[]) (h0:σ.n0=n)
  (ho:∀k,k<n->σ.out k=upd out gives k) (hx:σ.fr.getD a .top=r) (hy:σ.fr.getD b .top=q) (hle:AV.le r r') (hle':AV.le q q'):Zq P n fn out gives (.tup [r',q']) e σ:=by
 refine⟨he,hd,h0,ho,fun M act hI hs=> ?_⟩;have h1:=hs.ev (.tmp a);have h2:=hs.ev (.tmp b);simp only[AState.ev,Act.eval] at h1 h2;rw[hx] at h1;rw[hy] at h2;refine⟨.tuple #[act.tmps.getD a undef,act.tmps.getD b undef],by simp [results,hr],.tup _ _ rfl fun i c v hi hv=> ?_⟩
 match i,hi,hv with
 |0,hi,hv=>simp at hi hv;subst hi;subst hv;simpa using h1.le hle
 |1,hi,hv=>simp at hi hv;subst hi;subst hv;simpa using h2.le hle'
end Go.VS
