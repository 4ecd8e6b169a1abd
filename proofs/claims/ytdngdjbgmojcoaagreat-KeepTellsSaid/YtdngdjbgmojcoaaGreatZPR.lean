/- The layer of abstract values, joined. -/
import Derived.Test.YtdngdjbgmojcoaaGreatZVsBits
import Derived.Test.YtdngdjbgmojcoaaGreatZTab
namespace Go.VS
set_option linter.all false
section
variable {P:Program} {T:TypeId->Option TI} {bx:List (Nat×Option Nat)} {σ:AState} {d:Option Tmp}
def Eb (P:Program) (T:TypeId->Option TI) (bx:List (Nat×Option Nat)) (ops:Array Oper) (K:AState->Prop) (a b:List Nat) (rd wr:List (List Nat)) (d:Option Tmp) (op:Op) (l:List Oper) (σ:AState) (o:Option Bool):Prop:=match o with
 |some true=>Uc P T bx (σ.seen a) (Lt b (Qy P T bx ops K rd wr l) σ d) d op
 |some false=>Qy P T bx ops K rd wr l (σ.next d (.tup []) [])
 |none=>False
theorem Jv (a b:List Nat) (rd wr:List (List Nat)) (ops:Array Oper) (K:AState->Prop) (op:Op) (ty:TypeId) (pos:String) (aft:Array Edge) (l:List Oper) (g:Nat×Bool):
  Qy P T bx ops K (a::rd) (b::wr) (⟨d,op,ty,pos,aft,some g⟩::l) σ=Eb P T bx ops K a b rd wr d op l σ (Zw ops σ ⟨d,op,ty,pos,aft,some g⟩):=rfl
theorem X2b (a b:List Nat) (rd wr:List (List Nat)) (ops:Array Oper) (K:AState->Prop) (op:Op) (l:List Oper):Eb P T bx ops K a b rd wr d op l σ (some true)=Uc P T bx (σ.seen a) (Lt b (Qy P T bx ops K rd wr l) σ d) d op:=rfl
theorem X2c (a b:List Nat) (rd wr:List (List Nat)) (ops:Array Oper) (K:AState->Prop) (op:Op) (l:List Oper):Eb P T bx ops K a b rd wr d op l σ (some false)=Qy P T bx ops K rd wr l (σ.next d (.tup []) []):=rfl
theorem Y5 {a b:List Nat} {rd wr:List (List Nat)} {ops:Array Oper} {K:AState->Prop} {op:Op} {l:List Oper} {v w:Bool} (ht:v=true->Eb P T bx ops K a b rd wr d op l σ (some (true==w))) (hf:v=false->Eb P T bx ops K a b rd wr d op l σ (some (false==w))):
  Eb P T bx ops K a b rd wr d op l σ (some (v==w)):=by
 cases v
 ·exact hf rfl
 ·exact ht rfl
def sg:=ab @Jv<|ab @X2b<| @X2c
end
section
variable {fr:List AV} {lo:List (Option Res)} {out:Nat->Option Res} {n0 n:Nat} {df:List Deferred}
theorem Xjn (h:n0<=n) (d:Option Tmp) (x:AV) (i:Nat) (r:Res) (g:List (Nat×Res)):AState.next ⟨fr,lo,out,n0,n,df⟩ d x ((n+i,r)::g)=AState.next ⟨fr,lo.set i (some r),out,n0,n,df⟩ d x g:=by
 have h':¬n+i<n0:=by omega
 cases d<;>simp [AState.next,AState.put,AState.give,h']
theorem Xa {k:Nat} (h:k<n0) (d:Option Tmp) (x:AV) (r:Res) (g:List (Nat×Res)):AState.next ⟨fr,lo,out,n0,n,df⟩ d x ((k,r)::g)=AState.next ⟨fr,lo,Xw out k r,n0,n,df⟩ d x g:=by
 cases d<;>simp [AState.next,AState.put,AState.give,h]
end
theorem gE {P:Program} {T:TypeId->Option TI} {bx:List (Nat×Option Nat)} {q:Bool} {ops:Array Oper} {K:AState->Prop} {l:List Oper} {σ:AState} (h:Xp0 P T bx q ops K l σ):Xp0 P T bx q ops K l σ:=h
theorem gR {q:Bool} {R:AState->Prop} {σ:AState} {d:Option Tmp} {r:AV} {g:List (Nat×Res)} (h:Pg q R σ d r g):Pg q R σ d r g:=h
theorem gD {P:Program} {T:TypeId->Option TI} {bx:List (Nat×Option Nat)} {ops:Array Oper} {K:AState->Prop} {rd wr:List (List Nat)} {l:List Oper} {σ:AState} (h:Qy P T bx ops K rd wr l σ):Qy P T bx ops K rd wr l σ:=h
theorem gF {wr:List Nat} {R:AState->Prop} {σ:AState} {d:Option Tmp} {r:AV} {g:List (Nat×Res)} (h:Lt wr R σ d r g):Lt wr R σ d r g:=h
theorem gT {P:Program} {T:TypeId->Option TI} {bx:List (Nat×Option Nat)} {ops:Array Oper} {lst:Nat} {anc:List Nat} {K:AState->Prop} {i:Nat} {l:List Oper} {σ:AState} (h:Tp P T bx ops lst anc K i l σ):Tp P T bx ops lst anc K i l σ:=h
theorem gU {b:Bool} {R:AState->Prop} {σ:AState} {d:Option Tmp} {r:AV} {g:List (Nat×Res)} (h:FdT b R σ d r g):FdT b R σ d r g:=h
def nb:=ab @Bool.not_eq_true' @Bool.not_eq_false'
def su:=ab sx<|ab sy<|ab @ne_eq.{1}<|ab @eq_self.{1}<|ab @if_true.{1}<|ab @if_false.{1}<|ab @Nv.eq_def<|ab @Tk.eq_def<| @Cl.eq_def
theorem Xif (s:Nat->Option Res) (k:Nat) (r:Res) (j:Nat):Xw s k r j=if j=k then some r else s j:=rfl
theorem Zc (s:Nat->Option Res) (k:Nat) (r:Res) (l:List (Nat×Res)):upd s ((k,r)::l)=upd (Xw s k r) l:=rfl
theorem Wz (s:Nat->Option Res):upd s []=s:=rfl
theorem Xuy {P:Program} {n:Nat} {fn:Func} {out:Nat->Option Res} {gives:List (Nat×Res)} {r q p R':AV} {a b c:Tmp} {t:TypeId} {ti:TI} {e:Exit} {σ:AState} (he:e= .normal∨e= .ret) (hr:fn.results= #[.cell a t,.tmp b,.tmp c]) (hd:σ.df=[]) (h0:σ.n0=n)
  (ho:∀k,k<n->σ.out k=upd out gives k) (ht:TIok P t ti) {k off:Nat} {eb:TypeId} {cs:List AV} (hx:σ.fr.getD a .top= .ptr k off) (hk:σ.dom k) (hl:σ.look k=some (.box eb cs)) (hp:pick ti.agg ti.size (cs.drop off)=some r)
  (hy:σ.fr.getD b .top=q) (hz:σ.fr.getD c .top=p) (hle:AV.le (.tup [r,q,p]) R'):Zq P n fn out gives R' e σ:=by
 refine⟨he,hd,h0,ho,fun M act hI hs=> ?_⟩;have h1:=hs.ev (.tmp a);have h2:=hs.ev (.tmp b);have h3:=hs.ev (.tmp c);simp only[AState.ev,Act.eval] at h1 h2 h3;rw[hx] at h1;rw[hy] at h2;rw[hz] at h3;have hv:=Dy h1;obtain⟨vs,g1,g2,g3,g4,_⟩:=hI.box k eb cs (by rw[hs.st k hk];exact hl);have cell:∀j,M.w.cell? ⟨M.β k,j,none⟩=vs[j]? :=fun j=>Yj g1;obtain⟨u,hu,hR⟩:=U3 (M:=M) ht (cs:=cs.drop off) (b:=M.β k) (o:=off)
  (fun j hj=>by
   have hj':off+j<vs.size:=by simp at hj;omega
   exact⟨vs[off+j],by rw[cell];simp [hj'],g3 (off+j) _ (by simp [hj'])⟩)
  (fun j c v hj hv=>g4 (off+j) c v (by rwa [bu] at hj) (by rwa [cell] at hv)) hp
 have hv':act.tmps[a]?.getD undef= .pointer (some ⟨M.β k,off,none⟩):=by rw[<- d8];exact hv
 refine⟨.tuple #[u,act.tmps.getD b undef,act.tmps.getD c undef],by simp [results,hr,hv',asAddr,hu],(R.tup [r,q,p] _ rfl fun i c v hi hv=> ?_).le hle⟩
 match i,hi,hv with
 |0,hi,hv=>simp at hi hv;subst hi;subst hv;exact hR
 |1,hi,hv=>simp at hi hv;subst hi;subst hv;simpa using h2
 |2,hi,hv=>simp at hi hv;subst hi;subst hv;simpa using h3
end Go.VS
namespace Go.Proofs.YtdngdjbgmojcoaaGreat.Tab
set_option linter.all false
open Go Go.VS
section
variable {K:AState->Prop} {Q:Exit->AState->Prop} {σ:AState}
theorem X96:Qd K Q .normal σ=K σ:=rfl
theorem X97 (i:Nat):Qd K Q (.exit i) σ=Q (.exit i) σ:=rfl
theorem X98 (i:Nat):Qd K Q (.goto i) σ=Q (.goto i) σ:=rfl
theorem X99:Qd K Q .ret σ=Q .ret σ:=rfl
theorem X9a (i:Nat):Z4 i Q .normal σ=Q .normal σ:=rfl
theorem X9b (i j:Nat):Z4 i Q (.exit j) σ=if j=i then Q .normal σ else Q (.exit j) σ:=rfl
theorem X9c (i j:Nat):Z4 i Q (.goto j) σ=Q (.goto j) σ:=rfl
theorem X9d (i:Nat):Z4 i Q .ret σ=Q .ret σ:=rfl
end
def sb:=ab @X96<|ab @X97<|ab @X98<|ab @X99<|ab @X9a<|ab @X9b<|ab @X9c<|ab @X9d<|ab @if_true.{1}<| @if_false.{1}
def ss:=ab su<|ab sb hbT
def Vk:= @X9
def Ve:= @Xn Tryz.prog tab Xj
def V0:= @Xn Tryz.prog tab Xj []
def Vs:= @Xhj
def Vb:= @Cw
def Vc:= @Cx
def Vr:= @Cy
def Vq {Q:Exit->AState->Prop} {σ:AState} {id:Nat} {l:List Oper}:= @Xqf Tryz.prog tab Xj Q σ id l follows
def Vd (id:Nat) (bx:List (Nat×Option Nat)) (rd wr:List (List Nat)) {Q:Exit->AState->Prop} {σ:AState} {l:List Oper}:= @Ny Tryz.prog tab Xj bx rd wr Q σ id l follows
def Vt:= @Wm
def Vf:= @Uy
def Vi:= @Uz
def Vx:= @Qi
def Vz:= @Yd
def Vg:= @Jo
theorem Vn {a:Nat}:a=a:=rfl
section
variable {P:Program} {n:Nat} {fn:Func} {out:Nat->Option Res} {gives:List (Nat×Res)} {r q:AV} {t u:Tmp} {σ:AState}
theorem Vo (hr:fn.results= #[.tmp t]) (hd:σ.df=[]) (h0:σ.n0=n) (ho:∀k,k<n->σ.out k=upd out gives k) (hx:σ.fr.getD t .top=r):Zq P n fn out gives r .ret σ:=Qv (.inr rfl) hr hd h0 ho hx
theorem Vp (hr:fn.results= #[.tmp t,.tmp u]) (hd:σ.df=[]) (h0:σ.n0=n) (ho:∀k,k<n->σ.out k=upd out gives k) (hx:σ.fr.getD t .top=r) (hy:σ.fr.getD u .top=q):Zq P n fn out gives (.tup [r,q]) .ret σ:=X0r (.inr rfl) hr hd h0 ho hx hy
end
def tp:List Nat->List (Nat×AV)->List (Nat×AV)
 |[],l=>l
 |t::ts,l=>(t,.top)::tp ts l
theorem Xz3 (l:List (Nat×AV)):tp [] l=l:=rfl
theorem Xy2 (t:Nat) (ts:List Nat) (l:List (Nat×AV)):tp (t::ts) l=(t,.top)::tp ts l:=rfl
def tr:Nat->Nat->List (Nat×AV)->List (Nat×AV)
 | _,0,l=>l
 |s,n+1,l=>(s,.top)::tr (s+1) n l
theorem Xz5 (s:Nat) (l:List (Nat×AV)):tr s 0 l=l:=rfl
theorem Y34 (s n:Nat) (l:List (Nat×AV)):tr s (n+1) l=(s,.top)::tr (s+1) n l:=rfl
theorem Xz4 (fr:List AV):X4 fr []=fr:=rfl
theorem Xy3 (fr:List AV) (i:Nat) (x:AV) (l:List (Nat×AV)):X4 fr ((i,x)::l)=X4 (fr.set i x) l:=rfl
def pt:=ab @Xz3<|ab @Xy2<|ab @Xz5<|ab @Y34<|ab @Xz4<|ab @Xy3<|ab @s_0 @s_s
def sL:=ab pt sl
def sM:=ab pt sm
def zB:=ab ss Y33
def zA:=ab zB @X1.eq_def
def sn:=ab @List.length_cons.{0}<|ab @List.length_nil.{0}<|ab @List.length_map.{0,0}<|ab @List.length_replicate.{0}<|ab @Xf<|ab @List.replicate_zero.{0}<|ab @List.replicate_succ.{0}<|ab @List.cons_append.{0} @List.nil_append.{0}
section
variable {P:Program} {Q:Exit->AState->Prop} {σ σ':AState} {c x y:Code}
theorem Vy {id:Nat} {l:List Oper} (h:∀K:AState->Prop,(∀σ,AWp Tryz.prog y Q σ->K σ)->Xp0 Tryz.prog tab [] false l.toArray (Qd K Q .normal) l σ):AWp Tryz.prog (.seq (.region id l.toArray false) y) Q σ:=
 X9 fun K hK=>Xn Xj [] (h K hK)
theorem Vy2 {id:Nat} {l:List Oper} (hB:Region.lexB .any l.toArray=true) (h:∀K:AState->Prop,(∀σ,AWp Tryz.prog y Q σ->K σ)->Xp0 Tryz.prog tab [] true l.toArray (Qd K Q .normal) l σ):AWp Tryz.prog (.seq (.region id l.toArray true) y) Q σ:=
 X9 fun K hK=>Xqf Xj follows hB (h K hK)
theorem gS {bx:List (Nat×Option Nat)} {q:Bool} {ops:Array Oper} {K:AState->Prop} {d:Option Tmp} {op:Op} {l:List Oper} {o:Option Bool} (h:X5c P tab bx q ops K d op l σ o):X5c P tab bx q ops K d op l σ o:=h
theorem gS2 {bx:List (Nat×Option Nat)} {ops:Array Oper} {K:AState->Prop} {a b:List Nat} {rd wr:List (List Nat)} {d:Option Tmp} {op:Op} {l:List Oper} {o:Option Bool} (h:Eb P tab bx ops K a b rd wr d op l σ o):Eb P tab bx ops K a b rd wr d op l σ o:=h
def V5:= @Xe
theorem La (h:(σ.out,σ.n0,σ.n,σ.df)=(σ'.out,σ'.n0,σ'.n,σ'.df)) (h1:leL σ.fr σ'.fr) (h2:leR σ.lo σ'.lo):σ.le σ':=by
 simp only[gu] at h;exact X2 h1 h2 h.1 h.2.1 h.2.2.1 h.2.2.2
theorem Xwm (b:Nat) (l:Nat->List (Nat×AV)) (lo:Nat->List (Option Res)) (hle:σ.le {σ with fr:=X4 σ.fr (l 0),lo:=lo 0})
  (round:∀i,i<=b->AWp P c (Qd (fun σ'=>∃y,y<=b∧b - y<b - i∧σ'.le {σ with fr:=X4 σ.fr (l y),lo:=lo y}) Q) {σ with fr:=X4 σ.fr (l i),lo:=lo i}):AWp P (.loop c) Q σ:=
 Xz l lo (fun _=>σ.out) (fun i=>i<=b) (fun i=>b - i) 0 (br _) hle round
theorem Xse (b:Nat) (q:Nat->Prop) (l:Nat->List (Nat×AV)) (lo:Nat->List (Option Res)) (h0:q 0) (hle:σ.le {σ with fr:=X4 σ.fr (l 0),lo:=lo 0})
  (round:∀i,i<=b∧q i->AWp P c (Qd (fun σ'=>∃y,(y<=b∧q y)∧b - y<b - i∧σ'.le {σ with fr:=X4 σ.fr (l y),lo:=lo y}) Q) {σ with fr:=X4 σ.fr (l i),lo:=lo i}):AWp P (.loop c) Q σ:=
 Xz l lo (fun _=>σ.out) (fun i=>i<=b∧q i) (fun i=>b - i) 0 ⟨br _,h0⟩ hle round
theorem Xrd (b:Nat) (l:Nat->Nat->List (Nat×AV)) (lo:Nat->Nat->List (Option Res)) (hle:σ.le {σ with fr:=X4 σ.fr (l σ.n 0),lo:=lo σ.n 0})
  (round:∀m i,σ.n0<=m->i<=b->AWp P c (Qd (fun σ'=>∃y,y<=b∧b - y<b - i∧σ'.leSome fun m=>{σ with fr:=X4 σ.fr (l m y),lo:=lo m y,n:=m}) Q) {σ with fr:=X4 σ.fr (l m i),lo:=lo m i,n:=m}):AWp P (.loop c) Q σ:=
 Xl l lo (fun _=>σ.out) (fun i=>i<=b) (fun i=>b - i) 0 (br _) hle round
theorem Xpw (b:Nat) (q:Nat->Prop) (l:Nat->Nat->List (Nat×AV)) (lo:Nat->Nat->List (Option Res)) (h0:q 0) (hle:σ.le {σ with fr:=X4 σ.fr (l σ.n 0),lo:=lo σ.n 0})
  (round:∀m i,σ.n0<=m->i<=b∧q i->AWp P c (Qd (fun σ'=>∃y,(y<=b∧q y)∧b - y<b - i∧σ'.leSome fun m=>{σ with fr:=X4 σ.fr (l m y),lo:=lo m y,n:=m}) Q) {σ with fr:=X4 σ.fr (l m i),lo:=lo m i,n:=m}):AWp P (.loop c) Q σ:=
 Xl l lo (fun _=>σ.out) (fun i=>i<=b∧q i) (fun i=>b - i) 0 ⟨br _,h0⟩ hle round
end
end Go.Proofs.YtdngdjbgmojcoaaGreat.Tab
namespace Go.Proofs.YtdngdjbgmojcoaaGreat.Pln
set_option linter.all false
set_option maxHeartbeats 1000000
open Go Go.VS
def idx {α:Type} (p:α->Bool) (l:List α):Int:=match l.findIdx? p with
 |some i=>i
 |none=> -1
theorem Kn {α:Type} {p:α->Bool} {l:List α} (h:∀i (hi:i<l.length),p l[i]=false):idx p l= -1:=by
 have:l.findIdx? p=none:=by
  rw[List.findIdx?_eq_none_iff];intro x hx;obtain⟨i,hi,rfl⟩:=am hx;exact h i hi
 rw[idx,this]
theorem Ko {α:Type} {p:α->Bool} {l:List α} {i:Nat} (hi:i<l.length) (hp:p l[i]=true) (h:∀j (hj:j<i),p (l[j]'(by omega))=false):idx p l=i:=by
 have:l.findIdx? p=some i:=by
  rw[fv];exact⟨hi,hp,fun j hj=>by simp [h j hj]⟩
 rw[idx,this]
theorem Ze {α:Type} (p:α->Bool) (l:List α):(idx p l= -1∧l.find? p=none∧∀x,x∈l->p x=false)∨∃(i:Nat) (hi:i<l.length),idx p l=i∧l.find? p=some l[i]∧p l[i]=true∧∀j (hj:j<i),p (l[j]'(by omega))=false:=by
 cases h:l.findIdx? p with
 |none=>
  left
  have h':=h;rw[List.findIdx?_eq_none_iff] at h;refine⟨by rw[idx,h'],?_,h⟩;rw[cx];intro x hx;rw[h x hx];decide
 |some i=>
  right
  have h':=h;rw[fv] at h;obtain⟨hi,hp,hq⟩:=h;refine⟨i,hi,by rw[idx,h'],?_,hp,fun j hj=>by simpa using hq j hj⟩;rw[f9];exact⟨hp,i,hi,rfl,fun j hj=>by simpa using hq j hj⟩
theorem X3h {α:Type} (p:α->Bool) (l:List α):decide (idx p l>=0)=l.any p:=by
 rcases Ze p l with ⟨h1,_,h3⟩|⟨i,hi,h1,_,h3,_⟩
 ·have:l.any p=false:=by rw[fi];intro x hx;simp [h3 x hx]
  rw[h1,this];rfl
 ·have:l.any p=true:=f6.2 ⟨_,a8 hi,h3⟩;rw[h1,this];simp
theorem Xg {α β:Type} (f:α->β) (l:List α) (i:Nat) (d:β) (h:i<l.length):(l.map f).getD i d=f l[i]:=by
 simp [af,h]
theorem Xua {α β:Type} (g:α->β) (l:List α) (i:Nat) (h:i<l.length):(l.take i).map g++[g l[i]]=(l.take (i+1)).map g:=by
 rw[aj h,aw];rfl
def Ue {α:Type} (f:List α->α->Bool) (l:List α):Bool:=(List.range l.length).all fun i=>match l[i]? with
 |some x=>f (l.take i) x
 |none=>true
theorem Z3 {α:Type} {f:List α->α->Bool} {l:List α}:Ue f l=true↔∀i (hi:i<l.length),f (l.take i) l[i]=true:=by
 simp only[Ue,az,dq];constructor
 ·intro h i hi;have:=h i hi;rwa [ah hi] at this
 ·intro h i hi;rw[ah hi];exact h i hi
theorem Q3 {α:Type} {f:List α->α->Bool} {l:List α} (h:∀i (hi:i<l.length),f (l.take i) l[i]=true):Ue f l=true:=Z3.2 h
theorem Yz {α:Type} {f:List α->α->Bool} {l:List α} {i:Nat} (hi:i<l.length) (h:f (l.take i) l[i]=false):Ue f l=false:=by
 rw[cv];intro h';rw[Z3.1 h' i hi] at h;cases h
theorem Mm {α:Type} {p:α->Bool} {l:List α} (h:∀i (hi:i<l.length),p l[i]=true):l.all p=true:=
 az.2 fun x hx=>by obtain⟨i,hi,rfl⟩:=am hx;exact h i hi
theorem Kp {α:Type} {p:α->Bool} {l:List α} {i:Nat} (hi:i<l.length) (h:p l[i]=false):l.all p=false:=by
 rw[cv];intro h';rw[az.1 h' _ (a8 hi)] at h;cases h
theorem Hn {p:Nat->Bool} {n:Nat} (h:∀i,i<n->p i=true):(List.range n).all p=true:=az.2 fun i hi=>h i (dq.1 hi)
theorem Ez {p:Nat->Bool} {n i:Nat} (hi:i<n) (h:p i=false):(List.range n).all p=false:=by
 rw[cv];intro h';rw[az.1 h' i (dq.2 hi)] at h;cases h
theorem Bs {α:Type} (g:α->Int) (l:List α) (i:Nat) (hi:i<l.length) (hq:∀j (hj:j<i) k (hk:k<j),g (l[k]'(by omega))<g (l[j]'(by omega))):
  (l.take i).all (fun k=>decide (g k<g l[i]))=(decide (i=0)||decide (g (l[i - 1]'(by omega))<g l[i])):=by
 rw[ar];simp only[az,ao,ck];constructor
 ·intro h;rcases fh i with h0|h0
  ·exact .inl h0
  ·refine .inr (h _ ?_);rw[bm];exact⟨i - 1,by omega,rfl⟩
 ·rintro(rfl|h) x hx
  ·simp at hx
  ·rw[bm] at hx;obtain⟨j,hj,rfl⟩:=hx;by_cases h1:j=i - 1
   ·subst h1;exact h
   ·exact Int.lt_trans (hq (i - 1) (by omega) j (by omega)) h
theorem Ho {α:Type} (f:Nat->α) (n j:Nat) (v:α):((List.range n).map f).set j v=(List.range n).map fun k=>if k=j then v else f k:=by
 apply ia
 ·simp
 ·intro i h1 h2;rw[List.getElem_set];simp only[da,List.getElem_range];by_cases h:j=i
  ·subst h;simp
  ·simp [h,Ne.symm h]
theorem Z8 {α:Type} {l:List α} {i j:Nat} (hj:j<i) (hi:j<l.length):l[j]∈l.take i:=by
 rw[bm];exact⟨j,by omega,rfl⟩
structure Sec where
 id:Int
 pt:Int
 ends:List (Int×Int)
structure Rt where
 id:Int
 entry:Int
 ex:Int
 path:List Int
 over:List Int
 flanks:List (Int×Int)
 timer:Int
structure Pl where
 ver:Int
 par:Int
 secs:List Sec
 pts:List (Int×Int)
 sgs:List (Int×Int×Int)
 rts:List Rt
def Ym (n:Int):List AV:=[i64 n]
def jnC (j:Int×Int):List AV:=[i64 j.1,i64 j.2]
def sgC (g:Int×Int×Int):List AV:=[i64 g.1,i64 g.2.1,i64 g.2.2]
def Y6 (s:Sec):List AV:=[i64 s.id,i64 s.pt,.sl 2 (s.ends.map jnC) .sh]
def rtC (r:Rt):List AV:=[i64 r.id,i64 r.entry,i64 r.ex,.sl 1 (r.path.map Ym) .sh,.sl 1 (r.over.map Ym) .sh,.sl 2 (r.flanks.map jnC) .sh,i64 r.timer]
def plC (p:Pl):List AV:=[i64 p.ver,i64 p.par,.sl 3 (p.secs.map Y6) .sh,.sl 2 (p.pts.map jnC) .sh,.sl 3 (p.sgs.map sgC) .sh,.sl 7 (p.rts.map rtC) .sh]
abbrev X62 (l:List Int):AV:= .sl 1 (l.map Ym) .sh
abbrev P9 (l:List Sec):AV:= .sl 3 (l.map Y6) .sh
def Qh (s:Sec):AV:= .agg (Y6 s)
def jnA (j:Int×Int):AV:= .agg (jnC j)
def sgA (g:Int×Int×Int):AV:= .agg (sgC g)
def rtA (r:Rt):AV:= .agg (rtC r)
def plA (p:Pl):AV:= .agg (plC p)
theorem X0b (s:Sec):pick true 3 (Y6 s)=some (Qh s):=rfl
def Xp2:Sec:=⟨0,0,[]⟩
def X7o:Rt:=⟨0,0,0,[],[],[],0⟩
def Uk (n:Int):Bool:=decide (1<=n)&&decide (n<=99)
theorem U1 {n:Int}:Uk n=true↔1<=n∧n<=99:=by simp [Uk]
def Qc (s:Sec):Bool:=(decide (s.pt=0)&&decide (s.ends.length=2))||(Uk s.pt&&decide (s.ends.length=3))
theorem Uv {s:Sec}:Qc s=true↔(s.pt=0∧s.ends.length=2)∨(1<=s.pt∧s.pt<=99∧s.ends.length=3):=by simp [Qc,Uk,and_assoc]
def Qt (l:List Sec) (n:Int):Option Sec:=l.find? fun s=>s.id==n
def Yb (l:List Sec) (s:Sec) (e:Nat):Bool:=
 decide (s.ends.getD e (0,0)=(0,0))||match Qt l (s.ends.getD e (0,0)).1 with
  |none=>false
  |some t=>decide (0<=(s.ends.getD e (0,0)).2)&&decide ((s.ends.getD e (0,0)).2<t.ends.length)&& !(s.ends.getD e (0,0)==(s.id,(e:Int)))&&(t.ends.getD (s.ends.getD e (0,0)).2.toNat (0,0)==(s.id,(e:Int)))
def okS (pre:List Sec) (s:Sec):Bool:=Uk s.id&&Qc s&&pre.all (fun k=>decide (k.id<s.id))&&(decide (s.pt=0)||pre.all fun k=> !(k.pt==s.pt))
def Uq (l:List Sec):Bool:=decide (l.length<=16)&&Ue okS l&&l.all fun s=>(List.range s.ends.length).all (Yb l s)
def Bt (l:List (Int×Int)) (n:Int):Option (Int×Int):=l.find? fun x=>x.1==n
def Xpe (l:List (Int×Int×Int)) (n:Int):Option (Int×Int×Int):=l.find? fun x=>x.1==n
def Yh2 (l:List Rt) (n:Int):Option Rt:=l.find? fun x=>x.id==n
def Ye (pre:List Int) (n:Int):Bool:=Uk n&&pre.all fun k=>decide (k<n)
def okP (p:Pl) (x:Int×Int):Bool:=match Qt p.secs x.2 with
 |none=>false
 |some s=>s.pt==x.1
def Ul (p:Pl):Bool:=Ue Ye (p.pts.map Prod.fst)&&decide (p.pts.length<=6)&&decide (p.secs.countP (fun s=>s.pt !=0)=p.pts.length)&&p.pts.all (okP p)
def okG (p:Pl) (pre:List (Int×Int×Int)) (x:Int×Int×Int):Bool:=(match Qt p.secs x.2.1 with
 |none=>false
 |some s=>decide (0<=x.2.2)&&decide (x.2.2<s.ends.length))&&pre.all fun y=> !(y.2==x.2)
def Qu (p:Pl):Bool:=Ue Ye (p.sgs.map Prod.fst)&&decide (p.sgs.length<=10)&&Ue (okG p) p.sgs
def okL (p:Pl) (own:Int) (pre:List Int) (n:Int):Bool:=(Qt p.secs n).isSome&& !(n==own)&&pre.all fun k=> !(k==n)
def okF (p:Pl) (pre:List (Int×Int)) (f:Int×Int):Bool:=(Bt p.pts f.1).isSome&&(match pre.getLast? with
 |none=>true
 |some k=>decide (k.1<f.1))&&(f.2==1||f.2==2)
def okR (p:Pl) (r:Rt):Bool:=match Xpe p.sgs r.entry with
 |none=>false
 |some en=>(decide (r.ex=0)||((Xpe p.sgs r.ex).isSome&& !(r.ex==r.entry)))&& !(decide (r.ex=0)&& !r.over.isEmpty)&&
  decide (1<=r.path.length)&&decide (r.path.length<=6)&&decide (r.over.length<=2)&&decide (r.flanks.length<=3)&&decide (1<=r.timer)&&decide (r.timer<=9)&&
  Ue (okL p en.2.1) (r.path++r.over)&&Ue (okF p) r.flanks
def Kq (p:Pl):Bool:=decide (1<=p.ver)&&decide (p.ver<=2147483647)&&decide (0<=p.par)&&decide (p.par<p.ver)
def Uf (p:Pl):Bool:=Kq p&&Uq p.secs&&Ul p&&Qu p&&Ue Ye (p.rts.map Rt.id)&&decide (p.rts.length<=16)&&p.rts.all (okR p)
theorem Su {l:List Sec} {s:Sec} {e:Nat} (he:e<s.ends.length) {a b:Int} (hj:s.ends[e]=(a,b)):Yb l s e=(decide (a=0∧b=0)||match Qt l a with
  |none=>false
  |some t=>decide (0<=b)&&decide (b<t.ends.length)&& !(decide (a=s.id∧b=e))&&(t.ends.getD b.toNat (0,0)==(s.id,(e:Int)))):=by
 unfold Yb;have:s.ends.getD e (0,0)=(a,b):=by rw[<- hj];simp [af,he]
 rw[this];have e1:decide ((a,b)=((0:Int),(0:Int)))=decide (a=0∧b=0):=by simp
 have e2:((a,b)==(s.id,(e:Int)))=decide (a=s.id∧b=e):=by
  rw[ar,bq,ao,gu]
 rw[e1];cases Qt l a with
 |none=>rfl
 |some t=>simp only[e2]
theorem Sv {l:List Sec} (h:¬l.length<=16):Uq l=false:=by unfold Uq;rw[ak h];rfl
theorem Kr {l:List Sec} {i:Nat} (hi:i<l.length) (h:okS (l.take i) l[i]=false):Uq l=false:=by
 unfold Uq;rw[Yz hi h];simp
theorem U2 {l:List Sec} {i e:Nat} (hi:i<l.length) (he:e<l[i].ends.length) (h:Yb l l[i] e=false):Uq l=false:=by
 unfold Uq;have:(l.all fun s=>(List.range s.ends.length).all (Yb l s))=false:=Kp hi (Ez he h);rw[this];simp
theorem Sw {l:List Sec} (h1:l.length<=16) (h2:∀i (hi:i<l.length),okS (l.take i) l[i]=true) (h3:∀i (hi:i<l.length) e,e<l[i].ends.length->Yb l l[i] e=true):Uq l=true:=by
 unfold Uq;have:(l.all fun s=>(List.range s.ends.length).all (Yb l s))=true:=Mm fun i hi=>Hn (h3 i hi);rw[ax h1,Q3 h2,this];rfl
theorem Hp {pre:List Sec} {s:Sec}:okS pre s=true↔Uk s.id=true∧Qc s=true∧(∀k,k∈pre->k.id<s.id)∧(s.pt=0∨∀k,k∈pre->k.pt≠s.pt):=by
 simp [okS,and_assoc]
theorem Ui {l:List Sec} {i:Nat} (hi:i<l.length):okS (l.take i) l[i]=true↔Uk l[i].id=true∧Qc l[i]=true∧∀j (hj:j<i),(l[j]'(by omega)).id<l[i].id∧(l[i].pt=0∨(l[j]'(by omega)).pt≠l[i].pt):=by
 rw[Hp];constructor
 ·rintro⟨h1,h2,h3,h4⟩;refine⟨h1,h2,fun j hj=>⟨h3 _ (Z8 hj (by omega)),h4.imp id fun h=>h _ (Z8 hj (by omega))⟩⟩
 ·rintro⟨h1,h2,h3⟩;refine⟨h1,h2,fun k hk=> ?_,?_⟩
  ·rw[bm] at hk;obtain⟨j,hj,rfl⟩:=hk;exact(h3 j (by omega)).1
  ·by_cases h0:l[i].pt=0
   ·exact .inl h0
   ·refine .inr fun k hk=> ?_;rw[bm] at hk;obtain⟨j,hj,rfl⟩:=hk;exact(h3 j (by omega)).2.resolve_left h0
theorem X3i {l:List Sec} {i j:Nat} (hi:i<l.length) (hj:j<i) (h:¬((l[j]'(by omega)).id<l[i].id∧(l[i].pt=0∨(l[j]'(by omega)).pt≠l[i].pt))):okS (l.take i) l[i]=false:=by
 rw[cv];intro h';exact h ((Ui hi).1 h'|>.2.2 j hj)
def Yc5 (l:List Sec) (b:Int):Sec:=if Uq l then(Qt l b).getD Xp2 else Xp2
def Ybs (l:List Sec) (b:Int):Int:=if Uq l then(if (Qt l b).isSome then 0 else 6) else 8
def Ygm (l:List Sec) (b e:Int):Int×Int:=if Ybs l b=0∧0<=e then(Yc5 l b).ends.getD e.toNat (0,0) else(0,0)
def Yf9 (l:List Sec) (b e:Int):Int:=if Ybs l b=0 then(if 0<=e∧e<(Yc5 l b).ends.length then 0 else 2) else Ybs l b
end Go.Proofs.YtdngdjbgmojcoaaGreat.Pln
