/- The layer of abstract values, joined. -/
import Derived.Test.YtgpdghbmiihfbaaGreatZVsBits
import Derived.Test.YtgpdghbmiihfbaaGreatZTab
namespace Go.VS
set_option linter.all false
section
variable {P:Program} {T:TypeId->Option TI} {bx:List (Nat×Option Nat)} {σ:AState} {d:Option Tmp}
def Eb (P:Program) (T:TypeId->Option TI) (bx:List (Nat×Option Nat)) (ops:Array Oper) (K:AState->Prop) (a b:List Nat) (rd wr:List (List Nat)) (d:Option Tmp) (op:Op) (l:List Oper) (σ:AState) (o:Option Bool):Prop:=match o with
 |some true=>Uc P T bx (σ.seen a) (Lt b (Qy P T bx ops K rd wr l) σ d) d op
 |some false=>Qy P T bx ops K rd wr l (σ.next d (.tup []) [])
 |none=>False
theorem Jv (a b:List Nat) (rd wr:List (List Nat)) (ops:Array Oper) (K:AState->Prop) (op:Op) (ty:TypeId) (pos:String) (aft:Array Edge) (l:List Oper) (g:Nat×Bool):
  Qy P T bx ops K (a::rd) (b::wr) (⟨d,op,ty,pos,aft,some g⟩::l) σ=Eb P T bx ops K a b rd wr d op l σ (Zw ops σ ⟨d,op,ty,pos,aft,some g⟩):=rfl
theorem X2b (a b:List Nat) (rd wr:List (List Nat)) (ops:Array Oper) (K:AState->Prop) (op:Op) (l:List Oper):Eb P T bx ops K a b rd wr d op l σ (some true)=Uc P T bx (σ.seen a) (Lt b (Qy P T bx ops K rd wr l) σ d) d op:=rfl
theorem X2c (a b:List Nat) (rd wr:List (List Nat)) (ops:Array Oper) (K:AState->Prop) (op:Op) (l:List Oper):Eb P T bx ops K a b rd wr d op l σ (some false)=Qy P T bx ops K rd wr l (σ.next d (.tup []) []):=rfl
def sg:=aa @Jv<|aa @X2b<| @X2c
end
section
variable {fr:List AV} {lo:List (Option Res)} {out:Nat->Option Res} {n0 n:Nat} {df:List Deferred}
theorem Xjn (h:n0<=n) (d:Option Tmp) (x:AV) (i:Nat) (r:Res) (g:List (Nat×Res)):AState.next ⟨fr,lo,out,n0,n,df⟩ d x ((n+i,r)::g)=AState.next ⟨fr,lo.set i (some r),out,n0,n,df⟩ d x g:=by
 have h':¬n+i<n0:=by omega
 cases d<;>simp [AState.next,AState.put,AState.give,h']
theorem Xa {k:Nat} (h:k<n0) (d:Option Tmp) (x:AV) (r:Res) (g:List (Nat×Res)):AState.next ⟨fr,lo,out,n0,n,df⟩ d x ((k,r)::g)=AState.next ⟨fr,lo,Xw out k r,n0,n,df⟩ d x g:=by
 cases d<;>simp [AState.next,AState.put,AState.give,h]
end
theorem gE {P:Program} {T:TypeId->Option TI} {bx:List (Nat×Option Nat)} {q:Bool} {ops:Array Oper} {K:AState->Prop} {l:List Oper} {σ:AState} (h:Xp0 P T bx q ops K l σ):Xp0 P T bx q ops K l σ:=h
theorem gR {q:Bool} {R:AState->Prop} {σ:AState} {d:Option Tmp} {r:AV} {g:List (Nat×Res)} (h:Pg q R σ d r g):Pg q R σ d r g:=h
theorem gD {P:Program} {T:TypeId->Option TI} {bx:List (Nat×Option Nat)} {ops:Array Oper} {K:AState->Prop} {rd wr:List (List Nat)} {l:List Oper} {σ:AState} (h:Qy P T bx ops K rd wr l σ):Qy P T bx ops K rd wr l σ:=h
theorem gF {wr:List Nat} {R:AState->Prop} {σ:AState} {d:Option Tmp} {r:AV} {g:List (Nat×Res)} (h:Lt wr R σ d r g):Lt wr R σ d r g:=h
theorem gT {P:Program} {T:TypeId->Option TI} {bx:List (Nat×Option Nat)} {ops:Array Oper} {lst:Nat} {anc:List Nat} {K:AState->Prop} {i:Nat} {l:List Oper} {σ:AState} (h:Tp P T bx ops lst anc K i l σ):Tp P T bx ops lst anc K i l σ:=h
theorem gU {b:Bool} {R:AState->Prop} {σ:AState} {d:Option Tmp} {r:AV} {g:List (Nat×Res)} (h:FdT b R σ d r g):FdT b R σ d r g:=h
def nb:=aa @Bool.not_eq_true' @Bool.not_eq_false'
def su:=aa sx<|aa sy<|aa @ne_eq.{1}<|aa @eq_self.{1}<|aa @if_true.{1}<|aa @if_false.{1}<|aa @Nv.eq_def<|aa @Tk.eq_def<| @Cl.eq_def
theorem Xif (s:Nat->Option Res) (k:Nat) (r:Res) (j:Nat):Xw s k r j=if j=k then some r else s j:=rfl
theorem Zc (s:Nat->Option Res) (k:Nat) (r:Res) (l:List (Nat×Res)):upd s ((k,r)::l)=upd (Xw s k r) l:=rfl
theorem Wz (s:Nat->Option Res):upd s []=s:=rfl
theorem Xuy {P:Program} {n:Nat} {fn:Func} {out:Nat->Option Res} {gives:List (Nat×Res)} {r q p R':AV} {a b c:Tmp} {t:TypeId} {ti:TI} {e:Exit} {σ:AState} (he:e= .normal∨e= .ret) (hr:fn.results= #[.cell a t,.tmp b,.tmp c]) (hd:σ.df=[]) (h0:σ.n0=n)
  (ho:∀k,k<n->σ.out k=upd out gives k) (ht:TIok P t ti) {k off:Nat} {eb:TypeId} {cs:List AV} (hx:σ.fr.getD a .top= .ptr k off) (hk:σ.dom k) (hl:σ.look k=some (.box eb cs)) (hp:pick ti.agg ti.size (cs.drop off)=some r)
  (hy:σ.fr.getD b .top=q) (hz:σ.fr.getD c .top=p) (hle:AV.le (.tup [r,q,p]) R'):Zq P n fn out gives R' e σ:=by
 refine⟨he,hd,h0,ho,fun M act hI hs=> ?_⟩;have h1:=hs.ev (.tmp a);have h2:=hs.ev (.tmp b);have h3:=hs.ev (.tmp c);simp only[AState.ev,Act.eval] at h1 h2 h3;rw[hx] at h1;rw[hy] at h2;rw[hz] at h3;have hv:=Dy h1;obtain⟨vs,g1,g2,g3,g4,_⟩:=hI.box k eb cs (by rw[hs.st k hk];exact hl);have cell:∀j,M.w.cell? ⟨M.β k,j,none⟩=vs[j]? :=fun j=>Yj g1;obtain⟨u,hu,hR⟩:=U3 (M:=M) ht (cs:=cs.drop off) (b:=M.β k) (o:=off)
  (fun j hj=>by
   have hj':off+j<vs.size:=by simp at hj;omega
   exact⟨vs[off+j],by rw[cell];simp [hj'],g3 (off+j) _ (by simp [hj'])⟩)
  (fun j c v hj hv=>g4 (off+j) c v (by rwa [cb] at hj) (by rwa [cell] at hv)) hp
 have hv':act.tmps[a]?.getD undef= .pointer (some ⟨M.β k,off,none⟩):=by rw[<- d9];exact hv
 refine⟨.tuple #[u,act.tmps.getD b undef,act.tmps.getD c undef],by simp [results,hr,hv',asAddr,hu],(R.tup [r,q,p] _ rfl fun i c v hi hv=> ?_).le hle⟩
 match i,hi,hv with
 |0,hi,hv=>simp at hi hv;subst hi;subst hv;exact hR
 |1,hi,hv=>simp at hi hv;subst hi;subst hv;simpa using h2
 |2,hi,hv=>simp at hi hv;subst hi;subst hv;simpa using h3
end Go.VS
namespace Go.Proofs.YtgpdghbmiihfbaaGreat.Tab
set_option linter.all false
open Go Go.VS
section
variable {K:AState->Prop} {Q:Exit->AState->Prop} {σ:AState}
theorem X96:Qd K Q .normal σ=K σ:=rfl
theorem X97 (i:Nat):Qd K Q (.exit i) σ=Q (.exit i) σ:=rfl
theorem X98 (i:Nat):Qd K Q (.goto i) σ=Q (.goto i) σ:=rfl
theorem X99:Qd K Q .ret σ=Q .ret σ:=rfl
theorem X9a (i:Nat):Z4 i Q .normal σ=Q .normal σ:=rfl
theorem X9b (i j:Nat):Z4 i Q (.exit j) σ=if j=i then Q .normal σ else Q (.exit j) σ:=rfl
theorem X9c (i j:Nat):Z4 i Q (.goto j) σ=Q (.goto j) σ:=rfl
theorem X9d (i:Nat):Z4 i Q .ret σ=Q .ret σ:=rfl
end
def sb:=aa @X96<|aa @X97<|aa @X98<|aa @X99<|aa @X9a<|aa @X9b<|aa @X9c<|aa @X9d<|aa @if_true.{1}<| @if_false.{1}
def ss:=aa su<|aa sb hbT
def Vk:= @X9
def Ve:= @Xn Tryz.prog tab Xj
def V0:= @Xn Tryz.prog tab Xj []
def Vs:= @Xhj
def Vb:= @Cw
def Vc:= @Cx
def Vr:= @Cy
def Vq {Q:Exit->AState->Prop} {σ:AState} {id:Nat} {l:List Oper}:= @Xqf Tryz.prog tab Xj Q σ id l follows
def Vd (id:Nat) (bx:List (Nat×Option Nat)) (rd wr:List (List Nat)) {Q:Exit->AState->Prop} {σ:AState} {l:List Oper}:= @Ny Tryz.prog tab Xj bx rd wr Q σ id l follows
def Vt:= @Wm
def Vf:= @Uy
def Vi:= @Uz
def Vx:= @Qi
def Vz:= @Yd
def Vg:= @Jo
theorem Vn {a:Nat}:a=a:=rfl
section
variable {P:Program} {n:Nat} {fn:Func} {out:Nat->Option Res} {gives:List (Nat×Res)} {r q:AV} {t u:Tmp} {σ:AState}
theorem Vo (hr:fn.results= #[.tmp t]) (hd:σ.df=[]) (h0:σ.n0=n) (ho:∀k,k<n->σ.out k=upd out gives k) (hx:σ.fr.getD t .top=r):Zq P n fn out gives r .ret σ:=Qv (.inr rfl) hr hd h0 ho hx
theorem Vp (hr:fn.results= #[.tmp t,.tmp u]) (hd:σ.df=[]) (h0:σ.n0=n) (ho:∀k,k<n->σ.out k=upd out gives k) (hx:σ.fr.getD t .top=r) (hy:σ.fr.getD u .top=q):Zq P n fn out gives (.tup [r,q]) .ret σ:=X0r (.inr rfl) hr hd h0 ho hx hy
end
def tp:List Nat->List (Nat×AV)->List (Nat×AV)
 |[],l=>l
 |t::ts,l=>(t,.top)::tp ts l
theorem Xz3 (l:List (Nat×AV)):tp [] l=l:=rfl
theorem Xy2 (t:Nat) (ts:List Nat) (l:List (Nat×AV)):tp (t::ts) l=(t,.top)::tp ts l:=rfl
def tr:Nat->Nat->List (Nat×AV)->List (Nat×AV)
 | _,0,l=>l
 |s,n+1,l=>(s,.top)::tr (s+1) n l
theorem Xz5 (s:Nat) (l:List (Nat×AV)):tr s 0 l=l:=rfl
theorem Y34 (s n:Nat) (l:List (Nat×AV)):tr s (n+1) l=(s,.top)::tr (s+1) n l:=rfl
theorem Xz4 (fr:List AV):X4 fr []=fr:=rfl
theorem Xy3 (fr:List AV) (i:Nat) (x:AV) (l:List (Nat×AV)):X4 fr ((i,x)::l)=X4 (fr.set i x) l:=rfl
def pt:=aa @Xz3<|aa @Xy2<|aa @Xz5<|aa @Y34<|aa @Xz4<|aa @Xy3<|aa @s_0 @s_s
def sL:=aa pt sl
def sM:=aa pt sm
def zB:=aa ss Y33
def zA:=aa zB @X1.eq_def
def sn:=aa @List.length_cons.{0}<|aa @List.length_nil.{0}<|aa @List.length_map.{0,0}<|aa @List.length_replicate.{0}<|aa @Xf<|aa @List.replicate_zero.{0}<|aa @List.replicate_succ.{0}<|aa @List.cons_append.{0} @List.nil_append.{0}
section
variable {P:Program} {Q:Exit->AState->Prop} {σ σ':AState} {c x y:Code}
theorem Vy {id:Nat} {l:List Oper} (h:∀K:AState->Prop,(∀σ,AWp Tryz.prog y Q σ->K σ)->Xp0 Tryz.prog tab [] false l.toArray (Qd K Q .normal) l σ):AWp Tryz.prog (.seq (.region id l.toArray false) y) Q σ:=
 X9 fun K hK=>Xn Xj [] (h K hK)
theorem Vy2 {id:Nat} {l:List Oper} (hB:Region.lexB .any l.toArray=true) (h:∀K:AState->Prop,(∀σ,AWp Tryz.prog y Q σ->K σ)->Xp0 Tryz.prog tab [] true l.toArray (Qd K Q .normal) l σ):AWp Tryz.prog (.seq (.region id l.toArray true) y) Q σ:=
 X9 fun K hK=>Xqf Xj follows hB (h K hK)
theorem gS {bx:List (Nat×Option Nat)} {q:Bool} {ops:Array Oper} {K:AState->Prop} {d:Option Tmp} {op:Op} {l:List Oper} {o:Option Bool} (h:X5c P tab bx q ops K d op l σ o):X5c P tab bx q ops K d op l σ o:=h
theorem gS2 {bx:List (Nat×Option Nat)} {ops:Array Oper} {K:AState->Prop} {a b:List Nat} {rd wr:List (List Nat)} {d:Option Tmp} {op:Op} {l:List Oper} {o:Option Bool} (h:Eb P tab bx ops K a b rd wr d op l σ o):Eb P tab bx ops K a b rd wr d op l σ o:=h
def V5:= @Xe
theorem La (h:(σ.out,σ.n0,σ.n,σ.df)=(σ'.out,σ'.n0,σ'.n,σ'.df)) (h1:leL σ.fr σ'.fr) (h2:leR σ.lo σ'.lo):σ.le σ':=by
 simp only[ji] at h;exact X2 h1 h2 h.1 h.2.1 h.2.2.1 h.2.2.2
theorem Xwm (b:Nat) (l:Nat->List (Nat×AV)) (lo:Nat->List (Option Res)) (hle:σ.le {σ with fr:=X4 σ.fr (l 0),lo:=lo 0})
  (round:∀i,i<=b->AWp P c (Qd (fun σ'=>∃y,y<=b∧b - y<b - i∧σ'.le {σ with fr:=X4 σ.fr (l y),lo:=lo y}) Q) {σ with fr:=X4 σ.fr (l i),lo:=lo i}):AWp P (.loop c) Q σ:=
 Xz l lo (fun _=>σ.out) (fun i=>i<=b) (fun i=>b - i) 0 (ba _) hle round
theorem Xse (b:Nat) (q:Nat->Prop) (l:Nat->List (Nat×AV)) (lo:Nat->List (Option Res)) (h0:q 0) (hle:σ.le {σ with fr:=X4 σ.fr (l 0),lo:=lo 0})
  (round:∀i,i<=b∧q i->AWp P c (Qd (fun σ'=>∃y,(y<=b∧q y)∧b - y<b - i∧σ'.le {σ with fr:=X4 σ.fr (l y),lo:=lo y}) Q) {σ with fr:=X4 σ.fr (l i),lo:=lo i}):AWp P (.loop c) Q σ:=
 Xz l lo (fun _=>σ.out) (fun i=>i<=b∧q i) (fun i=>b - i) 0 ⟨ba _,h0⟩ hle round
theorem Xrd (b:Nat) (l:Nat->Nat->List (Nat×AV)) (lo:Nat->Nat->List (Option Res)) (hle:σ.le {σ with fr:=X4 σ.fr (l σ.n 0),lo:=lo σ.n 0})
  (round:∀m i,σ.n0<=m->i<=b->AWp P c (Qd (fun σ'=>∃y,y<=b∧b - y<b - i∧σ'.leSome fun m=>{σ with fr:=X4 σ.fr (l m y),lo:=lo m y,n:=m}) Q) {σ with fr:=X4 σ.fr (l m i),lo:=lo m i,n:=m}):AWp P (.loop c) Q σ:=
 Xl l lo (fun _=>σ.out) (fun i=>i<=b) (fun i=>b - i) 0 (ba _) hle round
theorem Xpw (b:Nat) (q:Nat->Prop) (l:Nat->Nat->List (Nat×AV)) (lo:Nat->Nat->List (Option Res)) (h0:q 0) (hle:σ.le {σ with fr:=X4 σ.fr (l σ.n 0),lo:=lo σ.n 0})
  (round:∀m i,σ.n0<=m->i<=b∧q i->AWp P c (Qd (fun σ'=>∃y,(y<=b∧q y)∧b - y<b - i∧σ'.leSome fun m=>{σ with fr:=X4 σ.fr (l m y),lo:=lo m y,n:=m}) Q) {σ with fr:=X4 σ.fr (l m i),lo:=lo m i,n:=m}):AWp P (.loop c) Q σ:=
 Xl l lo (fun _=>σ.out) (fun i=>i<=b∧q i) (fun i=>b - i) 0 ⟨ba _,h0⟩ hle round
end
end Go.Proofs.YtgpdghbmiihfbaaGreat.Tab
namespace Go.Proofs.YtgpdghbmiihfbaaGreat.Pln
set_option linter.all false
set_option maxHeartbeats 1000000
open Go Go.VS
def idx {α:Type} (p:α->Bool) (l:List α):Int:=match l.findIdx? p with
 |some i=>i
 |none=> -1
theorem Kn {α:Type} {p:α->Bool} {l:List α} (h:∀i (hi:i<l.length),p l[i]=false):idx p l= -1:=by
 have:l.findIdx? p=none:=by
  rw[f6];intro x hx;obtain⟨i,hi,rfl⟩:=az hx;exact h i hi
 rw[idx,this]
theorem Ko {α:Type} {p:α->Bool} {l:List α} {i:Nat} (hi:i<l.length) (hp:p l[i]=true) (h:∀j (hj:j<i),p (l[j]'(by omega))=false):idx p l=i:=by
 have:l.findIdx? p=some i:=by
  rw[dy];exact⟨hi,hp,fun j hj=>by simp [h j hj]⟩
 rw[idx,this]
theorem Ze {α:Type} (p:α->Bool) (l:List α):(idx p l= -1∧l.find? p=none∧∀x,x∈l->p x=false)∨∃(i:Nat) (hi:i<l.length),idx p l=i∧l.find? p=some l[i]∧p l[i]=true∧∀j (hj:j<i),p (l[j]'(by omega))=false:=by
 cases h:l.findIdx? p with
 |none=>
  left
  have h':=h;rw[f6] at h;refine⟨by rw[idx,h'],?_,h⟩;rw[dq];intro x hx;rw[h x hx];decide
 |some i=>
  right
  have h':=h;rw[dy] at h;obtain⟨hi,hp,hq⟩:=h;refine⟨i,hi,by rw[idx,h'],?_,hp,fun j hj=>by simpa using hq j hj⟩;rw[g9];exact⟨hp,i,hi,rfl,fun j hj=>by simpa using hq j hj⟩
theorem X3h {α:Type} (p:α->Bool) (l:List α):decide (idx p l>=0)=l.any p:=by
 rcases Ze p l with ⟨h1,_,h3⟩|⟨i,hi,h1,_,h3,_⟩
 ·have:l.any p=false:=by rw[gq];intro x hx;simp [h3 x hx]
  rw[h1,this];rfl
 ·have:l.any p=true:=io.2 ⟨_,ak hi,h3⟩;rw[h1,this];simp
theorem Xg {α β:Type} (f:α->β) (l:List α) (i:Nat) (d:β) (h:i<l.length):(l.map f).getD i d=f l[i]:=by
 simp [ah,h]
theorem Xua {α β:Type} (g:α->β) (l:List α) (i:Nat) (h:i<l.length):(l.take i).map g++[g l[i]]=(l.take (i+1)).map g:=by
 rw[ai h,cu];rfl
def Ue {α:Type} (f:List α->α->Bool) (l:List α):Bool:=(List.range l.length).all fun i=>match l[i]? with
 |some x=>f (l.take i) x
 |none=>true
theorem Z3 {α:Type} {f:List α->α->Bool} {l:List α}:Ue f l=true↔∀i (hi:i<l.length),f (l.take i) l[i]=true:=by
 simp only[Ue,bc,c8];constructor
 ·intro h i hi;have:=h i hi;rwa [ae hi] at this
 ·intro h i hi;rw[ae hi];exact h i hi
theorem Q3 {α:Type} {f:List α->α->Bool} {l:List α} (h:∀i (hi:i<l.length),f (l.take i) l[i]=true):Ue f l=true:=Z3.2 h
theorem Yz {α:Type} {f:List α->α->Bool} {l:List α} {i:Nat} (hi:i<l.length) (h:f (l.take i) l[i]=false):Ue f l=false:=by
 rw[fe];intro h';rw[Z3.1 h' i hi] at h;cases h
theorem Mm {α:Type} {p:α->Bool} {l:List α} (h:∀i (hi:i<l.length),p l[i]=true):l.all p=true:=
 bc.2 fun x hx=>by obtain⟨i,hi,rfl⟩:=az hx;exact h i hi
theorem Kp {α:Type} {p:α->Bool} {l:List α} {i:Nat} (hi:i<l.length) (h:p l[i]=false):l.all p=false:=by
 rw[fe];intro h';rw[bc.1 h' _ (ak hi)] at h;cases h
theorem Hn {p:Nat->Bool} {n:Nat} (h:∀i,i<n->p i=true):(List.range n).all p=true:=bc.2 fun i hi=>h i (c8.1 hi)
theorem Ez {p:Nat->Bool} {n i:Nat} (hi:i<n) (h:p i=false):(List.range n).all p=false:=by
 rw[fe];intro h';rw[bc.1 h' i (c8.2 hi)] at h;cases h
theorem Bs {α:Type} (g:α->Int) (l:List α) (i:Nat) (hi:i<l.length) (hq:∀j (hj:j<i) k (hk:k<j),g (l[k]'(by omega))<g (l[j]'(by omega))):
  (l.take i).all (fun k=>decide (g k<g l[i]))=(decide (i=0)||decide (g (l[i - 1]'(by omega))<g l[i])):=by
 rw[bp];simp only[bc,am,c9];constructor
 ·intro h;rcases ix i with h0|h0
  ·exact .inl h0
  ·refine .inr (h _ ?_);rw[de];exact⟨i - 1,by omega,rfl⟩
 ·rintro(rfl|h) x hx
  ·simp at hx
  ·rw[de] at hx;obtain⟨j,hj,rfl⟩:=hx;by_cases h1:j=i - 1
   ·subst h1;exact h
   ·exact Int.lt_trans (hq (i - 1) (by omega) j (by omega)) h
theorem Ho {α:Type} (f:Nat->α) (n j:Nat) (v:α):((List.range n).map f).set j v=(List.range n).map fun k=>if k=j then v else f k:=by
 apply jt
 ·simp
 ·intro i h1 h2;rw[List.getElem_set];simp only[fv,List.getElem_range];by_cases h:j=i
  ·subst h;simp
  ·simp [h,Ne.symm h]
theorem Z8 {α:Type} {l:List α} {i j:Nat} (hj:j<i) (hi:j<l.length):l[j]∈l.take i:=by
 rw[de];exact⟨j,by omega,rfl⟩
structure Sec where
 id:Int
 pt:Int
 ends:List (Int×Int)
structure Rt where
 id:Int
 entry:Int
 ex:Int
 path:List Int
 over:List Int
 flanks:List (Int×Int)
 timer:Int
structure Pl where
 ver:Int
 par:Int
 secs:List Sec
 pts:List (Int×Int)
 sgs:List (Int×Int×Int)
 rts:List Rt
def Ym (n:Int):List AV:=[i64 n]
def jnC (j:Int×Int):List AV:=[i64 j.1,i64 j.2]
def sgC (g:Int×Int×Int):List AV:=[i64 g.1,i64 g.2.1,i64 g.2.2]
def secC (s:Sec):List AV:=[i64 s.id,i64 s.pt,.sl 2 (s.ends.map jnC) .sh]
def rtC (r:Rt):List AV:=[i64 r.id,i64 r.entry,i64 r.ex,.sl 1 (r.path.map Ym) .sh,.sl 1 (r.over.map Ym) .sh,.sl 2 (r.flanks.map jnC) .sh,i64 r.timer]
def plC (p:Pl):List AV:=[i64 p.ver,i64 p.par,.sl 3 (p.secs.map secC) .sh,.sl 2 (p.pts.map jnC) .sh,.sl 3 (p.sgs.map sgC) .sh,.sl 7 (p.rts.map rtC) .sh]
abbrev X62 (l:List Int):AV:= .sl 1 (l.map Ym) .sh
abbrev P9 (l:List Sec):AV:= .sl 3 (l.map secC) .sh
def Qh (s:Sec):AV:= .agg (secC s)
def jnA (j:Int×Int):AV:= .agg (jnC j)
def sgA (g:Int×Int×Int):AV:= .agg (sgC g)
def rtA (r:Rt):AV:= .agg (rtC r)
def plA (p:Pl):AV:= .agg (plC p)
theorem X0b (s:Sec):pick true 3 (secC s)=some (Qh s):=rfl
theorem Xj7 (n:Int):pick false 1 (Ym n)=some (i64 n):=rfl
def Xp2:Sec:=⟨0,0,[]⟩
def X7o:Rt:=⟨0,0,0,[],[],[],0⟩
def Uk (n:Int):Bool:=decide (1<=n)&&decide (n<=99)
theorem U1 {n:Int}:Uk n=true↔1<=n∧n<=99:=by simp [Uk]
def Qc (s:Sec):Bool:=(decide (s.pt=0)&&decide (s.ends.length=2))||(Uk s.pt&&decide (s.ends.length=3))
theorem Uv {s:Sec}:Qc s=true↔(s.pt=0∧s.ends.length=2)∨(1<=s.pt∧s.pt<=99∧s.ends.length=3):=by simp [Qc,Uk,and_assoc]
def Qt (l:List Sec) (n:Int):Option Sec:=l.find? fun s=>s.id==n
def Yb (l:List Sec) (s:Sec) (e:Nat):Bool:=
 decide (s.ends.getD e (0,0)=(0,0))||match Qt l (s.ends.getD e (0,0)).1 with
  |none=>false
  |some t=>decide (0<=(s.ends.getD e (0,0)).2)&&decide ((s.ends.getD e (0,0)).2<t.ends.length)&& !(s.ends.getD e (0,0)==(s.id,(e:Int)))&&(t.ends.getD (s.ends.getD e (0,0)).2.toNat (0,0)==(s.id,(e:Int)))
def okS (pre:List Sec) (s:Sec):Bool:=Uk s.id&&Qc s&&pre.all (fun k=>decide (k.id<s.id))&&(decide (s.pt=0)||pre.all fun k=> !(k.pt==s.pt))
def Uq (l:List Sec):Bool:=decide (l.length<=16)&&Ue okS l&&l.all fun s=>(List.range s.ends.length).all (Yb l s)
def Bt (l:List (Int×Int)) (n:Int):Option (Int×Int):=l.find? fun x=>x.1==n
def Xpe (l:List (Int×Int×Int)) (n:Int):Option (Int×Int×Int):=l.find? fun x=>x.1==n
def Ye (pre:List Int) (n:Int):Bool:=Uk n&&pre.all fun k=>decide (k<n)
def okP (p:Pl) (x:Int×Int):Bool:=match Qt p.secs x.2 with
 |none=>false
 |some s=>s.pt==x.1
def Ul (p:Pl):Bool:=Ue Ye (p.pts.map Prod.fst)&&decide (p.pts.length<=6)&&decide (p.secs.countP (fun s=>s.pt !=0)=p.pts.length)&&p.pts.all (okP p)
def okG (p:Pl) (pre:List (Int×Int×Int)) (x:Int×Int×Int):Bool:=(match Qt p.secs x.2.1 with
 |none=>false
 |some s=>decide (0<=x.2.2)&&decide (x.2.2<s.ends.length))&&pre.all fun y=> !(y.2==x.2)
def Qu (p:Pl):Bool:=Ue Ye (p.sgs.map Prod.fst)&&decide (p.sgs.length<=10)&&Ue (okG p) p.sgs
def okL (p:Pl) (own:Int) (pre:List Int) (n:Int):Bool:=(Qt p.secs n).isSome&& !(n==own)&&pre.all fun k=> !(k==n)
def okF (p:Pl) (pre:List (Int×Int)) (f:Int×Int):Bool:=(Bt p.pts f.1).isSome&&(match pre.getLast? with
 |none=>true
 |some k=>decide (k.1<f.1))&&(f.2==1||f.2==2)
def okR (p:Pl) (r:Rt):Bool:=match Xpe p.sgs r.entry with
 |none=>false
 |some en=>(decide (r.ex=0)||((Xpe p.sgs r.ex).isSome&& !(r.ex==r.entry)))&& !(decide (r.ex=0)&& !r.over.isEmpty)&&
  decide (1<=r.path.length)&&decide (r.path.length<=6)&&decide (r.over.length<=2)&&decide (r.flanks.length<=3)&&decide (1<=r.timer)&&decide (r.timer<=9)&&
  Ue (okL p en.2.1) (r.path++r.over)&&Ue (okF p) r.flanks
def Kq (p:Pl):Bool:=decide (1<=p.ver)&&decide (p.ver<=2147483647)&&decide (0<=p.par)&&decide (p.par<p.ver)
def Uf (p:Pl):Bool:=Kq p&&Uq p.secs&&Ul p&&Qu p&&Ue Ye (p.rts.map Rt.id)&&decide (p.rts.length<=16)&&p.rts.all (okR p)
theorem Su {l:List Sec} {s:Sec} {e:Nat} (he:e<s.ends.length) {a b:Int} (hj:s.ends[e]=(a,b)):Yb l s e=(decide (a=0∧b=0)||match Qt l a with
  |none=>false
  |some t=>decide (0<=b)&&decide (b<t.ends.length)&& !(decide (a=s.id∧b=e))&&(t.ends.getD b.toNat (0,0)==(s.id,(e:Int)))):=by
 unfold Yb;have:s.ends.getD e (0,0)=(a,b):=by rw[<- hj];simp [ah,he]
 rw[this];have e1:decide ((a,b)=((0:Int),(0:Int)))=decide (a=0∧b=0):=by simp
 have e2:((a,b)==(s.id,(e:Int)))=decide (a=s.id∧b=e):=by
  rw[bp,cv,am,ji]
 rw[e1];cases Qt l a with
 |none=>rfl
 |some t=>simp only[e2]
theorem Sv {l:List Sec} (h:¬l.length<=16):Uq l=false:=by unfold Uq;rw[aq h];rfl
theorem Kr {l:List Sec} {i:Nat} (hi:i<l.length) (h:okS (l.take i) l[i]=false):Uq l=false:=by
 unfold Uq;rw[Yz hi h];simp
theorem U2 {l:List Sec} {i e:Nat} (hi:i<l.length) (he:e<l[i].ends.length) (h:Yb l l[i] e=false):Uq l=false:=by
 unfold Uq;have:(l.all fun s=>(List.range s.ends.length).all (Yb l s))=false:=Kp hi (Ez he h);rw[this];simp
theorem Sw {l:List Sec} (h1:l.length<=16) (h2:∀i (hi:i<l.length),okS (l.take i) l[i]=true) (h3:∀i (hi:i<l.length) e,e<l[i].ends.length->Yb l l[i] e=true):Uq l=true:=by
 unfold Uq;have:(l.all fun s=>(List.range s.ends.length).all (Yb l s))=true:=Mm fun i hi=>Hn (h3 i hi);rw[ay h1,Q3 h2,this];rfl
theorem Hp {pre:List Sec} {s:Sec}:okS pre s=true↔Uk s.id=true∧Qc s=true∧(∀k,k∈pre->k.id<s.id)∧(s.pt=0∨∀k,k∈pre->k.pt≠s.pt):=by
 simp [okS,and_assoc]
theorem Ui {l:List Sec} {i:Nat} (hi:i<l.length):okS (l.take i) l[i]=true↔Uk l[i].id=true∧Qc l[i]=true∧∀j (hj:j<i),(l[j]'(by omega)).id<l[i].id∧(l[i].pt=0∨(l[j]'(by omega)).pt≠l[i].pt):=by
 rw[Hp];constructor
 ·rintro⟨h1,h2,h3,h4⟩;refine⟨h1,h2,fun j hj=>⟨h3 _ (Z8 hj (by omega)),h4.imp id fun h=>h _ (Z8 hj (by omega))⟩⟩
 ·rintro⟨h1,h2,h3⟩;refine⟨h1,h2,fun k hk=> ?_,?_⟩
  ·rw[de] at hk;obtain⟨j,hj,rfl⟩:=hk;exact(h3 j (by omega)).1
  ·by_cases h0:l[i].pt=0
   ·exact .inl h0
   ·refine .inr fun k hk=> ?_;rw[de] at hk;obtain⟨j,hj,rfl⟩:=hk;exact(h3 j (by omega)).2.resolve_left h0
def Yc5 (l:List Sec) (b:Int):Sec:=if Uq l then(Qt l b).getD Xp2 else Xp2
def Ybs (l:List Sec) (b:Int):Int:=if Uq l then(if (Qt l b).isSome then 0 else 6) else 8
def nextE (l:List Sec) (b e:Int):Int:=if Ybs l b=0 then(if 0<=e∧e<(Yc5 l b).ends.length then 0 else 2) else Ybs l b
end Go.Proofs.YtgpdghbmiihfbaaGreat.Pln
namespace Go.Proofs.YtgpdghbmiihfbaaGreat.Pln
set_option linter.all false
set_option maxHeartbeats 1000000
set_option maxRecDepth 4000
open Go Go.VS Tab
attribute [local irreducible] AWp Xp0 Pg X5c Qy Lt Tp FdT Eb
theorem Wh (n:Int):Xr Tryz.prog 236 [i64 n] [] (bool (Uk n)) []:=by
 refine Xc 0 Tryz.func236 rfl fun n out _ _=> ?_;simp only[sn,Tryz.ntmps236,simprocAttr];have hg:=Nat.le_refl 0;repeat' (first|refine Vk fun K hK=> ?_|apply V0|((first|apply gE|apply gS);simp only[zA,simprocAttr,hg])|(apply Vz;refine Vo rfl rfl rfl (fun _ _=>rfl) ?_<;>first|rfl|(first|rfl|(simp only[g_0,g_s];refine congrArg VS.bool ?_;rw[bp];first|(simp [Uk] at* <;>omega)|(simp_all [Uk]<;>omega)))|skip)|((refine Vg (fun hg=> ?_) (fun hg=> ?_))<;>try simp only[nb] at hg)|(refine hK _ ?_;clear hK K))
theorem Di (s:Sec):Xr Tryz.prog 237 [Qh s] [] (bool (Qc s)) []:=by
 refine Xc 1 Tryz.func237 rfl fun n out _ _=> ?_;simp only[sn,Tryz.ntmps237,simprocAttr];have hg:=Nat.le_refl 0;repeat' (first|refine Vk fun K hK=> ?_|apply V0|((first|apply gE|apply gR|apply gS);simp only[zA,simprocAttr,hg,Qh,secC])|(apply Vz;refine Vo rfl rfl rfl (fun _ _=>rfl) ?_<;>first|rfl|(first|rfl|(simp only[g_0,g_s];refine congrArg VS.bool ?_;rw[bp];first|(simp [Qc,Uk] at* <;>omega)|(simp_all [Qc,Uk]<;>omega)))|skip)|(refine X3 (Wh _) ?_)|((refine Vg (fun hg=> ?_) (fun hg=> ?_))<;>try simp only[nb] at hg)|(refine hK _ ?_;clear hK K))
def Xuv (s:Sec) (a b:Int):Int:=if s.pt=0 then(if (a=0∧b=1)∨(a=1∧b=0) then 0 else -1) else if a=0∧(b=1∨b=2) then b else if b=0∧(a=1∨a=2) then a else -1
theorem X31 (a:Int):Xr Tryz.prog 306 [i64 a] [] (bool false) []:=by
 refine Xc 0 Tryz.func306 rfl fun n out _ _=> ?_;simp only[sn,Tryz.ntmps306,simprocAttr];repeat' (first|refine Vk fun K hK=> ?_|apply V0|(apply gE;simp only[zA,simprocAttr])|(apply Vz;refine Vo rfl rfl rfl (fun _ _=>rfl) ?_<;>first|rfl|(first|rfl|(simp only[g_0,g_s];refine congrArg VS.bool ?_;rw[bp];first|(simp [] at* <;>omega)|(simp_all []<;>omega)))|skip)|(refine hK _ ?_;clear hK K))
def Y35 (a b:Int):Int:=if a<b then -1 else if b<a then 1 else 0
theorem X80 (a b:Int):Xr Tryz.prog 294 [i64 a,i64 b] [] (i64 (Y35 a b)) []:=by
 refine Xc 0 Tryz.func294 rfl fun n out _ _=> ?_;simp only[sn,Tryz.ntmps294,simprocAttr];repeat' (first|refine Vk fun K hK=> ?_|apply V0|apply Vs|((first|apply gE|apply gR);simp only[zA,simprocAttr])|(apply Vz;refine Vo rfl rfl rfl (fun _ _=>rfl) ?_<;>first|rfl|(first|rfl|(simp only[g_0,g_s];refine congrArg i64 ?_;first|(simp [Y35] at* <;>omega)|(simp_all [Y35]<;>omega)))|skip)|(refine X3 (X31 _) ?_)|(refine hK _ ?_;clear hK K)|refine Vf rfl ?_|refine Vi rfl (fun hg=> ?_) (fun hg=> ?_))
theorem Y36 (s:Sec) (b:Int):Xr Tryz.prog 293 [Qh s,i64 b] [] (i64 (Y35 s.id b)) []:=by
 refine Xc 1 Tryz.func293 rfl fun n out _ _=> ?_;simp only[sn,Tryz.ntmps293,simprocAttr];repeat' (first|refine Vk fun K hK=> ?_|apply V0|((first|apply gE|apply gR);simp only[zA,simprocAttr,Qh,secC])|(apply Vz;refine Vo rfl rfl rfl (fun _ _=>rfl) ?_<;>first|rfl|(first|rfl|(simp only[g_0,g_s];refine congrArg i64 ?_;first|(simp [] at* <;>omega)|(simp_all []<;>omega)))|skip)|(refine X3 (X80 _ _) ?_)|(refine hK _ ?_;clear hK K))
theorem Ycc {α:Type} (C:α->List AV) (av:α->AV) (F sz:Nat) (hq:(F=307∧sz=3)∨(F=296∧sz=2)∨(F=298∧sz=3)) (hC:∀x,(C x).length=sz) (hA:∀x,av x= .agg (C x))
  (l:List α) (fid:FuncId) (caps:List AV) (p:α->Bool) (hb:Xd Tryz.prog fid=True) (hl:l.length<=1000000000)
  (hp:∀x,x∈l->Xr Tryz.prog fid (av x::caps) [] (bool (p x)) []):Xr Tryz.prog F [.sl sz (l.map C) .sh,.fn (.func fid) caps] [] (i64 (idx p l)) []:=by
 rcases hq with ⟨rfl,e1⟩|⟨rfl,e1⟩|⟨rfl,e1⟩
 all_goals
  subst e1;have hP:=fun x=>E6 (hC x);first|refine Xc 0 Tryz.func307 rfl fun n out _ _=> ?_|refine Xc 0 Tryz.func296 rfl fun n out _ _=> ?_|refine Xc 0 Tryz.func298 rfl fun n out _ _=> ?_
  simp only[sn,Tryz.ntmps307,Tryz.ntmps296,Tryz.ntmps298,simprocAttr];refine Vy fun K hK=> ?_;simp only[zA,simprocAttr]
  (refine hK _ ?_;clear hK K)
  refine Vk fun KB hKB=> ?_;refine Vy fun K hK=> ?_;simp only[zA,simprocAttr]
  (refine hK _ ?_;clear hK K)
  apply V5;refine Xse (l.length) (fun i=>(∀j (hj:j<l.length),j<i->p l[j]=false)) (fun i=>tp [4,5] (tr 9 10 [(8,i64 (i:Int))])) (fun i=>[]) (by intros;omega) ?_ fun i hi=> ?_
  ·refine La rfl ?_ ?_<;>simp only[sL]
  obtain⟨hi,hq⟩:=hi;simp only[pt];refine Vy fun K hK=> ?_;simp only[zA,simprocAttr]
  (refine hK _ ?_;clear hK K)
  refine Vk fun KC hKC=> ?_;refine Uz rfl (fun ht=>Xhj (hKC _ ?_)) (fun hf=>Qi (id ?_));rotate_left
  ·simp only[Qd,Z4,if_true];refine hKB _ ?_;clear hKB KB hKC KC;have h_ib:i=l.length:=by have:=bh hf;omega
   subst h_ib;have e:=Kn (p:=p) (l:=l) fun i hi=>hq i hi hi;rw[e];refine Vy fun K hK=> ?_;simp only[zA,simprocAttr]
   (refine hK _ ?_;clear hK K)
   apply Vz;exact Qv (.inr rfl) rfl rfl rfl (fun _ _=>rfl) rfl
  clear hKC KC;have hlt:i<l.length:=by have:=au ht;omega
  refine Vk fun KC hKC=>Xe ?_;refine Vy fun K hK=> ?_;simp only[zA,simprocAttr]
  (refine hK _ ?_;clear hK K)
  refine Vy fun K hK=> ?_;simp only[zA,simprocAttr,hlt,af,Xg C l i [] hlt,hP,hb]
  skip
  rw[<- hA];refine X3 (hp _ (ak hlt)) ?_;simp only[zA,simprocAttr]
  (refine hK _ ?_;clear hK K)
  refine Uz rfl (fun ht=> ?_) (fun hf=>Xhj ?_)
  ·have e:=Ko hlt ht fun j hj=>hq j (by omega) hj;refine Vy fun K hK=> ?_;simp only[zA,simprocAttr]
   (refine hK _ ?_;clear hK K)
   rw[<- e];apply Vz;exact Qv (.inr rfl) rfl rfl rfl (fun _ _=>rfl) rfl
  repeat refine aa (by omega) ?_
  refine hKC _ ?_;clear hKC KC;refine Xn Xj [] ?_;simp only[zA,simprocAttr,Yl (n:=i) 1 1 rfl (by omega)];refine⟨i+1,⟨by omega,?_⟩,by omega,?_⟩
  ·intro j hj hji;by_cases h:j=i
   ·subst h;exact hf
   ·exact hq j hj (by omega)
  refine La rfl ?_ ?_<;>simp only[sL]
theorem Xu9 (l:List (Sec)) (fid:FuncId) (caps:List AV) (p:Sec->Bool) (hb:Xd Tryz.prog fid=True) (hl:l.length<=1000000000)
  (hp:∀x,x∈l->Xr Tryz.prog fid (Qh x::caps) [] (bool (p x)) []):Xr Tryz.prog 307 [.sl 3 (l.map secC) .sh,.fn (.func fid) caps] [] (i64 (idx p l)) []:=
 Ycc secC Qh _ _ (by decide) (fun _=>rfl) (fun _=>rfl) l fid caps p hb hl hp
theorem Sl (l:List (Int×Int)) (fid:FuncId) (caps:List AV) (p:Int×Int->Bool) (hb:Xd Tryz.prog fid=True) (hl:l.length<=1000000000)
  (hp:∀x,x∈l->Xr Tryz.prog fid (jnA x::caps) [] (bool (p x)) []):Xr Tryz.prog 296 [.sl 2 (l.map jnC) .sh,.fn (.func fid) caps] [] (i64 (idx p l)) []:=
 Ycc jnC jnA _ _ (by decide) (fun _=>rfl) (fun _=>rfl) l fid caps p hb hl hp
theorem H3 (l:List (Int×Int×Int)) (fid:FuncId) (caps:List AV) (p:Int×Int×Int->Bool) (hb:Xd Tryz.prog fid=True) (hl:l.length<=1000000000)
  (hp:∀x,x∈l->Xr Tryz.prog fid (sgA x::caps) [] (bool (p x)) []):Xr Tryz.prog 298 [.sl 3 (l.map sgC) .sh,.fn (.func fid) caps] [] (i64 (idx p l)) []:=
 Ycc sgC sgA _ _ (by decide) (fun _=>rfl) (fun _=>rfl) l fid caps p hb hl hp
theorem Aw (l:List (Int×Int)) (fid:FuncId) (caps:List AV) (p:Int×Int->Bool) (hb:Xd Tryz.prog fid=True) (hl:l.length<=1000000000)
  (hp:∀x,x∈l->Xr Tryz.prog fid (jnA x::caps) [] (bool (p x)) []):
  Xr Tryz.prog 240 [.sl 2 (l.map jnC) .sh,.fn (.func fid) caps] [] (bool (l.any p)) []:=by
 refine Xc 0 Tryz.func240 rfl fun n out _ _=> ?_;simp only[sn,Tryz.ntmps240,simprocAttr];repeat' (first|refine Vk fun K hK=> ?_|apply V0|((first|apply gE|apply gR);simp only[zA,simprocAttr])|(apply Vz;refine Vo rfl rfl rfl (fun _ _=>rfl) ?_<;>first|rfl|(rw[<- X3h];rfl)|skip)|(refine X3 (Sl l fid caps p hb hl hp) ?_)|(refine hK _ ?_;clear hK K))
theorem Yca (F sz:Nat) (hq:(F=148∧sz=3)∨(F=146∧sz=2)∨(F=147∧sz=3)∨(F=149∧sz=7)∨(F=150∧sz=2)∨(F=212∧sz=1)∨(F=213∧sz=2)∨(F=152∧sz=2)∨(F=153∧sz=3)∨(F=154∧sz=4))
  (els:List (List AV)) (hl:els.length<=1000000):Xr Tryz.prog F [.sl sz els .sh] [] (.sl sz els .sh) []:=by
 rcases hq with ⟨rfl,rfl⟩|⟨rfl,rfl⟩|⟨rfl,rfl⟩|⟨rfl,rfl⟩|⟨rfl,rfl⟩|⟨rfl,rfl⟩|⟨rfl,rfl⟩|⟨rfl,rfl⟩|⟨rfl,rfl⟩|⟨rfl,rfl⟩
 all_goals
  refine Xbz (fun h=> ?_) ?_
  ·subst h;first|refine Xc 0 Tryz.func148 rfl fun n out _ _=> ?_|refine Xc 0 Tryz.func146 rfl fun n out _ _=> ?_|refine Xc 0 Tryz.func147 rfl fun n out _ _=> ?_|refine Xc 0 Tryz.func149 rfl fun n out _ _=> ?_|refine Xc 0 Tryz.func150 rfl fun n out _ _=> ?_|refine Xc 0 Tryz.func212 rfl fun n out _ _=> ?_|refine Xc 0 Tryz.func213 rfl fun n out _ _=> ?_|refine Xc 0 Tryz.func152 rfl fun n out _ _=> ?_|refine Xc 0 Tryz.func153 rfl fun n out _ _=> ?_|refine Xc 0 Tryz.func154 rfl fun n out _ _=> ?_
   simp only[sn,Tryz.ntmps148,Tryz.ntmps146,Tryz.ntmps147,Tryz.ntmps149,Tryz.ntmps150,Tryz.ntmps212,Tryz.ntmps213,Tryz.ntmps152,Tryz.ntmps153,Tryz.ntmps154,simprocAttr];refine Vy fun K hK=> ?_;simp only[zA,simprocAttr]
   (refine hK _ ?_;clear hK K)
   refine Vk fun KB hKB=> ?_;refine Vy fun K hK=> ?_;simp only[zA,simprocAttr]
   (refine hK _ ?_;clear hK K)
   refine Wm rfl ?_;refine Vy fun K hK=> ?_;simp only[zA,simprocAttr]
   (refine hK _ ?_;clear hK K)
   apply Vz;exact Xv (.inr rfl) rfl rfl rfl (fun _ _=>rfl) ((Py _ _).2 trivial) rfl
  ·first|refine Xc 0 Tryz.func148 rfl fun n out _ _=> ?_|refine Xc 0 Tryz.func146 rfl fun n out _ _=> ?_|refine Xc 0 Tryz.func147 rfl fun n out _ _=> ?_|refine Xc 0 Tryz.func149 rfl fun n out _ _=> ?_|refine Xc 0 Tryz.func150 rfl fun n out _ _=> ?_|refine Xc 0 Tryz.func212 rfl fun n out _ _=> ?_|refine Xc 0 Tryz.func213 rfl fun n out _ _=> ?_|refine Xc 0 Tryz.func152 rfl fun n out _ _=> ?_|refine Xc 0 Tryz.func153 rfl fun n out _ _=> ?_|refine Xc 0 Tryz.func154 rfl fun n out _ _=> ?_
   simp only[sn,Tryz.ntmps148,Tryz.ntmps146,Tryz.ntmps147,Tryz.ntmps149,Tryz.ntmps150,Tryz.ntmps212,Tryz.ntmps213,Tryz.ntmps152,Tryz.ntmps153,Tryz.ntmps154,simprocAttr];have hw:∀k,k<=140->els.length*k<=140737488355328:=fun k hk=>Nat.le_trans (Nat.mul_le_mul hl hk) (by decide);refine Vy fun K hK=> ?_;simp only[zA,simprocAttr]
   (refine hK _ ?_;clear hK K)
   refine Vk fun KB hKB=> ?_;refine Vy fun K hK=> ?_;simp only[zA,simprocAttr]
   (refine hK _ ?_;clear hK K)
   refine Uy rfl (Xhj (hKB _ ?_));refine Vy fun K hK=> ?_;simp only[zA,simprocAttr,hw 8 (by decide),hw 16 (by decide),hw 24 (by decide),hw 32 (by decide),hw 40 (by decide),hw 104 (by decide),show els.length<=9223372036854775807 by omega]
   (refine hK _ ?_;clear hK K)
   apply Vz;refine Xv (.inr rfl) rfl rfl rfl (fun _ _=>rfl) ?_ rfl;simp only[sL]
theorem Xfa (els:List (List AV)) (hl:els.length<=1000000):Xr Tryz.prog 146 [.sl 2 els .sh] [] (.sl 2 els .sh) []:=Yca _ _ (by decide) els hl
theorem Xfb (els:List (List AV)) (hl:els.length<=1000000):Xr Tryz.prog 147 [.sl 3 els .sh] [] (.sl 3 els .sh) []:=Yca _ _ (by decide) els hl
theorem Xez (els:List (List AV)) (hl:els.length<=1000000):Xr Tryz.prog 212 [.sl 1 els .sh] [] (.sl 1 els .sh) []:=Yca _ _ (by decide) els hl
theorem Xfc (els:List (List AV)) (hl:els.length<=1000000):Xr Tryz.prog 213 [.sl 2 els .sh] [] (.sl 2 els .sh) []:=Yca _ _ (by decide) els hl
theorem X32 (a b:Int×Int):(a==b)=((a.1==b.1)&&(a.2==b.2)):=rfl
theorem Xgy (a b:Int×Int×Int):(a==b)=((a.1==b.1)&&((a.2.1==b.2.1)&&(a.2.2==b.2.2))):=rfl
theorem Mu {α:Type} [BEq α] [LawfulBEq α] {l m:List α} (h:l.length≠m.length):(l==m)=false:=by
 rw[fg];rintro rfl;exact h rfl
theorem Ua {α:Type} [BEq α] [LawfulBEq α] {l m:List α} (h:l.length=m.length) (hp:∀i (hi:i<l.length) (hi':i<m.length),l[i]=m[i]):(l==m)=true:=by
 rw[cv];exact jt h hp
theorem Ut {α:Type} [BEq α] [LawfulBEq α] {l m:List α} {i:Nat} (hi:i<l.length) (hi':i<m.length) (h:l[i]≠m[i]):(l==m)=false:=by
 rw[fg];rintro rfl;exact h rfl
def Pk (l:List Sec):Prop:=∀i (hi:i<l.length) j (hj:j<i),(l[j]'(by omega)).id<l[i].id
theorem X9k (n:Nat) (h:n<4611686018427387904):Zr .shr .u64 (n:Int) 1=some (.int .u64 ((n / 2:Nat):Int)):=by
 have e:=X3y (BitVec.ofNat 64 n) (b:=1) (by decide);have e1:(BitVec.ofNat 64 n).toNat=n:=by rw[da];omega
 rw[gx,e1] at e;rw[e,f8];rfl
theorem X34 {a b:Int}:decide (Y35 a b<0)=decide (a<b):=by
 unfold Y35;split
 ·simp [*]
 ·split<;>simp [*]
theorem X35 {a b:Int}:(Y35 a b==0)=(a==b):=by
 unfold Y35;rw[bp];split
 ·simp;omega
 ·split<;>simp<;>omega
def Qz (l:List Sec) (b:Int):Nat:=l.findIdx fun s=>decide (b<=s.id)
theorem Ax {l:List Sec} {b:Int} {i:Nat} (hi:i<=l.length) (h3:∀k (hk:k<l.length),k<i->l[k].id<b) (h4:∀k (hk:k<l.length),i<=k->b<=l[k].id):Qz l b=i:=by
 unfold Qz;rcases Nat.lt_or_ge i l.length with hlt|hge
 ·exact(List.findIdx_eq hlt).2 ⟨ay (h4 i hlt (Nat.le_refl _)),fun j hj=>aq (by have:=h3 j (by omega) hj;omega)⟩
 ·obtain rfl:i=l.length:=by omega
  rw[List.findIdx_eq_length];intro x hx;obtain⟨j,hj,rfl⟩:=az hx;exact aq (by have:=h3 j hj hj;omega)
theorem En {l:List Sec} (hr:Pk l) (b:Int):Qt l b=if Qz l b<l.length∧(l.getD (Qz l b) Xp2).id=b then some (l.getD (Qz l b) Xp2) else none:=by
 have h1:∀j (hj:j<l.length),j<Qz l b->l[j].id<b:=fun j hj hjl=>by
  have:=List.not_of_lt_findIdx (p:=fun s:Sec=>decide (b<=s.id)) hjl;simp at this;exact this
 rcases Nat.lt_or_ge (Qz l b) l.length with hlt|hge
 ·have h2:b<=(l[Qz l b]).id:=by
   have:=List.findIdx_getElem (p:=fun s:Sec=>decide (b<=s.id)) (w:=hlt);exact au this
  have hd:l.getD (Qz l b) Xp2=l[Qz l b]:=by simp [ah,hlt]
  rw[hd];by_cases he:(l[Qz l b]).id=b
  ·rw[if_pos ⟨hlt,he⟩];unfold Qt;rw[g9];exact⟨by simpa using he,Qz l b,hlt,rfl,fun j hj=>by have:=h1 j (by omega) hj;simp;omega⟩
  ·rw[if_neg fun h=>he h.2];unfold Qt;rw[dq];intro x hx;obtain⟨j,hj,rfl⟩:=az hx;rcases Nat.lt_trichotomy j (Qz l b) with h|h|h
   ·have:=h1 j hj h;simp;omega
   ·subst h;simpa using he
   ·have:=hr j hj (Qz l b) h;simp;omega
 ·rw[if_neg fun h=>by omega];unfold Qt;rw[dq];intro x hx;obtain⟨j,hj,rfl⟩:=az hx;have:=h1 j hj (by omega);simp;omega
theorem H4 (l:List Sec) (b:Int) (fid:FuncId) (hb:Xd Tryz.prog fid=True) (hl:l.length<=1000000000) (hr:Pk l)
  (hp:∀x,x∈l->Xr Tryz.prog fid [Qh x,i64 b] [] (i64 (Y35 x.id b)) []):
  Xr Tryz.prog 292 [P9 l,i64 b,.fn (.func fid) []] [] (.tup [i64 (Qz l b:Int),bool (decide (Qz l b<l.length∧(l.getD (Qz l b) Xp2).id=b))]) []:=by
 refine Xc 0 Tryz.func292 rfl fun n out _ _=> ?_;simp only[sn,Tryz.ntmps292,simprocAttr];refine Vy fun K hK=> ?_;simp only[zA,simprocAttr]
 (refine hK _ ?_;clear hK K)
 refine Vy fun K hK=> ?_;simp only[zA,simprocAttr]
 (refine hK _ ?_;clear hK K)
 refine Vy fun K hK=> ?_;simp only[zA,simprocAttr]
 (refine hK _ ?_;clear hK K)
 refine Vk fun KB hKB=> ?_;apply V5;refine Xz (fun q:Nat×Nat=>[(9,i64 (q.1:Int)),(10,i64 (q.2:Int)),(11,.top),(15,.top),(16,.top),(17,.top),(18,.top),(19,.top),(20,.top),(21,.top),(22,.top),(23,.top),(24,.top),(25,.top),(26,.top),(27,.top),(28,.top),(29,.top),(30,.top),(31,.top),(32,.top),(33,.top),(34,.top)]) (fun q=>[]) (fun q=>out) (fun q=>q.1<=q.2∧q.2<=l.length∧(∀k (hk:k<l.length),k<q.1->l[k].id<b)∧(∀k (hk:k<l.length),q.2<=k->b<=l[k].id)) (fun q=>q.2 - q.1) (0,l.length) ⟨ba _,Nat.le_refl _,by intros;omega,by intros;omega⟩ ?_ fun q hq=> ?_
 ·refine La rfl ?_ ?_<;>simp only[sL]
 obtain⟨i,j⟩:=q;obtain⟨h1,h2,h3,h4⟩:=hq;simp only at h1 h2 h3 h4;simp only[pt];refine Vk fun KC hKC=> ?_;refine Vy fun K hK=> ?_;simp only[zA,simprocAttr]
 (refine hK _ ?_;clear hK K)
 refine Uz rfl (fun ht=>Xhj (hKC _ ?_)) (fun hf=>Qi (id ?_))
 ·clear hKC KC;have hij:i<j:=by have:=au ht;omega
  have e1:IntKind.i64.wrap ((i:Int)+(j:Int))=((i+j:Nat):Int):=by rw[wrap_i64]<;>omega
  have e2:IntKind.u64.wrap ((i+j:Nat):Int)=((i+j:Nat):Int):=by rw[X1m]<;>omega
  have e3:=X9k (i+j) (by omega);have e4:IntKind.i64.wrap (((i+j) / 2:Nat):Int)=(((i+j) / 2:Nat):Int):=by rw[wrap_i64]<;>omega
  have hlt:(i+j) / 2<l.length:=by omega
  have e5:=Yl (n:=(i+j) / 2) 1 1 rfl (by omega);have hb1:i<=(i+j) / 2∧(i+j) / 2<j:=by omega
  generalize (i+j) / 2=h at e3 e4 hlt e5 hb1;apply V5;have hg:=Xg secC l h [] hlt;refine Vy fun K hK=> ?_;simp only[zA,simprocAttr,e1,e2,e3,e4]
  (refine hK _ ?_;clear hK K)
  refine Vy fun K hK=> ?_;simp only[zA,simprocAttr,hlt,hg,secC,hb]
  skip
  refine X3 (hp _ (ak hlt)) ?_;simp only[zA,simprocAttr,X34]
  (refine hK _ ?_;clear hK K)
  refine Uz rfl (fun ht=> ?_) (fun hf=> ?_)
  ·refine Xn Xj [] ?_;simp only[zA,simprocAttr,e5];refine⟨(h+1,j),⟨by simp only;omega,h2,fun k hk hki=> ?_,h4⟩,by simp only;omega,?_⟩
   ·have:=au ht;simp only at hki;by_cases hkh:k=h
    ·subst hkh;exact this
    ·exact Int.lt_trans (hr h hlt k (by omega)) this
   ·refine La rfl ?_ ?_<;>simp only[sL]
  ·refine Xn Xj [] ?_;simp only[zA,simprocAttr];refine⟨(i,h),⟨by simp only;omega,by simp only;omega,h3,fun k hk hki=> ?_⟩,by simp only;omega,?_⟩
   ·have:=bh hf;simp only at hki;by_cases hkh:k=h
    ·subst hkh;omega
    ·have:=hr k hk h (by omega);omega
   ·refine La rfl ?_ ?_<;>simp only[sL]
 ·simp only[Qd,Z4,if_true];refine hKB _ ?_;clear hKB KB hKC KC;have hij:i=j:=by have:=bh hf;omega
  subst hij;have hL:Qz l b=i:=Ax h2 h3 h4;rw[hL];by_cases hlt:i<l.length
  ·have hg:=Xg secC l i [] hlt;have e0:l.getD i Xp2=l[i]:=by simp [ah,hlt]
   refine Vy fun K hK=> ?_;simp only[zA,simprocAttr,hlt,hg,secC,hb]
   skip
   refine X3 (hp _ (ak hlt)) ?_;rw[e0];simp only[zA,simprocAttr,X35]
   (refine hK _ ?_;clear hK K)
   repeat' (apply Vz;refine Vp rfl rfl rfl (fun _ _=>rfl) ?_ ?_<;>first|rfl|(show AV.val (.bool _)=AV.val (.bool _);congr 2;simp [hlt,ae hlt];rfl)|skip)
  ·refine Vy fun K hK=> ?_;simp only[zA,simprocAttr,hlt]
   (refine hK _ ?_;clear hK K)
   repeat' (apply Vz;refine Vp rfl rfl rfl (fun _ _=>rfl) ?_ ?_<;>first|rfl|(show AV.val (.bool _)=AV.val (.bool _);congr 2;simp [hlt])|skip)
theorem X36 (l:List Sec) (b:Int) (hl:l.length<=1000000000) (hr:Pk l):
  Xr Tryz.prog 238 [P9 l,i64 b] [] (.tup [i64 (Qz l b:Int),bool (decide (Qz l b<l.length∧(l.getD (Qz l b) Xp2).id=b))]) []:=by
 refine Xc 0 Tryz.func238 rfl fun n out _ _=> ?_;simp only[sn,Tryz.ntmps238,simprocAttr];repeat' (first|refine Vk fun K hK=> ?_|apply V0|((first|apply gE|apply gR);simp only[zA,simprocAttr])|(apply Vz;refine Vp rfl rfl rfl (fun _ _=>rfl) ?_ ?_<;>first|rfl|skip)|(refine X3 (H4 l b _ (hb0 _ (by decide) (by decide)) hl hr fun x _=>Y36 x b) ?_)|(refine hK _ ?_;clear hK K))
def Xwp (s:Sec):List Int:=if s.pt=0 then[0,3,0,3,0,0,0,0,0] else[0,1,2,1,0,0,2,0,0]
theorem Y2s (k:Nat) (cs:List AV) (i:Nat) (x:AV) (l:List (Nat×AV)):U4 (fun i=>some (i*k,k)) cs ((i,x)::l)=match x.parts with
  |some xs=>if xs.length=k∧i*k+k<=cs.length then U4 (fun i=>some (i*k,k)) (Yf cs (i*k) xs) l else none
  |none=>none:=by
 simp only[U4];cases x.parts<;>rfl
theorem Y2t (cs:List AV) (i:Nat) (x:AV) (l:List (Nat×AV)):U4 (fun i=>some (i,1)) cs ((i,x)::l)=match x.parts with
  |some xs=>if xs.length=1∧i+1<=cs.length then U4 (fun i=>some (i,1)) (Yf cs i xs) l else none
  |none=>none:=by
 simp only[U4];cases x.parts<;>rfl
theorem Y2u (x:AV):List.replicate 9 x=[x,x,x,x,x,x,x,x,x]:=rfl
theorem Xxq (s:Sec):Xr Tryz.prog 309 [Qh s] [] (.agg ((Xwp s).map i64)) []:=by
 refine Xc 2 Tryz.func309 rfl fun n out _ _=> ?_;simp only[sn,Tryz.ntmps309,simprocAttr];repeat' (first|refine Vk fun K hK=> ?_|apply V0|apply Vs|with_reducible apply aa|((first|apply gE|apply gR);simp only[zA,simprocAttr, -List.reduceReplicate,Qh,secC,Y2s,Y2t,Y2u])|exact Vn|(apply Vz;(first|refine Xu (.inr rfl) rfl rfl rfl (fun _ _=>rfl) ok388 (k:=n+1) (off:=0) rfl (Xb _ (by simp)) (X6 _ (Nat.le_refl _) 1) rfl ?_|refine Xu (.inr rfl) rfl rfl rfl (fun _ _=>rfl) ok388 (k:=m+1) (off:=0) rfl (Xb _ (by simp)) (X6 _ hm 1) rfl ?_)<;>first|rfl|exact AV.le.rfl _|(simp only[sL,ti388];done)|(unfold Xwp;first|(rw[if_pos (by simpa using hg)];exact .rfl _)|(rw[if_neg (by simpa using hg)];exact .rfl _))|skip)|(refine hK _ ?_;clear hK K)|refine Vt rfl ?_|refine Vf rfl ?_|refine Vi rfl (fun hg=> ?_) (fun hg=> ?_)|clear hK K)
def Xwq (s:Sec) (a:Nat):List Int:=if s.pt=0 then(if a=0 then[0,3,0] else if a=1 then[3,0,0] else[0,0,0]) else(if a=0 then[0,1,2] else if a=1 then[1,0,0] else[2,0,0])
theorem Xqa (s:Sec) {a:Nat} (ha:a<3):pick true 3 (List.drop (a*3) ((Xwp s).map i64))=some (.agg ((Xwq s a).map i64)):=by
 unfold Xwp Xwq;have:a=0∨a=1∨a=2:=by omega
 by_cases h:s.pt=0
 ·rw[if_pos h,if_pos h];rcases this with rfl|rfl|rfl<;>rfl
 ·rw[if_neg h,if_neg h];rcases this with rfl|rfl|rfl<;>rfl
theorem Xy4 (s:Sec) (a:Nat):(Xwq s a).length=3:=by unfold Xwq;repeat' split<;>try rfl
theorem Xpi (s:Sec) (a:Nat) {b:Nat} (hb:b<3):pick false 1 (List.drop b ((Xwq s a).map i64))=some (i64 ((Xwq s a).getD b 0)):=X0z 1 i64 _ b 0 (by rw[Xy4];exact hb)
theorem Xy5 (s:Sec) {a b:Nat} (ha:a<3) (hb:b<3):(((Xwq s a).getD b 0==0)=decide (Xuv s a b<0))∧(0<=Xuv s a b->((Xwq s a).getD b 0).tmod 3=Xuv s a b):=by
 have h1:a=0∨a=1∨a=2:=by omega
 have h2:b=0∨b=1∨b=2:=by omega
 unfold Xwq Xuv;by_cases h:s.pt=0
 ·rw[if_pos h,if_pos h];rcases h1 with rfl|rfl|rfl<;>rcases h2 with rfl|rfl|rfl<;>decide
 ·rw[if_neg h,if_neg h];rcases h1 with rfl|rfl|rfl<;>rcases h2 with rfl|rfl|rfl<;>decide
def Xoq (s:Sec) (a b:Int):Int:=if Qc s∧0<=Xuv s a b then Xuv s a b else 0
def Xpj (s:Sec) (a b:Int):Int:=if Qc s then(if Xuv s a b<0 then 2 else 0) else 8
theorem Xv1 (s:Sec) (a b:Int):Xr Tryz.prog 305 [Qh s,i64 a,i64 b] [] (.tup [i64 (Xoq s a b),i64 (Xpj s a b)]) []:=by
 cases hs:Qc s with
 |false=>
  have e1:Xoq s a b=0:=by simp [Xoq,hs]
  have e2:Xpj s a b=8:=by simp [Xpj,hs]
  rw[e1,e2];refine Xc 1 Tryz.func305 rfl fun n out _ _=> ?_;simp only[sn,Tryz.ntmps305,simprocAttr];have hg:=Nat.le_refl 0;repeat' (first|refine Vk fun K hK=> ?_|apply V0|apply Vs|with_reducible apply aa|((first|apply gE|apply gR|apply gS);simp only[zA,simprocAttr, -List.reduceReplicate,Qh,secC,hs])|exact Vn|(apply Vz;refine Vp rfl rfl rfl (fun _ _=>rfl) ?_ ?_<;>first|rfl|skip)|(refine X3 (Di s) ?_)|((refine Vg (fun hg=> ?_) (fun hg=> ?_))<;>try simp only[nb] at hg)|(refine hK _ ?_;clear hK K)|refine Vt rfl ?_|refine Vf rfl ?_|refine Vi rfl (fun hg=> ?_) (fun hg=> ?_)|clear hK K)
 |true=>
  have cs:=Di s;rw[hs] at cs;by_cases hr:0<=a∧a<=2∧0<=b∧b<=2
  ·obtain⟨na,rfl⟩:=br hr.1;obtain⟨nb,rfl⟩:=br hr.2.2.1;have ha:na<3:=by omega
   have hb:nb<3:=by omega
   have ha':((na:Int)<3):=by omega
   have hb':((nb:Int)<3):=by omega
   have ha1:decide ((na:Int)<0)=false:=aq (by omega);have ha2:decide ((na:Int)>2)=false:=aq (by omega);have hb1:decide ((nb:Int)<0)=false:=aq (by omega);have hb2:decide ((nb:Int)>2)=false:=aq (by omega);have hr3:=fun(k:IntKind) (x:Int)=>X5a k x (b:=3) (by decide);obtain⟨q1,q2⟩:=Xy5 s ha hb;by_cases hl:Xuv s na nb<0
   ·have e1:Xoq s na nb=0:=by simp [Xoq,hs];omega
    have e2:Xpj s na nb=2:=by simp [Xpj,hs,hl]
    rw[ay hl] at q1;rw[e1,e2];refine Xc 1 Tryz.func305 rfl fun n out _ _=> ?_;simp only[sn,Tryz.ntmps305,simprocAttr];have hg:=Nat.le_refl 0;repeat' (first|refine Vk fun K hK=> ?_|apply V0|apply Vs|with_reducible apply aa|((first|apply gE|apply gR|apply gS);simp only[zA,simprocAttr, -List.reduceReplicate,Qh,secC,ha',hb',ha1,ha2,hb1,hb2,Xqa s ha,Xpi s na hb,q1])|exact Vn|(apply Vz;refine Vp rfl rfl rfl (fun _ _=>rfl) ?_ ?_<;>first|rfl|skip)|(refine X3 (cs) ?_)|(refine X3 (Xxq s) ?_)|((refine Vg (fun hg=> ?_) (fun hg=> ?_))<;>try simp only[nb] at hg)|(refine hK _ ?_;clear hK K)|refine Vt rfl ?_|refine Vf rfl ?_|refine Vi rfl (fun hg=> ?_) (fun hg=> ?_)|clear hK K)
   ·have e1:Xoq s na nb=Xuv s na nb:=by simp [Xoq,hs];omega
    have e2:Xpj s na nb=0:=by simp [Xpj,hs,hl]
    rw[aq hl] at q1;have q3:=q2 (by omega);rw[e1,e2];refine Xc 1 Tryz.func305 rfl fun n out _ _=> ?_;simp only[sn,Tryz.ntmps305,simprocAttr];have hg:=Nat.le_refl 0;repeat' (first|refine Vk fun K hK=> ?_|apply V0|apply Vs|with_reducible apply aa|((first|apply gE|apply gR|apply gS);simp only[zA,simprocAttr, -List.reduceReplicate,Qh,secC,ha',hb',ha1,ha2,hb1,hb2,Xqa s ha,Xpi s na hb,q1,hr3,q3])|exact Vn|(apply Vz;refine Vp rfl rfl rfl (fun _ _=>rfl) ?_ ?_<;>first|rfl|skip)|(refine X3 (cs) ?_)|(refine X3 (Xxq s) ?_)|((refine Vg (fun hg=> ?_) (fun hg=> ?_))<;>try simp only[nb] at hg)|(refine hK _ ?_;clear hK K)|refine Vt rfl ?_|refine Vf rfl ?_|refine Vi rfl (fun hg=> ?_) (fun hg=> ?_)|clear hK K)
  ·have hl:Xuv s a b<0:=by
    unfold Xuv;by_cases h0:s.pt=0
    ·rw[if_pos h0,if_neg (by omega)];decide
    ·rw[if_neg h0,if_neg (by omega),if_neg (by omega)];decide
   have e1:Xoq s a b=0:=by simp [Xoq,hs];omega
   have e2:Xpj s a b=2:=by simp [Xpj,hs,hl]
   rw[e1,e2];refine Xc 1 Tryz.func305 rfl fun n out _ _=> ?_;simp only[sn,Tryz.ntmps305,simprocAttr];have hg:=Nat.le_refl 0;repeat' (first|refine Vk fun K hK=> ?_|apply V0|apply Vs|with_reducible apply aa|((first|apply gE|apply gR|apply gS);simp only[zA,simprocAttr, -List.reduceReplicate,hg,Qh,secC])|exact Vn|(apply Vz;refine Vp rfl rfl rfl (fun _ _=>rfl) ?_ ?_<;>first|rfl|skip)|(refine X3 (cs) ?_)|((refine Vg (fun hg=> ?_) (fun hg=> ?_))<;>try simp only[nb] at hg)|(refine hK _ ?_;clear hK K)|refine Vt rfl ?_|refine Vf rfl ?_|refine Vi rfl (fun hg=> ?_) (fun hg=> ?_)|clear hK K)
   all_goals (exfalso;simp at*;omega)
end Go.Proofs.YtgpdghbmiihfbaaGreat.Pln
