/-
 The value-semantics layer: regions that draw their order, with local resources and whole runs of outer ones (a run is named by 100 and its place in a list of ranges).
-/
import Derived.Test.YtjgbbjooeibppaaZVsDraw
namespace Go.VS
set_option linter.unusedVariables false
set_option linter.unusedSimpArgs false
open Go
def inR (p:Nat×Nat) (k:Nat):Bool:=decide (p.1≤k)&&decide (k<p.1+p.2)
theorem Xii {p:Nat×Nat} {k:Nat}:inR p k=true↔p.1≤k∧k<p.1+p.2:=by simp [inR]
def Xlt (n:Nat) (outs:List (Nat×Nat)) (x k:Nat):Prop:=(x<100∧k=n+x)∨(100≤x∧∃p,outs[x - 100]? =some p∧inR p k=true)
def Xnx (n:Nat) (outs:List (Nat×Nat)) (l:List (List Nat)):Nat→Nat→Prop:=fun i k=>∃x,x∈l.getD i []∧Xlt n outs x k
def Xj1 (n:Nat) (outs:List (Nat×Nat)):Prop:=(∀p,p∈outs→∀k,inR p k=true→k<n)∧∀(i j:Nat) (p q:Nat×Nat) (k:Nat),outs[i]? =some p→outs[j]? =some q→inR p k=true→inR q k=true→i=j
theorem Xkn {n:Nat} {outs:List (Nat×Nat)} (h:Xj1 n outs) {x y k:Nat} (hx:Xlt n outs x k) (hy:Xlt n outs y k):x=y:=by
 rcases hx with ⟨h1,h2⟩|⟨h1,p,h2,h3⟩<;>rcases hy with ⟨g1,g2⟩|⟨g1,q,g2,g3⟩
 ·omega
 ·have:=h.1 q (List.mem_of_getElem? g2) k g3;omega
 ·have:=h.1 p (List.mem_of_getElem? h2) k h3;omega
 ·have:=h.2 _ _ p q k h2 g2 h3 g3;omega
theorem Xmx {md:Region.Mode} {ops:Array Oper} {rd wr:List (List Nat)} (n:Nat) {outs:List (Nat×Nat)} (ha:Xj1 n outs) (h1:rd.length≤ops.size) (h2:wr.length≤ops.size) (h:X17 ops.size (X6f md ops) rd wr=true):
  X5b md ops (Xnx n outs rd) (Xnx n outs wr):=by
 rintro i j k hij d1 d2 ⟨x,hx,ox⟩
 have lt:∀{l:List (List Nat)} {i x:Nat},x∈l.getD i []→i<l.length:=by
  intro l i x hx
  rcases Nat.lt_or_ge i l.length with h|h
  ·exact h
  ·rw[List.getD_eq_getElem?_getD,List.getElem?_eq_none h] at hx;cases hx
 have hi:=Nat.lt_of_lt_of_le (lt hx) h2
 have key:∀y,j<ops.size→y∈wr.getD i []→(rd.getD j []).contains y=false∧(wr.getD j []).contains y=false:=by
  intro y hj hy
  have a:=List.all_eq_true.1 h i (List.mem_range.2 hi)
  simp only[Bool.or_eq_true] at a
  rcases a with a|a
  ·rw[List.isEmpty_iff] at a;rw[a] at hy;cases hy
  ·have b:=List.all_eq_true.1 a j (List.mem_range.2 hj)
   simp only[Bool.or_eq_true] at b
   rcases b with ((b|b)|b)|b
   ·exact(hij (by simpa using b)).elim
   ·exact(d1 (Sa (by simpa using b))).elim
   ·exact(d2 (Sa (by simpa using b))).elim
   ·have c:=List.all_eq_true.1 b y hy
    simpa [Bool.and_eq_true,Bool.not_eq_true'] using c
 constructor
 ·rintro⟨z,hz,oz⟩
  have:=(key x (Nat.lt_of_lt_of_le (lt hz) h1) hx).1
  have e':=Xkn ha ox oz
  subst e'
  rw[List.contains_iff_mem.2 hz] at this;cases this
 ·rintro⟨z,hz,oz⟩
  have:=(key x (Nat.lt_of_lt_of_le (lt hz) h2) hx).2
  have e':=Xkn ha ox oz
  subst e'
  rw[List.contains_iff_mem.2 hz] at this;cases this
def Xng (rd:List Nat) (outs:List (Nat×Nat)) (k:Nat):Bool:=rd.any fun x=>decide (100≤x)&&(match outs[x - 100]? with|some p=>inR p k|none=>false)
def Xlu (rd:List Nat) (outs:List (Nat×Nat)) (o:Nat→Option Res) (k:Nat):Option Res:=if Xng rd outs k then o k else some .dead
theorem Xko {rd:List Nat} {outs:List (Nat×Nat)} {k:Nat}:Xng rd outs k=true↔∃x,x∈rd∧100≤x∧∃p,outs[x - 100]? =some p∧inR p k=true:=by
 unfold Xng
 rw[List.any_eq_true]
 constructor
 ·rintro⟨x,hx,h⟩
  rw[Bool.and_eq_true,decide_eq_true_eq] at h
  refine⟨x,hx,h.1,?_⟩
  cases hp:outs[x - 100]? with
  |none=>rw[hp] at h;cases h.2
  |some p=>rw[hp] at h;exact⟨p,rfl,h.2⟩
 ·rintro⟨x,hx,h1,p,h2,h3⟩
  refine⟨x,hx,?_⟩
  rw[Bool.and_eq_true,decide_eq_true_eq,h2]
  exact⟨h1,h3⟩
theorem Xlg {rd:List Nat} {outs:List (Nat×Nat)} {o:Nat→Option Res} {k x:Nat} {p:Nat×Nat} (hx:x∈rd) (h1:100≤x) (h2:outs[x - 100]? =some p) (h3:p.1≤k∧k<p.1+p.2):Xlu rd outs o k=o k:=
 if_pos (Xko.2 ⟨x,hx,h1,p,h2,Xii.2 h3⟩)
def AState.seenR (σ:AState) (outs:List (Nat×Nat)) (rd:List Nat):AState:={σ with lo:=Wt (rd.filter fun x=>decide (x<100)) 0 σ.lo,out:=Xlu rd outs σ.out}
theorem Xlv {σ:AState} {outs:List (Nat×Nat)} {rd:List Nat} {k:Nat} {q:Option Res} (hle:σ.n0≤σ.n) (hd:σ.dom k) (h:(σ.seenR outs rd).look k=q) (hq:q≠some .dead):σ.look k=q∧∃x,x∈rd∧Xlt σ.n outs x k:=by
 have e:(σ.seenR outs rd).look k=if k<σ.n0 then Xlu rd outs σ.out k else((Wt (rd.filter fun x=>decide (x<100)) 0 σ.lo)[k - σ.n]?).join:=rfl
 rw[e] at h
 simp only[AState.look]
 by_cases hk:k<σ.n0
 ·rw[if_pos hk] at h⊢
  unfold Xlu at h
  split at h
  ·rename_i hs
   obtain⟨x,hx,h1,p,h2,h3⟩:=Xko.1 hs
   exact⟨h,x,hx,.inr ⟨h1,p,h2,h3⟩⟩
  ·exact(hq h.symm).elim
 ·rw[if_neg hk] at h
  rw[if_neg hk]
  rcases hd with hd|⟨hd1,hd2⟩
  ·exact(hk hd).elim
  ·rw[Nx] at h
   have hlt:k - σ.n<σ.lo.length:=by omega
   rw[List.getElem?_eq_getElem hlt] at h⊢
   simp only[Option.map_some,Option.join_some,Nat.zero_add] at h⊢
   split at h
   ·rename_i hc
    have hm:=List.contains_iff_mem.1 hc
    rw[List.mem_filter,decide_eq_true_eq] at hm
    exact⟨h,k - σ.n,hm.1,.inl ⟨hm.2,by omega⟩⟩
   ·exact(hq h.symm).elim
def Xj2 (outs:List (Nat×Nat)) (wr:List Nat) (R:AState→Prop) (σ:AState) (d:Option Tmp) (r:AV) (g:List (Nat×Res)):Prop:=(∀y,y∈g→∃x,x∈wr∧Xlt σ.n outs x y.1)∧R (σ.next d r g)
theorem Xlw (outs:List (Nat×Nat)) (wr:List Nat) (R:AState→Prop) (σ:AState) (d:Option Tmp) (r:AV):Xj2 outs wr R σ d r []=R (σ.next d r []):=by simp [Xj2]
theorem Xlx {outs:List (Nat×Nat)} {wr:List Nat} {R:AState→Prop} {fr:List AV} {lo:List (Option Res)} {out:Nat→Option Res} {n0 n:Nat} {df:List Deferred} {d:Option Tmp} {r:AV} {x:Nat} {q:Res} (h:(wr.contains x&&decide (x<100))=true):
  Xj2 outs wr R ⟨fr,lo,out,n0,n,df⟩ d r [(n+x,q)]=R (AState.next ⟨fr,lo,out,n0,n,df⟩ d r [(n+x,q)]):=by
 rw[Bool.and_eq_true,decide_eq_true_eq] at h
 refine propext ⟨fun h'=>h'.2,fun h'=>⟨fun y hy=> ?_,h'⟩⟩
 rw[List.mem_singleton] at hy
 subst hy
 exact⟨x,List.contains_iff_mem.1 h.1,.inl ⟨h.2,rfl⟩⟩
def Xit (P:Program) (T:TypeId→Option TI) (bx:List (Nat×Option Nat)) (outs:List (Nat×Nat)) (ops:Array Oper) (K:AState→Prop):List (List Nat)→List (List Nat)→List Oper→AState→Prop
 | _,_,[],σ=>K σ
 |rd,wr,o::l,σ=>match Zw ops σ o with
  |some true=>Uc P T bx (σ.seenR outs rd.head!) (Xj2 outs wr.head! (Xit P T bx outs ops K rd.tail wr.tail l) σ o.dst) o.dst o.op
  |some false=>Xit P T bx outs ops K rd.tail wr.tail l (σ.next o.dst (.tup []) [])
  |none=>False
theorem Xnu {P:Program} {T:TypeId→Option TI} {bx:List (Nat×Option Nat)} {outs:List (Nat×Nat)} {σ:AState} (rd wr:List (List Nat)) (ops:Array Oper) (K:AState→Prop):Xit P T bx outs ops K rd wr [] σ=K σ:=by cases rd<;>cases wr<;>rfl
theorem Xnh {P:Program} {T:TypeId→Option TI} {bx:List (Nat×Option Nat)} {outs:List (Nat×Nat)} {σ:AState} {d:Option Tmp} (a b:List Nat) (rd wr:List (List Nat)) (ops:Array Oper) (K:AState→Prop) (op:Op) (ty:TypeId) (pos:String) (aft:Array Edge) (l:List Oper):
  Xit P T bx outs ops K (a::rd) (b::wr) (⟨d,op,ty,pos,aft,none⟩::l) σ=Uc P T bx (σ.seenR outs a) (Xj2 outs b (Xit P T bx outs ops K rd wr l) σ d) d op:=rfl
theorem Xo0 {fr:List AV} {lo:List (Option Res)} {out:Nat→Option Res} {n0 n:Nat} {df:List Deferred} (outs:List (Nat×Nat)) (a:List Nat):AState.seenR ⟨fr,lo,out,n0,n,df⟩ outs a=⟨fr,Wt (a.filter fun x=>decide (x<100)) 0 lo,Xlu a outs out,n0,n,df⟩:=rfl
theorem Xij {P:Program} {T:TypeId→Option TI} (hT:Qw P T) {bx:List (Nat×Option Nat)} {outs:List (Nat×Nat)} {ops:Array Oper} {K:AState→Prop} {rd wr:List (List Nat)} {n:Nat}:∀(l:List Oper) (i:Nat) (σ:AState),σ.n=n→σ.n0≤σ.n→
  Xit P T bx outs ops K (rd.drop i) (wr.drop i) l σ→X0o P ops (Xnx n outs rd) (Xnx n outs wr) K i l σ
 |[],_,_,_,_,h=>by simp only[Xit] at h;exact h
 |o::l,i,σ,hn,hle,h=>by
  have hd:∀(x:List (List Nat)),(x.drop i).head! =x.getD i []:=fun x=>by
   rw[List.getD_eq_getElem?_getD,← List.head?_drop]
   cases x.drop i<;>rfl
  have ht:∀(x:List (List Nat)),(x.drop i).tail=x.drop (i+1):=fun x=>by simp
  unfold Xit at h
  rw[hd,hd,ht,ht] at h
  split at h
  ·rename_i hw
   obtain⟨needs,r,g,h1,h2,h3,h4,h5,h6⟩:=X45 hT (σ:=σ.seenR outs (rd.getD i [])) (by exact hle) h
   have hdom:∀k,(σ.seenR outs (rd.getD i [])).dom k→σ.dom k:=fun k hk=>by
    simpa [AState.dom,AState.seenR,We] using hk
   have hsee:∀x,x∈needs→σ.look x.1=x.2∧∃y,y∈rd.getD i []∧Xlt σ.n outs y x.1:=fun x hx=>
    Xlv hle (hdom _ (h4 x hx).1) (Q5.1 h2 x hx) (h4 x hx).2
   refine⟨r,g,.inl ⟨hw,needs,h1,Q5.2 fun x hx=>(hsee x hx).1,Yn.2 fun x hx=>hdom _ (Yn.1 h3 x hx),fun x hx=>hdom _ (h4 x hx).1,fun x hx=> ?_,fun x hx=> ?_⟩,Xij hT l (i+1) _ (by rw[N8];exact hn) (Xoj hle) h6⟩
   ·obtain⟨y,hy,e⟩:=(hsee x hx).2
    exact⟨y,hy,by rw[← hn];exact e⟩
   ·obtain⟨y,hy,e⟩:=h5 x hx
    exact⟨y,hy,by rw[← hn];exact e⟩
  ·rename_i hw
   exact⟨.tup [],[],.inr ⟨hw,rfl,rfl⟩,Xij hT l (i+1) _ (by rw[N8];exact hn) (Xoj hle) h⟩
  ·exact h.elim
theorem Xib {P:Program} {T:TypeId→Option TI} (hT:Qw P T) (bx:List (Nat×Option Nat)) (outs:List (Nat×Nat)) (rd wr:List (List Nat)) {Q:Exit→AState→Prop} {σ:AState} {id:Nat} {l:List Oper} (ha:Xj1 σ.n outs) (hm:P.follows .mixedOrders=true)
  (hB:Region.lexB .any l.toArray=true) (h1:rd.length≤l.toArray.size) (h2:wr.length≤l.toArray.size) (hD:X17 l.toArray.size (X6f .any l.toArray) rd wr=true)
  (h:Xit P T bx outs l.toArray (Q .normal) rd wr l σ):AWp P (.region id l.toArray true) Q σ:=fun ro n M a hI hs=>
 Ub hm hB (Xmx σ.n ha h1 h2 hD) (Xij hT l 0 σ rfl hs.le h) ro n M a hI hs
theorem Xkp {n K m:Nat} (h:∀j,j<m→K+j<n):Xj1 n [(K,m)]:=⟨fun p hp k hk=>by
 rw[List.mem_singleton] at hp
 subst hp
 rw[Xii] at hk
 dsimp only at hk
 have:=h (k - K) (by omega)
 omega,fun i j p q k hi hj _ _=>by
 have h1:=(List.getElem?_eq_some_iff.1 hi).1
 have h2:=(List.getElem?_eq_some_iff.1 hj).1
 simp at h1 h2;omega⟩
theorem Xmf {n K m m':Nat} (h:∀j,j<m+m'→K+j<n):Xj1 n [(K,m),(K+m,m')]:=⟨fun p hp k hk=>by
 rw[Xii] at hk
 have:=h (k - K)
 simp only[List.mem_cons,List.not_mem_nil,or_false] at hp
 rcases hp with rfl|rfl<;>dsimp only at hk<;>have:=this (by omega)<;>omega,fun i j p q k hi hj hp hq=>by
 rw[Xii] at hp hq
 match i,j,hi,hj with
 |0,0,_,_=>rfl
 |1,1,_,_=>rfl
 |0,1,hi,hj=>simp at hi hj;subst hi;subst hj;simp at hp hq;omega
 |1,0,hi,hj=>simp at hi hj;subst hi;subst hj;simp at hp hq;omega
 |i+2,_,hi,_=>simp at hi
 |0,j+2,_,hj=>simp at hj
 |1,j+2,_,hj=>simp at hj⟩
set_option linter.defProp false
def sf:=And.intro @Xnu<|And.intro @Xnh<|And.intro @Xo0<|And.intro @Xlw<|And.intro @Xlx<|And.intro @List.filter_cons.{0}<| @List.filter_nil.{0}
end Go.VS
