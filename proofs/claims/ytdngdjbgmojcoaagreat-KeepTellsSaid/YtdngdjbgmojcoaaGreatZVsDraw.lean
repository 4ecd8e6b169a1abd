/-
 The value-semantics layer: regions that draw their order, with local and outer resources (an outer one is named by 100 and its place in a list).
-/
import Derived.Test.YtdngdjbgmojcoaaGreatZVsBits
namespace Go.VS
set_option linter.all false
open Go
def Wc (n:Nat) (outs:List Nat) (x:Nat):Nat:=if x<100 then n+x else outs.getD (x - 100) 0
def okO (outs:List Nat) (x:Nat):Prop:=x<100∨x - 100<outs.length
def X7p (n:Nat) (outs:List Nat) (l:List (List Nat)):Nat->Nat->Prop:=fun i k=>∃x,x∈l.getD i []∧okO outs x∧k=Wc n outs x
theorem Tg {n:Nat} {outs:List Nat} (hnd:outs.Nodup) (hlt:∀k,k∈outs->k<n) {x y:Nat} (hx:okO outs x) (hy:okO outs y) (h:Wc n outs x=Wc n outs y):x=y:=by
 have out:∀z,okO outs z->¬z<100->∃hz:z - 100<outs.length,Wc n outs z=outs[z - 100]∧outs[z - 100]<n:=fun z hz h100=>by
  have hz':z - 100<outs.length:=hz.resolve_left h100;refine⟨hz',?_,hlt _ (a8 hz')⟩;unfold Wc;rw[if_neg h100];simp [af,hz']
 by_cases h1:x<100
 ·have ex:Wc n outs x=n+x:=by unfold Wc;rw[if_pos h1]
  by_cases h2:y<100
  ·have ey:Wc n outs y=n+y:=by unfold Wc;rw[if_pos h2]
   omega
  ·obtain⟨_,e,l⟩:=out y hy h2;omega
 ·obtain⟨hx',ex,lx⟩:=out x hx h1;by_cases h2:y<100
  ·have ey:Wc n outs y=n+y:=by unfold Wc;rw[if_pos h2]
   omega
  ·obtain⟨hy',ey,ly⟩:=out y hy h2;rw[ex,ey] at h;have:=(List.getElem_inj hnd).1 h;omega
theorem X11 {md:Region.Mode} {ops:Array Oper} {rd wr:List (List Nat)} (n:Nat) {outs:List Nat} (hnd:outs.Nodup) (hlt:∀k,k∈outs->k<n) (h1:rd.length<=ops.size) (h2:wr.length<=ops.size) (h:X17 ops.size (X6f md ops) rd wr=true):
  X5b md ops (X7p n outs rd) (X7p n outs wr):=by
 rintro i j k hij d1 d2 ⟨x,hx,ox,rfl⟩;have lt:∀{l:List (List Nat)} {i x:Nat},x∈l.getD i []->i<l.length:=by
  intro l i x hx;rcases Nat.lt_or_ge i l.length with h|h
  ·exact h
  ·rw[af,dn h] at hx;cases hx
 have hi:=Nat.lt_of_lt_of_le (lt hx) h2;have key:∀y,j<ops.size->y∈wr.getD i []->(rd.getD j []).contains y=false∧(wr.getD j []).contains y=false:=by
  intro y hj hy;have a:=az.1 h i (dq.2 hi);simp only[ck] at a;rcases a with a|a
  ·rw[List.isEmpty_iff] at a;rw[a] at hy;cases hy
  ·have b:=az.1 a j (dq.2 hj);simp only[ck] at b;rcases b with ((b|b)|b)|b
   ·exact(hij (by simpa using b)).elim
   ·exact(d1 (Sa (by simpa using b))).elim
   ·exact(d2 (Sa (by simpa using b))).elim
   ·have c:=az.1 b y hy;simpa [ad,c9] using c
 constructor
 ·rintro⟨z,hz,oz,e⟩;have:=(key x (Nat.lt_of_lt_of_le (lt hz) h1) hx).1;have e':=Tg hnd hlt ox oz e;subst e';rw[c8.2 hz] at this;cases this
 ·rintro⟨z,hz,oz,e⟩;have:=(key x (Nat.lt_of_lt_of_le (lt hz) h2) hx).2;have e':=Tg hnd hlt ox oz e;subst e';rw[c8.2 hz] at this;cases this
def Qe (rd:List Nat):Nat->List Nat->(Nat->Option Res)->Nat->Option Res
 | _,[],_,_=>some .dead
 |i,a::l,o,k=>if k=a then(if rd.contains (100+i) then o k else some .dead) else Qe rd (i+1) l o k
theorem Nr {rd:List Nat} {o:Nat->Option Res} {k:Nat} {q:Option Res} (hq:q≠some .dead):∀(l:List Nat) (i:Nat),Qe rd i l o k=q->o k=q∧∃j,∃h:j<l.length,l[j]=k∧rd.contains (100+(i+j))=true
 |[],_,h=>(hq h.symm).elim
 |a::l,i,h=>by
  unfold Qe at h;split at h
  ·rename_i e;split at h
   ·exact⟨h,0,by simp,by simp [e],by assumption⟩
   ·exact(hq h.symm).elim
  ·obtain⟨h1,j,h2,h3,h4⟩:=Nr hq l (i+1) h;exact⟨h1,j+1,by simp;omega,by simpa using h3,by rw[show i+(j+1)=i+1+j by omega];exact h4⟩
def AState.seenO (σ:AState) (outs:List Nat) (rd:List Nat):AState:={σ with lo:=Wt (rd.filter fun x=>decide (x<100)) 0 σ.lo,out:=Qe rd 0 outs σ.out}
theorem F8 {σ:AState} {outs rd:List Nat} {k:Nat} {q:Option Res} (hle:σ.n0<=σ.n) (hd:σ.dom k) (h:(σ.seenO outs rd).look k=q) (hq:q≠some .dead):σ.look k=q∧∃x,x∈rd∧okO outs x∧k=Wc σ.n outs x:=by
 have e:(σ.seenO outs rd).look k=if k<σ.n0 then Qe rd 0 outs σ.out k else((Wt (rd.filter fun x=>decide (x<100)) 0 σ.lo)[k - σ.n]?).join:=rfl
 rw[e] at h;simp only[AState.look];by_cases hk:k<σ.n0
 ·rw[if_pos hk] at h⊢;obtain⟨h1,j,h2,h3,h4⟩:=Nr hq outs 0 h;refine⟨h1,100+j,?_,.inr (by omega),?_⟩
  ·rw[Nat.zero_add] at h4;exact c8.1 h4
  ·unfold Wc;rw[if_neg (by omega),show 100+j - 100=j by omega];simp [af,h2,h3]
 ·rw[if_neg hk] at h;rw[if_neg hk];rcases hd with hd|⟨hd1,hd2⟩
  ·exact(hk hd).elim
  ·rw[Nx] at h;have hlt:k - σ.n<σ.lo.length:=by omega
   rw[ah hlt] at h⊢;simp only[Option.map_some,Option.join_some,Nat.zero_add] at h⊢;split at h
   ·rename_i hc;have hm:=c8.1 hc;rw[iv,ao] at hm;refine⟨h,k - σ.n,hm.1,.inl hm.2,?_⟩;unfold Wc;rw[if_pos hm.2];omega
   ·exact(hq h.symm).elim
def Th (outs wr:List Nat) (R:AState->Prop) (σ:AState) (d:Option Tmp) (r:AV) (g:List (Nat×Res)):Prop:=(∀y,y∈g->∃x,x∈wr∧okO outs x∧y.1=Wc σ.n outs x)∧R (σ.next d r g)
theorem Im (outs wr:List Nat) (R:AState->Prop) (σ:AState) (d:Option Tmp) (r:AV):Th outs wr R σ d r []=R (σ.next d r []):=by simp [Th]
theorem In {outs wr:List Nat} {R:AState->Prop} {fr:List AV} {lo:List (Option Res)} {out:Nat->Option Res} {n0 n:Nat} {df:List Deferred} {d:Option Tmp} {r:AV} {x:Nat} {q:Res} (h:(wr.contains x&&decide (x<100))=true):
  Th outs wr R ⟨fr,lo,out,n0,n,df⟩ d r [(n+x,q)]=R (AState.next ⟨fr,lo,out,n0,n,df⟩ d r [(n+x,q)]):=by
 rw[ad,ao] at h;refine propext ⟨fun h'=>h'.2,fun h'=>⟨fun y hy=> ?_,h'⟩⟩;rw[ez] at hy;subst hy;exact⟨x,c8.1 h.1,.inl h.2,by unfold Wc;rw[if_pos h.2]⟩
theorem X3z {a:Nat} {l wr:List Nat} {R:AState->Prop} {σ:AState} {d:Option Tmp} {r:AV} {q:Res} (h:wr.contains 100=true):
  Th (a::l) wr R σ d r [(a,q)]=R (σ.next d r [(a,q)]):=by
 refine propext ⟨fun h'=>h'.2,fun h'=>⟨fun y hy=> ?_,h'⟩⟩;rw[ez] at hy;subst hy;exact⟨100,c8.1 h,.inr (by simp),rfl⟩
theorem X40 {a b:Nat} {l wr:List Nat} {R:AState->Prop} {σ:AState} {d:Option Tmp} {r:AV} {q:Res} (h:wr.contains 101=true):
  Th (a::b::l) wr R σ d r [(b,q)]=R (σ.next d r [(b,q)]):=by
 refine propext ⟨fun h'=>h'.2,fun h'=>⟨fun y hy=> ?_,h'⟩⟩;rw[ez] at hy;subst hy;exact⟨101,c8.1 h,.inr (by simp),rfl⟩
def L7 (P:Program) (T:TypeId->Option TI) (bx:List (Nat×Option Nat)) (outs:List Nat) (ops:Array Oper) (K:AState->Prop):List (List Nat)->List (List Nat)->List Oper->AState->Prop
 | _,_,[],σ=>K σ
 |rd,wr,o::l,σ=>match Zw ops σ o with
  |some true=>Uc P T bx (σ.seenO outs rd.head!) (Th outs wr.head! (L7 P T bx outs ops K rd.tail wr.tail l) σ o.dst) o.dst o.op
  |some false=>L7 P T bx outs ops K rd.tail wr.tail l (σ.next o.dst (.tup []) [])
  |none=>False
theorem X6a {P:Program} {T:TypeId->Option TI} {bx:List (Nat×Option Nat)} {outs:List Nat} {σ:AState} (rd wr:List (List Nat)) (ops:Array Oper) (K:AState->Prop):L7 P T bx outs ops K rd wr [] σ=K σ:=by cases rd<;>cases wr<;>rfl
theorem X41 {P:Program} {T:TypeId->Option TI} {bx:List (Nat×Option Nat)} {outs:List Nat} {σ:AState} {d:Option Tmp} (a b:List Nat) (rd wr:List (List Nat)) (ops:Array Oper) (K:AState->Prop) (op:Op) (ty:TypeId) (pos:String) (aft:Array Edge) (l:List Oper):
  L7 P T bx outs ops K (a::rd) (b::wr) (⟨d,op,ty,pos,aft,none⟩::l) σ=Uc P T bx (σ.seenO outs a) (Th outs b (L7 P T bx outs ops K rd wr l) σ d) d op:=rfl
theorem X87 {fr:List AV} {lo:List (Option Res)} {out:Nat->Option Res} {n0 n:Nat} {df:List Deferred} (outs a:List Nat):AState.seenO ⟨fr,lo,out,n0,n,df⟩ outs a=⟨fr,Wt (a.filter fun x=>decide (x<100)) 0 lo,Qe a 0 outs out,n0,n,df⟩:=rfl
theorem X6b (rd:List Nat) (i:Nat) (o:Nat->Option Res) (k:Nat):Qe rd i [] o k=some .dead:=rfl
theorem X42 (rd:List Nat) (i a:Nat) (l:List Nat) (o:Nat->Option Res) (k:Nat):Qe rd i (a::l) o k=if k=a then(if rd.contains (100+i) then o k else some .dead) else Qe rd (i+1) l o k:=rfl
theorem K9 {P:Program} {T:TypeId->Option TI} (hT:Qw P T) {bx:List (Nat×Option Nat)} {outs:List Nat} {ops:Array Oper} {K:AState->Prop} {rd wr:List (List Nat)} {n:Nat}:∀(l:List Oper) (i:Nat) (σ:AState),σ.n=n->σ.n0<=σ.n→
  L7 P T bx outs ops K (rd.drop i) (wr.drop i) l σ->X0o P ops (X7p n outs rd) (X7p n outs wr) K i l σ
 |[],_,_,_,_,h=>by simp only[L7] at h;exact h
 |o::l,i,σ,hn,hle,h=>by
  have hd:∀(x:List (List Nat)),(x.drop i).head! =x.getD i []:=fun x=>by
   rw[af,<- ie];cases x.drop i<;>rfl
  have ht:∀(x:List (List Nat)),(x.drop i).tail=x.drop (i+1):=fun x=>by simp
  unfold L7 at h;rw[hd,hd,ht,ht] at h;split at h
  ·rename_i hw;obtain⟨needs,r,g,h1,h2,h3,h4,h5,h6⟩:=X45 hT (σ:=σ.seenO outs (rd.getD i [])) (by exact hle) h;have hdom:∀k,(σ.seenO outs (rd.getD i [])).dom k->σ.dom k:=fun k hk=>by
    simpa [AState.dom,AState.seenO,We] using hk
   have hsee:∀x,x∈needs->σ.look x.1=x.2∧∃y,y∈rd.getD i []∧okO outs y∧x.1=Wc σ.n outs y:=fun x hx=>
    F8 hle (hdom _ (h4 x hx).1) (Q5.1 h2 x hx) (h4 x hx).2
   refine⟨r,g,.inl ⟨hw,needs,h1,Q5.2 fun x hx=>(hsee x hx).1,Yn.2 fun x hx=>hdom _ (Yn.1 h3 x hx),fun x hx=>hdom _ (h4 x hx).1,fun x hx=> ?_,fun x hx=> ?_⟩,K9 hT l (i+1) _ (by rw[N8];exact hn) (Xoj hle) h6⟩
   ·obtain⟨y,hy,oy,e⟩:=(hsee x hx).2;exact⟨y,hy,oy,by rw[e,hn]⟩
   ·obtain⟨y,hy,oy,e⟩:=h5 x hx;exact⟨y,hy,oy,by rw[e,hn]⟩
  ·rename_i hw;exact⟨.tup [],[],.inr ⟨hw,rfl,rfl⟩,K9 hT l (i+1) _ (by rw[N8];exact hn) (Xoj hle) h⟩
  ·exact h.elim
theorem Xik {P:Program} {T:TypeId->Option TI} (hT:Qw P T) (bx:List (Nat×Option Nat)) (outs:List Nat) (rd wr:List (List Nat)) {Q:Exit->AState->Prop} {σ:AState} {id:Nat} {l:List Oper} (hnd:outs.Nodup) (hlt:∀k,k∈outs->k<σ.n0) (hm:P.follows .mixedOrders=true)
  (hB:Region.lexB .any l.toArray=true) (h1:rd.length<=l.toArray.size) (h2:wr.length<=l.toArray.size) (hD:X17 l.toArray.size (X6f .any l.toArray) rd wr=true)
  (h:L7 P T bx outs l.toArray (Q .normal) rd wr l σ):AWp P (.region id l.toArray true) Q σ:=fun ro n M a hI hs=>
 Ub hm hB (X11 σ.n hnd (fun k hk=>Nat.lt_of_lt_of_le (hlt k hk) hs.le) h1 h2 hD) (K9 hT l 0 σ rfl hs.le h) ro n M a hI hs
set_option linter.all false
def so:=ab @X6a<|ab @X41<|ab @X87<|ab @X6b<|ab @X42<|ab @Im<|ab @In<|ab @X3z<|ab @X40<|ab @List.filter_cons.{0}<| @List.filter_nil.{0}
end Go.VS
