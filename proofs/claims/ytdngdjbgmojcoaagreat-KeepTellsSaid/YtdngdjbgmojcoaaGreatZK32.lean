/- The layer of abstract values, joined. -/
import Derived.Test.YtdngdjbgmojcoaaGreatZQL
import Derived.Test.YtdngdjbgmojcoaaGreatZKF
import Derived.Test.YtdngdjbgmojcoaaGreatZPR
import Derived.Test.YtdngdjbgmojcoaaGreatZKH
import Derived.Test.YtdngdjbgmojcoaaGreatZKA
import Derived.Test.YtdngdjbgmojcoaaGreatZPP
namespace Go.Proofs.YtdngdjbgmojcoaaGreat.Pln
set_option linter.all false
set_option maxHeartbeats 1000000
open Go Go.VS
theorem Yei:∀(l:List UInt8) (i acc:Nat) (pre:List UInt8) {n k:Nat},Gd l i acc pre=some (n,k)->pre++l.take (k - i)=Ur 5 n
 |[],_,_,_,_,_,h=>by cases h
 |c::l,i,acc,pre,n,k,h=>by
  unfold Gd at h;by_cases h5:i=5
  ·rw[if_pos h5] at h;cases h
  rw[if_neg h5] at h;by_cases hc:128<=c.toNat
  ·rw[if_pos hc] at h;have h1:=Yei l (i+1) _ _ h;have h2:=D8 l _ _ _ h;rw[<- h1,show k - i=(k - (i+1))+1 by omega,List.take_succ_cons,aq];rfl
  ·rw[if_neg hc] at h;by_cases hb:2147483647<acc+c.toNat % 128*128 ^ i∨Ur 5 (acc+c.toNat % 128*128 ^ i)≠pre++[c]
   ·rw[if_pos hb] at h;cases h
   ·rw[if_neg hb] at h;cases h;rw[show i+1 - i=1 by omega,List.take_succ_cons,List.take_zero];rcases Classical.em (Ur 5 (acc+c.toNat % 128*128 ^ i)=pre++[c]) with h'|h'
    ·exact h'.symm
    ·exact absurd (.inr h') hb
theorem Yeb {l:List UInt8} {n k:Nat} (h:rgN l=some (n,k)):l=Y3m (n:Int)++l.drop k∧k<=l.length∧n<=2147483647:=by
 have h1:=Yei l 0 0 [] h;have h2:=D8 l 0 0 [] h;rw[Nat.sub_zero,List.nil_append] at h1;refine⟨?_,by omega,h2.2.2⟩;rw[show Y3m (n:Int)=Ur 5 n from if_pos ⟨by omega,by omega⟩,<- h1,dr]
def ruW (b:List UInt8) (at':Nat):Option (List UInt8×Nat):=match rgN (b.drop at') with
 |none=>none
 |some r=>if 65536<r.1∨b.length<at'+r.2+r.1 then none else some ((b.drop (at'+r.2)).take r.1,at'+r.2+r.1)
theorem Yf0 {t:List UInt8} (ht:t.length<=65536) (x y:List UInt8):ruW (x++(Xoh t++y)) x.length=some (t,x.length+(Xoh t).length):=by
 unfold ruW Xoh;have e:List.drop x.length (x++(Y3m t.length++t++y))=Y3m t.length++(t++y):=by rw[aq];exact fw rfl
 rw[e,X2o ⟨by omega,by omega⟩];dsimp only;rw[Int.toNat_natCast,if_neg (by simp only[ac];omega)];have e2:List.drop (x.length+(Y3m (t.length:Int)).length) (x++(Y3m t.length++t++y))=t++y:=by
  rw[<- f7,e];exact fw rfl
 rw[e2,List.take_left' rfl,ac,Nat.add_assoc]
theorem Ydy {b:List UInt8} {at' a:Nat} {t:List UInt8} (h:ruW b at'=some (t,a)) (hat:at'<=b.length):b.drop at'=Xoh t++b.drop a∧a<=b.length∧t.length<=65536:=by
 unfold ruW at h;cases hr:rgN (b.drop at') with
 |none=>rw[hr] at h;cases h
 |some r=>
  obtain⟨n,k⟩:=r;rw[hr] at h;dsimp only at h;obtain⟨h1,h2,h3⟩:=Yeb hr;rw[bt] at h2;by_cases hb:65536<n∨b.length<at'+k+n
  ·rw[if_pos hb] at h;cases h
  ·rw[if_neg hb] at h;injection h with h
   injection h with e1 e2
   have hl:t.length=n:=by rw[<- e1,ba,bt];omega
   refine⟨?_,by omega,by omega⟩;rw[h1,f7,Xoh,hl,aq,<- e1,<- e2]
   congr 1
   rw[<- f7 (i:=n),dr]
def nmS (b:List UInt8) (a0:Nat):Nat->Option (Nat×List Int)
 |0=>some (a0,[])
 |i+1=>match nmS b a0 i with
  |none=>none
  |some r=>match rgN (b.drop r.1) with
   |none=>none
   |some q=>some (r.1+q.2,r.2++[(q.1:Int)])
theorem Yf1 (x y:List UInt8) (l:List Int) (h:∀n,n∈l->nOk n):∀k,k<=l.length->nmS (x++(l.flatMap Y3m++y)) x.length k=some (x.length+((l.take k).flatMap Y3m).length,l.take k)
 |0,_=>by rw[nmS,List.take_zero];rfl
 |k+1,hk=>by
  have hlt:k<l.length:=hk;rw[nmS,Yf1 x y l h k (by omega)];dsimp only;have hn:nOk l[k]:=h _ (a8 hlt);have e:x++(l.flatMap Y3m++y)=(x++(l.take k).flatMap Y3m)++(Y3m l[k]++((l.drop (k+1)).flatMap Y3m++y)):=by
   conv=>lhs;rw[<- dr k l,cd hlt,b0,bw]
   simp only[aq]
  have hd:(x++(l.flatMap Y3m++y)).drop (x.length+((l.take k).flatMap Y3m).length)=Y3m l[k]++((l.drop (k+1)).flatMap Y3m++y):=by
   rw[e];exact fw (ac ..)
  rw[hd,X2o hn,aj hlt,b0,z1,ac];dsimp only;rw[ib hn.1,Nat.add_assoc]
theorem Ydz {b:List UInt8} {a0:Nat} (h0:a0<=b.length):∀{k e:Nat} {l:List Int},nmS b a0 k=some (e,l)->l.length=k∧e<=b.length∧b.drop a0=l.flatMap Y3m++b.drop e∧∀x,x∈l->nOk x
 |0,e,l,h=>by
  cases h;exact⟨rfl,h0,rfl,fun x hx=>by cases hx⟩
 |k+1,e,l,h=>by
  unfold nmS at h;cases hs:nmS b a0 k with
  |none=>rw[hs] at h;cases h
  |some r=>
   obtain⟨e',l'⟩:=r;rw[hs] at h;dsimp only at h;obtain⟨i1,i2,i3,i4⟩:=Ydz h0 hs;cases hg:rgN (b.drop e') with
   |none=>rw[hg] at h;cases h
   |some q=>
    obtain⟨n,j⟩:=q;rw[hg] at h;cases h;obtain⟨g1,g2,g3⟩:=Yeb hg;rw[bt] at g2;refine⟨by rw[ac,i1];rfl,by omega,?_,fun x hx=> ?_⟩
    ·rw[i3,b0,z1,aq,g1,f7]
    ·rcases dh.1 hx with hx|hx
     ·exact i4 x hx
     ·rw[ez.1 hx];exact⟨by omega,by omega⟩
def Wr (u:List UInt8):Option Pl:=if u=[] then some Aq else if Ei u then some (rqP u) else none
def lkZ (l:List Int) (m i:Nat) (r:Rt):Int×UInt8×Int×Int:=(r.id,UInt8.ofNat (min (l.getD (1+m+2*i) 0) 9).toNat,l.getD (2+m+2*i) 0,if l.getD (1+m+2*i) 0=3∨l.getD (1+m+2*i) 0=4 then r.timer else 0)
def swZ (l:List Int) (i:Nat) (x:Int×Int):Int×Int×Int:=(x.1,0,l.getD (1+i) 0)
def mkH (p q:Pl) (l:List Int):Hs:=⟨[],p,q,l.getD 0 0,⟨p.secs.map atT,p.pts.mapIdx (swZ l),p.rts.mapIdx (lkZ l p.pts.length)⟩,[],Aq,false⟩
def rqH (b:List UInt8):Option Hs:=match ruW b 0 with
 |none=>none
 |some t=>if Ei t.1=false then none else match ruW b t.2 with
  |none=>none
  |some u=>match Wr u.1 with
   |none=>none
   |some q=>match nmS b u.2 (1+(rqP t.1).pts.length+2*(rqP t.1).rts.length) with
    |none=>none
    |some e=>if e.1=b.length then some (mkH (rqP t.1) q e.2) else none
def Ye6 (b:List UInt8):Bool:=match rqH b with
 |none=>false
 |some h=>Xo9 h
def Ygh (b:List UInt8):Hs:=match rqH b with
 |none=>Xtd
 |some h=>if Xo9 h then h else Xtd
theorem Ygc {p:Pl} (h:Uf p=true):Ei (Wg p)=true∧rqP (Wg p)=p:=by
 have h1:=Eh h [];rw[a9] at h1;have h2:Z6 (Wg p)=true:=by rw[h1];rfl
 obtain⟨h3,h4⟩:=X2p (Wg p);exact⟨h3.trans h2,(h4 h2).trans (Xu7 h)⟩
theorem Yej {t:List UInt8} (h:Ei t=true):Uf (rqP t)=true∧Wg (rqP t)=t:=by
 obtain⟨h3,h4⟩:=X2p t;have h2:=h3.symm.trans h;rw[h4 h2];exact Kg h2
theorem Yec {p:Pl} (h:Uf p=true):Wg p≠[]:=fun h0=>by
 have h3:=Xvi (Us h).ver;unfold Wg at h0;have:=congrArg List.length h0;simp only[ac,List.length_nil] at this;omega
theorem Yft {p:Pl} (h:Uf p=true):Xp3 p=false:=by
 cases hn:Xp3 p with
 |false=>rfl
 |true=>
  have:=Xqe.1 hn;rw[this] at h;exact absurd h (by decide)
theorem Ygd:∀(s:List (Int×UInt8×Int×Int)) (i:Nat) (x:Int×UInt8×Int×Int),s[i]? =some x->(lkN s)[2*i]? =some (x.2.1.toNat:Int)∧(lkN s)[2*i+1]? =some x.2.2.1
 |[],i,x,h=>by simp at h
 |y::s,0,x,h=>by
  simp only[List.getElem?_cons_zero,bb] at h;subst h;exact⟨rfl,rfl⟩
 |y::s,i+1,x,h=>by
  have e:lkN (y::s)=(y.2.1.toNat:Int)::y.2.2.1::lkN s:=rfl;have:=Ygd s i x (by simpa using h);rw[e,show 2*(i+1)=2*i+1+1 by omega,show 2*i+1+1+1=(2*i+1)+1+1 by omega];simpa using this
theorem Ye7 (h:Hs):(Xrf h).getD 0 0=h.high:=rfl
theorem Yf2 {h:Hs} {i:Nat} {x:Int×Int×Int} (hx:h.st.sw[i]? =some x):(Xrf h).getD (1+i) 0=x.2.2:=by
 unfold Xrf;have hi:=(ae.1 hx).1;rw[Nat.add_comm,af,List.getElem?_cons_succ,ay (by simp [swN];exact hi),swN,b9,hx];rfl
theorem Yf3 {h:Hs} {i:Nat} {x:Int×UInt8×Int×Int} (hx:h.st.lk[i]? =some x):(Xrf h).getD (1+h.st.sw.length+2*i) 0=(x.2.1.toNat:Int)∧(Xrf h).getD (2+h.st.sw.length+2*i) 0=x.2.2.1:=by
 unfold Xrf;obtain⟨h1,h2⟩:=Ygd _ _ _ hx;have e:(swN h.st.sw).length=h.st.sw.length:=by simp [swN]
 constructor
 ·rw[show 1+h.st.sw.length+2*i=h.st.sw.length+2*i+1 by omega,af,List.getElem?_cons_succ,au (by omega),e,Nat.add_sub_cancel_left,h1];rfl
 ·rw[show 2+h.st.sw.length+2*i=h.st.sw.length+(2*i+1)+1 by omega,af,List.getElem?_cons_succ,au (by omega),e,Nat.add_sub_cancel_left,h2];rfl
theorem Yfu (p:UInt8) (h:p.toNat<=4):UInt8.ofNat (min (p.toNat:Int) 9).toNat=p:=by
 rw[show min (p.toNat:Int) 9=(p.toNat:Int) by omega,Int.toNat_natCast,UInt8.ofNat_toNat]
theorem Ygi {h:Hs} (hc:Xo9 h=true):mkH h.plan h.back (Xrf h)=Xrr h:=by
 obtain⟨c1,c2,c3,c4⟩:=Xor.1 hc;obtain⟨s1,s2,s3,s4,_⟩:=Xp8 c4;have hm:=(Xoa s1).1;have l3:=Xov s3;have l4:=Xov s4;unfold mkH Xrr;rw[Ye7];have e1:h.plan.secs.map atT=(Xjm h.plan h.st).tr:=(Xqj s2).symm;have e2:h.plan.pts.mapIdx (swZ (Xrf h))=(Xjm h.plan h.st).sw:=by
  show _=h.st.sw.map Xpo
  apply ia
  ·simp [l3]
  ·intro i g1 g2;have g3:i<h.st.sw.length:=by simpa using g2
   have g4:i<h.plan.pts.length:=by omega
   have g5:=Xv9 s3 g3 g4;rw[List.getElem_mapIdx,da,swZ,Yf2 (ah g3)];unfold Xuw at g5;simp only[ad,bq] at g5;unfold Xpo;rw[g5.1]
 have e3:h.plan.rts.mapIdx (lkZ (Xrf h) h.plan.pts.length)=(Xjm h.plan h.st).lk:=by
  rw[Xs4 _ _ l4];apply ia
  ·simp [l4]
  ·intro i g1 g2;have g4:i<h.plan.rts.length:=by simpa using g1
   have g3:i<h.st.lk.length:=by omega
   have g5:=Xv9 s4 g3 g4;obtain⟨p1,p2⟩:=Xte hm (a8 g4);obtain⟨f1,f2,f3,f4⟩:=Xqi g5 (by omega) p1;obtain⟨n1,n2⟩:=Yf3 (h:=h) (ah g3);rw[l3] at n1 n2;rw[List.getElem_mapIdx,List.getElem_zipWith,<- f1,lkZ,n1,n2,Yfu _ f4,Xpl];have m:min ((h.st.lk[i]).2.1.toNat:Int) 255=((h.st.lk[i]).2.1.toNat:Int):=by omega
   rw[m,Int.toNat_natCast,UInt8.ofNat_toNat]
 rw[e1,e2,e3]
theorem Yek:∀(s:List (Int×UInt8×Int×Int)),(lkN s).length=2*s.length
 |[]=>rfl
 |l::s=>by
  have e:lkN (l::s)=(l.2.1.toNat:Int)::l.2.2.1::lkN s:=rfl;rw[e,List.length_cons,List.length_cons,Yek s,List.length_cons];omega
theorem Yed {h:Hs} (hc:Xo9 h=true):(∀n,n∈Xrf h->nOk n)∧(Xrf h).length=1+h.plan.pts.length+2*h.plan.rts.length:=by
 obtain⟨c1,c2,c3,c4⟩:=Xor.1 hc;obtain⟨s1,s2,s3,s4,_⟩:=Xp8 c4;have hm:=(Xoa s1).1;have hv:=(Us hm).ver;have l3:=Xov s3;have l4:=Xov s4;have hv1:=hv.1;refine⟨fun n hn=> ?_,?_⟩
 ·unfold Xrf at hn;rcases cn.1 hn with rfl|hn
  ·exact⟨by omega,by omega⟩
  ·rcases dh.1 hn with hn|hn
   ·obtain⟨x,hx,rfl⟩:=eu.1 hn;obtain⟨i,hi,rfl⟩:=am hx;have g5:=Xv9 s3 hi (by omega);unfold Xuw Xyh at g5;simp only[ad,bq,ao] at g5;exact⟨g5.2.2.1,by omega⟩
   ·obtain⟨x,hx,hn⟩:=io.1 hn;obtain⟨i,hi,rfl⟩:=am hx;have g4:i<h.plan.rts.length:=by omega
    have g5:=Xv9 s4 hi g4;obtain⟨p1,p2⟩:=Xte hm (a8 g4);obtain⟨f1,f2,f3,f4⟩:=Xqi g5 (by omega) p1;simp only[cn,dd,or_false] at hn;rcases hn with rfl|rfl
    ·exact f2
    ·exact f3.ok
 ·unfold Xrf;rw[List.length_cons,ac,Yek];simp only[swN,ai];omega
theorem Yel {h:Hs} (hc:Xo9 h=true):Wr (Xpf h)=some h.back∧(Xpf h).length<=65536:=by
 obtain⟨c1,c2,c3,c4⟩:=Xor.1 hc;unfold Xpf Wr;cases hn:Xp3 h.back with
 |true=>exact⟨by rw[if_pos rfl,if_pos rfl,Xqe.1 hn],by simp⟩
 |false=>
  rcases c2 with c2|c2
  ·rw[hn] at c2;cases c2
  ·have hm:=(Xoa c2.1).1;obtain⟨r1,r2⟩:=Ygc hm;have:=R7 hm;simp only[bl,if_false];rw[if_neg (Yec hm),r1,if_pos rfl,r2];exact⟨rfl,by omega⟩
theorem Ygj {h:Hs} (hc:Xo9 h=true):rqH (Xp7 h)=some (Xrr h):=by
 obtain⟨c1,c2,c3,c4⟩:=Xor.1 hc;obtain⟨s1,s2,s3,s4,_⟩:=Xp8 c4;have hm:=(Xoa s1).1;have ht:=R7 hm;obtain⟨r1,r2⟩:=Ygc hm;obtain⟨b1,b2⟩:=Yel hc;obtain⟨n1,n2⟩:=Yed hc;have w1:=Yf0 (t:=Wg h.plan) (by omega) [] (Xoh (Xpf h)++(Xrf h).flatMap Y3m);have w2:=Yf0 b2 (Xoh (Wg h.plan)) ((Xrf h).flatMap Y3m);have w3:=Yf1 (Xoh (Wg h.plan)++Xoh (Xpf h)) [] (Xrf h) n1 (Xrf h).length (Nat.le_refl _);rw[List.nil_append,List.length_nil,Nat.zero_add] at w1;rw[a9,aq,bi,n2,ac] at w3;unfold rqH;rw[show ruW (Xp7 h) 0= _ from w1];dsimp only;rw[r1,if_neg (by decide),show ruW (Xp7 h) _= _ from w2];dsimp only;rw[b1];dsimp only;rw[r2,show nmS (Xp7 h) _ _= _ from w3];dsimp only;rw[if_pos (by unfold Xp7;simp only[ac];omega),Ygi hc]
theorem Ygk {b:List UInt8} {h:Hs} (hr:rqH b=some h) (hc:Xo9 h=true):Xp7 h=b:=by
 unfold rqH at hr;cases h1:ruW b 0 with
 |none=>rw[h1] at hr;cases hr
 |some t=>
  obtain⟨t,a1⟩:=t;rw[h1] at hr;dsimp only at hr;obtain⟨i1,i2,i3⟩:=Ydy h1 (br _);cases h2:Ei t with
  |false=>rw[h2,if_pos rfl] at hr;cases hr
  |true=>
   rw[h2,if_neg (by decide)] at hr;cases h3:ruW b a1 with
   |none=>rw[h3] at hr;cases hr
   |some u=>
    obtain⟨u,a2⟩:=u;rw[h3] at hr;dsimp only at hr;obtain⟨j1,j2,j3⟩:=Ydy h3 i2;cases h4:Wr u with
    |none=>rw[h4] at hr;cases hr
    |some q=>
     rw[h4] at hr;dsimp only at hr;cases h5:nmS b a2 (1+(rqP t).pts.length+2*(rqP t).rts.length) with
     |none=>rw[h5] at hr;cases hr
     |some e=>
      obtain⟨e,l⟩:=e;rw[h5] at hr;dsimp only at hr;obtain⟨k1,k2,k3,k4⟩:=Ydz j2 h5;by_cases h6:e=b.length
      ·rw[if_pos h6] at hr;injection hr with hr
       obtain⟨m1,m2⟩:=Yej h2;have eb:b=Xoh t++(Xoh u++l.flatMap Y3m):=by
        rw[iz] at i1;rw[h6,f8,a9] at k3;rw[i1,j1,k3]
       have ep:h.plan=rqP t:=by rw[<- hr];rfl
       have eq:h.back=q:=by rw[<- hr];rfl
       have et:Xpf h=u:=by
        unfold Xpf;rw[eq];unfold Wr at h4;by_cases hu:u=[]
        ·rw[if_pos hu] at h4;injection h4 with h4
         rw[<- h4,hu,show Xp3 Aq=true from Pq _];rfl
        ·rw[if_neg hu] at h4;cases hq:Ei u with
         |false=>rw[hq,if_neg (by decide)] at h4;cases h4
         |true=>
          rw[hq,if_pos rfl] at h4;injection h4 with h4
          obtain⟨q1,q2⟩:=Yej hq;rw[<- h4,Yft q1,if_neg (by decide),q2]
       have en:Xrf h=l:=by
        obtain⟨c1,c2,c3,c4⟩:=Xor.1 hc;obtain⟨s1,s2,s3,s4,_⟩:=Xp8 c4;have hm:=(Xoa s1).1;have l4:=Xov s4;have hnl:=(Yed hc).2;rw[ep] at hnl;apply gz;intro j;have est:h.st.sw=(rqP t).pts.mapIdx (swZ l):=by rw[<- hr];rfl
        have elk:h.st.lk=(rqP t).rts.mapIdx (lkZ l (rqP t).pts.length):=by rw[<- hr];rfl
        have ehi:h.high=l.getD 0 0:=by rw[<- hr];rfl
        by_cases hj:j<l.length
        ·have hj2:j<(Xrf h).length:=by omega
         rw[ah hj,ah hj2]
         congr 1
         have g1:(Xrf h).getD j 0=(Xrf h)[j]:=by simp [af,hj2]
         have g2:l.getD j 0=l[j]:=by simp [af,hj]
         rw[<- g1,<- g2];rcases fh j with rfl|hj0
         ·rw[Ye7,ehi]
         ·by_cases hjs:j<1+(rqP t).pts.length
          ·obtain⟨i,rfl⟩:∃i,j=1+i:=⟨j - 1,by omega⟩
           have gi:i<(rqP t).pts.length:=by omega
           rw[Yf2 (x:=swZ l i (rqP t).pts[i]) (by rw[est,h9,ah gi];rfl)];rfl
          ·have esl:h.st.sw.length=(rqP t).pts.length:=by rw[est];simp
           obtain⟨i,hi⟩:∃i,j=1+(rqP t).pts.length+2*i∨j=2+(rqP t).pts.length+2*i:=⟨(j - 1 - (rqP t).pts.length) / 2,by omega⟩
           have gi:i<(rqP t).rts.length:=by omega
           have gx:h.st.lk[i]? =some (lkZ l (rqP t).pts.length i (rqP t).rts[i]):=by rw[elk,h9,ah gi];rfl
           obtain⟨n1,n2⟩:=Yf3 gx;rw[esl] at n1 n2;rcases hi with rfl|rfl
           ·rw[n1];have g3:i<h.st.lk.length:=(ae.1 gx).1;have g5:=Xv9 s4 g3 (by rw[ep];exact gi);obtain⟨p1,p2⟩:=Xte hm (a8 (by rw[ep];exact gi));obtain⟨f1,f2,f3,f4⟩:=Xqi g5 (by omega) p1;have g6:h.st.lk[i]=lkZ l (rqP t).pts.length i (rqP t).rts[i]:=by
             have:=ah g3;rw[gx] at this;injection this with this
             exact this.symm
            rw[g6] at f4;have hpos:=(k4 _ (a8 hj)).1;rw[<- g2] at hpos;unfold lkZ at f4⊢;dsimp only at f4⊢;generalize l.getD (1+(rqP t).pts.length+2*i) 0=z at*;rw[de] at f4⊢;omega
           ·rw[n2];rfl
        ·rw[dn (by omega),dn (by omega)]
       unfold Xp7;rw[ep,m2,et,en,<- eb]
      ·rw[if_neg h6] at hr;cases hr
theorem Yf4 (b:List UInt8):Ye6 b=Xod b∧Ygh b=Xof b:=by
 by_cases hk:Xod b=true
 ·obtain⟨h1,h2⟩:=Xwt hk;have h3:=Ygj h1;have h4:=(Xpk h1).2;rw[h2] at h3 h4;have h5:=(Xya h1).1;unfold Ye6 Ygh;rw[h3,hk];dsimp only;rw[h5,if_pos rfl];exact⟨rfl,h4.symm⟩
 ·have hk':Xod b=false:=by simpa using hk
  have e:∀h,rqH b=some h->Xo9 h=false:=fun h hr=>by
   cases hc:Xo9 h with
   |false=>rfl
   |true=>
    have h1:=Ygk hr hc;have h2:=(Xpk hc).1;rw[h1] at h2;exact absurd h2 hk
  have eR:Xof b=Xtd:=by unfold Xof;rw[hk'];rfl
  unfold Ye6 Ygh;rw[hk',eR];cases hr:rqH b with
  |none=>exact⟨rfl,rfl⟩
  |some h=>exact⟨e h hr,by dsimp only;rw[e h hr];rfl⟩
end Go.Proofs.YtdngdjbgmojcoaaGreat.Pln
namespace Go.Proofs.YtdngdjbgmojcoaaGreat.Pln
set_option linter.all false
set_option maxHeartbeats 8000000
set_option maxRecDepth 4000
open Go Go.VS Tab
attribute [local irreducible] AWp Xp0 Pg X5c Qy Lt Tp FdT Eb
theorem Yf5 (v:Nat) (hv:v<128):Xr Tryz.prog 111 [i64 (v:Int)] [] (.sl 1 (Xo (Ur 5 v)) .full) []:=by
 have e:Ur 5 v=[UInt8.ofNat v]:=by rw[Ur,if_pos hv]
 have hw:IntKind.u8.wrap (v:Int)=((UInt8.ofNat v).toNat:Int):=by rw[de,Se (by omega) (by omega)];omega
 have g1:(v:Int)<128:=by omega
 rw[e];refine Xc 0 Tryz.func111 rfl fun n out _ _=> ?_;simp only[sn,Tryz.ntmps111,simprocAttr];repeat' (first|refine Vk fun K hK=> ?_|apply V0|(apply gE;simp only[zB,simprocAttr,X7n,g1,hw])|(apply Vz;refine Vo rfl rfl rfl (fun _ _=>rfl) ?_<;>first|rfl|skip)|(refine hK _ ?_;clear hK K)|refine Vt rfl ?_)
theorem Yf6 (k v:Nat) (hv:¬v<128) (h5:v<128 ^ 5):Xr Tryz.prog 111 [i64 (v:Int)] [(k,none)] (.sl 1 (Xo (Ur 5 v)) (.own k)) [(k,.row 5 1 (Ur 5 v).length)]:=by
 have hd:v / 128<128 ^ 4:=by rw[fu (by decide),<- Nat.pow_succ];exact h5
 have e:Ur 5 v=[UInt8.ofNat (v % 128+128)]++Ur 4 (v / 128):=by rw[Ur,if_neg hv];rfl
 have hw:IntKind.u8.wrap (((v % 128+128:Nat):Int))=((UInt8.ofNat (v % 128+128)).toNat:Int):=by rw[de,Se (by omega) (by omega)];omega
 have g1:¬(v:Int)<128:=by omega
 have hb:v<34359738368:=h5;have q1:Zr .rem .i64 (v:Int) 128=some (.int .i64 ((v % 128:Nat):Int)):=by rw[X5a _ _ (by decide)];rfl
 have q2:IntKind.i64.wrap (128+((v % 128:Nat):Int))=((v % 128+128:Nat):Int):=by rw[wrap_i64]<;>omega
 have q3:Zr .quo .i64 (v:Int) 128=some (.int .i64 ((v / 128:Nat):Int)):=by
  rw[X7l _ _ (by decide),show(v:Int).tdiv 128=((v / 128:Nat):Int) from rfl,wrap_i64 (by omega) (by omega)]
 have ih:=Ra 4 (v / 128) (by decide) (by decide) hd;have hl:=Mj 4 (v / 128);have hp:=Jy 4 (v / 128) (by decide);have hne:Xo (Ur 4 (v / 128))≠[]:=by
  intro h;have:=congrArg List.length h;rw[X5] at this;have h0:(Ur 4 (v / 128)).length=0:=this;omega
 rw[e,<- L6,ac];generalize Ur 4 (v / 128)=T at ih hl hne;have y1:1+T.length<=140737488355328:=by omega
 have y2:1+T.length<=9223372036854775807:=by omega
 refine Xc 0 Tryz.func111 rfl fun n out _ _=> ?_;simp only[sn,Tryz.ntmps111,simprocAttr];rename_i hneeds hgv;obtain⟨hk,_⟩:=hneeds;obtain⟨hkn,_⟩:=hgv;repeat' (first|refine Vk fun K hK=> ?_|refine Ve [(18,some k)] ?_|apply Vs|((first|apply gE|apply gR);simp only[zB,simprocAttr,X7n,g1,q1,q2,q3,hw,X5,y1,y2,X8 hkn,X7 hkn,Cz hkn,hk,hne])|(apply Vz;refine Vo rfl rfl rfl (fun _ _=>rfl) ?_<;>first|rfl|skip)|(refine X3 (ih) ?_)|(refine hK _ ?_;clear hK K)|refine Vf rfl ?_)
theorem Yee {t:List UInt8} (h:t.length<=65536):Xoh t=Ur 5 t.length++t:=by
 unfold Xoh;rw[show Y3m (t.length:Int)=Ur 5 t.length from if_pos ⟨by omega,by omega⟩]
theorem Ydr (k:Nat) (t:List UInt8) (ht:t≠[]) (hl:t.length<=65536):Xr Tryz.prog 58 [.sl 1 (Xo t) .sh] [(k,none)] (.sl 1 (Xo (Xoh t)) (.own k)) [(k,.row 5 1 (Xoh t).length)]:=by
 have hne:Xo t≠[]:=by
  intro h;have:=congrArg List.length h;rw[X5] at this;exact ht (cz (by simpa using this))
 have hpl:=Mj 5 t.length;rw[Yee hl,<- L6,ac];have y1:(Ur 5 t.length).length+t.length<=140737488355328:=by omega
 have y2:(Ur 5 t.length).length+t.length<=9223372036854775807:=by omega
 by_cases hv:t.length<128
 ·have c:=Yf5 t.length hv;generalize Ur 5 t.length=P at*;refine Xc 0 Tryz.func58 rfl fun n out _ _=> ?_;simp only[sn,Tryz.ntmps58,simprocAttr];rename_i hneeds hgv;obtain⟨hk,_⟩:=hneeds;obtain⟨hkn,_⟩:=hgv;repeat' (first|refine Vk fun K hK=> ?_|refine Ve [(7,some k)] ?_|((first|apply gE|apply gR);simp only[zA,simprocAttr,X5,y1,y2,X8 hkn,X7 hkn,Cz hkn,hk,hne])|(apply Vz;refine Vo rfl rfl rfl (fun _ _=>rfl) ?_<;>first|rfl|skip)|(refine X3 (c) ?_)|(refine hK _ ?_;clear hK K))
 ·have c:=Yf6 k t.length hv (by omega);generalize Ur 5 t.length=P at*;refine Xc 0 Tryz.func58 rfl fun n out _ _=> ?_;simp only[sn,Tryz.ntmps58,simprocAttr];rename_i hneeds hgv;obtain⟨hk,_⟩:=hneeds;obtain⟨hkn,_⟩:=hgv;repeat' (first|refine Vk fun K hK=> ?_|apply V0|((first|apply gE|apply gR);simp only[zA,simprocAttr,X5,y1,y2,X8 hkn,X7 hkn,Cz hkn,Xt,Jp])|(apply Vz;refine Vo rfl rfl rfl (fun _ _=>rfl) ?_<;>first|rfl|skip)|(refine Sb c (by rw[X8 hkn];exact hk) (by rw[X7 hkn];trivial) (by simp) ?_)|(refine hK _ ?_;clear hK K))
theorem Yf7 (b:List UInt8) (hb:b.length<=1000000) (at':Nat) (h:at'<=b.length):∃(X:List UInt8) (y z:Int),Xr Tryz.prog 127 [.sl 1 (Xo b) .sh,i64 (at':Int),i64 65536] [] (.tup [.sl 1 (Xo X) .sh,i64 y,i64 z]) []∧(z==0)=(ruW b at').isSome∧∀r,ruW b at'=some r->X=r.1∧y=(r.2:Int):=by
 have cG:=X5s b at' .sh h hb;have d1:decide ((at':Int)<0)=false:=ak (by omega);have d2:decide (b.length<at')=false:=ak (by omega);have d2':decide ((at':Int)>(b.length:Int))=false:=ak (by omega);have eN:([]:List (List AV))=Xo []:=rfl;unfold ruW;cases hg:rgN (b.drop at') with
 |none=>
  have eT:rgT b at'=(0,0,8):=by unfold rgT;rw[hg]
  rw[eT] at cG;refine⟨[],0,8,?_,rfl,fun r hr=>by cases hr⟩;rw[<- eN];refine Xc 0 Tryz.func127 rfl fun n out _ _=> ?_;simp only[sn,Tryz.ntmps127,simprocAttr];repeat' (first|refine Vk fun K hK=> ?_|apply V0|apply Vs|((first|apply gE|apply gR);simp only[zA,simprocAttr,X5,d1,d2,gt_iff_lt])|(apply Vz;refine Zv (.inr rfl) rfl rfl rfl (fun _ _=>rfl) rfl rfl rfl ?_ ?_ ?_<;>first|rfl|(exact AV.le.rfl _)|(simp only[sL];done)|rfl|skip)|(refine X3 (cG) ?_)|(refine hK _ ?_;clear hK K)|refine Vt rfl ?_|refine Vf rfl ?_)
 |some r=>
  obtain⟨n,k⟩:=r;have eT:rgT b at'=((n:Int),((at'+k:Nat):Int),0):=by unfold rgT;rw[hg]
  rw[eT] at cG;obtain⟨_,g1,g2⟩:=Yeb hg;rw[bt] at g1;dsimp only;by_cases h1:65536<n
  ·rw[if_pos (.inl h1)];have d3:decide ((65536:Int)<(n:Int))=true:=ax (by omega);refine⟨[],0,4,?_,rfl,fun r hr=>by cases hr⟩;rw[<- eN];refine Xc 0 Tryz.func127 rfl fun n out _ _=> ?_;simp only[sn,Tryz.ntmps127,simprocAttr];repeat' (first|refine Vk fun K hK=> ?_|apply V0|apply Vs|((first|apply gE|apply gR);simp only[zA,simprocAttr,X5,d1,d2,d3,gt_iff_lt])|(apply Vz;refine Zv (.inr rfl) rfl rfl rfl (fun _ _=>rfl) rfl rfl rfl ?_ ?_ ?_<;>first|rfl|(exact AV.le.rfl _)|(simp only[sL];done)|rfl|skip)|(refine X3 (cG) ?_)|(refine hK _ ?_;clear hK K)|refine Vt rfl ?_|refine Vf rfl ?_)
  ·have d3:decide ((65536:Int)<(n:Int))=false:=ak (by omega);have w1:IntKind.i64.wrap (((at'+k:Nat):Int)+(n:Int))=((at'+k+n:Nat):Int):=by rw[wrap_i64]<;>omega
   by_cases h2:b.length<at'+k+n
   ·rw[if_pos (.inr h2)];have d4:decide ((b.length:Int)<((at'+k+n:Nat):Int))=true:=ax (by omega);refine⟨[],0,8,?_,rfl,fun r hr=>by cases hr⟩;rw[<- eN];refine Xc 0 Tryz.func127 rfl fun n out _ _=> ?_;simp only[sn,Tryz.ntmps127,simprocAttr];repeat' (first|refine Vk fun K hK=> ?_|apply V0|apply Vs|((first|apply gE|apply gR);simp only[zA,simprocAttr,X5,d1,d2,d3,h2,w1,gt_iff_lt])|(apply Vz;refine Zv (.inr rfl) rfl rfl rfl (fun _ _=>rfl) rfl rfl rfl ?_ ?_ ?_<;>first|rfl|(exact AV.le.rfl _)|(simp only[sL];done)|rfl|skip)|(refine X3 (cG) ?_)|(refine hK _ ?_;clear hK K)|refine Vt rfl ?_|refine Vf rfl ?_)
   ·rw[if_neg (by rintro(h|h);exact h1 h;exact h2 h)];have d4:decide ((b.length:Int)<((at'+k+n:Nat):Int))=false:=ak (by omega);have z1:at'+k<=at'+k+n:=by omega
    have z2:at'+k+n<=b.length:=by omega
    obtain⟨X,hX⟩:∃X,X=(b.drop (at'+k)).take n:=⟨_,rfl⟩
    have hXl:X.length<=65536:=by rw[hX,ba];omega
    have y1:X.length<=140737488355328:=by omega
    have y2:X.length<=9223372036854775807:=by omega
    refine⟨X,((at'+k+n:Nat):Int),0,?_,rfl,fun r hr=>by injection hr with hr;rw[<- hr];exact⟨hX,rfl⟩⟩;refine Xc 0 Tryz.func127 rfl fun n out _ _=> ?_;simp only[sn,Tryz.ntmps127,simprocAttr];repeat' (first|refine Vk fun K hK=> ?_|apply V0|apply Vs|((first|apply gE|apply gR);simp only[zA,simprocAttr,X5,d1,d2,d3,h2,w1,gt_iff_lt,P6,Nh,Q1,Q2,z1,z2,Nat.add_sub_cancel_left,<- hX,y1,y2])|(apply Vz;refine Zv (.inr rfl) rfl rfl rfl (fun _ _=>rfl) rfl rfl rfl ?_ ?_ ?_<;>first|rfl|(exact AV.le.rfl _)|(simp only[sL,X5,d1,d2,d2',d3,d4,h2,w1,gt_iff_lt,d9,Int.reduceBNe,P6,Nh,Q1,Q2,z1,z2,Nat.add_sub_cancel_left,<- hX,y1,y2,List.nil_append];done)|rfl|skip)|(refine X3 (cG) ?_)|(refine hK _ ?_;clear hK K)|refine Vf rfl ?_)
theorem Yem (b:List UInt8) (hb:b.length<=1000000) (at':Nat) (h:at'<=b.length):∃(X:List UInt8) (y:Int),Xr Tryz.prog 64 [.sl 1 (Xo b) .sh,i64 (at':Int)] [] (.tup [.sl 1 (Xo X) .sh,i64 y,bool (ruW b at').isSome]) []∧∀r,ruW b at'=some r->X=r.1∧y=(r.2:Int):=by
 obtain⟨X,y,z,c,h1,h2⟩:=Yf7 b hb at' h;refine⟨X,y,?_,h2⟩;rw[<- h1];refine Xc 0 Tryz.func64 rfl fun n out _ _=> ?_;simp only[sn,Tryz.ntmps64,simprocAttr];repeat' (first|refine Vk fun K hK=> ?_|apply V0|((first|apply gE|apply gR);simp only[zA,simprocAttr])|(apply Vz;refine Zv (.inr rfl) rfl rfl rfl (fun _ _=>rfl) rfl rfl rfl ?_ ?_ ?_<;>first|rfl|(exact AV.le.rfl _)|(simp only[sL];done)|rfl|skip)|(refine X3 (c) ?_)|(refine hK _ ?_;clear hK K))
theorem Yfv (v:Int) (σ:AState) (K:AV->List (Nat×Res)->Prop):X1 tab σ K none 61 1 [(0,i64 v)]=K (.sl 1 [[i64 v]] .full) []:=Yk (T:=tab) (ti:=ti61) (te:=ti3) rfl rfl rfl (by decide) (by decide) rfl rfl
def nmA (b:List UInt8) (a0 i:Nat):Nat:=((nmS b a0 i).getD (0,[])).1
def nmL (b:List UInt8) (a0 i:Nat):List Int:=((nmS b a0 i).getD (0,[])).2
def QN (b:List UInt8) (a0 i:Nat):Prop:=(nmS b a0 i).isSome=true
theorem Yen {b:List UInt8} {a0 i:Nat} (h:nmS b a0 i=none):∀k,nmS b a0 (i+k)=none
 |0=>h
 |k+1=>by rw[<- Nat.add_assoc,nmS,Yen h k]
theorem Yef (b:List UInt8) (hb:b.length<=1000000) (a0 m:Nat) (h0:a0<=b.length) (hm:m<=1000000):Xr Tryz.prog 66 [.sl 1 (Xo b) .sh,i64 (a0:Int),i64 (m:Int)] [] (.tup [.sl 1 (((nmS b a0 m).getD (0,[])).2.map Ym) .sh,i64 (((nmS b a0 m).getD (0,[])).1:Nat),bool (nmS b a0 m).isSome]) []:=by
 obtain⟨G,hG⟩:∃G,G=nmS b a0 m:=⟨_,rfl⟩
 have hq0:QN b a0 0:=rfl;rw[<- hG];refine Xc 1 Tryz.func66 rfl fun n out _ _=> ?_;simp only[sn,Tryz.ntmps66,simprocAttr];repeat' (first|refine Vk fun K hK=> ?_|apply V0|(apply gE;simp only[zA,simprocAttr])|(refine hK _ ?_;clear hK K))
 refine Yy (Q9 (i:=0) 3 1 rfl) ?_;simp only[s_0,s_s];apply V5;refine Xse (m) (fun i=>QN b a0 i) (fun i=>tp [6,7,8] (tr 11 22 [(1,i64 (nmA b a0 i:Nat)),(9,.sl 1 ((nmL b a0 i).map Ym) (.own (n+0))),(10,i64 (i:Int))])) (fun i=>[some (.row 3 1 (nmL b a0 i).length)]) (by assumption) ?_ fun i hi=> ?_
 ·refine X2 ?_ ?_ (by first|rfl|(simp only[show nmL b a0 0=[] from rfl,show nmA b a0 0=a0 from rfl,ag,List.length_nil];rfl)|simp only[show nmL b a0 0=[] from rfl,show nmA b a0 0=a0 from rfl,ag,List.length_nil]) rfl rfl rfl<;>simp only[sL,show nmL b a0 0=[] from rfl,show nmA b a0 0=a0 from rfl,ag,List.length_nil]
 obtain⟨hi,hq⟩:=hi;simp only[pt];have hw:=Yl (n:=i) 1 1 rfl (by omega);obtain⟨⟨a,l⟩,hs⟩:=cu.1 hq;obtain⟨i1,i2,_,_⟩:=Ydz h0 hs;have ea:nmA b a0 i=a:=by unfold nmA;rw[hs];rfl
 have el:nmL b a0 i=l:=by unfold nmL;rw[hs];rfl
 rw[ea,el];by_cases hlt:i<m
 ·have hlt':(i:Int)<(m:Int):=by omega
  have cg:=X5s b a .sh i2 hb;cases hr:rgN (b.drop a) with
  |none=>
   have e1:rgT b a=(0,0,8):=by unfold rgT;rw[hr]
   have e2:nmS b a0 (i+1)=none:=by rw[nmS,hs];dsimp only;rw[hr]
   obtain⟨k,hk⟩:=Nat.exists_eq_add_of_le (show i+1<=m from hlt);have e3:G=none:=by rw[hG,hk,Yen e2]
   rw[e1] at cg;subst e3;repeat' (first|refine Vk fun K hK=> ?_|apply V0|apply Vb|apply Vs|((first|apply gE|apply gR);simp only[zA,simprocAttr,hlt',Option.getD_none])|(apply Vz;refine Zv (.inr rfl) rfl rfl rfl (fun _ _=>rfl) rfl rfl rfl ?_ ?_ ?_<;>first|rfl|(exact AV.le.rfl _)|(simp only[sL,Option.getD_none,ag];done)|rfl|skip)|(refine X3 (cg) ?_)|(refine hK _ ?_;clear hK K)|refine Vt rfl ?_)
  |some r=>
   obtain⟨x,k⟩:=r;have e1:rgT b a=((x:Int),((a+k:Nat):Int),0):=by unfold rgT;rw[hr]
   have e2:nmS b a0 (i+1)=some (a+k,l++[(x:Int)]):=by rw[nmS,hs];dsimp only;rw[hr]
   have ea':nmA b a0 (i+1)=a+k:=by unfold nmA;rw[e2];rfl
   have el':nmL b a0 (i+1)=l++[(x:Int)]:=by unfold nmL;rw[e2];rfl
   rw[e1] at cg;have y1:(l.length+1)*8<=140737488355328:=by omega
   have y2:l.length+1<=9223372036854775807:=by omega
   have y3:l.map Ym++[[i64 (x:Int)]]=(l++[(x:Int)]).map Ym:=by rw[aw];rfl
   repeat' (first|refine Vk fun K hK=> ?_|apply V0|apply Vb|apply Vs|((first|apply gE|apply gR);simp only[zB,simprocAttr,Yfv,hlt',y1,y2,y3,hw])|(refine X3 (cg) ?_)|(refine hK _ ?_;clear hK K)|refine Vt rfl ?_|refine Vf rfl ?_|clear hK K)
   refine⟨i+1,⟨by omega,by unfold QN;rw[e2];rfl⟩,by omega,?_⟩;rw[ea',el',ac];refine La rfl ?_ ?_<;>simp only[sL,List.length_singleton]
 ·obtain rfl:i=m:=by omega
  rw[hs] at hG;subst hG;repeat' (first|refine Vk fun K hK=> ?_|apply V0|(apply gE;simp only[zA,simprocAttr,hlt])|(apply Vz;refine Zv (.inr rfl) rfl rfl rfl (fun _ _=>rfl) rfl rfl rfl ?_ ?_ ?_<;>first|rfl|(exact AV.le.rfl _)|(simp only[sL];done)|rfl|skip)|(apply Vx;simp only[sb])|(refine hK _ ?_;clear hK K)|refine Vf rfl ?_|clear hK K)
  all_goals exact .sh _ _ _
def Bl (p:Pl):Int:=if Uf p then 0 else 8
def Bm (p:Pl):List UInt8:=if Uf p then Wg p else[]
theorem X2z (k:Nat) (p:Pl) (hs:Sm p) (h:Uf p=true):Xr Tryz.prog 25 [plA p] [(k,none)] (.tup [.sl 1 (Xo (Wg p)) (.own k),i64 0]) [(k,.row 5 1 (Wg p).length)]:=by
 have c1:=Dr p hs;have hl:=R7 h;have c2:=fun k=>Pj k p hs (by omega);rw[h] at c1;simp only[plA,plC,if_true] at c1 c2;refine Xc 1 Tryz.func25 rfl fun n out _ _=> ?_;simp only[sn,Tryz.ntmps25,simprocAttr];rename_i hneeds hgv;obtain⟨hk,_⟩:=hneeds;obtain⟨hkn,_⟩:=hgv;repeat' (first|refine Vk fun K hK=> ?_|apply V0|apply Vs|((first|apply gE|apply gR);simp only[zA,simprocAttr,plA,plC,Cz hkn])|(apply Vz;refine Vp rfl rfl rfl (fun _ _=>rfl) ?_ ?_<;>first|rfl|skip)|(refine X3 (c1) ?_)|(refine Sb (c2 k) (by rw[X8 hkn];exact hk) (by rw[X7 hkn];trivial) (by simp) ?_)|(refine hK _ ?_;clear hK K)|refine Vf rfl ?_)
theorem X5q (p:Pl) (hs:Sm p):Xr Tryz.prog 25 [plA p] [] (.tup [.sl 1 (Xo (Bm p)) .sh,i64 (Bl p)]) []:=by
 cases h:Uf p with
 |true=>
  have e1:Bm p=Wg p:=if_pos h;have e2:Bl p=0:=if_pos h;rw[e1,e2];refine Lc (fun k=>X2z k p hs h) fun k=> ?_;simp only[sL]
 |false=>
  have h':¬Uf p=true:=by rw[h];decide
  have e1:Bm p=[]:=if_neg h';have e2:Bl p=8:=if_neg h';rw[e1,e2,Wb];have c1:=Dr p hs;rw[h] at c1;simp only[plA,plC,bl,if_false] at c1;refine Xc 1 Tryz.func25 rfl fun n out _ _=> ?_;simp only[sn,Tryz.ntmps25,simprocAttr];repeat' (first|refine Vk fun K hK=> ?_|apply V0|((first|apply gE|apply gR);simp only[zA,simprocAttr,plA,plC])|(apply Vz;refine Za (.inr rfl) rfl rfl rfl (fun _ _=>rfl) rfl rfl ?_ ?_<;>first|rfl|(exact AV.le.rfl _)|(simp only[sL];done)|rfl|skip)|(refine X3 (c1) ?_)|(refine hK _ ?_;clear hK K)|refine Vt rfl ?_)
end Go.Proofs.YtdngdjbgmojcoaaGreat.Pln
