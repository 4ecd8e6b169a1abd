/- The layer of abstract values, joined. -/
import Derived.Test.YtdngdjbgmojcoaaGreatZPR
import Derived.Test.YtdngdjbgmojcoaaGreatZPM
import Derived.Test.YtdngdjbgmojcoaaGreatZW14
import Derived.Test.YtdngdjbgmojcoaaGreatZPP
import Derived.Test.YtdngdjbgmojcoaaGreatZPK
import Derived.Test.YtdngdjbgmojcoaaGreatZR5
namespace Go.Proofs.YtdngdjbgmojcoaaGreat.Pln
set_option linter.all false
set_option maxHeartbeats 8000000
set_option maxRecDepth 4000
open Go Go.VS Tab
attribute [local irreducible] AWp Xp0 Pg X5c Qy Lt Tp FdT Eb
theorem Yh7 (p:Pl) (hs:Sm p) (a b:Int):Xr Tryz.prog 153 [plA p,i64 a,i64 b] [] (i64 (atF p.sgs a b)) []:=by
 have hsl:=hs.sgs;refine Xc 1 Tryz.func153 rfl fun n out _ _=> ?_;simp only[sn,Tryz.ntmps153,simprocAttr];repeat' (first|refine Vk fun K hK=> ?_|apply V0|((first|apply gE);simp only[zA,simprocAttr,plA,plC])|(refine hK _ ?_;clear hK K))
 apply V5;refine Xpw (p.sgs.length) (fun i=>(∀j (hj:j<p.sgs.length),j<i->(p.sgs[j].2.1==a&&p.sgs[j].2.2==b)=false)) (fun m i=>tp [6] (tr 8 31 [(7,i64 (i:Int)),(3,.ptr (m+0) 0)])) (fun m i=>[some (.box 28 (plC p))]) (by intros;omega) ?_ fun m i hm hi=> ?_
 ·refine X2 ?_ ?_ (by first|rfl|(simp only[plC];rfl)|simp only[plC]) rfl rfl rfl<;>simp only[sL,plC]
 obtain⟨hi,hq⟩:=hi;simp only[pt];have hw:=Yl (n:=i) 1 1 rfl (by omega);by_cases hlt:i<p.sgs.length
 ·have gi:=Xg sgC p.sgs i [] hlt;have next:(p.sgs[i].2.1==a&&p.sgs[i].2.2==b)=false->∀j (hj:j<p.sgs.length),j<i+1->(p.sgs[j].2.1==a&&p.sgs[j].2.2==b)=false:=fun h j hj hji=>by
   by_cases h':j=i
   ·subst h';exact h
   ·exact hq j hj (by omega)
  cases hb:(p.sgs[i].2.1==a&&p.sgs[i].2.2==b) with
  |true=>
   have e:atF p.sgs a b=p.sgs[i].1:=by
    unfold atF;rw[Xuq (f:=fun g:Int×Int×Int=>g.2.1==a&&g.2.2==b) hlt hb hq]
   rw[ad] at hb;obtain⟨b1,b2⟩:=hb;rw[e];repeat' (first|refine Vk fun K hK=> ?_|apply V0|apply Vb|apply Vs|((first|apply gE);simp only[zA,simprocAttr,Xi hm,plC,sgC,hlt,gi,b1,b2])|(apply Vz;refine Vo rfl rfl rfl (fun _ _=>rfl) ?_<;>first|rfl|skip)|(refine hK _ ?_;clear hK K)|refine Vt rfl ?_)
  |false=>
   have nx:=next hb
   clear next hq
   cases b1:(p.sgs[i].2.1==a) with
   |true=>
    have b2:(p.sgs[i].2.2==b)=false:=by rw[b1,bo] at hb;exact hb
    repeat' (first|refine Vk fun K hK=> ?_|apply V0|apply Vb|apply Vs|((first|apply gE);simp only[zA,simprocAttr,Xi hm,plC,sgC,hlt,gi,b1,b2,hw])|(refine hK _ ?_;clear hK K)|refine Vt rfl ?_|refine Vf rfl ?_|clear hK K)
    refine⟨i+1,⟨by omega,nx⟩,by omega,?_⟩;refine Xx [true] ?_ ?_<;>intro n_<;>simp only[sM]
   |false=>
    repeat' (first|refine Vk fun K hK=> ?_|apply V0|apply Vb|apply Vs|((first|apply gE);simp only[zA,simprocAttr,Xi hm,plC,sgC,hlt,gi,b1,hw])|(refine hK _ ?_;clear hK K)|refine Vt rfl ?_|refine Vf rfl ?_|clear hK K)
    refine⟨i+1,⟨by omega,nx⟩,by omega,?_⟩;refine Xx [true] ?_ ?_<;>intro n_<;>simp only[sM]
 ·have e:atF p.sgs a b=0:=by
   unfold atF;rw[Xur (f:=fun g:Int×Int×Int=>g.2.1==a&&g.2.2==b) fun j hj=>hq j hj (by omega)]
  repeat' (first|refine Vk fun K hK=> ?_|apply V0|((first|apply gE);simp only[zA,simprocAttr,Xi hm,plC,hlt])|(apply Vz;refine Vo rfl rfl rfl (fun _ _=>rfl) ?_<;>first|rfl|(rw[e];rfl)|skip)|(apply Vx;simp only[sb])|(refine hK _ ?_;clear hK K)|refine Vf rfl ?_|clear hK K)
def Yh8 (p:Pl) (r:Rt) (L:List Int) (i:Nat) (s:Sec) (e:Nat) (j:Int×Int):Bool:=if i+1=r.path.length then(if r.ex=0 then j.1==0 else atF p.sgs s.id e==r.ex) else j.1==L.getD (i+1) 0
def Bx (p:Pl) (r:Rt) (L:List Int) (i:Nat) (s:Sec) (inn:Int) (e:Nat):Bool:= !decide (Xuv s inn e<0)&&Yh8 p r L i s e (s.ends.getD e (0,0))
def Yfs (p:Pl) (r:Rt) (L:List Int) (i:Nat) (s:Sec) (inn:Int):Int:=match (List.range s.ends.length).find? (Bx p r L i s inn) with
 |some e=>e
 |none=> -1
theorem Yg2 {p:Pl} {r:Rt} {L:List Int} {i:Nat} {s:Sec} {inn:Int} {e:Nat} (he:e<s.ends.length) (h:Bx p r L i s inn e=true) (hq:∀j,j<e->Bx p r L i s inn j=false):Yfs p r L i s inn=e:=by
 unfold Yfs;rw[Xuu he h hq]
theorem Yff {p:Pl} {r:Rt} {L:List Int} {i:Nat} {s:Sec} {inn:Int} (hq:∀j,j<s.ends.length->Bx p r L i s inn j=false):Yfs p r L i s inn= -1:=by
 unfold Yfs;rw[Xq5 hq]
theorem Yg3 {l:List Sec} {n:Int} {s:Sec} (h:Qt l n=some s):∃(k:Nat) (hk:k<l.length),idx (fun x=>x.id==n) l=k∧l[k]=s:=by
 rcases Ze (fun x:Sec=>x.id==n) l with ⟨z1,z2,z3⟩|⟨k,hk,z1,z2,z3,z4⟩
 ·unfold Qt at h;rw[z2] at h;cases h
 ·refine⟨k,hk,z1,?_⟩;unfold Qt at h;rw[z2] at h;simpa using h
theorem Yh9 (p:Pl) (hs:Sm p) (r:Rt) (hpl:1<=r.path.length∧r.path.length<=1000) (L:List Int) (hL:L.length<=1000) (i:Nat) (hi:i<L.length) (hnx:i+1=r.path.length∨i+1<L.length) (s:Sec) (hsec:Qt p.secs L[i]=some s) (inn:Int):
  Xr Tryz.prog 193 [plA p,rtA r,X62 L,i64 (i:Int),i64 inn] [] (i64 (Yfs p r L i s inn)) []:=by
 obtain⟨k,hk,hka,hks⟩:=Yg3 hsec;have hse:=hs.ends s (W5 hsec).1;have ca:=X39 p.secs L[i] (by have:=hs.secs;omega);rw[hka] at ca;have gk:=Xg Y6 p.secs k [] hk;rw[hks] at gk;have gi:=Xg Ym L i [] hi;have hwp:=X25 (n:=r.path.length) 1 1 rfl (by omega) (by omega);have hwi:=Yl (n:=i) 1 1 rfl (by omega);obtain⟨OX,hOX⟩:∃OX,OX=Yfs p r L i s inn:=⟨_,rfl⟩
 rw[<- hOX];refine Xc 3 Tryz.func193 rfl fun n out _ _=> ?_;simp only[sn,Tryz.ntmps193,simprocAttr];repeat' (first|refine Vk fun K hK=> ?_|apply V0|refine Vd 1 [] [[],[0],[],[0],[],[],[],[],[],[],[],[2],[2]] [[],[],[],[],[],[],[],[],[],[],[],[2],[2]] (by kernel_rfl) (by decide) (by decide) (by kernel_rfl) ?_|((first|apply gE|apply gD|apply gF);simp only[zA,simprocAttr,plA,plC,rtA,rtC,Y6,Ym,X0,gi,hi,gk,hk])|(refine X3 (ca) ?_)|(refine hK _ ?_;clear hK K))
 apply V5;refine Xpw (s.ends.length) (fun e=>(∀j,j<e->Bx p r L i s inn j=false)) (fun m e=>tp [10] (tr 24 59 [(12,i64 (e:Int)),(5,.ptr (m+0) 0),(6,.ptr (m+1) 0),(11,.ptr (m+2) 0)])) (fun m e=>[some (.box 28 (plC p)),some (.box 82 (rtC r)),some (.box 75 (Y6 s))]) (by intros;omega) ?_ fun m e hm he=> ?_
 ·refine X2 ?_ ?_ (by first|rfl|(simp only[plC,rtC,Y6];rfl)|simp only[plC,rtC,Y6]) rfl rfl rfl<;>simp only[sL,plC,rtC,Y6]
 obtain⟨he,hq⟩:=he;simp only[pt];have hw:=Yl (n:=e) 1 1 rfl (by omega);by_cases hlt:e<s.ends.length
 ·have ge:=Xg jnC s.ends e [] hlt;have gd:s.ends.getD e (0,0)=s.ends[e]:=by simp [af,hlt]
  have cl:=Yge s inn e;have cA:=Yh7 p hs s.id e;have okv:Bx p r L i s inn e=(!decide (Xuv s inn e<0)&&Yh8 p r L i s e s.ends[e]):=by unfold Bx;rw[gd]
  have next:Bx p r L i s inn e=false->∀j,j<e+1->Bx p r L i s inn j=false:=fun h j hj=>by
   by_cases h':j=e
   ·subst h';exact h
   ·exact hq j (by omega)
  have hit:Bx p r L i s inn e=true->OX=e:=fun h=>by rw[hOX];exact Yg2 hlt h hq
  simp only[Qh,Y6] at cl;simp only[plA,plC] at cA;clear hq hOX ca hka;generalize Xuv s inn e=LE at*;generalize Bx p r L i s inn e=OK at*;cases hl:decide (LE<0) with
  |true=>
   rw[hl,dy,dc] at okv;repeat' (first|refine Vk fun K hK=> ?_|apply V0|apply Vb|apply Vs|((first|apply gE|apply gR);simp only[zA,simprocAttr,Xi hm,plC,rtC,Y6,hlt,hl,hw])|(refine X3 (cl) ?_)|(apply Vx;simp only[sb,Nat.reduceEqDiff])|(refine hK _ ?_;clear hK K)|refine Vt rfl ?_|clear hK K)
   refine⟨e+1,⟨by omega,next okv⟩,by omega,?_⟩;refine Xx [true,true,true] ?_ ?_<;>intro n_<;>simp only[sM]
  |false=>
   rw[hl,es,bo] at okv;unfold Yh8 at okv;by_cases hp:i+1=r.path.length
   ·rw[if_pos hp] at okv;have bp:((i:Int)==((r.path.length - 1:Nat):Int))=true:=by simp;omega
    by_cases hx:r.ex=0
    ·rw[if_pos hx] at okv;have bx1:(r.ex==0)=true:=by simp [hx]
     have bx2:(r.ex !=0)=false:=by simp [hx]
     cases hC:(s.ends[e].1==0) with
     |true=>
      rw[hit (okv.trans hC)];repeat' (first|refine Vk fun K hK=> ?_|apply V0|apply Vb|apply Vs|refine Vq (by kernel_rfl) ?_|((first|apply gE|apply gR);simp only[zA,simprocAttr,Xi hm,plC,rtC,Y6,jnC,hlt,ge,hl,hwp,bp,bx1,hC])|(apply Vz;refine Vo rfl rfl rfl (fun _ _=>rfl) ?_<;>first|rfl|skip)|(refine X3 (cl) ?_)|(refine hK _ ?_;clear hK K)|refine Vt rfl ?_|refine Vf rfl ?_)
     |false=>
      repeat' (first|refine Vk fun K hK=> ?_|apply V0|apply Vb|apply Vs|refine Vq (by kernel_rfl) ?_|((first|apply gE|apply gR);simp only[zA,simprocAttr,Xi hm,plC,rtC,Y6,jnC,hlt,ge,hl,hwp,bp,bx1,bx2,hC,hw])|(refine X3 (cl) ?_)|(apply Vx;simp only[sb,Nat.reduceEqDiff])|(refine hK _ ?_;clear hK K)|refine Vt rfl ?_|refine Vf rfl ?_|clear hK K)
      refine⟨e+1,⟨by omega,next (okv.trans hC)⟩,by omega,?_⟩;refine Xx [true,true,true] ?_ ?_<;>intro n_<;>simp only[sM]
    ·rw[if_neg hx] at okv;have bx1:(r.ex==0)=false:=by simp [hx]
     have bx2:(r.ex !=0)=true:=by simp [hx]
     generalize atF p.sgs s.id e=AT at*;cases hC:(AT==r.ex) with
     |true=>
      rw[hit (okv.trans hC)];repeat' (first|refine Vk fun K hK=> ?_|apply V0|apply Vb|apply Vs|refine Vq (by kernel_rfl) ?_|((first|apply gE|apply gR);simp only[zA,simprocAttr,Xi hm,plC,rtC,Y6,hlt,hl,hwp,bp,bx1,bx2,hC])|(apply Vz;refine Vo rfl rfl rfl (fun _ _=>rfl) ?_<;>first|rfl|skip)|(refine X3 (cl) ?_)|(refine X3 (cA) ?_)|(refine hK _ ?_;clear hK K)|refine Vt rfl ?_|refine Vf rfl ?_)
     |false=>
      repeat' (first|refine Vk fun K hK=> ?_|apply V0|apply Vb|apply Vs|refine Vq (by kernel_rfl) ?_|((first|apply gE|apply gR);simp only[zA,simprocAttr,Xi hm,plC,rtC,Y6,hlt,hl,hwp,bp,bx1,bx2,hC,hw])|(refine X3 (cl) ?_)|(refine X3 (cA) ?_)|(apply Vx;simp only[sb,Nat.reduceEqDiff])|(refine hK _ ?_;clear hK K)|refine Vt rfl ?_|refine Vf rfl ?_|clear hK K)
      refine⟨e+1,⟨by omega,next (okv.trans hC)⟩,by omega,?_⟩;refine Xx [true,true,true] ?_ ?_<;>intro n_<;>simp only[sM]
   ·rw[if_neg hp] at okv;have bp:((i:Int)==((r.path.length - 1:Nat):Int))=false:=by simp;omega
    have hi1:i+1<L.length:=by omega
    have gi1:=Xg Ym L (i+1) [] hi1;have gd1:L.getD (i+1) 0=L[i+1]:=by simp [af,hi1]
    rw[gd1] at okv;cases hC:(s.ends[e].1==L[i+1]) with
    |true=>
     rw[hit (okv.trans hC)];repeat' (first|refine Vk fun K hK=> ?_|apply V0|apply Vb|apply Vs|refine Vq (by kernel_rfl) ?_|((first|apply gE|apply gR);simp only[zA,simprocAttr,Xi hm,plC,rtC,Y6,jnC,Ym,hlt,ge,hi1,gi1,hl,hwp,hwi,bp,hC])|(apply Vz;refine Vo rfl rfl rfl (fun _ _=>rfl) ?_<;>first|rfl|skip)|(refine X3 (cl) ?_)|(refine hK _ ?_;clear hK K)|refine Vt rfl ?_|refine Vf rfl ?_)
    |false=>
     repeat' (first|refine Vk fun K hK=> ?_|apply V0|apply Vb|apply Vs|refine Vq (by kernel_rfl) ?_|((first|apply gE|apply gR);simp only[zA,simprocAttr,Xi hm,plC,rtC,Y6,jnC,Ym,hlt,ge,hi1,gi1,hl,hwp,hwi,bp,hC,hw])|(refine X3 (cl) ?_)|(refine hK _ ?_;clear hK K)|refine Vt rfl ?_|refine Vf rfl ?_|clear hK K)
     refine⟨e+1,⟨by omega,next (okv.trans hC)⟩,by omega,?_⟩;refine Xx [true,true,true] ?_ ?_<;>intro n_<;>simp only[sM]
 ·have e1:=Yff (p:=p) (r:=r) (L:=L) (i:=i) (s:=s) (inn:=inn) fun j hj=>hq j (by omega);rw[<- hOX] at e1;repeat' (first|refine Vk fun K hK=> ?_|apply V0|((first|apply gE);simp only[zA,simprocAttr,Xi hm,Y6,hlt])|(apply Vz;refine Vo rfl rfl rfl (fun _ _=>rfl) ?_<;>first|rfl|(rw[e1];rfl)|skip)|(apply Vx;simp only[sb])|(refine hK _ ?_;clear hK K)|refine Vf rfl ?_|clear hK K)
end Go.Proofs.YtdngdjbgmojcoaaGreat.Pln
namespace Go.Proofs.YtdngdjbgmojcoaaGreat.Pln
set_option linter.all false
set_option maxHeartbeats 4000000
open Go Go.VS Tab
def Ye2 (p:Pl) (r:Rt) (i:Nat):Int->Int×Int->Bool:=
 if i+1=r.path.length then(if r.ex=0 then fun _ j=>j==(0,0) else fun e _=>(Xs2 r).getD i 0==(Xl0 p.sgs r.ex).2.1&&e==(Xl0 p.sgs r.ex).2.2) else fun _ j=>j.1==(Xs2 r).getD (i+1) 0
theorem Yfg {p:Pl} {r:Rt} {w:Wk} {i:Nat} (hk:i+1=r.path.length∨i+1≠(Xs2 r).length):Xp6 p r w i=Xso p w ((Xs2 r).getD i 0) i (Ye2 p r i):=by
 unfold Xp6 Ye2;by_cases h1:i+1=r.path.length
 ·rw[if_pos h1,if_pos h1];by_cases h2:r.ex=0
  ·rw[if_pos h2,if_pos h2];try rfl
  ·rw[if_neg h2,if_neg h2];try rfl
 ·have h3:i+1≠(r.path++r.over).length:=by
   rcases hk with h|h
   ·exact absurd h h1
   ·exact h
  rw[if_neg h1,if_neg h3,if_neg h1];try rfl
theorem Ygr {p:Pl} (hm:Uf p=true) {r:Rt} (hr:r∈p.rts) (hx:r.ex≠0):∃x,Xl0 p.sgs r.ex=x∧x∈p.sgs∧x.1=r.ex:=by
 obtain⟨_,_,_,hsg,_,_,hrs⟩:=Xol hm;have ho:=hrs r hr;unfold okR at ho;cases hg:Xpe p.sgs r.entry with
 |none=>rw[hg] at ho;cases ho
 |some en=>
  rw[hg] at ho;simp only[ad,ck,ao] at ho;obtain⟨⟨⟨⟨⟨⟨⟨⟨⟨q,_⟩,_⟩,_⟩,_⟩,_⟩,_⟩,_⟩,_⟩,_⟩:=ho;have q1:(Xpe p.sgs r.ex).isSome=true:=by
   rcases q with h|h
   ·exact absurd h hx
   ·exact h.1
  obtain⟨x,hxg⟩:=cu.1 q1;exact⟨x,by rw[Xw7 (Xxo hsg),hxg];rfl,bg hxg,by simpa using dg hxg⟩
theorem Ygs {p:Pl} (hm:Uf p=true) {x y:Int×Int×Int} (hx:x∈p.sgs) (hy:y∈p.sgs) (e:x.1=y.1):x=y:=by
 obtain⟨i,hi,rfl⟩:=am hx;obtain⟨j,hj,rfl⟩:=am hy;have hr:=Xxo (Xol hm).2.2.2.1;by_cases h1:i<j
 ·have:=hr j hj i h1;omega
 ·by_cases h2:j<i
  ·have:=hr i hi j h2;omega
  ·obtain rfl:i=j:=by omega
   rfl
theorem Yg4 {p:Pl} (hm:Uf p=true) {r:Rt} (hr:r∈p.rts) {i:Nat} {s:Sec} (hs:Qt p.secs ((Xs2 r).getD i 0)=some s) {e:Nat} (he:e<s.ends.length):
  Yh8 p r (Xs2 r) i s e (s.ends.getD e (0,0))=Ye2 p r i e (s.ends.getD e (0,0)):=by
 obtain⟨m1,m2⟩:=W5 hs;have hmS:=(Xol hm).2.1;unfold Yh8 Ye2;by_cases h1:i+1=r.path.length
 ·rw[if_pos h1,if_pos h1];by_cases h2:r.ex=0
  ·rw[if_pos h2,if_pos h2];have gd:s.ends.getD e (0,0)=s.ends[e]:=by simp [af,he]
   rw[gd];obtain⟨a,b,hab⟩:∃a b,s.ends[e]=(a,b):=⟨_,_,rfl⟩
   have hj:=(Kk.1 hmS).2.2 s m1 e he;rw[Su he hab] at hj;rw[hab]
   show(a==0)=((a,b)==((0,0):Int×Int))
   by_cases ha:a=0
   ·subst ha;rw[ck,ao] at hj;rcases hj with hj|hj
    ·have hb:b=0:=by omega
     subst hb;rfl
    ·exfalso;cases hg:Qt p.secs 0 with
     |none=>rw[hg] at hj;cases hj
     |some t=>
      obtain⟨t1,t2⟩:=W5 hg;have:=U1.1 (U0 hmS t1).1;omega
   ·have e1:(a==0)=false:=by simp [ha]
    have e2:((a,b)==((0,0):Int×Int))=false:=by
     rw[cv];intro h;have:=eq_of_beq h;simp only[gu] at this;exact ha this.1
    rw[e1,e2]
  ·rw[if_neg h2,if_neg h2];obtain⟨x,x1,x2,x3⟩:=Ygr hm hr h2;rw[x1,<- m2];rw[ar,bq,ad,bq,bq];constructor
   ·intro h;unfold atF at h;cases hf:p.sgs.find? (fun g=>g.2.1==s.id&&g.2.2==(e:Int)) with
    |none=>rw[hf] at h;exact absurd h.symm h2
    |some g=>
     rw[hf] at h;have hg:=Ygs hm (bg hf) x2 (by rw[x3];exact h);have hp:=dg hf;simp only[ad,bq] at hp;rw[<- hg];exact⟨hp.1.symm,hp.2.symm⟩
   ·rintro⟨h3,h4⟩;obtain⟨y1,y2⟩:=Yfr hm hr h2;rw[x1] at y1 y2;unfold stL at y2;rw[if_pos y1] at y2;rw[h3,h4];exact y2
 ·rw[if_neg h1,if_neg h1]
theorem Ygt {p:Pl} (hm:Uf p=true) {r:Rt} (hr:r∈p.rts) {i:Nat} {w:Wk} (hl:w.lost=false) {s:Sec} (hs:Qt p.secs ((Xs2 r).getD i 0)=some s) {e:Nat} (he:e<s.ends.length):
  Xr3 s w (Ye2 p r i) e=Bx p r (Xs2 r) i s w.inn.2 e:=by
 have hsh:=(U0 (Xol hm).2.1 (W5 hs).1).2;unfold Xr3 Bx;rw[Yg4 hm hr hs he,hl,ee];have e1:(Xpj s w.inn.2 e !=0)=decide (Xuv s w.inn.2 e<0):=by
  unfold Xpj;rw[if_pos hsh];by_cases h:Xuv s w.inn.2 e<0
  ·rw[if_pos h,ax h];rfl
  ·rw[if_neg h,ak h];rfl
 rw[e1,Bool.not_or,Bool.not_not]
theorem Ygf {p:Pl} (hm:Uf p=true) {r:Rt} (hr:r∈p.rts) {i:Nat} (hi:i<(Xs2 r).length):∃s,Qt p.secs (Xs2 r)[i]=some s:=by
 obtain⟨_,hmS,_,_,_,_,h7⟩:=Xol hm;have ho:=h7 r hr;unfold okR at ho;cases hg:Xpe p.sgs r.entry with
 |none=>rw[hg] at ho;cases ho
 |some en=>
  rw[hg] at ho;simp only[ad] at ho;have hL:=ho.1.2;rw[Z3] at hL;have:=hL i hi;unfold okL at this;simp only[ad] at this;exact cu.1 this.1.1
theorem V1 {r:Rt} {i:Nat} (hi:i<(Xs2 r).length):(Xs2 r).getD i 0=(Xs2 r)[i]:=by rw[af,ah hi];rfl
theorem Yg5 {p:Pl} (hm:Uf p=true) {r:Rt} (hr:r∈p.rts) {i:Nat} (hi:i<(Xs2 r).length) (hk:i+1=r.path.length∨i+1≠(Xs2 r).length) (h0:(Xom p r i).lost=false) (hin:(Xom p r i).inn.1=(Xs2 r)[i]) {s:Sec} (hs:Qt p.secs (Xs2 r)[i]=some s):
  (Yfs p r (Xs2 r) i s (Xom p r i).inn.2= -1∧(Xom p r (i+1)).lost=true)∨∃e:Nat,e<s.ends.length∧Yfs p r (Xs2 r) i s (Xom p r i).inn.2=e∧(Xom p r (i+1)).lost=false∧(Xom p r (i+1)).inn=s.ends.getD e (0,0)∧
   (Xom p r (i+1)).outs=(Xom p r i).outs++[((Xs2 r)[i],(e:Int))]∧Xqx s (Xom p r i) (Ye2 p r i)=some e:=by
 have gd:=V1 hi;have hs':Qt p.secs ((Xs2 r).getD i 0)=some s:=by rw[gd];exact hs
 have hrun:Xom p r (i+1)=Xxn s (Xom p r i) (Xs2 r)[i] i (Ye2 p r i):=by
  show Xp6 p r (Xom p r i) i= _
  rw[Yfg hk,gd];unfold Xso Xp4;rw[hs];dsimp only;have:((Xom p r i).inn.1 !=(Xs2 r)[i])=false:=by simp [hin]
  rw[this];rfl
 have hok:=fun{e:Nat} (he:e<s.ends.length)=>Ygt hm hr h0 hs' he;rw[hrun];unfold Xxn;cases hf:(List.range s.ends.length).find? (Bx p r (Xs2 r) i s (Xom p r i).inn.2) with
 |none=>
  refine .inl ⟨by unfold Yfs;rw[hf],?_⟩;rw[cx] at hf;have:Xqx s (Xom p r i) (Ye2 p r i)=none:=by
   unfold Xqx;refine Xq5 fun e he=> ?_;rw[hok he];simpa using hf e (dq.2 he)
  rw[this]
 |some e=>
  have he:=hf;rw[ic] at he;obtain⟨e1,e2,e3⟩:=he;have e2':=dq.1 e2;have:Xqx s (Xom p r i) (Ye2 p r i)=some e:=by
   unfold Xqx;refine Xuu e2' (by rw[hok e2'];exact e1) fun j hj=> ?_;rw[hok (by omega)];simpa using e3 j hj
  refine .inr ⟨e,e2',by unfold Yfs;rw[hf],?_⟩;rw[this];obtain⟨l,hkp⟩:=Xoy (Xom p r i) s.pt (Xoq s (Xom p r i).inn.2 e) i;dsimp only;rw[hkp];unfold Xt7;exact⟨h0,rfl,rfl,rfl⟩
theorem Yfh {p:Pl} {r:Rt} {i:Nat} (hi:i<(Xs2 r).length) (h:(Xom p r i).inn.1≠(Xs2 r)[i]):(Xom p r (i+1)).lost=true:=by
 cases hl:(Xom p r (i+1)).lost with
 |true=>rfl
 |false=>
  exfalso;by_cases hk:i+1=r.path.length∨i+1≠(Xs2 r).length
  ·obtain⟨s,e,a,b,_⟩:=Xu4 hl hk;rw[V1 hi] at b;exact h b
  ·have h1:i+1≠r.path.length:=fun e=>hk (.inl e);have h2:i+1=(Xs2 r).length:=dv fun e=>hk (.inr e);obtain⟨s,a,b,_⟩:=Xwd hl h1 h2;rw[V1 hi] at b;exact h b
theorem Yfi {p:Pl} {r:Rt} {i:Nat} (hi:i<(Xs2 r).length) (h1:i+1≠r.path.length) (h2:i+1=(Xs2 r).length) (h0:(Xom p r i).lost=false) (hin:(Xom p r i).inn.1=(Xs2 r)[i]) {s:Sec} (hs:Qt p.secs (Xs2 r)[i]=some s):
  (Xom p r (i+1)).lost=false∧(Xom p r (i+1)).outs=(Xom p r i).outs∧(Xom p r (i+1)).inn=(Xom p r i).inn∧Xom p r (i+1)=if 0<(Xom p r i).inn.2 then Xps (Xom p r i) s.pt (Xom p r i).inn.2 i else Xom p r i:=by
 have hrun:Xom p r (i+1)=if 0<(Xom p r i).inn.2 then Xps (Xom p r i) s.pt (Xom p r i).inn.2 i else Xom p r i:=by
  show Xp6 p r (Xom p r i) i= _
  unfold Xp6;rw[if_neg h1,if_pos (show i+1=(r.path++r.over).length from h2)];have gd:(r.path++r.over).getD i 0=(Xs2 r)[i]:=V1 hi;rw[gd];unfold Xpt Xp4;rw[hs];dsimp only;have:((Xom p r i).inn.1 !=(Xs2 r)[i])=false:=by simp [hin]
  rw[this];simp only[bl,if_false,h0,es,bo,ao,gt_iff_lt]
 refine⟨?_,?_,?_,hrun⟩;all_goals
  rw[hrun];split
  ·obtain⟨l,hkp⟩:=Xoy (Xom p r i) s.pt (Xom p r i).inn.2 i;rw[hkp];try exact h0
  ·first|exact h0|rfl
end Go.Proofs.YtdngdjbgmojcoaaGreat.Pln
namespace Go.Proofs.YtdngdjbgmojcoaaGreat.Pln
set_option linter.all false
set_option maxHeartbeats 16000000
set_option maxRecDepth 4000
open Go Go.VS Tab
attribute [local irreducible] AWp Xp0 Pg X5c Qy Lt Tp FdT Eb
def Yey (p:Pl) (r:Rt) (n:Nat):List Int:=(List.range n).map fun q=>(Xom p r q).inn.2
def L1 (p:Pl) (r:Rt):List Int:=if (Xt6 p r).lost=true then[] else Yey p r (Xs2 r).length
def Y1 (p:Pl) (r:Rt):List Int:=if (Xt6 p r).lost=true then[] else(Xt6 p r).outs.map (fun o=>o.2)++if r.over=[] then[] else[-1]
theorem Yfj (p:Pl) (r:Rt) (n:Nat):Yey p r (n+1)=Yey p r n++[(Xom p r n).inn.2]:=by
 unfold Yey;rw[List.range_succ,aw];rfl
theorem Yer (p:Pl) (r:Rt) (n:Nat):(Yey p r n).length=n:=by unfold Yey;simp
theorem Yg6 {p:Pl} {r:Rt} {i:Nat} (hi:i<=(Xs2 r).length) (h:(Xom p r i).lost=true):(Xt6 p r).lost=true∧L1 p r=[]∧Y1 p r=[]:=by
 have e:(Xt6 p r).lost=true:=by
  cases hl:(Xt6 p r).lost with
  |true=>rfl
  |false=>
   have:=Xry (p:=p) (r:=r) (n:=(Xs2 r).length) hl i hi;rw[h] at this;cases this
 exact⟨e,by unfold L1;rw[if_pos e],by unfold Y1;rw[if_pos e]⟩
theorem Ygg {l:List (Int×Int×Int)} {n:Int} {s:Int×Int×Int} (h:Xpe l n=some s):∃(k:Nat) (hk:k<l.length),idx (fun x=>x.1==n) l=k∧l[k]=s:=by
 rcases Ze (fun x:Int×Int×Int=>x.1==n) l with ⟨z1,z2,z3⟩|⟨k,hk,z1,z2,z3,z4⟩
 ·unfold Xpe at h;rw[z2] at h;cases h
 ·refine⟨k,hk,z1,?_⟩;unfold Xpe at h;rw[z2] at h;simpa using h
theorem Yfk (p:Pl) (hs:Sm p) (hmy:Uf p=true) (r:Rt) (hr:r∈p.rts):Xr Tryz.prog 150 [plA p,rtA r] [] (.tup [X62 (L1 p r),X62 (Y1 p r),bool (!(Xt6 p r).lost)]) []:=by
 obtain⟨hone,en,z1,z2,z3,z4⟩:=Xu2 hmy hr;obtain⟨b1,b2,b3⟩:=hs.rt _ hr;obtain⟨q1,q2,q3⟩:=H2 (Xol hmy).2.1 (Xol hmy).2.2.2.1 z3;obtain⟨s0,hs0⟩:=cu.1 q3;obtain⟨m0,i0⟩:=W5 hs0;obtain⟨u1,u2⟩:=z4 s0 m0 (by simp [i0]);obtain⟨ne,hne⟩:=bj u1;have hnl:ne<s0.ends.length:=by omega
 obtain⟨kE,hkE,cE1,cE2⟩:=Ygg z1;obtain⟨k0,hk0,cA1,cA2⟩:=Yg3 hs0;have cSA:=Vj p.sgs r.entry (by have:=hs.sgs;omega);rw[cE1] at cSA;have cA0:=X39 p.secs en.2.1 (by have:=hs.secs;omega);rw[cA1] at cA0;have gSg:=Xg sgC p.sgs kE [] hkE;rw[cE2] at gSg;have g0:=Xg Y6 p.secs k0 [] hk0;rw[cA2] at g0;have gn:=Xg jnC s0.ends ne [] hnl;have hpne:r.path≠[]:=by intro h;rw[h] at hone;simp at hone
 have cS:=Bu r hpne (by omega) (by omega);have hJ0:(Xom p r 0).inn=s0.ends[ne]:=by
  show Xwg p.secs (Xl0 p.sgs r.entry)= _
  rw[z2,Ygx (Xol hmy).2.1 m0 i0,hne];simp [af,hnl]
 have hAll:r.path++r.over=Xs2 r:=rfl;rw[hAll] at cS;have h00:(Xom p r 0).lost=false:=rfl;have hsecs:=fun{i:Nat} (hi:i<(Xs2 r).length)=>Ygf hmy hr hi;have hstep:=fun{i:Nat} (hi:i<(Xs2 r).length) hk h0 hin {s:Sec} hs=>Yg5 hmy hr (i:=i) hi hk h0 hin (s:=s) hs;have hover:=fun{i:Nat} (hi:i<(Xs2 r).length) h1 h2 h0 hin {s:Sec} hs=>Yfi (p:=p) (r:=r) (i:=i) hi h1 h2 h0 hin (s:=s) hs;have hlost:=fun{i:Nat} (hi:i<(Xs2 r).length) h=>Yfh (p:=p) (r:=r) (i:=i) hi h;have hend:=fun{i:Nat} (hi:i<=(Xs2 r).length) h=>Yg6 (p:=p) (r:=r) (i:=i) hi h;have hEW:Xt6 p r=Xom p r (Xs2 r).length:=rfl;have hEI:(Xt6 p r).lost=false->L1 p r=Yey p r (Xs2 r).length:=fun h=>by unfold L1;rw[h,if_neg (by decide)]
 have hEO:(Xt6 p r).lost=false->Y1 p r=(Xt6 p r).outs.map (fun o=>o.2)++if r.over=[] then[] else[-1]:=fun h=>by unfold Y1;rw[h,if_neg (by decide)]
 have cX:=fun(i:Nat) (hi:i<(Xs2 r).length) hnx (s:Sec) hsec (inn:Int)=>Yh9 p hs r (by omega) (Xs2 r) (by rw[show(Xs2 r).length=r.path.length+r.over.length from ac];omega) i hi hnx s hsec inn;simp only[plA,plC,rtA,rtC] at cX;obtain⟨L,hL⟩:∃L,L=Xs2 r:=⟨_,rfl⟩
 rw[<- hL] at cS hEW hEI;simp only[<- hL] at hsecs hstep hover hlost hend cX;have hLl:L.length=r.path.length+r.over.length:=by rw[hL];exact ac
 obtain⟨QF,hQF⟩:∃QF:Nat->Prop,QF=fun i=>(Xom p r i).lost=false∧(i=L.length->r.over=[]):=⟨_,rfl⟩
 have hQ0:QF 0:=by rw[hQF];exact⟨rfl,fun h=>by omega⟩
 have hw1:IntKind.i64.wrap ((L.length:Int) - 1)=((L.length - 1:Nat):Int):=X25 (n:=L.length) 1 1 rfl (by omega) (by omega);simp only[rtA,rtC] at cS;refine Xc 6 Tryz.func150 rfl fun n out _ _=> ?_;simp only[sn,Tryz.ntmps150,simprocAttr];repeat' (first|refine Vk fun K hK=> ?_|apply V0|refine Vd 1 [] [[],[0],[],[0],[],[1],[],[],[],[2],[2]] [[],[],[],[],[],[],[],[],[],[2],[2]] (by kernel_rfl) (by decide) (by decide) (by kernel_rfl) ?_|refine Vd 2 [] [[],[0],[],[0],[],[2],[],[],[],[],[],[2],[],[],[3],[3]] [[],[],[],[],[],[],[],[],[],[],[],[],[],[],[3],[3]] (by kernel_rfl) (by decide) (by decide) (by kernel_rfl) ?_|((first|apply gE|apply gR|apply gD|apply gF);simp only[zA,simprocAttr,plA,plC,rtA,rtC,sgC,Y6,jnC,X0,gSg,hkE,g0,hk0,gn,hnl,hne])|(refine X3 (cSA) ?_)|(refine X3 (cA0) ?_)|(refine X3 (cS) ?_)|(refine hK _ ?_;clear hK K))
 refine Yy (Q9 (i:=4) 3 1 rfl) ?_;refine Yy (Q9 (i:=5) 3 1 rfl) ?_;simp only[s_0,s_s];have hI0:Yey p r 0=[]:=rfl;have hO0:(Xom p r 0).outs=[]:=rfl;apply V5;refine Xpw (L.length) (fun i=>QF i) (fun m i=>tp [4,5,6,13] (tr 39 61 [(12,i64 (i:Int)),(9,X62 L),(10,.sl 1 ((Yey p r i).map Ym) (.own (m+4))),(11,.sl 1 (((Xom p r i).outs.map fun o=>o.2).map Ym) (.own (m+5))),(2,.ptr (m+0) 0),(3,.ptr (m+1) 0),(8,.ptr (m+3) 0)])) (fun m i=>[some (.box 28 (plC p)),some (.box 82 (rtC r)),some (.box 92 (sgC en)),some (.box 138 (jnC (Xom p r i).inn)),some (.row 3 1 (Yey p r i).length),some (.row 3 1 (Xom p r i).outs.length)]) (by assumption) ?_ fun m i hm hi=> ?_
 ·refine X2 ?_ ?_ (by first|rfl|(simp only[plC,rtC,sgC,jnC,hJ0,hI0,hO0,hne,ag,List.length_nil];rfl)|simp only[plC,rtC,sgC,jnC,hJ0,hI0,hO0,hne,ag,List.length_nil]) rfl rfl rfl<;>simp only[sL,plC,rtC,sgC,jnC,hJ0,hI0,hO0,hne,ag,List.length_nil]
 obtain⟨hi,hq⟩:=hi;simp only[pt];have hw:=Yl (n:=i) 1 1 rfl (by omega);by_cases hlt:i<L.length
 ·have gi:=Xg Ym L i [] hlt;have hq':=hq;rw[hQF] at hq';obtain⟨hl0,_⟩:=hq';obtain⟨s,hsec⟩:=hsecs hlt;obtain⟨k,hk,cB1,cB2⟩:=Yg3 hsec;have cAi:=X39 p.secs L[i] (by have:=hs.secs;omega);rw[cB1] at cAi;have gk:=Xg Y6 p.secs k [] hk;rw[cB2] at gk;have hI1:=Yfj p r i;have y1:(i+1)*8<=140737488355328:=by omega
  have y2:i<=9223372036854775806:=by omega
  have hIl:=Yer p r i;have hOl:(Xom p r i).outs.length<=i:=(Xrw p r i).2;have y3:((Xom p r i).outs.length+1)*8<=140737488355328:=by omega
  have y4:(Xom p r i).outs.length<=9223372036854775806:=by omega
  by_cases hin:(Xom p r i).inn.1=L[i]
  ·have f1:((Xom p r i).inn.1 !=L[i])=false:=by simp [hin]
   by_cases hov:i+1=L.length∧r.over≠[]
   ·have hol:0<r.over.length:=eh.2 hov.2;obtain⟨x1,x2,x3,_⟩:=hover hlt (by omega) hov.1 hl0 hin hsec;have hEn:Xt6 p r=Xom p r (i+1):=by rw[hEW,hov.1]
    have eL:(Xt6 p r).lost=false:=by rw[hEn];exact x1
    have eI:=hEI eL;have eO:=hEO eL;rw[<- hov.1,hI1] at eI;rw[hEn,x2,if_neg hov.2] at eO;have d1:((i:Int)==((L.length - 1:Nat):Int))=true:=by simp;omega
    have d2:decide ((r.over.length:Int)>0)=true:=ax (by omega);generalize L1 p r=EI at*;generalize Y1 p r=EO at*;generalize (Xt6 p r).lost=EL at*;subst eI eO eL;repeat' (first|refine Vk fun K hK=> ?_|apply V0|apply Vb|apply Vs|refine Vq (by kernel_rfl) ?_|((first|apply gE);simp only[zA,simprocAttr,Xi hm,plC,rtC,jnC,Ym,hlt,gi,f1,hw1,d1,d2,hIl,y1,y2,y3,y4])|(apply Vz;refine Zv (.inr rfl) rfl rfl rfl (fun _ _=>rfl) rfl rfl rfl ?_ ?_ ?_<;>first|rfl|(exact AV.le.rfl _)|(simp only[sL,Ym,aw,bk,ag];done)|rfl|skip)|(refine hK _ ?_;clear hK K)|refine Vt rfl ?_|refine Vf rfl ?_)
   ·have hk':i+1=r.path.length∨i+1≠L.length:=by
     by_cases h:i+1=L.length
     ·refine .inl ?_;have:r.over=[]:=dv fun h'=>hov ⟨h,h'⟩;rw[this] at hLl;simp at hLl;omega
     ·exact .inr h
    have cO:=cX i hlt (by omega) s hsec (Xom p r i).inn.2;have hnov:i+1=L.length->r.over=[]:=fun h=>dv fun h'=>hov ⟨h,h'⟩;have d3:((i:Int)==((L.length - 1:Nat):Int))=true->decide ((r.over.length:Int)>0)=false:=fun h=>by
     have:i+1=L.length:=by simp at h;omega
     rw[hnov this];rfl
    rcases hstep hlt hk' hl0 hin hsec with ⟨x1,x2⟩|⟨e,x0,x1,x2,x3,x4,_⟩
    ·rw[x1] at cO;obtain⟨eL,eI,eO⟩:=hend (show i+1<=L.length by omega) x2;generalize L1 p r=EI at*;generalize Y1 p r=EO at*;generalize (Xt6 p r).lost=EL at*;subst eI eO eL;cases hdd:((i:Int)==((L.length - 1:Nat):Int)) with
     |true=>
      have d4:=d3 hdd;repeat' (first|refine Vk fun K hK=> ?_|apply V0|apply Vb|apply Vs|refine Vq (by kernel_rfl) ?_|((first|apply gE|apply gR);simp only[zA,simprocAttr,Xi hm,plC,rtC,jnC,Ym,hlt,gi,f1,hw1,hdd,d4,hIl,y1,y2,X62,Int.reduceNeg])|(apply Vz;refine Zv (.inr rfl) rfl rfl rfl (fun _ _=>rfl) rfl rfl rfl ?_ ?_ ?_<;>first|rfl|(exact AV.le.rfl _)|(simp only[sL,ag,X62,Int.reduceNeg];done)|rfl|skip)|(refine X3 (cO) ?_)|(refine hK _ ?_;clear hK K)|refine Vt rfl ?_|refine Vf rfl ?_)
     |false=>
      repeat' (first|refine Vk fun K hK=> ?_|apply V0|apply Vb|apply Vs|refine Vq (by kernel_rfl) ?_|((first|apply gE|apply gR);simp only[zA,simprocAttr,Xi hm,plC,rtC,jnC,Ym,hlt,gi,f1,hw1,hdd,hIl,y1,y2,X62,Int.reduceNeg])|(apply Vz;refine Zv (.inr rfl) rfl rfl rfl (fun _ _=>rfl) rfl rfl rfl ?_ ?_ ?_<;>first|rfl|(exact AV.le.rfl _)|(simp only[sL,ag,X62,Int.reduceNeg];done)|rfl|skip)|(refine X3 (cO) ?_)|(refine hK _ ?_;clear hK K)|refine Vt rfl ?_|refine Vf rfl ?_)
    ·rw[x1] at cO;have hQ1:QF (i+1):=by rw[hQF];exact⟨x2,hnov⟩
     have ge:=Xg jnC s.ends e [] x0;have gd:s.ends.getD e (0,0)=s.ends[e]:=by simp [af,x0]
     rw[gd] at x3;have he0:decide ((e:Int)<0)=false:=ak (by omega);cases hdd:((i:Int)==((L.length - 1:Nat):Int)) with
     |true=>
      have d4:=d3 hdd;repeat' (first|refine Vk fun K hK=> ?_|apply V0|apply Vb|apply Vs|refine Vd 18 [] [[],[0],[],[0],[],[],[],[],[],[],[],[],[],[],[],[3]] [[],[],[],[],[],[],[],[],[],[],[],[],[],[],[],[3]] (by kernel_rfl) (by decide) (by decide) (by kernel_rfl) ?_|refine Vq (by kernel_rfl) ?_|((first|apply gE|apply gR|apply gD|apply gF);simp only[zA,simprocAttr,Xi hm,plC,rtC,jnC,Y6,Ym,hlt,gi,X0,f1,hw1,hdd,d4,hIl,y1,y2,y3,y4,he0,hk,gk,x0,ge,hw])|(refine X3 (cO) ?_)|(refine X3 (cAi) ?_)|(refine hK _ ?_;clear hK K)|refine Vt rfl ?_|refine Vf rfl ?_|clear hK K)
      refine⟨i+1,⟨by omega,hQ1⟩,by omega,?_⟩;simp only[hI1,x3,x4,ac,hIl];refine Xx [true,true,true,true,true,true] ?_ ?_<;>intro n_<;>simp only[sM,sgC,Ym,aw,bk,ag,List.length_cons,List.length_nil,Nat.zero_add]
     |false=>
      repeat' (first|refine Vk fun K hK=> ?_|apply V0|apply Vb|apply Vs|refine Vd 18 [] [[],[0],[],[0],[],[],[],[],[],[],[],[],[],[],[],[3]] [[],[],[],[],[],[],[],[],[],[],[],[],[],[],[],[3]] (by kernel_rfl) (by decide) (by decide) (by kernel_rfl) ?_|refine Vq (by kernel_rfl) ?_|((first|apply gE|apply gR|apply gD|apply gF);simp only[zA,simprocAttr,Xi hm,plC,rtC,jnC,Y6,Ym,hlt,gi,X0,f1,hw1,hdd,hIl,y1,y2,y3,y4,he0,hk,gk,x0,ge,hw])|(refine X3 (cO) ?_)|(refine X3 (cAi) ?_)|(refine hK _ ?_;clear hK K)|refine Vt rfl ?_|refine Vf rfl ?_|clear hK K)
      refine⟨i+1,⟨by omega,hQ1⟩,by omega,?_⟩;simp only[hI1,x3,x4,ac,hIl];refine Xx [true,true,true,true,true,true] ?_ ?_<;>intro n_<;>simp only[sM,sgC,Ym,aw,bk,ag,List.length_cons,List.length_nil,Nat.zero_add]
  ·have f1:((Xom p r i).inn.1 !=L[i])=true:=by simpa using hin
   obtain⟨eL,eI,eO⟩:=hend (show i+1<=L.length by omega) (hlost hlt hin);generalize L1 p r=EI at*;generalize Y1 p r=EO at*;generalize (Xt6 p r).lost=EL at*;subst eI eO eL;repeat' (first|refine Vk fun K hK=> ?_|apply V0|apply Vb|apply Vs|refine Vq (by kernel_rfl) ?_|((first|apply gE);simp only[zA,simprocAttr,Xi hm,plC,rtC,jnC,Ym,hlt,gi,f1,X62])|(apply Vz;refine Zv (.inr rfl) rfl rfl rfl (fun _ _=>rfl) rfl rfl rfl ?_ ?_ ?_<;>first|rfl|(exact AV.le.rfl _)|(simp only[sL,ag,X62];done)|rfl|skip)|(refine hK _ ?_;clear hK K)|refine Vt rfl ?_)
 ·obtain rfl:i=L.length:=by omega
  rw[hQF] at hq;obtain⟨hl0,hov⟩:=hq;have eL:(Xt6 p r).lost=false:=by rw[hEW];exact hl0
  have eI:=hEI eL;have eO:=hEO eL;rw[if_pos (hov rfl),a9,hEW] at eO;generalize L1 p r=EI at*;generalize Y1 p r=EO at*;generalize (Xt6 p r).lost=EL at*;subst eI eO eL;repeat' (first|refine Vk fun K hK=> ?_|apply V0|((first|apply gE);simp only[zA,simprocAttr,hlt])|(apply Vz;refine Zv (.inr rfl) rfl rfl rfl (fun _ _=>rfl) rfl rfl rfl ?_ ?_ ?_<;>first|rfl|(exact AV.le.rfl _)|(simp only[sL];done)|rfl|skip)|(apply Vx;simp only[sb])|(refine hK _ ?_;clear hK K)|refine Vf rfl ?_|clear hK K)
end Go.Proofs.YtdngdjbgmojcoaaGreat.Pln
