/- The layer of abstract values, joined. -/
import Derived.Test.YtgpdghbmiihfbaaGreatZP5
import Derived.Test.YtgpdghbmiihfbaaGreatZE10
import Derived.Test.YtgpdghbmiihfbaaGreatZD5
import Derived.Test.YtgpdghbmiihfbaaGreatZQ5
import Derived.Test.YtgpdghbmiihfbaaGreatZVsBrk
import Derived.Test.YtgpdghbmiihfbaaGreatZQ8
import Derived.Test.YtgpdghbmiihfbaaGreatZE1
import Derived.Test.YtgpdghbmiihfbaaGreatZKA
import Derived.KernelRfl
import Derived.Test.YtgpdghbmiihfbaaGreatZQE
import Derived.Test.YtgpdghbmiihfbaaGreatZP49
import Derived.Test.YtgpdghbmiihfbaaGreatZW14
namespace Go.Proofs.YtgpdghbmiihfbaaGreat
set_option linter.all false
set_option maxHeartbeats 16000000
set_option maxRecDepth 8000
open Go Go.VS Tab
attribute [local irreducible] AWp Xp0 Pg X5c Qy Lt Tp FdT Eb
theorem Yb0 (x:BitVec 64):x&&& ~~~ (1:BitVec 64)=(x>>>1)<<<1:=by
 refine iy fun i hi=> ?_;simp only[BitVec.getLsbD_and,BitVec.getLsbD_not,ir,ik]
 match i,hi with
 |0,_=>simp
 |i+1,hi=>
  have e:(1:BitVec 64).getLsbD (i+1)=false:=by
   show(1#64).getLsbD (i+1)=false
   rw[BitVec.getLsbD_one];simp
  simp [e,hi,Nat.add_comm]
theorem Yaa (y:Nat) (h:y<18446744073709551616):Zr .andNot .u64 (y:Int) 1=some (.int .u64 ((y / 2*2:Nat):Int)):=by
 show some (Value.int .u64 (IntKind.u64.wrap (((BitVec.ofInt 64 (y:Int)&&& ~~~ BitVec.ofInt 64 1).toNat:Nat):Int)))= _
 rw[V3,show BitVec.ofInt 64 1=(1:BitVec 64) from rfl,Yb0]
 congr 2
 have e:((BitVec.ofNat 64 y>>>1)<<<1).toNat=y / 2*2:=by
  rw[BitVec.toNat_shiftLeft,gx,da,fi h,Nat.shiftLeft_eq,f8];omega
 rw[e,X1m (by omega) (by omega)]
theorem Y5m (n g:Nat):Y44 n g<=max g (n+2):=by unfold Y44;split<;>omega
theorem Y6u (d:Dsk) (s g:Nat) (h:g<=4294967297):∀i,Y6r d s g i<=4294967297
 |0=>h
 |i+1=>by
  have ih:=Y6u d s g h i;have h1:=Y5m (Y8n (Xkr d ((s+i:Nat):Int))).toNat (Y6r d s g i);have h2:=Y5m (Ya0 (Xkr d ((s+i:Nat):Int))).toNat (Y44 (Y8n (Xkr d ((s+i:Nat):Int))).toNat (Y6r d s g i));have h3:=(Y8n (Xkr d ((s+i:Nat):Int))).isLt;have h4:=(Ya0 (Xkr d ((s+i:Nat):Int))).isLt
  show Y44 _ (Y44 _ _)<= _
  omega
abbrev u64 (x:Nat):AV:= .val (.int .u64 (x:Int))
theorem Y5z (d:Dsk) (g:BitVec 32) (h1:d.sectors.length<=1000) (h2:d.waits.length<=1000):Xr Tryz.prog 22 [Y3p d,w32 g] [] (.tup [w32 (X7s d g),i64 (nextE d g)]) []:=by
 have cc:=Xjg d h1 h2;have cr:=fun(i:Nat)=>Xea d (i:Int) h1 h2
 simp only[Y3p,Xha] at cc cr;cases hmd:may d with
 |false=>
  have hE:nextE d g=8:=by unfold nextE;rw[hmd];rfl
  have hW:X7s d g=0:=by unfold X7s;rw[hE,if_neg (by decide)]
  rw[hE,hW];rw[hmd] at cc;simp only[bf,if_false] at cc;refine Xc 1 Tryz.func22 rfl fun n out _ _=> ?_;simp only[sn,Tryz.ntmps22,simprocAttr];repeat' (first|refine Vk fun K hK=> ?_|apply V0|((first|apply gE|apply gR);simp only[zA,simprocAttr,Y3p,Xha])|(apply Vz;refine Vp rfl rfl rfl (fun _ _=>rfl) ?_ ?_<;>first|rfl|skip)|(refine X3 (cc) ?_)|(refine hK _ ?_;clear hK K)|refine Vt rfl ?_)
 |true=>
  rw[hmd] at cc;simp only[if_true] at cc;have hgl:=g.isLt;have hs:=Y50 (g+1);have csl:=Y8s (g+1);have q1:IntKind.u64.wrap (g.toNat:Int)=(g.toNat:Int):=X1m (by omega) (by omega);have q2:IntKind.u64.wrap ((g.toNat:Int)+1)=((g.toNat+1:Nat):Int):=by rw[X1m (by omega) (by omega)];rfl
  have q3:IntKind.u32.wrap ((g.toNat:Int)+1)=((g+1).toNat:Int):=Xb5 g 1;obtain⟨s,hss⟩:∃s,s=Y3q (g+1):=⟨_,rfl⟩
  obtain⟨X,hX⟩:∃X:Nat->Nat,X=Y6r d s (g.toNat+1):=⟨_,rfl⟩
  have hX0:X 0=g.toNat+1:=by rw[hX];rfl
  have hXS:∀i,X (i+1)=Y44 (Ya0 (Xkr d ((s+i:Nat):Int))).toNat (Y44 (Y8n (Xkr d ((s+i:Nat):Int))).toNat (X i)):=fun i=>by rw[hX];rfl
  have hXm:∀i,X i<=4294967297:=fun i=>by rw[hX];exact Y6u d s _ (by omega) i
  have hN:Y68 d g=X 16:=by rw[hX,hss];rfl
  rw[<- hss] at csl;clear hX;refine Xc 1 Tryz.func22 rfl fun n out _ _=> ?_;simp only[sn,Tryz.ntmps22,simprocAttr];repeat' (first|refine Vk fun K hK=> ?_|apply V0|apply Vs|((first|apply gE|apply gR);simp only[zA,simprocAttr,Y3p,Xha,q1,q2,q3])|(refine X3 (cc) ?_)|(refine X3 (csl) ?_)|(refine hK _ ?_;clear hK K)|refine Vf rfl ?_)
  apply V5;refine Xwm (16) (fun i=>tp [9,10,11,13] (tr 26 36 [(7,u64 (X i)),(25,i64 (i:Int))])) (fun i=>[some (.box 39 (Xha d))]) ?_ fun i hi=> ?_
  ·refine X2 ?_ ?_ (by first|rfl|(simp only[Xha,hX0];rfl)|simp only[Xha,hX0]) rfl rfl rfl<;>simp only[sL,Xha,hX0]
  simp only[pt];have hw:=Yl (n:=i) 1 1 rfl (by omega);by_cases hlt:i<16
  ·have hlt':(i:Int)<16:=by omega
   have hws:=Yl (n:=s) (i:Int) i rfl (by omega);have c1:=cr (s+i);rw[Xju.2 ⟨hmd,by omega,by omega⟩] at c1;have lb:(Xkr d ((s+i:Nat):Int)).length=128:=Y7i hmd (by omega);have hXi:=hXS i;obtain⟨B,hB⟩:∃B,B=Xkr d ((s+i:Nat):Int):=⟨_,rfl⟩
   rw[<- hB] at c1 lb hXi;have c2:=Ya2 (B.take 4) .sh (by rw[aj];omega);have c3:=Ya2 (B.drop 124) .sh (by rw[bu];omega);have t124:List.take (128 - 124) (List.drop 124 B)=B.drop 124:=bo (by rw[bu];omega);have lit:∀(σ:AState) (K:AV->List (Nat×Res)->Prop),X1 tab σ K none 106 2 [(0,w32 (Y55 (B.take 4))),(1,w32 (Y55 (B.drop 124)))]=K (.sl 1 [[w32 (Y55 (B.take 4))],[w32 (Y55 (B.drop 124))]] .full) []:=fun σ K=>Te (T:=tab) (ti:=ti106) (te:=ti40) rfl rfl rfl rfl rfl rfl;repeat' (first|refine Vk fun K hK=> ?_|apply V0|apply Vb|apply Vs|refine Vq (by kernel_rfl) ?_|((first|apply gE|apply gR);simp only[zB,simprocAttr,lit,Xha,hlt',hws,X5,lb,P6,Nh,Q2,Q1,Nat.sub_zero,Int.reduceToNat,t124])|(refine X3 (c1) ?_)|(refine X3 (c2) ?_)|(refine X3 (c3) ?_)|(refine hK _ ?_;clear hK K)|refine Vt rfl ?_)
   obtain⟨H,hH⟩:∃H,H=Y55 (B.take 4):=⟨_,rfl⟩
   obtain⟨T,hT⟩:∃T,T=Y55 (B.drop 124):=⟨_,rfl⟩
   rw[<- hH,<- hT];have hX2:X (i+1)=Y44 T.toNat (Y44 H.toNat (X i)):=by rw[hXi,hH,hT];rfl
   obtain⟨Y,hY⟩:∃Y:Nat->Nat,Y=fun j=>if j=0 then X i else if j=1 then Y44 H.toNat (X i) else Y44 T.toNat (Y44 H.toNat (X i)):=⟨_,rfl⟩
   have Y0:Y 0=X i:=by rw[hY];rfl
   have Y1:Y 1=Y44 H.toNat (Y 0):=by rw[hY];rfl
   have Y2:Y 2=Y44 T.toNat (Y 1):=by rw[hY];rfl
   have Y2':Y 2=X (i+1):=by rw[hX2,hY];rfl
   have hYm:∀j,j<2->Y j<=4294967297:=fun j hj=>by
    have:=hXm i;have:=Y5m H.toNat (Y 0);have:=H.isLt;rcases(show j=0∨j=1 by omega) with rfl|rfl<;>omega
   clear hY;rw[<- Y0];apply V5;refine Xwm (2) (fun j=>tp [13] (tr 45 16 [(7,u64 (Y j)),(44,i64 (j:Int))])) (fun j=>[some (.box 39 (Xha d))]) ?_ fun j hj=> ?_
   ·refine X2 ?_ ?_ (by first|rfl|(simp only[Xha];rfl)|simp only[Xha]) rfl rfl rfl<;>simp only[sL,Xha]
   simp only[pt];have hwj:=Yl (n:=j) 1 1 rfl (by omega);by_cases hj2:j<2
   ·have hj2':(j:Int)<2:=by omega
    obtain⟨N,gN,hNS,hNl⟩:∃N:BitVec 32,([[w32 H],[w32 T]]:List (List AV)).getD j []=[w32 N]∧Y (j+1)=Y44 N.toNat (Y j)∧N.toNat<4294967296:=by
     rcases(show j=0∨j=1 by omega) with rfl|rfl
     ·exact⟨H,rfl,Y1,H.isLt⟩
     ·exact⟨T,rfl,Y2,T.isLt⟩
    have hYj:=hYm j hj2;have r1:IntKind.u64.wrap (N.toNat:Int)=(N.toNat:Int):=X1m (by omega) (by omega);by_cases hge:Y j<=N.toNat
    ·have hS:Y (j+1)=Y j+(N.toNat - Y j+2) / 2*2:=by rw[hNS];unfold Y44;rw[if_pos hge]
     have r2:IntKind.u64.wrap ((N.toNat:Int) - (Y j:Int))=((N.toNat - Y j:Nat):Int):=by rw[X1m (by omega) (by omega)];omega
     have r3:IntKind.u64.wrap (((N.toNat - Y j:Nat):Int)+2)=((N.toNat - Y j+2:Nat):Int):=by rw[X1m (by omega) (by omega)];rfl
     have r4:=Yaa (N.toNat - Y j+2) (by omega);have r5:IntKind.u64.wrap ((Y j:Int)+(((N.toNat - Y j+2) / 2*2:Nat):Int))=(Y (j+1):Int):=by rw[hS,X1m (by omega) (by omega)];omega
     repeat' (first|refine Vk fun K hK=> ?_|apply V0|apply Vb|apply Vs|(apply gE;simp only[zA,simprocAttr,Xha,hj2',hj2,hwj,gN,r1,r2,r3,r4,r5,hge,ge_iff_le,Int.ofNat_le])|(refine hK _ ?_;clear hK K)|refine Vt rfl ?_|clear hK K)
     refine⟨j+1,by omega,by omega,?_⟩;refine La rfl ?_ ?_<;>simp only[sL]
    ·have hS:Y (j+1)=Y j:=by rw[hNS];unfold Y44;rw[if_neg hge]
     repeat' (first|refine Vk fun K hK=> ?_|apply V0|apply Vb|apply Vs|(apply gE;simp only[zA,simprocAttr,Xha,hj2',hj2,hwj,gN,r1,hge,ge_iff_le,Int.ofNat_le])|(refine hK _ ?_;clear hK K)|refine Vt rfl ?_|refine Vf rfl ?_|clear hK K)
     rw[<- hS];refine⟨j+1,by omega,by omega,?_⟩;refine La rfl ?_ ?_<;>simp only[sL]
   ·obtain rfl:j=2:=by omega
    repeat' (first|refine Vk fun K hK=> ?_|apply V0|(apply gE;simp only[zA,simprocAttr,Xha,hw])|(apply Vx;simp only[sb,Nat.reduceEqDiff])|(refine hK _ ?_;clear hK K)|refine Vf rfl ?_|clear hK K)
    rw[Y2'];refine⟨i+1,by omega,by omega,?_⟩;refine La rfl ?_ ?_<;>simp only[sL]
  ·obtain rfl:i=16:=by omega
   have hE:nextE d g=if 4294967295<X 16 then 9 else 0:=by unfold nextE;rw[hmd,if_pos rfl,hN]
   have hW:X7s d g=if nextE d g=0 then BitVec.ofNat 32 (X 16) else 0:=by unfold X7s;rw[hN]
   by_cases hbig:4294967295<X 16
   ·rw[if_pos hbig] at hE;rw[hE,if_neg (by decide)] at hW;have hbI:(4294967295:Int)<(X 16:Int):=by omega
    have hbG:decide ((X 16:Int)>4294967295)=true:=ay hbI;repeat' (first|refine Vk fun K hK=> ?_|apply V0|(apply gE;simp only[zA,simprocAttr,Xha,hbI])|(apply Vz;refine Vp rfl rfl rfl (fun _ _=>rfl) ?_ ?_<;>first|rfl|skip)|(apply Vx;simp only[sb])|(refine hK _ ?_;clear hK K)|refine Vt rfl ?_|refine Vf rfl ?_|clear hK K)
    ·rw[hW];rfl
    ·rw[hE];rfl
   ·rw[if_neg hbig] at hE;rw[hE,if_pos rfl] at hW;have r6:IntKind.u32.wrap (X 16:Int)=((BitVec.ofNat 32 (X 16)).toNat:Int):=by rw[Xar,da];omega
    have hbI:¬(4294967295:Int)<(X 16:Int):=by omega
    have hbG:decide ((X 16:Int)>4294967295)=false:=aq hbI;repeat' (first|refine Vk fun K hK=> ?_|apply V0|apply Vs|(apply gE;simp only[zA,simprocAttr,Xha,hbI,r6])|(apply Vz;refine Vp rfl rfl rfl (fun _ _=>rfl) ?_ ?_<;>first|rfl|skip)|(apply Vx;simp only[sb])|(refine hK _ ?_;clear hK K)|refine Vf rfl ?_|clear hK K)
    ·rw[hW];rfl
    ·rw[hE];rfl
end Go.Proofs.YtgpdghbmiihfbaaGreat
namespace Go.Proofs.YtgpdghbmiihfbaaGreat.Pln
set_option linter.all false
set_option maxHeartbeats 1000000
open Go Go.VS
structure Bx where
 house:Hs
 disk:Dsk
 gen:BitVec 32
def Y4r:Bx:=⟨Xtd,Xhm,0⟩
def Y4s (b:Bx):Bool:=Y6l b.house&&(!b.house.halt&&(may b.disk&&b.disk.waits.isEmpty))
def Y7s (b:Bx):Rc:=⟨X7s b.disk b.gen,Xp7 b.house⟩
def Y43 (b:Bx):Int:=if Y4s b then YtgpdghbmiihfbaaGreat.nextE b.disk b.gen else 8
def Y3o (b:Bx):Bx:=if Y43 b=0 then⟨b.house,Xic (Y4e b.disk (Y7s b)),X7s b.disk b.gen⟩ else Y4r
structure RdyB (b:Bx):Prop where
 stg:Y6l b.house=true
 halt:b.house.halt=false
 may:may b.disk=true
 waits:b.disk.waits=[]
theorem Y42 {b:Bx}:Y4s b=true↔RdyB b:=by
 unfold Y4s;simp only[ag,dv,jd];exact⟨fun⟨h1,h2,h3,h4⟩=>⟨h1,h2,h3,h4⟩,fun h=>⟨h.1,h.2,h.3,h.4⟩⟩
theorem Y6b {h:Hs} (hs:Y6l h=true) (hh:h.halt=false):Y6h h=true:=by
 unfold Y6l at hs;rw[hh] at hs;simp only[bf,if_false,ag] at hs;exact hs.2
theorem Y52 {h:Hs} (hh:h.halt=false) (hl:Y6h h=true):Xo9 h=true:=by
 unfold Y6h at hl;simp only[ag,cv,am] at hl;obtain⟨_,_,h1,h2,_,h3,h4,_⟩:=hl;refine Xor.2 ⟨hh,?_,⟨h1,h2⟩,h3⟩;unfold Xy6 at h4;simpa using h4
theorem Y7t {d:Dsk} (hm:may d=true) (hw:d.waits=[]) {g:BitVec 32} (hg:g≠0) {h:Hs} (hc:Xo9 h=true):Y4o d ⟨g,Xp7 h⟩=0:=by
 have h1:=Xsq hc;have h2:=Y48 (r:=⟨g,Xp7 h⟩) (by show(Xp7 h).length<=1882;omega);exact Y5h.2 ⟨hm,hg,by show(Xp7 h).length<=1882;omega,by rw[hw];simp;omega⟩
theorem Y6v {d:Dsk} {g:BitVec 32} (h:YtgpdghbmiihfbaaGreat.nextE d g=0):X7s d g≠0:=fun h0=>by
 have:=Y8p h;rw[h0] at this;exact absurd this (by simp)
def Y3k (h:Hs) (key:List UInt8):Hs:=⟨key,h.plan,h.back,h.high,h.st,h.buf,h.next,h.halt⟩
def Y3w (key:List UInt8):Hs:=⟨key,Aq,Aq,0,Y2v,[],Aq,true⟩
def Y3y (d:Dsk) (key:List UInt8):Int:=if key.length<1∨64<key.length then 3 else if may d=true∧d.waits=[] then 0 else 8
def Y53 (key:List UInt8) (d:Dsk):List Rc->Bx
 |[]=>⟨Y3w key,d,0⟩
 |r::l=>if Xod r.text then⟨Y3k (Xof r.text) key,d,r.gen⟩ else Y53 key d l
def Y3u (d:Dsk) (key:List UInt8):Bx:=if Y3y d key=0 then Y53 key d (Y3s d) else Y4r
theorem Y5n {b:List UInt8} (h:Xod b=true):Xrr (Xof b)=Xof b:=by
 obtain⟨h1,h2⟩:=Xwt h;have h3:=(Xpk h1).2;rw[h2] at h3;exact h3.symm
theorem Y6c {b:List UInt8} (h:Xod b=true) {key:List UInt8} (h1:1<=key.length) (h2:key.length<=64):Y6l (Y3k (Xof b) key)=true∧(Y3k (Xof b) key).halt=false:=by
 obtain⟨c1,c2⟩:=Xwt h;obtain⟨k1,k2,k3,k4⟩:=Xor.1 c1;have kl:=Y5n h;have e1:(Xof b).buf=[]:=by rw[<- kl];rfl
 have e2:(Xof b).next=Aq:=by rw[<- kl];rfl
 refine⟨?_,k1⟩;unfold Y6l Y6h Y3k;dsimp only;rw[k1,e1,e2];have s1:=(Xp8 k4).1;simp only[bf,if_false,ag,cv,am];refine⟨by omega,by omega,s1,k3.1,k3.2,by simp,k4,?_,rfl⟩;unfold Xy6;simpa using k2
theorem Y6d {d:Dsk} (hm:may d=true):may (Xic d)=true∧(Xic d).waits=[]:=by
 unfold Xic;rw[if_pos hm];exact⟨Y6m hm (fun _ _=>by simp [Xhc]) [] (by decide) (fun w hw=>by cases hw) _,rfl⟩
theorem Y6w {d:Dsk} (hm:may d=true) {z:Nat} (hz:z<32):Xkr (Xic d) (z:Int)=Xkr d (z:Int):=by
 obtain⟨h1,h2⟩:=Y6d hm;rw[Y5i h1 hz,Y5i hm hz,h2];unfold Xic;rw[if_pos hm];rfl
theorem Y8x {d:Dsk} (hm:may d=true):Y3s (Xic d)=Y3s d:=by
 rw[Y51 hm,Y51 (Y6d hm).1,Y5y fun i hi=>Y6w hm (by omega),Y5y fun i hi=>Y6w hm (by omega)]
theorem Y7u {d:Dsk} (hm:may d=true) {a o:Rc} {l:List Rc} (h:Y3s d=a::l) (ho:o∈Y3s d):o.gen.toNat<=a.gen.toNat:=by
 rw[h] at ho;rcases bq.1 ho with rfl|ho
 ·exact Nat.le_refl _
 ·have hl:=Y67 d;rw[h] at hl
  match l,ho,hl with
  |[b],ho,_=>
   have:o=b:=by simpa using ho
   subst this;exact Nat.le_of_lt (Y5k hm h).1
theorem Yb1 {d:Dsk} {r:Rc} (h:Y4o d r=0) (ht:∀o,o∈Y3s d->o.gen.toNat<r.gen.toNat):may (Xic (Y4e d r))=true∧(Xic (Y4e d r)).waits=[]∧∃L,Y3s (Xic (Y4e d r))=r::L:=by
 have hm:=Y4b h;refine⟨(Y6d hm).1,(Y6d hm).2,?_⟩;rw[Y8x hm];have hf:=Y6s h;cases e:Y3s (Y4e d r) with
 |nil=>rw[e] at hf;cases hf
 |cons a l=>
  refine⟨l,?_⟩;have ha:a∈Y3s (Y4e d r):=by rw[e];exact db
  rcases Y8r h e with h1|⟨h1,h2⟩
  ·have w1:=(Y4h hm).1 ha;rw[h1,Y6p h] at w1;injection w1 with w1
   rw[w1]
  ·have:=ht a ((Y8q h h2).1 ha);omega
theorem Y5o {b:Bx} (hE:Y43 b=0) (ht:∀o,o∈Y3s b.disk->o.gen.toNat<=b.gen.toNat):
  RdyB b∧Y3o b=⟨b.house,Xic (Y4e b.disk (Y7s b)),X7s b.disk b.gen⟩∧may (Y3o b).disk=true∧(Y3o b).disk.waits=[]∧(∀o,o∈Y3s (Y3o b).disk->o.gen.toNat<=(Y3o b).gen.toNat)∧
   ∀key:List UInt8,1<=key.length->key.length<=64->Y3y (Y3o b).disk key=0∧Y3u (Y3o b).disk key=⟨Y3k (Xrr b.house) key,(Y3o b).disk,(Y3o b).gen⟩:=by
 unfold Y43 at hE;split at hE
 ·rename_i hr;have R:=Y42.1 hr;have hc:=Y52 R.halt (Y6b R.stg R.halt);have hp:=Y7t R.may R.waits (Y6v hE) hc;obtain⟨m1,m2,L,m3⟩:=Yb1 (r:=Y7s b) hp fun o ho=>Nat.lt_of_le_of_lt (ht o ho) (Y8p hE);have eS:Y3o b=⟨b.house,Xic (Y4e b.disk (Y7s b)),X7s b.disk b.gen⟩:=by
   unfold Y3o Y43;rw[if_pos hr,if_pos hE]
  rw[eS];refine⟨R,rfl,m1,m2,fun o ho=>Y7u m1 m3 ho,fun key k1 k2=> ?_⟩;have e0:Y3y (Xic (Y4e b.disk (Y7s b))) key=0:=by
   unfold Y3y;rw[if_neg (by omega),if_pos ⟨m1,m2⟩]
  refine⟨e0,?_⟩;obtain⟨r1,r2⟩:=Xpk hc;unfold Y3u;rw[if_pos e0,m3]
  show Y53 key _ (Y7s b::L)= _
  unfold Y53;rw[show(Y7s b).text=Xp7 b.house from rfl,if_pos r1,r2];rfl
 ·cases hE
theorem Y58 {h:Hs} (hh:h.halt=false):Y3k (Xrr h) h.key=Y54 h:=by
 unfold Y54;rw[hh];rfl
theorem Y8y {h:Hs} (hc:Xo9 h=true) (key:List UInt8):Xrr (Y3k (Xrr h) key)=Xrr h:=by
 obtain⟨r1,r2⟩:=Xpk hc;have:=Y5n r1;rw[r2] at this;exact this
theorem Y8z {h:Hs} (hs:Y6l h=true) (hh:h.halt=false):Y6l (Y54 h)=true∧(Y54 h).halt=false∧Xrr (Y54 h)=Xrr h∧(Y54 h).key=h.key∧1<=h.key.length∧h.key.length<=64:=by
 have hl:=Y6b hs hh;have hc:=Y52 hh hl;obtain⟨r1,r2⟩:=Xpk hc;have k2:h.key.length<=64:=by
  unfold Y6l at hs;simp only[ag,am] at hs;omega
 have k1:1<=h.key.length:=by
  unfold Y6h at hl;simp only[ag,am] at hl;omega
 obtain⟨s1,s2⟩:=Y6c r1 k1 k2;rw[r2] at s1 s2;rw[<- Y58 hh];exact⟨s1,s2,Y8y hc _,rfl,k1,k2⟩
theorem Y6e (d:Dsk):∀l:List Rc,∃j,j<=l.length∧(∀i (hi:i<l.length),i<j->Xod l[i].text=false)∧(j=l.length->∀key,Y53 key d l=⟨Y3w key,d,0⟩)∧∀hi:j<l.length,Xod l[j].text=true∧∀key,Y53 key d l=⟨Y3k (Xof l[j].text) key,d,l[j].gen⟩
 |[]=>⟨0,Nat.le_refl _,fun i hi=>absurd hi (ig _),fun _ _=>rfl,fun hi=>absurd hi (ig _)⟩
 |r::l=>by
  by_cases h:Xod r.text=true
  ·exact⟨0,ba _,fun i _ hi=>absurd hi (ig _),fun h0=>by simp at h0,fun hi=>⟨h,fun key=>by rw[Y53,if_pos h];rfl⟩⟩
  ·obtain⟨j,h1,h2,h3,h4⟩:=Y6e d l;have e:∀key,Y53 key d (r::l)=Y53 key d l:=fun key=>by rw[Y53,if_neg h]
   refine⟨j+1,Nat.succ_le_succ h1,fun i hi hij=> ?_,fun hj key=>(e key).trans (h3 (Nat.succ.inj hj) key),fun hi=>⟨(h4 (Nat.lt_of_succ_lt_succ hi)).1,fun key=>(e key).trans ((h4 (Nat.lt_of_succ_lt_succ hi)).2 key)⟩⟩;cases i with
   |zero=>simpa using h
   |succ i=>exact h2 i (Nat.lt_of_succ_lt_succ hi) (Nat.lt_of_succ_lt_succ hij)
theorem Yab {key:List UInt8} (h:key.length<=64):Y6l (Y3w key)=true:=by
 unfold Y6l Y3w;simp only[ag,am,if_true];exact⟨by omega,rfl⟩
theorem Y90 {d:Dsk} {r:Rc} (h:r∈Y3s d):r.gen≠0:=by
 by_cases hm:may d=true
 ·exact((Y4f hm (Y4d _) r).1 ((Y4h hm).1 h)).1
 ·unfold Y3s at h;rw[if_neg hm] at h;cases h
end Go.Proofs.YtgpdghbmiihfbaaGreat.Pln
namespace Go.Proofs.YtgpdghbmiihfbaaGreat.Pln
set_option linter.all false
set_option maxHeartbeats 16000000
set_option maxRecDepth 8000
open Go Go.VS Tab
attribute [local irreducible] AWp Xp0 Pg X5c Qy Lt Tp FdT Eb
def bxC (b:Bx):List AV:=[.sl 1 (Xo b.house.key) .sh,i64 b.house.plan.ver,i64 b.house.plan.par,.sl 3 (b.house.plan.secs.map secC) .sh,.sl 2 (b.house.plan.pts.map jnC) .sh,.sl 3 (b.house.plan.sgs.map sgC) .sh,.sl 7 (b.house.plan.rts.map rtC) .sh,
 i64 b.house.back.ver,i64 b.house.back.par,.sl 3 (b.house.back.secs.map secC) .sh,.sl 2 (b.house.back.pts.map jnC) .sh,.sl 3 (b.house.back.sgs.map sgC) .sh,.sl 7 (b.house.back.rts.map rtC) .sh,i64 b.house.high,.sl 2 (b.house.st.tr.map tkC) .sh,.sl 3 (b.house.st.sw.map sgC) .sh,.sl 4 (b.house.st.lk.map lkC) .sh,
 .sl 1 (Xo b.house.buf) .sh,i64 b.house.next.ver,i64 b.house.next.par,.sl 3 (b.house.next.secs.map secC) .sh,.sl 2 (b.house.next.pts.map jnC) .sh,.sl 3 (b.house.next.sgs.map sgC) .sh,.sl 7 (b.house.next.rts.map rtC) .sh,bool b.house.halt,
 .sl 1 (b.disk.sectors.map YtgpdghbmiihfbaaGreat.secC) .sh,.sl 2 (b.disk.waits.map wrC) .sh,w32 b.gen]
theorem Y91 (a b c d e f g h i j k l m n o p q r s t u v w x y:AV) (z:List AV):pick true 25 (a::b::c::d::e::f::g::h::i::j::k::l::m::n::o::p::q::r::s::t::u::v::w::x::y::z)=some (.agg [a,b,c,d,e,f,g,h,i,j,k,l,m,n,o,p,q,r,s,t,u,v,w,x,y]):=by
 unfold pick;rw[if_pos rfl,if_pos (by simp)];rfl
theorem Y8b (a0 a1 a2 a3 a4 a5 a6 a7 a8 a9 a10 a11 a12 a13 a14 a15 a16 a17 a18 a19 a20 a21 a22 a23 a24 a25 a26 a27:AV):pick true 28 [a0,a1,a2,a3,a4,a5,a6,a7,a8,a9,a10,a11,a12,a13,a14,a15,a16,a17,a18,a19,a20,a21,a22,a23,a24,a25,a26,a27]=some (.agg [a0,a1,a2,a3,a4,a5,a6,a7,a8,a9,a10,a11,a12,a13,a14,a15,a16,a17,a18,a19,a20,a21,a22,a23,a24,a25,a26,a27]):=rfl
def bxA (b:Bx):AV:= .agg (bxC b)
def nbC:List AV:=[.sl 0 [] .nil,i64 0,i64 0,.sl 0 [] .nil,.sl 0 [] .nil,.sl 0 [] .nil,.sl 0 [] .nil,i64 0,i64 0,.sl 0 [] .nil,.sl 0 [] .nil,.sl 0 [] .nil,.sl 0 [] .nil,i64 0,.sl 0 [] .nil,.sl 0 [] .nil,.sl 0 [] .nil,.sl 0 [] .nil,i64 0,i64 0,.sl 0 [] .nil,.sl 0 [] .nil,.sl 0 [] .nil,.sl 0 [] .nil,bool false,.sl 0 [] .nil,.sl 0 [] .nil,.val (.int .u32 0)]
theorem Y6f:AV.le (.agg nbC) (bxA Y4r):=by
 simp only[nbC,bxA,bxC,Y4r,Xtd,Aq,Y2v,Xhm,ad,Wb,w0,sL]
theorem Y6x (b:Bx) (hx:SmX b.house) (h1:b.disk.sectors.length<=1000) (h2:b.disk.waits.length<=1000):Xr Tryz.prog 11 [bxA b] [] (.tup [bxA (Y3o b),i64 (Y43 b)]) []:=by
 have cm:=Y4t b.house hx;have cd:=Xjg b.disk h1 h2;have bad:∀e,Y43 b=e->e≠0->Y3o b=Y4r:=fun e he h=>by unfold Y3o;rw[he,if_neg h]
 by_cases hr:Y4s b=true
 ·have R:=Y42.1 hr;have hE:Y43 b=YtgpdghbmiihfbaaGreat.nextE b.disk b.gen:=if_pos hr;have cn:=Y5z b.disk b.gen h1 h2;rw[show Yah b.house=0 from if_pos R.stg] at cm;rw[R.may] at cd;have hw:=R.waits;have hh:=R.halt;by_cases h0:YtgpdghbmiihfbaaGreat.nextE b.disk b.gen=0
  ·have hs:=Y5a hx R.stg;have hc:=Y52 R.halt (Y6b R.stg R.halt);have cw:=Xp9 b.house hs;rw[show Xoc b.house=0 from if_pos hc,show Xlr b.house=Xp7 b.house from if_pos hc] at cw;have hp:Y4o b.disk (Y7s b)=0:=Y7t R.may R.waits (Y6v h0) hc;have cp:=Y8k b.disk (Y7s b) h1 h2 (by have:=Xsq hc;show(Xp7 b.house).length<=10000;omega);have hm:=Y3x (Y4b hp);have cs:=Xno (Y4e b.disk (Y7s b)) hm.s hm.w;have ct:=Y8d b.house hs;rw[Y4b hp,if_pos rfl] at cs;rw[show Y4o b.disk (Y7s b)=0 from hp] at cp;rw[hE,h0,show Y3o b=⟨b.house,Xic (Y4e b.disk (Y7s b)),X7s b.disk b.gen⟩ from by unfold Y3o;rw[hE,if_pos h0]];simp only[rcA,rcC,Y7s] at cp cs⊢;rw[h0] at cn;generalize Xic (Y4e b.disk ⟨X7s b.disk b.gen,Xp7 b.house⟩)=D2 at*;generalize Y4e b.disk ⟨X7s b.disk b.gen,Xp7 b.house⟩=D1 at*;generalize Xp7 b.house=T at*;generalize X7s b.disk b.gen=W at*;simp only[hsA,hsC,Y3p,Xha,hh,hw,ad,if_true] at cm cd cn cw cp cs ct;clear hp bad hE h0 hs hc hm R;refine Xc 3 Tryz.func11 rfl fun n out _ _=> ?_;simp only[sn,Tryz.ntmps11,simprocAttr];have hg:=Nat.le_refl 0;repeat' (first|refine Vk fun K hK=> ?_|apply V0|apply Vs|refine Vd 15 [] [[],[0],[],[2],[],[],[1],[]] [[],[],[],[],[],[],[1],[]] (by kernel_rfl) (by decide) (by decide) (by kernel_rfl) ?_|((first|apply gE|apply gR|apply gD|apply gF|apply gS);simp only[zA,simprocAttr,bxA,bxC,X0,hh,hw])|(apply Vz;(first|refine Xp (.inr rfl) rfl rfl rfl (fun _ _=>rfl) ok42 (k:=n+1) (off:=0) rfl (Xb _ (by simp)) (X6 _ (Nat.le_refl _) 1) rfl rfl ?_|refine Xp (.inr rfl) rfl rfl rfl (fun _ _=>rfl) ok42 (k:=m+1) (off:=0) rfl (Xb _ (by simp)) (X6 _ hm 1) rfl rfl ?_)<;>first|rfl|exact AV.le.rfl _|(simp only[sL,bxA,bxC,hh];done)|(exact AV.le.rfl _)|(simp only[sL,bxA,bxC,X0,hh,hw,ad,List.length_nil,Int.reduceBNe,Y1g];done)|rfl|skip)|(refine X3 (cm) ?_)|(refine X3 (cd) ?_)|(refine X3 (cn) ?_)|(refine X3 (cw) ?_)|(refine X3 (cp) ?_)|(refine X3 (cs) ?_)|(refine X3 (ct) ?_)|(refine hK _ ?_;clear hK K)|refine Vf rfl ?_)
  ·have h9:(YtgpdghbmiihfbaaGreat.nextE b.disk b.gen !=0)=true:=by simpa using h0
   rw[bad _ hE h0,hE];simp only[hsA,hsC,Y3p,Xha,hh,hw,ad,if_true] at cm cd cn;have nl:∀e:AV,AV.le (.tup [_,e]) (.tup [bxA Y4r,e]):=fun e=>(Fg _ _).2 ⟨Y6f,.rfl e,trivial⟩;generalize bxA Y4r=Y at*;generalize YtgpdghbmiihfbaaGreat.nextE b.disk b.gen=E at*;refine Xc 3 Tryz.func11 rfl fun n out _ _=> ?_;simp only[sn,Tryz.ntmps11,simprocAttr];have hg:=Nat.le_refl 0;repeat' (first|refine Vk fun K hK=> ?_|apply V0|apply Vs|((first|apply gE|apply gR|apply gS);simp only[zA,simprocAttr,bxA,bxC,X0,hh,hw,h9])|(apply Vz;(first|refine Xp (.inr rfl) rfl rfl rfl (fun _ _=>rfl) ok42 (k:=n+1) (off:=0) rfl (Xb _ (by simp)) (X6 _ (Nat.le_refl _) 1) rfl rfl ?_|refine Xp (.inr rfl) rfl rfl rfl (fun _ _=>rfl) ok42 (k:=m+1) (off:=0) rfl (Xb _ (by simp)) (X6 _ hm 1) rfl rfl ?_)<;>first|rfl|exact AV.le.rfl _|(simp only[sL];done)|(exact AV.le.rfl _)|(simp only[sL];done)|exact nl _|skip)|(refine X3 (cm) ?_)|(refine X3 (cd) ?_)|(refine X3 (cn) ?_)|(refine hK _ ?_;clear hK K)|refine Vt rfl ?_|refine Vf rfl ?_)
 ·have hE:Y43 b=8:=if_neg hr;rw[bad 8 hE (by decide),hE];have nl:∀e:AV,AV.le (.tup [_,e]) (.tup [bxA Y4r,e]):=fun e=>(Fg _ _).2 ⟨Y6f,.rfl e,trivial⟩;generalize bxA Y4r=Y at*;simp only[hsA,hsC,Y3p,Xha] at cm cd;refine Xc 3 Tryz.func11 rfl fun n out _ _=> ?_;simp only[sn,Tryz.ntmps11,simprocAttr];have hg:=Nat.le_refl 0;repeat' (first|refine Vk fun K hK=> ?_|apply V0|apply Vs|((first|apply gE|apply gR|apply gS);simp only[zA,simprocAttr,hg,bxA,bxC,X0])|(apply Vz;(first|refine Xp (.inr rfl) rfl rfl rfl (fun _ _=>rfl) ok42 (k:=n+1) (off:=0) rfl (Xb _ (by simp)) (X6 _ (Nat.le_refl _) 1) rfl rfl ?_|refine Xp (.inr rfl) rfl rfl rfl (fun _ _=>rfl) ok42 (k:=m+1) (off:=0) rfl (Xb _ (by simp)) (X6 _ hm 1) rfl rfl ?_)<;>first|rfl|exact AV.le.rfl _|(simp only[sL];done)|(exact AV.le.rfl _)|(simp only[sL];done)|exact nl _|skip)|(refine X3 (cm) ?_)|(refine X3 (cd) ?_)|((refine Vg (fun hg=> ?_) (fun hg=> ?_))<;>try simp only[nb] at hg)|(refine hK _ ?_;clear hK K)|refine Vt rfl ?_|refine Vi rfl (fun hg=> ?_) (fun hg=> ?_))
  all_goals exfalso;refine hr (Y42.2 ⟨?_,?_,?_,?_⟩)<;>simp_all [Yah]
theorem Yc1 (l:List Rc) (key:List UInt8):Xr Tryz.prog 41 [.sl 2 (l.map rcC) .sh,bs key] [] (.fn (.func 95) [.ref [.sl 2 (l.map rcC) .sh],.ref [bs key]]) []:=by
 refine Xc 2 Tryz.func41 rfl fun n out _ _=> ?_;simp only[sn,Tryz.ntmps41,simprocAttr];refine Vy fun K hK=> ?_;simp only[zA,simprocAttr]
 (refine hK _ ?_;clear hK K)
 refine Yy (Xa9 (i:=0) 1 (e:=62) (cs:=[.sl 2 (l.map rcC) .sh]) rfl (by simp)) ?_;simp only[bg,ad,AV.frz,Xcu,Xcv,Nat.add_left_cancel_iff,reduceIte,Nat.reduceEqDiff,s_0,s_s,dn];refine Yy (Xa9 (i:=1) 1 (e:=22) (cs:=[bs key]) rfl (by simp)) ?_;simp only[bg,ad,AV.frz,Xcu,Xcv,Nat.add_left_cancel_iff,reduceIte,Nat.reduceEqDiff,s_0,s_s,dn];refine Vy fun K hK=> ?_;simp only[zA,simprocAttr]
 (refine hK _ ?_;clear hK K)
 apply Vz;exact Qv (.inr rfl) rfl rfl rfl (fun _ _=>rfl) rfl
theorem Yal (y kl kh:Nat) (hne:kl≠kh) (P0 P1 B0 B1:Res) (hP0:P0≠ .dead) (hB0:B0≠ .dead) (l:List Rc) (key:List UInt8) (j:Nat) (G:List (Nat×Res)) (hk1:1<=key.length) (hk2:key.length<=64) (hl:l.length<=1000) (hj:j<=l.length)
  (ht:∀x,x∈l->x.text.length<=10000) (hbad:∀i (hi:i<l.length),i<j->Xod l[i].text=false) (hG:j=l.length->G=[])
  (hy:∀(hi:j<l.length),Xod l[j].text=true∧G=[(kl,P1),(kh,B1)]∧X6t Tryz.prog y [w32 l[j].gen,hsA (Y3k (Xof l[j].text) key)] [(kl,some P0),(kh,some B0)] (.val (.bool false)) [(kl,P1),(kh,B1)]):
  Xr Tryz.prog 95 [.fn (.yield y) [],.ref [.sl 2 (l.map rcC) .sh],.ref [bs key]] [(kl,some P0),(kh,some B0)] (.tup []) G:=by
 refine Kz 2 Tryz.func95 rfl fun n out _ _ _=> ?_;simp only[sn,Tryz.ntmps95,simprocAttr];rename_i hneeds hg hz;obtain⟨hkl,hkh,_⟩:=hneeds;have lt:∀k r,out k=some r->k<n:=fun k r h=>by
  rcases Nat.lt_or_ge k n with h'|h'
  ·exact h'
  ·rw[hz k h'] at h;cases h
 have hkln:=lt _ _ hkl;have hkhn:=lt _ _ hkh;have ck:=Xds key (by omega);refine Vy fun K hK=> ?_;simp only[zA,simprocAttr]
 (refine hK _ ?_;clear hK K)
 apply V5;refine Xpw (l.length) (fun i=>i<=j) (fun m i=>tp [5,6,7] (tr 11 28 [(10,i64 (i:Int))])) (fun m i=>[none,none]) (by intros;omega) ?_ fun m i hm hi=> ?_
 ·refine La rfl ?_ ?_<;>simp only[sL]
 obtain⟨hi,hq⟩:=hi;simp only[pt];have hw:=Yl (n:=i) 1 1 rfl (by omega);by_cases hlt:i<l.length
 ·have gi:=Xg rcC l i [] hlt;have cr:=Xst l[i].text (by have:=ht _ (ak hlt);omega);by_cases hij:i<j
  ·rw[hbad i hlt hij] at cr;simp only[hsA,hsC,bf,if_false] at cr;repeat' (first|refine Vk fun K hK=> ?_|apply V0|apply Vb|apply Vs|((first|apply gE|apply gR);simp only[zA,simprocAttr,Xi hm,hlt,gi,rcC,X0,hw])|(refine X3 (cr) ?_)|(refine X3 (ck) ?_)|(refine hK _ ?_;clear hK K)|refine Vt rfl ?_|refine Vf rfl ?_)
   refine⟨i+1,⟨by omega,by omega⟩,by omega,?_⟩;refine Xx [false,false] ?_ ?_<;>intro n_<;>simp only[sM]
  ·obtain rfl:i=j:=by omega
   obtain⟨ok,rfl,yy⟩:=hy hlt;have sm:=Xyd l[i].text;obtain⟨s1,s2⟩:=Y6c ok hk1 hk2;have cm:=Y4t (Y3k (Xof l[i].text) key) ⟨sm.plan.wide.v,sm.back.wide.v,sm.next.wide.v,sm.st,by show key.length<=1000;omega,sm.buf⟩;rw[show Yah _=0 from if_pos s1] at cm;rw[ok] at cr;simp only[hsA,hsC,Y3k,if_true] at cr cm yy;repeat' (first|refine Vk fun K hK=> ?_|apply V0|apply Vb|apply Vs|((first|apply gE|apply gR);simp only[zA,simprocAttr,Xi hm,hlt,gi,rcC,X0,Y1g])|(refine X3 (cr) ?_)|(refine X3 (ck) ?_)|(refine X3 (cm) ?_)|(refine hK _ ?_;clear hK K)|refine Vt rfl ?_)
   refine X6i yy ⟨?_,?_,trivial⟩ ⟨?_,?_,trivial⟩ ?_ ?_
   ·rw[X8 hkln];exact hkl
   ·rw[X8 hkhn];exact hkh
   ·rw[X7 hkln];trivial
   ·rw[X7 hkhn];trivial
   ·intro x hx;simp only[bq,bv,or_false] at hx;rcases hx with rfl|rfl
    ·exact⟨by rw[X7 hkln];trivial,by simpa using hP0⟩
    ·exact⟨by rw[X7 hkhn];trivial,by simpa using hB0⟩
   repeat' (first|((first|apply gR);simp only[zA,simprocAttr,Xa hkln,Xa hkhn])|(apply Vz;refine Xy (.inr rfl) rfl rfl rfl (fun _ _=>rfl)<;>first|rfl|skip)|(refine hK _ ?_;clear hK K)|refine Vt rfl ?_)
 ·obtain rfl:j=l.length:=by omega
  obtain rfl:=hG rfl;repeat' (first|refine Vk fun K hK=> ?_|apply V0|((first|apply gE);simp only[zA,simprocAttr,hlt])|(apply Vx;simp only[sb])|(refine hK _ ?_;clear hK K)|refine Vf rfl ?_|clear hK K)
  exact Xy (.inl rfl) rfl rfl rfl (fun _ _=>rfl)
theorem Yb6 (d:Dsk) (hd:Small d):Xr Tryz.prog 40 [Y3p d] [] (Y3p d) []:=Lc (fun k=>YtgpdghbmiihfbaaGreat.c_twin k d hd) fun k=>by simp only[Y3p,Xha,sL]
theorem Y9c {d:Dsk} {r:Rc} (h:r∈Y3s d):r.text.length<=10000:=by
 by_cases hm:may d=true
 ·have:=((Y4f hm (Y4d _) r).1 ((Y4h hm).1 h)).2.2.1;omega
 ·unfold Y3s at h;rw[if_neg hm] at h;cases h
theorem Y5p (d:Dsk) (key:List UInt8) (hd:Small d) (hk:key.length<=1000):Xr Tryz.prog 13 [Y3p d,bs key] [] (.tup [bxA (Y3u d key),i64 (Y3y d key)]) []:=by
 have cf:=Y5x d hd.s hd.w;have nl:∀e:AV,AV.le (.tup [_,e]) (.tup [bxA Y4r,e]):=fun e=>(Fg _ _).2 ⟨Y6f,.rfl e,trivial⟩;by_cases hkey:key.length<1∨64<key.length
 ·have hE:Y3y d key=3:=if_pos hkey;rw[show Y3u d key=Y4r from by unfold Y3u;rw[hE,if_neg (by decide)],hE];generalize bxA Y4r=Y at*;refine Xc 2 Tryz.func13 rfl fun n out _ _=> ?_;simp only[sn,Tryz.ntmps13,simprocAttr];have hg:=Nat.le_refl 0;repeat' (first|refine Vk fun K hK=> ?_|apply V0|apply Vs|((first|apply gE|apply gS);simp only[zA,simprocAttr,hg,Y3p,Xha,X5])|(apply Vz;(first|refine Xp (.inr rfl) rfl rfl rfl (fun _ _=>rfl) ok42 (k:=n+1) (off:=0) rfl (Xb _ (by simp)) (X6 _ (Nat.le_refl _) 1) rfl rfl ?_|refine Xp (.inr rfl) rfl rfl rfl (fun _ _=>rfl) ok42 (k:=m+1) (off:=0) rfl (Xb _ (by simp)) (X6 _ hm 1) rfl rfl ?_)<;>first|rfl|exact AV.le.rfl _|(simp only[sL];done)|(exact AV.le.rfl _)|(simp only[sL];done)|exact nl _|skip)|((refine Vg (fun hg=> ?_) (fun hg=> ?_))<;>try simp only[nb] at hg)|(refine hK _ ?_;clear hK K)|refine Vt rfl ?_|refine Vi rfl (fun hg=> ?_) (fun hg=> ?_))
  all_goals (exfalso;simp only[gt_iff_lt,am,dk] at*;omega)
 ·have l1:((key.length:Int)<1)=False:=dc (by omega);have l2:((key.length:Int)>64)=False:=dc (by omega);by_cases hok:may d=true∧d.waits=[]
  ·have hE:Y3y d key=0:=by unfold Y3y;rw[if_neg hkey,if_pos hok]
   rw[show Y3u d key=Y53 key d (Y3s d) from if_pos hE,hE];obtain⟨hm,hw⟩:=hok;have hlen:=Y67 d;have htx:∀x,x∈Y3s d->x.text.length<=10000:=fun x hx=>Y9c hx;obtain⟨j,j1,j2,j3,j4⟩:=Y6e d (Y3s d);have c1:=Xds key (by omega);have c2:=Yb6 d hd;rw[hm,if_pos rfl] at cf;clear hE;generalize Y3s d=L at*;have cr:=Yc1 L key;simp only[Y3p,Xha,hw,ad] at cf c2;refine Ph 5 Tryz.func13 rfl fun n out _ _=> ?_;simp only[sn,Tryz.ntmps13,simprocAttr];have hg:=Nat.le_refl 0
   iterate 6
    refine V4 fun K hK=>AWp.zero ?_;repeat' (first|refine Vk fun K hK=> ?_|apply V0|apply Vs|refine Vd 8 [] [[],[],[],[0],[],[],[2],[2]] [[],[],[],[],[],[],[2],[2]] (by kernel_rfl) (by decide) (by decide) (by kernel_rfl) ?_|((first|apply gE|apply gR|apply gD|apply gF|apply gS);simp only[zA,simprocAttr,Y3p,Xha,X5,l1,l2,hw,X0])|(refine X3 (cf) ?_)|(refine X3 (c1) ?_)|(refine X3 (c2) ?_)|(refine hK _ ?_;clear hK K)|refine Vf rfl ?_)
   refine V4 fun KB hKB=> ?_;refine V4 fun K hK=>AWp.zero (Xn Xj [] ?_);simp only[zA,simprocAttr]
   skip
   refine X3 cr ?_;simp only[zA,simprocAttr]
   (refine hK _ ?_;clear hK K)
   refine Ej [] [some (.box 39 [.sl 1 (d.sectors.map YtgpdghbmiihfbaaGreat.secC) .sh,.sl 2 [] .sh]),some (.box 42 (bxC Y4r)),some (.box 42 (bxC ⟨Y3w key,d,0⟩)),none,none] ?_ ?_
   ·refine La rfl ?_ ?_<;>simp only[sL,bxC,Y4r,Xtd,Y3w,Aq,Y2v,Xhm,hw,ad,Wb,w0]
   simp only[pt];by_cases hj:j<L.length
   ·obtain⟨ok,jb⟩:=j4 hj;refine Fp (Y71 (id:=0) (r:= .tup []) (gf:=95) (caps:=[.ref [.sl 2 (L.map rcC) .sh],.ref [bs key]]) 3 4 Tryz.func95 (by kernel_rfl) (by kernel_rfl) rfl (by decide) rfl rfl ?_);intro D lp rec F hF h1 h2 h3 h4 h5;refine⟨_,[(n+2,.box 42 (bxC ⟨Y3k (Xof L[j].text) key,d,L[j].gen⟩))],Yal lp (n+4) (n+2) (by omega) (.pin lp (.loop rec) F) _ (.box 42 (bxC ⟨Y3w key,d,0⟩)) _ (by simp) (by simp) L key j _ (by omega) (by omega) (by omega) j1 htx j2 (fun h=>absurd h (by omega)) (fun hi=>⟨ok,rfl,Y5t (fr:=F) (fr1:=fun N=>(((F.set 43 (w32 L[j].gen)).set 44 (hsA (Y3k (Xof L[j].text) key))).set 9 (w32 L[j].gen)).set 10 (.ptr (N+0) 0)) (lo1:=fun N=>[some (.box 35 (hsC (Y3k (Xof L[j].text) key)))]) (ps:=[43,44]) (id:=0) 1 h1 h3 h4 h5 rfl (by simp) (by simp) ?_ ?_⟩),?_,?_,?_,?_,?_⟩
    ·intro n' out';subst hF;simp only[List.zip_cons_cons,List.zip_nil_left,iw,setAll,s_0,s_s,List.replicate];generalize Y3k (Xof L[j].text) key=H;simp only[hsA,hsC];refine Vy fun K hK=> ?_;simp only[zA,simprocAttr]
     (refine hK _ ?_;clear hK K)
     refine Xn Xj [] ?_;simp only[zA,simprocAttr,X0]
     trace_state
    ·intro n' out' hh hg;obtain⟨hkk,_⟩:=hh;obtain⟨hkn,_⟩:=hg;subst hF;have hoN:[n+2].Nodup:=by simp
     have hoL:∀k,k∈[n+2]->k<n':=fun k hk=>by
      simp only[bq,bv,or_false] at hk;subst hk;exact hkn
     apply V5;simp only[s_0,s_s];generalize Y3k (Xof L[j].text) key=H;refine Vk fun K hK=>Xik Xj [] [n+2] [[],[0],[],[100],[],[100]] [[],[],[],[100],[],[100]] hoN hoL follows (by kernel_rfl) (by decide) (by decide) (by kernel_rfl) ?_;simp only[zA,simprocAttr,so,Xa hkn,Xt,Jp,X8 hkn,X7 hkn,hkk,hsC,bxC,Y3w,X0,Y1g]
     (refine hK _ ?_;clear hK K)
     refine Qi ?_;exact⟨rfl,rfl,fun _ _=>rfl⟩
    ·subst hF;simp only[holds,s_0,s_s,X2a,List.getElem?_cons_zero,List.getElem?_cons_succ,Option.join_some,and_true,true_and]
    ·exact⟨Xb _ (by simp),trivial⟩
    ·intro x hx;simp only[bq,bv,or_false] at hx;rcases hx with rfl|rfl
     ·exact Xb _ (by simp)
     ·exact Xb _ (by simp)
    ·intro x hx;simp only[bq,bv,or_false] at hx;subst hx
     show n+2≠n+4
     omega
    simp only[Qd,Z4,s_0,s_s,Xeb,if_true,reduceIte];refine hKB _ ?_;clear hKB KB;refine AWp.zero ?_;refine Vy fun K hK=> ?_;simp only[zA,simprocAttr,bxC,Y4r,X0,Y8b]
    (refine hK _ ?_;clear hK K)
    apply Vz;exact⟨3,D,rfl,rfl,Xp (.inr rfl) rfl rfl rfl (fun _ _=>rfl) ok42 (k:=n+1) (off:=0) rfl (Xb _ (by simp)) (X6 _ (Nat.le_refl _) 1) rfl rfl (by simp only[sL,ti42,ad,bxA,bxC,hw,jb key])⟩
   ·have hjl:j=L.length:=by omega
    refine Fp (Fq (r:= .tup []) (gf:=95) (caps:=[.ref [.sl 2 (L.map rcC) .sh],.ref [bs key]]) 3 4 Tryz.func95 (by kernel_rfl) (by kernel_rfl) rfl (by decide) rfl rfl ?_);intro D lp rec F hF h1 h2 h3 h4 h5;refine⟨_,[],Yal lp (n+4) (n+2) (by omega) (.pin lp (.loop rec) F) .dead (.box 42 (bxC ⟨Y3w key,d,0⟩)) .dead (by simp) (by simp) L key j _ (by omega) (by omega) (by omega) j1 htx j2 (fun _=>rfl) (fun hi=>absurd hi hj),?_,?_,?_,?_,?_⟩
    ·subst hF;simp only[holds,s_0,s_s,X2a,List.getElem?_cons_zero,List.getElem?_cons_succ,Option.join_some,and_true,true_and]
    ·exact trivial
    ·intro x hx;simp only[bq,bv,or_false] at hx;rcases hx with rfl|rfl
     ·exact Xb _ (by simp)
     ·exact Xb _ (by simp)
    ·intro x hx;cases hx
    simp only[Qd,Z4,s_0,s_s,AState.give];refine hKB _ ?_;clear hKB KB;refine AWp.zero ?_;refine Vy fun K hK=> ?_;simp only[zA,simprocAttr,bxC,Y4r,X0,Y8b]
    (refine hK _ ?_;clear hK K)
    apply Vz;exact⟨3,D,rfl,rfl,Xp (.inr rfl) rfl rfl rfl (fun _ _=>rfl) ok42 (k:=n+1) (off:=0) rfl (Xb _ (by simp)) (X6 _ (Nat.le_refl _) 1) rfl rfl (by simp only[sL,ti42,ad,bxA,bxC,hw,j3 hjl key];exact .rfl _)⟩
  ·have hE:Y3y d key=8:=by unfold Y3y;rw[if_neg hkey,if_neg hok]
   rw[show Y3u d key=Y4r from by unfold Y3u;rw[hE,if_neg (by decide)],hE];generalize bxA Y4r=Y at*;simp only[Y3p,Xha] at cf;cases hm:may d with
   |false=>
    rw[hm] at cf;simp only[bf,if_false] at cf;refine Xc 2 Tryz.func13 rfl fun n out _ _=> ?_;simp only[sn,Tryz.ntmps13,simprocAttr];have hg:=Nat.le_refl 0;repeat' (first|refine Vk fun K hK=> ?_|apply V0|apply Vs|((first|apply gE|apply gR|apply gS);simp only[zA,simprocAttr,Y3p,Xha,X5,l1,l2])|(apply Vz;(first|refine Xp (.inr rfl) rfl rfl rfl (fun _ _=>rfl) ok42 (k:=n+1) (off:=0) rfl (Xb _ (by simp)) (X6 _ (Nat.le_refl _) 1) rfl rfl ?_|refine Xp (.inr rfl) rfl rfl rfl (fun _ _=>rfl) ok42 (k:=m+1) (off:=0) rfl (Xb _ (by simp)) (X6 _ hm 1) rfl rfl ?_)<;>first|rfl|exact AV.le.rfl _|(simp only[sL];done)|(exact AV.le.rfl _)|(simp only[sL];done)|exact nl _|skip)|(refine X3 (cf) ?_)|(refine hK _ ?_;clear hK K)|refine Vt rfl ?_|refine Vf rfl ?_)
   |true=>
    rw[hm] at cf;have hw0:d.waits≠[]:=fun h=>hok ⟨hm,h⟩;have hw1:=fq.2 hw0;have hw:((d.waits.length:Int)>0)=True:=eq_true (by omega);simp only[if_true] at cf;refine Xc 2 Tryz.func13 rfl fun n out _ _=> ?_;simp only[sn,Tryz.ntmps13,simprocAttr];have hg:=Nat.le_refl 0;repeat' (first|refine Vk fun K hK=> ?_|apply V0|apply Vs|((first|apply gE|apply gR|apply gS);simp only[zA,simprocAttr,Y3p,Xha,X5,l1,l2,hw])|(apply Vz;(first|refine Xp (.inr rfl) rfl rfl rfl (fun _ _=>rfl) ok42 (k:=n+1) (off:=0) rfl (Xb _ (by simp)) (X6 _ (Nat.le_refl _) 1) rfl rfl ?_|refine Xp (.inr rfl) rfl rfl rfl (fun _ _=>rfl) ok42 (k:=m+1) (off:=0) rfl (Xb _ (by simp)) (X6 _ hm 1) rfl rfl ?_)<;>first|rfl|exact AV.le.rfl _|(simp only[sL];done)|(exact AV.le.rfl _)|(simp only[sL];done)|exact nl _|skip)|(refine X3 (cf) ?_)|(refine hK _ ?_;clear hK K)|refine Vt rfl ?_|refine Vf rfl ?_)
end Go.Proofs.YtgpdghbmiihfbaaGreat.Pln
namespace Go.Proofs.YtgpdghbmiihfbaaGreat
set_option linter.all false
set_option maxHeartbeats 16000000
set_option maxRecDepth 8000
open Go Go.VS Tab
structure DOk (d:Dsk):Prop where
 s:d.sectors.length<=Xiv
 w:d.waits.length<=Xiv
 sb:∀b,b∈d.sectors->b.length<=Xiv
 wb:∀w,w∈d.waits->w.data.length<=Xiv
theorem Xj6 (d:Dsk) (h:DOk d):Xr Tryz.prog 8 [Y3p d] [] (bool (Xjd d)) []:=Xn5 d h.s h.w h.sb h.wb
theorem Y4u:may Y4x=true:=by kernel_rfl
theorem Y9d:Y3r Y4x 0=none:=by kernel_rfl
theorem Y88:Y3r Y4x 16=none:=by kernel_rfl
def Yc6 (k:Nat):Rc:=⟨1,List.replicate k 0⟩
theorem Ybu:Y4o Y4x (Yc6 1882)=0:=by
 refine Y5h.2 ⟨Y4u,by decide,?_,?_⟩
 ·show(List.replicate 1882 (0:UInt8)).length<=1882
  rw[d7];exact Nat.le_refl _
 ·unfold Y3n;rw[Y4y]
  show 0+(6+(List.replicate 1882 (0:UInt8)).length+117) / 118<=256
  rw[d7];decide
theorem Mj:(Y4e Y4x (Yc6 1882)).waits.length=16:=by
 unfold Y4e;rw[if_pos Ybu]
 show(Y4x.waits++Y5g (Yc6 1882)).length=16
 rw[ac,Y3z];unfold Y3n;rw[Y4y]
 show 0+(6+(List.replicate 1882 (0:UInt8)).length+117) / 118=16
 rw[d7]
theorem Y7x:Y3s Y4x=[]:=by rw[Y51 Y4u,Y9d,Y88];rfl
theorem Yan:nextE Y4x 0=0∧X7s Y4x 0=1:=⟨by kernel_rfl,by kernel_rfl⟩
end Go.Proofs.YtgpdghbmiihfbaaGreat
namespace Go.Proofs.YtgpdghbmiihfbaaGreat.Pln
set_option linter.all false
set_option maxHeartbeats 16000000
set_option maxRecDepth 8000
open Go Go.VS Tab
attribute [local irreducible] AWp Xp0 Pg X5c Qy Lt Tp FdT Eb
theorem by1:Xo [1]=[[b8 1]]:=rfl
def lnS:List Sec:=[⟨1,0,[(0,0),(2,0)]⟩,⟨2,0,[(1,1),(0,0)]⟩]
def exL:Pl:=⟨1,0,lnS,[],[(1,1,1)],[⟨1,1,0,[2],[],[],3⟩]⟩
theorem Yao:Sm exL:=⟨by decide,by decide,by decide,by decide,by decide,by decide⟩
theorem Ybv:Xr Tryz.prog 49 [i64 1,i64 0,i64 3] [] (plA exL) []:=by
 refine Xxc (r:= .agg [i64 1,i64 0,.sl 3 (lnS.map secC) .sh,.sl 0 [] .nil,.sl 3 [[i64 1,i64 1,i64 1]] .full,.sl 7 (exL.rts.map rtC) .sh]) ?_ (by simp only[plA,plC,exL,sgC,bg,ad,sL]);refine Xc 1 Tryz.func49 rfl fun n out _ _=> ?_;simp only[sn,Tryz.ntmps49,simprocAttr];repeat' (first|refine Vk fun K hK=> ?_|apply V0|((first|apply gE|apply gR);simp only[zB,simprocAttr,X0,exL,lnS,secC,jnC,rtC,Ym])|(apply Vz;(first|refine Xu (.inr rfl) rfl rfl rfl (fun _ _=>rfl) ok28 (k:=n+0) (off:=0) rfl (Xb _ (by simp)) (X6 _ (Nat.le_refl _) 0) rfl ?_|refine Xu (.inr rfl) rfl rfl rfl (fun _ _=>rfl) ok28 (k:=m+0) (off:=0) rfl (Xb _ (by simp)) (X6 _ hm 0) rfl ?_)<;>first|rfl|exact AV.le.rfl _|(simp only[sL,ad,exL,lnS,secC,jnC,rtC,Ym,bg,ad];done)|rfl|skip)|(refine Xal 2 [[i64 0,i64 0],[i64 2,i64 0]] rfl ?_)|(refine Xal 2 [[i64 1,i64 1],[i64 0,i64 0]] rfl ?_)|(refine Xal 3 [[i64 1,i64 0,.sl 2 [[i64 0,i64 0],[i64 2,i64 0]] .full],[i64 2,i64 0,.sl 2 [[i64 1,i64 1],[i64 0,i64 0]] .full]] rfl ?_)|(refine Xal 3 [[i64 1,i64 1,i64 1]] rfl ?_)|(refine Xal 1 [[i64 2]] rfl ?_)|(refine Xal 7 [[i64 1,i64 1,i64 0,.sl 1 [[i64 2]] .full,.sl 0 [] .nil,.sl 0 [] .nil,i64 3]] rfl ?_)|(refine hK _ ?_;clear hK K))
theorem Ybw (key:List UInt8) (p:Pl) (hs:Sm p) (hE:Xo3 p=0) (k1:1<=key.length) (k2:key.length<=64):Xr Tryz.prog 48 [bs key,plA p] [] (.tup [hsA ⟨key,p,Aq,p.ver,atS p,[],Aq,false⟩,i64 0]) []:=by
 have c1:=Y6g p hs.wide.v;have c2:=Y1l p hs hE;have c3:=Xds key (by omega);have c4:=Y59 p hs;rw[hE] at c1;have l1:((key.length:Int)<1)=False:=dc (by omega);have l2:((key.length:Int)>64)=False:=dc (by omega);simp only[plA,plC,stA,stC] at c1 c2 c4;refine Xc 3 Tryz.func48 rfl fun n out _ _=> ?_;simp only[sn,Tryz.ntmps48,simprocAttr];repeat' (first|refine Vk fun K hK=> ?_|apply V0|apply Vs|refine Vd 7 [] [[],[],[0],[],[],[0],[2],[],[1],[]] [[],[],[],[],[],[],[],[],[1],[]] (by kernel_rfl) (by decide) (by decide) (by kernel_rfl) ?_|((first|apply gE|apply gR|apply gD|apply gF);simp only[zA,simprocAttr,hsA,hsC,plA,plC,Aq,X0,X5,l1,l2,Wb])|(apply Vz;(first|refine Xp (.inr rfl) rfl rfl rfl (fun _ _=>rfl) ok35 (k:=n+1) (off:=0) rfl (Xb _ (by simp)) (X6 _ (Nat.le_refl _) 1) rfl rfl ?_|refine Xp (.inr rfl) rfl rfl rfl (fun _ _=>rfl) ok35 (k:=m+1) (off:=0) rfl (Xb _ (by simp)) (X6 _ hm 1) rfl rfl ?_)<;>first|rfl|exact AV.le.rfl _|(simp only[sL,ad,hsA,hsC,Aq,ad,Wb];done)|(exact AV.le.rfl _)|(simp only[sL,hsA,hsC,plA,plC,Aq,X0,X5,l1,l2,dx,Int.reduceBNe,ad,Wb];done)|rfl|skip)|(refine X3 (c1) ?_)|(refine X3 (c2) ?_)|(refine X3 (c3) ?_)|(refine X3 (c4) ?_)|(refine hK _ ?_;clear hK K)|refine Vf rfl ?_)
def exO:Hs:=⟨[1],exL,Aq,1,atS exL,[],Aq,false⟩
def bx0:Bx:=⟨exO,Y4x,0⟩
def bx1:Bx:=Y3o bx0
theorem Yap:SmH exO:=⟨Yao,Xob,Xob,⟨by decide,by decide,by decide⟩,by decide,by decide⟩
theorem SmH.x {h:Hs} (s:SmH h):SmX h:=⟨s.plan.wide.v,s.back.wide.v,s.next.wide.v,s.st,s.key,s.buf⟩
theorem Y9e:Y6l exO=true:=by kernel_rfl
theorem Yb7:Y4s bx0=true:=Y42.2 ⟨Y9e,rfl,Y4u,rfl⟩
theorem Ybx:Y43 bx0=0:=(if_pos Yb7).trans Yan.1
theorem Y9f:bx1.gen=1∧bx1.house=exO∧may bx1.disk=true∧bx1.disk.waits=[]∧Y3y bx1.disk [1]=0∧Y3u bx1.disk [1]=⟨Y3k (Xrr exO) [1],bx1.disk,1⟩:=by
 obtain⟨_,h2,h3,h4,_,h6⟩:=Y5o Ybx (by rw[show bx0.disk=Y4x from rfl,Y7x];intro o ho;cases ho);have hg:(Y3o bx0).gen=1:=by rw[h2];exact Yan.2
 obtain⟨h7,h8⟩:=h6 [1] (by decide) (by decide);rw[hg] at h8;exact⟨hg,by unfold bx1;rw[h2];rfl,h3,h4,h7,h8⟩
theorem Y9g:Xr Tryz.prog 20 [] [] (.tup [bxA bx1,bool true]) []:=by
 have c1:=Ybv;have c2:=Xdb (args':=[.sl 1 [[b8 1]] .full,plA exL]) (Ybw [1] exL Yao (by kernel_rfl) (by decide) (by decide)) ⟨by simp only[by1,Wb,sL],.rfl _,trivial⟩;have c3:=Ybi;have c4:=Y6x bx0 Yap.x (by decide) (by decide);rw[Ybx,show Y3o bx0=bx1 from rfl] at c4;obtain⟨g1,_⟩:=Y9f;rw[show(⟨[1],exL,Aq,exL.ver,atS exL,[],Aq,false⟩:Hs)=exO from rfl] at c2;obtain⟨X,hX⟩:∃X,X=bx1:=⟨_,rfl⟩
 rw[<- hX] at c4 g1⊢;clear hX;obtain⟨o,ho⟩:∃o,o=exO:=⟨_,rfl⟩
 rw[show bx0=⟨exO,Y4x,0⟩ from rfl,<- ho] at c4;rw[<- ho] at c2;clear ho;have gc:((X.gen.toNat:Int)==1)=true:=by rw[g1];rfl
 generalize Y4x=D at*;generalize exL=p at*;simp only[plA,plC,hsA,hsC,Y3p,Xha,bxA,bxC] at c1 c2 c3 c4;refine Xc 3 Tryz.func20 rfl fun n out _ _=> ?_;simp only[sn,Tryz.ntmps20,simprocAttr];repeat' (first|refine Vk fun K hK=> ?_|apply V0|refine Vd 2 [] [[1],[],[],[],[],[],[],[2],[2],[]] [[],[],[],[],[],[],[],[2],[2],[]] (by kernel_rfl) (by decide) (by decide) (by kernel_rfl) ?_|refine Vd 3 [] [[2],[],[],[],[],[],[],[],[],[2],[],[],[0],[]] [[],[],[],[],[],[],[],[],[],[],[],[],[0],[]] (by kernel_rfl) (by decide) (by decide) (by kernel_rfl) ?_|((first|apply gE|apply gR|apply gD|apply gF|refine gS2 ?_);simp only[zA,simprocAttr,sg,X0,bxA,bxC,gc,Y1g,Y8b])|(apply Vz;(first|refine Xp (.inr rfl) rfl rfl rfl (fun _ _=>rfl) ok42 (k:=n+0) (off:=0) rfl (Xb _ (by simp)) (X6 _ (Nat.le_refl _) 0) rfl rfl ?_|refine Xp (.inr rfl) rfl rfl rfl (fun _ _=>rfl) ok42 (k:=m+0) (off:=0) rfl (Xb _ (by simp)) (X6 _ hm 0) rfl rfl ?_)<;>first|rfl|exact AV.le.rfl _|(simp only[sL,ti42,ad,sg,X0,bxA,bxC,gc,Int.reduceBEq,fw,Y1g,Y8b];done)|(exact AV.le.rfl _)|(simp only[sL,sg,X0,bxA,bxC,gc,Int.reduceBEq,fw,Y1g,Y8b];done)|rfl|skip)|(refine X3 (c1) ?_)|(refine X3 (c2) ?_)|(refine X3 (c3) ?_)|(refine X3 (c4) ?_)|(refine hK _ ?_;clear hK K))
theorem Y5q:Xr Tryz.prog 18 [] [] (bool true) []:=by
 have c1:=Y9g;obtain⟨g1,g2,g3,g4,g5,g6⟩:=Y9f;have c2:=Xdb (args':=[Y3p bx1.disk,.sl 1 [[b8 1]] .full]) (Y5p bx1.disk [1] (Y3x g3) (by decide)) ⟨.rfl _,by simp only[by1,Wb,sL],trivial⟩;rw[g5,g6] at c2;generalize bx1=X at*;have h1:(Y3k (Xrr exO) [1]).halt=false:=rfl;have h2:(Y3k (Xrr exO) [1]).plan.ver=1:=rfl;generalize Y3k (Xrr exO) [1]=H at*;simp only[Y3p,Xha,bxA,bxC] at c1 c2;refine Xc 2 Tryz.func18 rfl fun n out _ _=> ?_;simp only[sn,Tryz.ntmps18,simprocAttr];repeat' (first|refine Vk fun K hK=> ?_|apply V0|((first|apply gE|apply gR);simp only[zA,simprocAttr,X0,h1,h2])|(apply Vz;refine Vo rfl rfl rfl (fun _ _=>rfl) ?_<;>first|rfl|skip)|(refine X3 (c1) ?_)|(refine X3 (c2) ?_)|(refine hK _ ?_;clear hK K))
def Xs7 (s:St):Bool:=decide ((s.tr.length:Int)>200)||decide ((s.sw.length:Int)>200)||decide ((s.lk.length:Int)>200)
theorem Xvl (s:St):Xr Tryz.prog 64 [stA s] [] (bool (Xs7 s)) []:=by
 unfold Xs7;refine Xc 1 Tryz.func64 rfl fun n out _ _=> ?_;simp only[sn,Tryz.ntmps64,simprocAttr];have hg:=Nat.le_refl 0;repeat' (first|refine Vk fun K hK=> ?_|apply V0|apply Vs|with_reducible apply aa|((first|apply gE|apply gR|apply gS);simp only[zA,simprocAttr,hg,stA,stC])|exact Vn|(apply Vz;refine Vo rfl rfl rfl (fun _ _=>rfl) ?_<;>first|rfl|(simp only[g_0,g_s];refine congrArg VS.bool ?_;first|(simp_all;done)|(simp_all;omega))|skip)|((refine Vg (fun hg=> ?_) (fun hg=> ?_))<;>try simp only[nb] at hg)|(refine hK _ ?_;clear hK K)|clear hK K)
end Go.Proofs.YtgpdghbmiihfbaaGreat.Pln
