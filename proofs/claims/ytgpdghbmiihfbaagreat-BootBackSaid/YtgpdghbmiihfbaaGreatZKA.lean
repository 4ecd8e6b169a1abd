/- The layer of abstract values, joined. -/
import Derived.Test.YtgpdghbmiihfbaaGreatZW14
import Derived.Test.YtgpdghbmiihfbaaGreatZP5
import Derived.Test.YtgpdghbmiihfbaaGreatZVsA
import Derived.Test.YtgpdghbmiihfbaaGreatZVsBits
namespace Go.Proofs.YtgpdghbmiihfbaaGreat.Pln
set_option linter.all false
set_option maxHeartbeats 4000000
open Go Go.VS Tab
theorem Xxc {P:Program} {f:FuncId} {args:List AV} {needs:List (Nat×Option Res)} {r r':AV} {gives:List (Nat×Res)} (h:Xr P f args needs r gives) (hle:AV.le r r'):Xr P f args needs r' gives:=
 fun M N vs hI hR hn hN hu=>Calls.mono (h M N vs hI hR hn hN hu) fun e w' ⟨v,he,M',h1,h2,h3,h4,h5⟩=>⟨v,he,M',h1,h2,h3,h4,h5.le hle⟩
def Xxd (pre:List (Int×Int×Int)) (k:Nat):Bool:=pre.any fun y=>y.1==(k:Int)
def Xr1 (pre:List (Int×Int×Int)):List AV:=(List.range 100).map fun k=>bool (Xxd pre k)
theorem Xqr:Xr1 []=List.replicate 100 (bool false):=by rw[W4,Xr1];simp [Xxd]
theorem Xvu (pre:List (Int×Int×Int)):(Xr1 pre).length=100:=by simp [Xr1]
theorem Xui (pre:List (Int×Int×Int)) (j s:Nat) (h:j<100):pick false s (List.drop j (Xr1 pre))=some (bool (Xxd pre j)):=Uu _ _ _ _ h
theorem Xvv (l:List (Int×Int×Int)) (i:Nat) (hi:i<l.length) (j:Nat) (h:j<100) (hj:l[i].1=j):Yf (Xr1 (l.take i)) j [bool true]=Xr1 (l.take (i+1)):=by
 rw[Xr1,Q0 _ _ _ h,Xr1];apply dl;intro k hk;have e:Xxd (l.take (i+1)) k=(Xxd (l.take i) k||(l[i].1==(k:Int))):=by
  rw[Xxd,Xxd,ai hi,jl];simp
 by_cases hk:k=j
 ·subst hk;rw[if_pos rfl,e,hj];simp
 ·rw[if_neg hk,e,hj];have:((j:Int)==(k:Int))=false:=by simp;omega
  rw[this,Bool.or_false]
def okA (pre:List (Int×Int×Int)) (x:Int×Int×Int):Bool:= !pre.any fun y=>y.1==x.1
def Xvw (l:List (Int×Int×Int)):Bool:=Ue okA l
def Xux (r:Rt) (i:Nat) (j:Int×Int) (x:Int×Int×Int):Bool:= !(x.2.1==j.1&&(x.2.2==j.2&&(decide (i+1<r.path.length)||x.1 !=r.ex)))
def Xsa (p:Pl) (r:Rt) (outs:List (Int×Int)):Bool:=(List.range r.path.length).all fun i=>p.sgs.all (Xux r i (outs.getD i (0,0)))
def Xpp (p:Pl) (r:Rt):Bool:=Xvw (Xop p r).asks&&Xsa p r (Xpv p r)
def Xo3 (p:Pl):Int:=if Xs0 p=0∧p.rts.all (Xpp p)=true then 0 else 100
theorem Xtr {p:Pl} (hm:Uf p=true) {r:Rt} (hr:r∈p.rts) (hf:Xrb p r=0):Gone p r (Xop p r) (Xpv p r):=by
 have hl:(Xt6 p r).lost=false:=by
  unfold Xrb at hf;cases hl:(Xt6 p r).lost with
  |true=>rw[hl] at hf;simp at hf
  |false=>rfl
 have e:Xop p r=⟨r.path,r.over,(Xsk (Xt6 p r) r.flanks).asks,(Xl0 p.sgs r.entry).2.1⟩:=by
  unfold Xop;rw[hl,if_neg (by decide)]
 have eo:Xpv p r=(Xt6 p r).outs:=by
  unfold Xpv;rw[hl,if_neg (by decide)]
 exact⟨hm,hr,(Xu2 hm hr).1,hl,by rw[e],by rw[e],by rw[e],by rw[e];exact Xu3 _ _ (Xwa hm hr),eo⟩
theorem Xvx {p:Pl} (h:Uf p=true) {r:Rt} (hr:r∈p.rts):∀f,f∈r.flanks->0<f.1∧f.1<100∧1<=f.2∧f.2<=2:=by
 obtain⟨_,_,hpts,_,_,_,hrs⟩:=Xol h;have ho:=hrs r hr;unfold okR at ho;cases hg:Xpe p.sgs r.entry with
 |none=>rw[hg] at ho;cases ho
 |some en=>
  rw[hg] at ho;rw[ag] at ho;intro f hf;obtain⟨i,hi,rfl⟩:=az hf;have h1:=Z3.1 ho.2 i hi;unfold okF at h1;simp only[ag,c9,cv] at h1;obtain⟨⟨h2,_⟩,h3⟩:=h1;obtain⟨x,hx⟩:=ez.1 h2;have hxm:=bz hx;have hx1:x.1=r.flanks[i].1:=by simpa using eh hx
  unfold Ul at hpts;simp only[ag] at hpts;obtain⟨j,hj,rfl⟩:=az hxm;have h5:=Z3.1 hpts.1.1.1 j (by simpa using hj);simp only[Ye,ag,U1,fv] at h5;omega
theorem Xts {p:Pl} {r:Rt} {W:Wy} {O:List (Int×Int)} (g:Gone p r W O):∀a,a∈W.asks->0<a.1∧a.1<100∧1<=a.2.1∧a.2.1<=2:=by
 intro a ha;rw[g.asks,el] at ha;rcases ha with ha|ha
 ·obtain⟨i,hi,rfl⟩:=az ha;obtain⟨j,s,_,_,h1,_,h2,h3,h4⟩:=(Xw9 (Xol g.may).2.1 r _).1.each i hi;have:=Uv.1 (U0 (Xol g.may).2.1 h1).2;rw[<- h2];omega
 ·obtain⟨f,hf,rfl⟩:=dj.1 ha;exact Xvx g.may g.mem f hf
theorem Xvy {p:Pl} {r:Rt} {W:Wy} {O:List (Int×Int)} (g:Gone p r W O):r.path.length<=O.length:=by
 have hn:r.path.length<=(Xs2 r).length:=by unfold Xs2;simp
 have h1:=Xu5 (p:=p) (r:=r) r.path.length (Xry g.not _ hn) fun i hi=>by
  by_cases h:i+1=r.path.length
  ·exact .inl h
  ·exact .inr (by omega)
 obtain⟨t,ht⟩:=Xu6 (p:=p) (r:=r) (Xs2 r).length hn g.not;rw[g.outs,ht,ac];omega
end Go.Proofs.YtgpdghbmiihfbaaGreat.Pln
namespace Go.Proofs.YtgpdghbmiihfbaaGreat.Pln
set_option linter.all false
set_option maxHeartbeats 8000000
set_option maxRecDepth 4000
open Go Go.VS Tab
attribute [local irreducible] AWp Xp0 Pg X5c Qy Lt Tp FdT Eb
theorem Xzm (l:List (Int×Int×Int)) (hl:l.length<=1000000) (hp:∀a,a∈l->0<a.1∧a.1<100):Xr Tryz.prog 184 [.sl 3 (l.map sgC) .sh] [] (bool (Xvw l)) []:=by
 unfold Xvw;refine Xc 2 Tryz.func184 rfl fun n out _ _=> ?_;simp only[sn,Tryz.ntmps184,simprocAttr];repeat' (first|refine Vk fun K hK=> ?_|apply V0|apply Vb|apply Vc|apply Vr|apply Vs|with_reducible apply aa|((first|apply gE|apply gR);simp only[zA,simprocAttr, -List.reduceReplicate,Qg])|exact Vn|(apply Vz;refine Vo rfl rfl rfl (fun _ _=>rfl) ?_<;>first|rfl|skip)|(apply Vx;simp only[sb,reduceIte,Nat.reduceEqDiff])|(refine hK _ ?_;clear hK K)|refine Vt rfl ?_|refine Vf rfl ?_|refine Vi rfl (fun hg=> ?_) (fun hg=> ?_)|clear hK K)
 apply V5;refine Xpw (l.length) (fun i=>(∀j (hj:j<l.length),j<i->okA (l.take j) l[j]=true)) (fun m i=>tp [2,5] (tr 9 11 [(8,i64 (i:Int)),(3,.ptr (m+0) 0)])) (fun m i=>[some (.box 242 (Xr1 (l.take i))),none]) (by intros;omega) ?_ fun m i hm hi=> ?_
 ·refine X2 ?_ ?_ (by first|rfl|(simp only[af,List.take_zero,Xqr];rfl)|simp only[af,List.take_zero,Xqr]) rfl rfl rfl<;>simp only[sL,Xqr]
 obtain⟨hi,hq⟩:=hi;simp only[pt];have hw:=Yl (n:=i) 1 1 rfl (by omega);by_cases hlt:i<l.length
 ·have gi:=Xg sgC l i [] hlt;obtain⟨a1,a2⟩:=hp _ (ak hlt);obtain⟨np,hpt⟩:=br (Int.le_of_lt a1);have hnp:np<100:=by omega
  have hnp':(np:Int)<100:=by omega
  have hnp9:np<=99:=by omega
  have hst:=Xvv l i hlt np hnp hpt;have okv:okA (l.take i) l[i]= !Xxd (l.take i) np:=by unfold okA Xxd;rw[hpt]
  have next:okA (l.take i) l[i]=true->∀j (hj:j<l.length),j<i+1->okA (l.take j) l[j]=true:=fun h j hj hji=>by
   by_cases h':j=i
   ·subst h';exact h
   ·exact hq j hj (by omega)
  repeat' (first|refine Vk fun K hK=> ?_|apply V0|apply Vb|apply Vc|apply Vr|apply Vs|with_reducible apply aa|((first|apply gE|apply gR);simp only[zA,simprocAttr, -List.reduceReplicate,Xi hm,hlt,gi,sgC,X0,hw,hpt,hnp',hnp9,Xvu,Xui _ np 1 hnp,hst])|exact Vn|(apply Vz;refine Vo rfl rfl rfl (fun _ _=>rfl) ?_<;>first|rfl|(rw[Yz hlt (by rw[okv];simp_all)];rfl)|skip)|(apply Vx;simp only[sb,reduceIte,Nat.reduceEqDiff])|(refine hK _ ?_;clear hK K)|refine Vt rfl ?_|refine Vf rfl ?_|refine Vi rfl (fun hg=> ?_) (fun hg=> ?_)|clear hK K)
  refine⟨i+1,⟨by omega,next (by rw[okv];simp_all)⟩,by omega,?_⟩;refine Xx [true,false] ?_ ?_<;>intro n_<;>simp only[sM]
 ·have hall:=Q3 (f:=okA) (l:=l) fun j hj=>hq j hj (by omega);repeat' (first|refine Vk fun K hK=> ?_|apply V0|apply Vb|apply Vc|apply Vr|apply Vs|with_reducible apply aa|((first|apply gE|apply gR);simp only[zA,simprocAttr, -List.reduceReplicate,hlt])|exact Vn|(apply Vz;refine Vo rfl rfl rfl (fun _ _=>rfl) ?_<;>first|rfl|(rw[hall];rfl)|skip)|(apply Vx;simp only[sb])|(refine hK _ ?_;clear hK K)|refine Vt rfl ?_|refine Vf rfl ?_|refine Vi rfl (fun hg=> ?_) (fun hg=> ?_)|clear hK K)
theorem Xyv (p:Pl) (hs:Sm p) (r:Rt) (h20:r.path.length<=1000000) (O:List (Int×Int)) (ho:r.path.length<=O.length) (hol:O.length<=1000000):Xr Tryz.prog 185 [plA p,rtA r,.sl 2 (O.map jnC) .sh] [] (bool (Xsa p r O)) []:=by
 have hsl:=hs.sgs;obtain⟨OT,hOT⟩:∃OT,OT=O.take r.path.length:=⟨_,rfl⟩
 have hOm:(O.map jnC).take r.path.length=OT.map jnC:=by rw[hOT,iu]
 have hOl:OT.length=r.path.length:=by rw[hOT,aj];omega
 have hOg:∀i (hi:i<OT.length),O.getD i (0,0)=OT[i]:=fun i hi=>by
  subst hOT;have:i<O.length:=by omega
  simp [ah,this]
 unfold Xsa;have bad:∀i (hi:i<OT.length) k (hk:k<p.sgs.length),Xux r i OT[i] p.sgs[k]=false->((List.range r.path.length).all fun i=>p.sgs.all (Xux r i (O.getD i (0,0))))=false:=fun i hi k hk h=>by
  refine Ez (i:=i) (by omega) ?_;rw[hOg i hi];exact Kp hk h
 have good:(∀i (hi:i<OT.length),p.sgs.all (Xux r i OT[i])=true)->((List.range r.path.length).all fun i=>p.sgs.all (Xux r i (O.getD i (0,0))))=true:=fun h=>by
  refine Hn fun i hi=> ?_;rw[hOg i (by omega)];exact h i (by omega)
 generalize ((List.range r.path.length).all fun i=>p.sgs.all (Xux r i (O.getD i (0,0))))=B at*;clear hOg;refine Xc 4 Tryz.func185 rfl fun n out _ _=> ?_;simp only[sn,Tryz.ntmps185,simprocAttr];have hg:=Nat.le_refl 0;repeat' (first|refine Vk fun K hK=> ?_|apply V0|apply Vb|apply Vc|apply Vr|apply Vs|with_reducible apply aa|((first|apply gE|apply gR|apply gS);simp only[zA,simprocAttr,plA,plC,rtA,rtC,hOm,hOl,ho,P6,Nh,Nat.sub_zero])|exact Vn|(apply Vz;refine Vo rfl rfl rfl (fun _ _=>rfl) ?_<;>first|rfl|skip)|((refine Vg (fun hg=> ?_) (fun hg=> ?_))<;>try simp only[nb] at hg)|(apply Vx;simp only[sb,reduceIte,Nat.reduceEqDiff])|(refine hK _ ?_;clear hK K)|refine Vt rfl ?_|refine Vf rfl ?_|refine Vi rfl (fun hg=> ?_) (fun hg=> ?_)|clear hK K)
 apply V5;refine Xpw (r.path.length) (fun i=>(∀j (hj:j<OT.length),j<i->p.sgs.all (Xux r j OT[j])=true)) (fun m i=>tp [6,7,8,10] (tr 18 40 [(17,i64 (i:Int)),(3,.ptr (m+0) 0),(4,.ptr (m+1) 0)])) (fun m i=>[some (.box 28 (plC p)),some (.box 161 (rtC r)),none,none]) (by intros;omega) ?_ fun m i hm hi=> ?_
 ·refine X2 ?_ ?_ (by first|rfl|(simp only[af,plC,rtC];rfl)|simp only[af,plC,rtC]) rfl rfl rfl<;>simp only[sL,plC,rtC]
 obtain⟨hi,hq⟩:=hi;simp only[pt];have hw:=Yl (n:=i) 1 1 rfl (by omega);by_cases hlt:i<r.path.length
 ·have hlo:i<OT.length:=by omega
  have gi:=Xg jnC OT i [] hlo;have hs1:=X25 (n:=r.path.length) 1 1 rfl (by omega) (by omega);have hd:decide ((i:Int)<((r.path.length - 1:Nat):Int))=decide (i+1<r.path.length):=fj.2 (by omega);have hq0:=hq;have hlti:=hlt;clear hq;repeat' (first|refine Vk fun K hK=> ?_|apply V0|apply Vb|apply Vc|apply Vr|apply Vs|with_reducible apply aa|((first|apply gE|apply gR|apply gS);simp only[zA,simprocAttr,Xi hm,hlt,hlo,gi,jnC,plC,X0])|exact Vn|(apply Vz;refine Vo rfl rfl rfl (fun _ _=>rfl) ?_<;>first|rfl|skip)|((refine Vg (fun hg=> ?_) (fun hg=> ?_))<;>try simp only[nb] at hg)|(apply Vx;simp only[sb,reduceIte,Nat.reduceEqDiff])|(refine hK _ ?_;clear hK K)|refine Vt rfl ?_|refine Vf rfl ?_|refine Vi rfl (fun hg=> ?_) (fun hg=> ?_)|clear hK K)
  apply V5;refine Xpw (p.sgs.length) (fun k=>(∀q (hq:q<p.sgs.length),q<k->Xux r i OT[i] p.sgs[q]=true)) (fun m k=>tp [6,10] (tr 26 31 [(25,i64 (k:Int)),(3,.ptr (m+0) 0),(4,.ptr (m+1) 0),(8,.ptr (m+2) 0)])) (fun m k=>[some (.box 28 (plC p)),some (.box 161 (rtC r)),some (.box 167 (jnC OT[i])),none]) (by intros;omega) ?_ fun m k hm hk=> ?_
  ·refine X2 ?_ ?_ (by first|rfl|(simp only[af,plC,rtC,jnC];rfl)|simp only[af,plC,rtC,jnC]) rfl rfl rfl<;>simp only[sL,plC,rtC,jnC]
  obtain⟨hk,hq⟩:=hk;simp only[pt];have hw2:=Yl (n:=k) 1 1 rfl (by omega);by_cases hlt:k<p.sgs.length
  ·have gk:=Xg sgC p.sgs k [] hlt;have okv:Xux r i OT[i] p.sgs[k]= !(p.sgs[k].2.1==OT[i].1&&(p.sgs[k].2.2==OT[i].2&&(decide (i+1<r.path.length)||p.sgs[k].1 !=r.ex))):=rfl;have next:Xux r i OT[i] p.sgs[k]=true->∀q (hq:q<p.sgs.length),q<k+1->Xux r i OT[i] p.sgs[q]=true:=fun h q hq1 hq2=>by
    by_cases h':q=k
    ·subst h';exact h
    ·exact hq q hq1 (by omega)
   have bad':=bad i hlo k hlt;clear hq hq0 bad good;repeat' (first|refine Vk fun K hK=> ?_|apply V0|apply Vb|apply Vc|apply Vr|apply Vs|with_reducible apply aa|((first|apply gE|apply gR|apply gS);simp only[zA,simprocAttr,hg,Xi hm,hlt,gk,sgC,jnC,rtC,X0,hs1,hw2])|exact Vn|(apply Vz;refine Vo rfl rfl rfl (fun _ _=>rfl) ?_<;>first|rfl|(rw[bad' (by rw[okv];simp_all)];rfl)|skip)|((refine Vg (fun hg=> ?_) (fun hg=> ?_))<;>try simp only[nb] at hg)|(apply Vx;simp only[sb,reduceIte,Nat.reduceEqDiff])|(refine hK _ ?_;clear hK K)|refine Vt rfl ?_|refine Vf rfl ?_|refine Vi rfl (fun hg=> ?_) (fun hg=> ?_)|clear hK K)
   all_goals (refine⟨k+1,⟨by omega,next (by rw[okv];simp_all)⟩,by omega,?_⟩)
   all_goals (refine Xx [true,true,true,false] ?_ ?_<;>intro n_<;>simp only[X4,sm,plC,rtC,jnC,hlt,im])
  ·obtain rfl:k=p.sgs.length:=by omega
   have hallk:p.sgs.all (Xux r i OT[i])=true:=Mm fun q hq1=>hq q hq1 hq1;repeat' (first|refine Vk fun K hK=> ?_|apply V0|apply Vb|apply Vc|apply Vr|apply Vs|with_reducible apply aa|((first|apply gE|apply gR|apply gS);simp only[zA,simprocAttr,hlt,hw])|exact Vn|(apply Vz;refine Vo rfl rfl rfl (fun _ _=>rfl) ?_<;>first|rfl|skip)|((refine Vg (fun hg=> ?_) (fun hg=> ?_))<;>try simp only[nb] at hg)|(apply Vx;simp only[sb,Nat.reduceEqDiff])|(refine hK _ ?_;clear hK K)|refine Vt rfl ?_|refine Vf rfl ?_|refine Vi rfl (fun hg=> ?_) (fun hg=> ?_)|clear hK K)
   refine⟨i+1,⟨by omega,fun j hj hji=> ?_⟩,by omega,?_⟩
   ·by_cases h:j=i
    ·subst h;exact hallk
    ·exact hq0 j hj (by omega)
   refine Xx [true,true,false,false] ?_ ?_<;>intro n_<;>simp only[sM,plC,rtC]
 ·have hall:=good fun j hj=>hq j hj (by omega);repeat' (first|refine Vk fun K hK=> ?_|apply V0|apply Vb|apply Vc|apply Vr|apply Vs|with_reducible apply aa|((first|apply gE|apply gR|apply gS);simp only[zA,simprocAttr,hlt])|exact Vn|(apply Vz;refine Vo rfl rfl rfl (fun _ _=>rfl) ?_<;>first|rfl|(rw[hall];rfl)|skip)|((refine Vg (fun hg=> ?_) (fun hg=> ?_))<;>try simp only[nb] at hg)|(apply Vx;simp only[sb])|(refine hK _ ?_;clear hK K)|refine Vt rfl ?_|refine Vf rfl ?_|refine Vi rfl (fun hg=> ?_) (fun hg=> ?_)|clear hK K)
theorem Xsb {p:Pl} (h:Xs0 p=0):Uf p=true∧∀r,r∈p.rts->Xrb p r=0:=by
 unfold Xs0 at h;cases hm:Uf p with
 |false=>simp [hm] at h
 |true=>
  rw[hm,if_pos rfl] at h;refine⟨rfl,fun r hr=> ?_⟩;cases hf:p.rts.find? (fun r=>Xrb p r !=0) with
  |none=>
   rw[dq] at hf;have:=hf r hr;simpa using this
  |some q=>
   rw[hf] at h;have:=eh hf;simp at this;exact absurd h this
theorem Xsc {p:Pl} (hs:Sm p) {r:Rt} (hr:r∈p.rts):(Xop p r).asks.length<=60∧(Xpv p r).length<=40:=by
 obtain⟨b1,b2,b3⟩:=hs.rt r hr;have h1:=Xrw p r (r.path++r.over).length;have h2:=Xu1 (Xt6 p r) r.flanks;rw[ac] at h1;have e:(Xt6 p r).asks.length<=r.path.length+r.over.length∧(Xt6 p r).outs.length<=r.path.length+r.over.length:=by
  have:=h1;unfold Xt6;rw[ac];exact this
 unfold Xop Xpv;constructor
 ·split
  ·exact ba _
  ·show(Xsk (Xt6 p r) r.flanks).asks.length<=60
   omega
 ·split
  ·exact ba _
  ·omega
theorem Xrp (p:Pl) (hs:Sm p):Xr Tryz.prog 109 [plA p] [] (i64 (Xo3 p)) []:=by
 have cw:=Xy1 p hs;have hrl:=hs.rts;by_cases hE:Xs0 p=0
 ·obtain⟨hmy,hfE⟩:=Xsb hE;have e2:Xs1 p=p.rts.map (Xop p):=by unfold Xs1;rw[if_pos hE]
  have e3:Xwf p=p.rts.map (Xpv p):=by unfold Xwf;rw[if_pos hE]
  have hm1:(p.rts.map (Xop p)).map wyC=p.rts.map fun r=>wyC (Xop p r):=by rw[fu];rfl
  have hm2:(p.rts.map (Xpv p)).map joC=p.rts.map fun r=>joC (Xpv p r):=by rw[fu];rfl
  rw[hE,e2,e3,hm1,hm2] at cw;have bad:∀i (hi:i<p.rts.length),Xpp p p.rts[i]=false->Xo3 p=100:=fun i hi h=>by
   unfold Xo3;rw[if_neg (by rw[Kp hi h];simp)]
  have good:(∀i (hi:i<p.rts.length),Xpp p p.rts[i]=true)->Xo3 p=0:=fun h=>by
   unfold Xo3;rw[if_pos ⟨hE,Mm h⟩]
  generalize Xo3 p=RE at*;refine Xc 2 Tryz.func109 rfl fun n out _ _=> ?_;simp only[sn,Tryz.ntmps109,simprocAttr];have hg:=Nat.le_refl 0;repeat' (first|refine Vk fun K hK=> ?_|apply V0|apply Vb|apply Vc|apply Vr|apply Vs|with_reducible apply aa|refine Vq (by kernel_rfl) ?_|((first|apply gE|apply gR|apply gS);simp only[zA,simprocAttr,plA,plC])|exact Vn|(apply Vz;refine Vo rfl rfl rfl (fun _ _=>rfl) ?_<;>first|rfl|skip)|(refine X3 (cw) ?_)|((refine Vg (fun hg=> ?_) (fun hg=> ?_))<;>try simp only[nb] at hg)|(apply Vx;simp only[sb,reduceIte,Nat.reduceEqDiff])|(refine hK _ ?_;clear hK K)|refine Vt rfl ?_|refine Vf rfl ?_|refine Vi rfl (fun hg=> ?_) (fun hg=> ?_)|clear hK K)
  apply V5;refine Xpw (p.rts.length) (fun i=>(∀j (hj:j<p.rts.length),j<i->Xpp p p.rts[j]=true)) (fun m i=>tp [2,6,7] (tr 20 22 [(19,i64 (i:Int)),(1,.ptr (m+0) 0)])) (fun m i=>[some (.box 28 (plC p)),none]) (by intros;omega) ?_ fun m i hm hi=> ?_
  ·refine X2 ?_ ?_ (by first|rfl|(simp only[plC,af];rfl)|simp only[plC,af]) rfl rfl rfl<;>simp only[sL,plC]
  obtain⟨hi,hq⟩:=hi;simp only[pt];have hw:=Yl (n:=i) 1 1 rfl (by omega);by_cases hlt:i<p.rts.length
  ·have gi:=Xg rtC p.rts i [] hlt;have gw:=Xg (fun r=>wyC (Xop p r)) p.rts i [] hlt;have go:=Xg (fun r=>joC (Xpv p r)) p.rts i [] hlt;simp only[wyC,joC] at gw go;have hmem:=ak hlt;obtain⟨z1,z2⟩:=Xsc hs hmem;obtain⟨b1,b2,b3⟩:=hs.rt _ hmem;have g:=Xtr hmy hmem (hfE _ hmem);have co:=Xzm (Xop p p.rts[i]).asks (by omega) fun a ha=>by obtain⟨x1,x2,_⟩:=Xts g a ha;exact⟨x1,x2⟩
   have cc:=Xyv p hs p.rts[i] (by omega) (Xpv p p.rts[i]) (Xvy g) (by omega);have okv:Xpp p p.rts[i]=(Xvw (Xop p p.rts[i]).asks&&Xsa p p.rts[i] (Xpv p p.rts[i])):=rfl;have next:Xpp p p.rts[i]=true->∀q (hq:q<p.rts.length),q<i+1->Xpp p p.rts[q]=true:=fun h q hq1 hq2=>by
    by_cases h':q=i
    ·subst h';exact h
    ·exact hq q hq1 (by omega)
   have bad':=bad i hlt;clear g hmy hfE bad good hq;generalize Xvw (Xop p p.rts[i]).asks=B1 at*;generalize Xsa p p.rts[i] (Xpv p p.rts[i])=B2 at*;simp only[plA,plC,rtA,rtC] at cc;repeat' (first|refine Vk fun K hK=> ?_|apply V0|apply Vb|apply Vc|apply Vr|apply Vs|with_reducible apply aa|refine Vq (by kernel_rfl) ?_|((first|apply gE|apply gR|apply gS);simp only[zA,simprocAttr,hg,Xi hm,plC,rtC,wyC,joC,hlt,gi,gw,go,X0,hw])|exact Vn|(apply Vz;refine Vo rfl rfl rfl (fun _ _=>rfl) ?_<;>first|rfl|(rw[bad' (by rw[okv];simp_all)];rfl)|skip)|(refine X3 (co) ?_)|(refine X3 (cc) ?_)|((refine Vg (fun hg=> ?_) (fun hg=> ?_))<;>try simp only[nb] at hg)|(apply Vx;simp only[sb,reduceIte,Nat.reduceEqDiff])|(refine hK _ ?_;clear hK K)|refine Vt rfl ?_|refine Vf rfl ?_|refine Vi rfl (fun hg=> ?_) (fun hg=> ?_)|clear hK K)
   all_goals (refine⟨i+1,⟨by omega,next (by rw[okv];simp_all)⟩,by omega,?_⟩)
   all_goals (refine Xx [true,false] ?_ ?_<;>intro n_<;>simp only[X4,sm,plC,hlt,im])
  ·have hall:=good fun j hj=>hq j hj (by omega);repeat' (first|refine Vk fun K hK=> ?_|apply V0|apply Vb|apply Vc|apply Vr|apply Vs|with_reducible apply aa|refine Vq (by kernel_rfl) ?_|((first|apply gE|apply gR|apply gS);simp only[zA,simprocAttr,hlt])|exact Vn|(apply Vz;refine Vo rfl rfl rfl (fun _ _=>rfl) ?_<;>first|rfl|(rw[hall];rfl)|skip)|((refine Vg (fun hg=> ?_) (fun hg=> ?_))<;>try simp only[nb] at hg)|(apply Vx;simp only[sb])|(refine hK _ ?_;clear hK K)|refine Vt rfl ?_|refine Vf rfl ?_|refine Vi rfl (fun hg=> ?_) (fun hg=> ?_)|clear hK K)
 ·have e1:Xo3 p=100:=by unfold Xo3;rw[if_neg fun h=>hE h.1]
  have hE':(Xs0 p !=0)=true:=by simpa using hE
  rw[e1];refine Xc 2 Tryz.func109 rfl fun n out _ _=> ?_;simp only[sn,Tryz.ntmps109,simprocAttr];have hg:=Nat.le_refl 0;repeat' (first|refine Vk fun K hK=> ?_|apply V0|apply Vb|apply Vc|apply Vr|apply Vs|with_reducible apply aa|refine Vq (by kernel_rfl) ?_|((first|apply gE|apply gR|apply gS);simp only[zA,simprocAttr,plA,plC,hE'])|exact Vn|(apply Vz;refine Vo rfl rfl rfl (fun _ _=>rfl) ?_<;>first|rfl|skip)|(refine X3 (cw) ?_)|((refine Vg (fun hg=> ?_) (fun hg=> ?_))<;>try simp only[nb] at hg)|(apply Vx;simp only[sb,reduceIte,Nat.reduceEqDiff])|(refine hK _ ?_;clear hK K)|refine Vt rfl ?_|refine Vf rfl ?_|refine Vi rfl (fun hg=> ?_) (fun hg=> ?_)|clear hK K)
end Go.Proofs.YtgpdghbmiihfbaaGreat.Pln
namespace Go.Proofs.YtgpdghbmiihfbaaGreat.Pln
set_option linter.all false
set_option maxHeartbeats 1000000
open Go Go.VS
def Ur:Nat->Nat->List UInt8
 |0,_=>[]
 |f+1,n=>if n<128 then[UInt8.ofNat n] else UInt8.ofNat (n % 128+128)::Ur f (n / 128)
def Y3m (n:Int):List UInt8:=if 0<=n∧n<=2147483647 then Ur 5 n.toNat else[]
def R1:List UInt8->Nat->Nat->Option (Nat×Nat)
 |[],_,_=>none
 |c::l,i,acc=>if i=5 then none else
  if 128<=c.toNat then R1 l (i+1) (acc+c.toNat % 128*128 ^ i) else
  if (c=0∧0<i)∨2147483647<acc+c.toNat % 128*128 ^ i then none else some (acc+c.toNat % 128*128 ^ i,i+1)
def Jt (l:List UInt8):Option (Nat×Nat):=R1 l 0 0
theorem G6:∀(f n i acc:Nat) (y:List UInt8),0<f->n<128 ^ f->i+f<=5->(0<i->0<n)->acc+n*128 ^ i<=2147483647->R1 (Ur f n++y) i acc=some (acc+n*128 ^ i,i+(Ur f n).length)
 |0,n,i,acc,y,h0,_,_,_,_=>by omega
 |f+1,n,i,acc,y,_,h,h5,hp,hm=>by
  unfold Ur;by_cases hn:n<128
  ·have hc:(UInt8.ofNat n).toNat=n:=by rw[dr];omega
   have hz:¬(UInt8.ofNat n=0∧0<i):=fun⟨e,hi⟩=>by
    have:=congrArg UInt8.toNat e;rw[hc] at this;have h1:=hp hi;have e0:(0:UInt8).toNat=0:=rfl;omega
   rw[if_pos hn,List.cons_append,R1,if_neg (by omega),hc,if_neg (by omega),fi hn,if_neg (by rintro(h|h);exact hz h;omega)];rfl
  ·have hc:(UInt8.ofNat (n % 128+128)).toNat=n % 128+128:=by rw[dr];omega
   have hf:0<f:=by
    rcases ix f with h0|h0
    ·subst h0;omega
    ·exact h0
   have hd:n / 128<128 ^ f:=by rw[Nat.div_lt_iff_lt_mul (by decide),<- Nat.pow_succ];exact h
   have hs:acc+(n % 128+128) % 128*128 ^ i+n / 128*128 ^ (i+1)=acc+n*128 ^ i:=by
    have e1:(n % 128+128) % 128=n % 128:=by omega
    have e2:n / 128*128 ^ (i+1)=n / 128*128*128 ^ i:=by rw[Nat.pow_succ,Nat.mul_assoc,Nat.mul_comm 128]
    rw[e1,e2,Nat.add_assoc,<- Nat.add_mul]
    congr 2
    omega
   rw[if_neg hn,List.cons_append,R1,if_neg (by omega),hc,if_pos (by omega),G6 f (n / 128) (i+1) _ y hf hd (by omega) (fun _=>by omega) (by rw[hs];exact hm),hs,List.length_cons]
   congr 2
   omega
theorem Jx {n:Int} (h:0<=n∧n<=2147483647) (y:List UInt8):Jt (Y3m n++y)=some (n.toNat,(Y3m n).length):=by
 unfold Jt Y3m;rw[if_pos h,G6 5 n.toNat 0 0 y (by decide) (by omega) (by decide) (by intro h;omega) (by omega)];simp
abbrev Rd (α:Type):=List UInt8->Nat×Bool->α×(Nat×Bool)
def rdN:Rd Int:=fun b s=>if s.2=true then(-1,s) else match Jt (b.drop s.1) with
 |none=>(-1,(s.1,true))
 |some r=>((r.1:Int),(s.1+r.2,false))
def rdB {α β:Type} (f:Rd α) (g:α->Rd β):Rd β:=fun b s=>g (f b s).1 b (f b s).2
def rdP {α:Type} (v:α):Rd α:=fun _ s=>(v,s)
def rdK {α:Type} (one:Rd α):Nat->Rd (List α)
 |0=>rdP []
 |k+1=>rdB one fun v=>rdB (rdK one k) fun l=>rdP (v::l)
def rdL {α:Type} (one:Rd α):Rd (List α):=rdB rdN fun n=>if n<=99 then rdK one n.toNat else rdP []
def Wq {α:Type} (f:Rd α) (e:List UInt8) (v:α):Prop:=∀x y:List UInt8,f (x++(e++y)) (x.length,false)=(v,(x.length+e.length,false))
theorem R2 {α:Type} (v:α):Wq (rdP v) [] v:=fun _ _=>rfl
theorem Yu {α β:Type} {f:Rd α} {g:α->Rd β} {e1 e2:List UInt8} {v:α} {u:β} (h1:Wq f e1 v) (h2:Wq (g v) e2 u):Wq (rdB f g) (e1++e2) u:=fun x y=>by
 unfold rdB;have a:=h1 x (e2++y);have b:=h2 (x++e1) y;rw[aw,a];rw[aw,ac] at b;dsimp only;rw[b,ac,Nat.add_assoc]
theorem Zm {n:Int} (h:0<=n∧n<=2147483647):Wq rdN (Y3m n) n:=fun x y=>by
 unfold rdN;have e:List.drop x.length (x++(Y3m n++y))=Y3m n++y:=f9 rfl;dsimp only;rw[if_neg (by decide),e,Jx h];dsimp only;rw[Int.toNat_of_nonneg h.1]
theorem G7 {α:Type} {one:Rd α} {enc:α->List UInt8}:∀{l:List α},(∀v,v∈l->Wq one (enc v) v)->Wq (rdK one l.length) (l.flatMap enc) l
 |[],_=>R2 []
 |v::l,h=>by
  have h1:=h v (db ..);have h2:=G7 (one:=one) (enc:=enc) (l:=l) fun u hu=>h u (cz _ hu);rw[dp];have h3:=Yu (g:=fun l=>rdP (v::l)) h2 (R2 _);rw[b9] at h3;exact Yu h1 h3
theorem K0 {α:Type} {one:Rd α} {enc:α->List UInt8} {l:List α} (hl:l.length<=99) (h:∀v,v∈l->Wq one (enc v) v):Wq (rdL one) (Y3m l.length++l.flatMap enc) l:=by
 refine Yu (Zm ⟨by omega,by omega⟩) ?_;rw[if_pos (by omega),Int.toNat_natCast];exact G7 h
def Ug (j:Int×Int):List UInt8:=Y3m j.1++Y3m j.2
def Ee (g:Int×Int×Int):List UInt8:=Y3m g.1++(Y3m g.2.1++Y3m g.2.2)
def D4 (s:Sec):List UInt8:=Y3m s.id++(Y3m s.pt++s.ends.flatMap Ug)
def Zz {α:Type} (enc:α->List UInt8) (l:List α):List UInt8:=Y3m l.length++l.flatMap enc
def Ef (r:Rt):List UInt8:=Y3m r.id++(Y3m r.entry++(Y3m r.ex++(Zz Y3m r.path++(Zz Y3m r.over++(Zz Ug r.flanks++Y3m r.timer)))))
def Wg (p:Pl):List UInt8:=Y3m p.ver++(Y3m p.par++(Zz D4 p.secs++(Zz Ug p.pts++(Zz Ee p.sgs++Zz Ef p.rts))))
def Kd:Rd (Int×Int):=rdB rdN fun a=>rdB rdN fun b=>rdP (a,b)
def G8:Rd (Int×Int×Int):=rdB rdN fun a=>rdB rdN fun b=>rdB rdN fun c=>rdP (a,b,c)
def Ft:Rd Sec:=rdB rdN fun a=>rdB rdN fun q=>rdB Kd fun j1=>rdB Kd fun j2=>if 0<q then rdB Kd fun j3=>rdP ⟨a,q,[j1,j2,j3]⟩ else rdP ⟨a,q,[j1,j2]⟩
def B4:Rd Rt:=rdB rdN fun a=>rdB rdN fun en=>rdB rdN fun ex=>rdB (rdL rdN) fun path=>rdB (rdL rdN) fun over=>rdB (rdL Kd) fun fl=>rdB rdN fun t=>rdP ⟨a,en,ex,path,over,fl,t⟩
def X7u:Rd Pl:=rdB rdN fun v=>rdB rdN fun w=>rdB (rdL Ft) fun secs=>rdB (rdL Kd) fun pts=>rdB (rdL G8) fun sgs=>rdB (rdL B4) fun rts=>rdP ⟨v,w,secs,pts,sgs,rts⟩
def nOk (n:Int):Prop:=0<=n∧n<=2147483647
theorem Ke {α β:Type} {f:Rd α} {g:α->β} {e:List UInt8} {v:α} (h:Wq f e v):Wq (rdB f fun v=>rdP (g v)) e (g v):=by
 have:=Yu (g:=fun v=>rdP (g v)) h (R2 _);rwa [b9] at this
theorem R3 {j:Int×Int} (h1:nOk j.1) (h2:nOk j.2):Wq Kd (Ug j) j:=Yu (Zm h1) (Ke (Zm h2))
theorem X2e {g:Int×Int×Int} (h1:nOk g.1) (h2:nOk g.2.1) (h3:nOk g.2.2):Wq G8 (Ee g) g:=Yu (Zm h1) (Yu (Zm h2) (Ke (Zm h3)))
theorem X2f {s:Sec} (h1:nOk s.id) (h2:nOk s.pt) (h3:∀j,j∈s.ends->nOk j.1∧nOk j.2) (hl:s.ends.length=if 0<s.pt then 3 else 2):Wq Ft (D4 s) s:=by
 obtain⟨a,q,l⟩:=s;dsimp only at h1 h2 h3 hl;refine Yu (Zm h1) (Yu (Zm h2) ?_);dsimp only;by_cases hq:0<q
 ·rw[if_pos hq] at hl
  match l,hl,h3 with
  |[j1,j2,j3],_,h3=>
   have r:=fun j hj=>R3 (h3 j hj).1 (h3 j hj).2;rw[show[j1,j2,j3].flatMap Ug=Ug j1++(Ug j2++Ug j3) by simp];refine Yu (r j1 (by simp)) (Yu (r j2 (by simp)) ?_);rw[if_pos hq];exact Ke (r j3 (by simp))
 ·rw[if_neg hq] at hl
  match l,hl,h3 with
  |[j1,j2],_,h3=>
   have r:=fun j hj=>R3 (h3 j hj).1 (h3 j hj).2;rw[show[j1,j2].flatMap Ug=Ug j1++(Ug j2++[]) by simp];refine Yu (r j1 (by simp)) (Yu (r j2 (by simp)) ?_);rw[if_neg hq];exact R2 _
theorem X2g {r:Rt} (h1:nOk r.id) (h2:nOk r.entry) (h3:nOk r.ex) (h4:∀n,n∈r.path->nOk n) (h5:∀n,n∈r.over->nOk n) (h6:∀j,j∈r.flanks->nOk j.1∧nOk j.2) (h7:nOk r.timer)
  (l4:r.path.length<=99) (l5:r.over.length<=99) (l6:r.flanks.length<=99):Wq B4 (Ef r) r:=
 Yu (Zm h1) (Yu (Zm h2) (Yu (Zm h3) (Yu (K0 l4 fun n hn=>Zm (h4 n hn)) (Yu (K0 l5 fun n hn=>Zm (h5 n hn)) (Yu (K0 l6 fun j hj=>R3 (h6 j hj).1 (h6 j hj).2) (Ke (Zm h7)))))))
def nS (n:Int):Prop:=0<=n∧n<=127
theorem nS.ok {n:Int} (h:nS n):nOk n:=⟨h.1,by have:=h.2;omega⟩
theorem Sg {n:Int} (h:Uk n=true):nS n:=by
 unfold Uk at h;simp only[ag,am] at h;exact⟨by omega,by omega⟩
theorem X7m:nS 0:=⟨by decide,by decide⟩
theorem B9 {l:List Sec} (h:Uq l=true):l.length<=16∧∀s,s∈l->Uk s.id=true∧Qc s=true∧(List.range s.ends.length).all (Yb l s)=true:=by
 unfold Uq at h;simp only[ag,am] at h;obtain⟨⟨h1,h2⟩,h3⟩:=h;refine⟨h1,fun s hs=> ?_⟩;obtain⟨i,hi,rfl⟩:=az hs;have:=Z3.1 h2 i hi;unfold okS at this;simp only[ag] at this;exact⟨this.1.1.1,this.1.1.2,bc.1 h3 _ hs⟩
theorem Ba {l:List Sec} {n:Int} {s:Sec} (h:Qt l n=some s):s∈l∧s.id=n:=by
 unfold Qt at h;exact⟨bz h,by have:=eh h;simpa using this⟩
theorem Kf {s:Sec} (h:Qc s=true):nS s.pt∧s.ends.length=(if 0<s.pt then 3 else 2):=by
 unfold Qc at h;rw[c9,ag,ag,am,am,am] at h;rcases h with ⟨h1,h2⟩|⟨h1,h2⟩
 ·rw[h1,if_neg (by decide)];exact⟨X7m,h2⟩
 ·have h3:=h1;unfold Uk at h3;simp only[ag,am] at h3;rw[if_pos (by omega)];exact⟨Sg h1,h2⟩
theorem X2h {l:List Sec} (h:Uq l=true) {s:Sec} (hs:s∈l):∀j,j∈s.ends->nS j.1∧nS j.2:=fun j hj=>by
 obtain⟨_,h2⟩:=B9 h;obtain⟨i,hi,rfl⟩:=az hj;have:=bc.1 (h2 s hs).2.2 i (c8.2 hi);have e:s.ends.getD i (0,0)=s.ends[i]:=by simp [ah,hi]
 unfold Yb at this;rw[e,c9,am] at this;rcases this with h0|h0
 ·rw[h0];exact⟨X7m,X7m⟩
 ·cases hg:Qt l s.ends[i].1 with
  |none=>rw[hg] at h0;cases h0
  |some t=>
   rw[hg] at h0;obtain⟨ht,hid⟩:=Ba hg;obtain⟨n1,n2,_⟩:=h2 t ht;have n3:=(Kf n2).2;simp only[ag,am] at h0;obtain⟨⟨⟨x1,x2⟩,_⟩,_⟩:=h0;refine⟨hid▸Sg n1,x1,?_⟩;split at n3<;>omega
theorem R4 {l:List Int} (h:Ue Ye l=true):∀n,n∈l->Uk n=true:=fun n hn=>by
 obtain⟨i,hi,rfl⟩:=az hn;have:=Z3.1 h i hi;unfold Ye at this;rw[ag] at this;exact this.1
theorem D5 {l:List Sec} (h:Uq l=true) {n:Int} (hs:(Qt l n).isSome=true):nS n:=by
 cases hg:Qt l n with
 |none=>rw[hg] at hs;cases hs
 |some t=>
  obtain⟨ht,hid⟩:=Ba hg;exact hid▸Sg ((B9 h).2 t ht).1
structure Nums (p:Pl):Prop where
 ver:nOk p.ver
 par:nOk p.par
 sl:p.secs.length<=16
 s:∀s,s∈p.secs->nS s.id∧nS s.pt∧(∀j,j∈s.ends->nS j.1∧nS j.2)∧s.ends.length=if 0<s.pt then 3 else 2
 pl:p.pts.length<=6
 q:∀x,x∈p.pts->nS x.1∧nS x.2
 gl:p.sgs.length<=10
 g:∀g,g∈p.sgs->nS g.1∧nS g.2.1∧nS g.2.2
 rl:p.rts.length<=16
 r:∀r,r∈p.rts->nS r.id∧nS r.entry∧nS r.ex∧(∀n,n∈r.path->nS n)∧(∀n,n∈r.over->nS n)∧(∀j,j∈r.flanks->nS j.1∧nS j.2)∧nS r.timer∧r.path.length<=6∧r.over.length<=2∧r.flanks.length<=3
theorem Us {p:Pl} (h:Uf p=true):Nums p:=by
 unfold Uf at h;simp only[ag,am] at h;obtain⟨⟨⟨⟨⟨⟨h1,h2⟩,h3⟩,h4⟩,h5⟩,h6⟩,h7⟩:=h;obtain⟨s1,s2⟩:=B9 h2;unfold Kq at h1;simp only[ag,am] at h1;unfold Ul at h3;simp only[ag,am] at h3;unfold Qu at h4;simp only[ag,am] at h4;have sgN:∀g,g∈p.sgs->nS g.1:=fun g hg=>Sg (R4 h4.1.1 _ (dj.2 ⟨g,hg,rfl⟩));have ptN:∀x,x∈p.pts->nS x.1:=fun x hx=>Sg (R4 h3.1.1.1 _ (dj.2 ⟨x,hx,rfl⟩));refine⟨⟨by omega,by omega⟩,⟨by omega,by omega⟩,s1,fun s hs=> ?_,h3.1.1.2,fun x hx=> ?_,h4.1.2,fun g hg=> ?_,h6,fun r hr=> ?_⟩
 ·obtain⟨n1,n2,_⟩:=s2 s hs;exact⟨Sg n1,(Kf n2).1,X2h h2 hs,(Kf n2).2⟩
 ·refine⟨ptN x hx,?_⟩;have:=bc.1 h3.2 x hx;unfold okP at this;refine D5 h2 ?_;cases hg:Qt p.secs x.2 with
  |none=>rw[hg] at this;cases this
  |some t=>rfl
 ·obtain⟨i,hi,rfl⟩:=az hg;have:=Z3.1 h4.2 i hi;unfold okG at this;rw[ag] at this;cases hq:Qt p.secs p.sgs[i].2.1 with
  |none=>rw[hq] at this;cases this.1
  |some t=>
   rw[hq] at this;have h8:=this.1;simp only[ag,am] at h8;obtain⟨ht,hid⟩:=Ba hq;obtain⟨n1,n2,_⟩:=s2 t ht;have n3:=(Kf n2).2;refine⟨sgN _ hg,hid▸Sg n1,h8.1,?_⟩;split at n3<;>omega
 ·have h8:=bc.1 h7 r hr;unfold okR at h8;cases hq:Xpe p.sgs r.entry with
  |none=>rw[hq] at h8;cases h8
  |some en=>
   rw[hq] at h8;simp only[ag,am] at h8;obtain⟨⟨⟨⟨⟨⟨⟨⟨⟨x1,_⟩,x3⟩,x4⟩,x5⟩,x6⟩,x7⟩,x8⟩,x9⟩,x10⟩:=h8;have ge:∀{n:Int} {e:Int×Int×Int},Xpe p.sgs n=some e->nS n:=fun{n e} hg=>by
    unfold Xpe at hg;have hm:=bz hg;have hid:=eh hg;have hid:e.1=n:=by simpa using hid
    exact hid▸sgN e hm
   have hL:∀n,n∈r.path++r.over->nS n:=fun n hn=>by
    obtain⟨i,hi,rfl⟩:=az hn;have:=Z3.1 x9 i hi;unfold okL at this;simp only[ag] at this;exact D5 h2 this.1.1
   refine⟨Sg (R4 h5 _ (dj.2 ⟨r,hr,rfl⟩)),ge hq,?_,fun n hn=>hL n (List.mem_append_left _ hn),fun n hn=>hL n (List.mem_append_right _ hn),fun j hj=> ?_,⟨by omega,by omega⟩,x4,x5,x6⟩
   ·rw[c9,am,ag] at x1;rcases x1 with x1|x1
    ·rw[x1];exact X7m
    ·cases hg:Xpe p.sgs r.ex with
     |none=>rw[hg] at x1;cases x1.1
     |some e=>exact ge hg
   ·obtain⟨i,hi,rfl⟩:=az hj;have:=Z3.1 x10 i hi;unfold okF at this;simp only[ag,c9,cv] at this;refine⟨?_,?_⟩
    ·cases hg:Bt p.pts r.flanks[i].1 with
     |none=>rw[hg] at this;cases this.1.1
     |some e=>
      unfold Bt at hg;have hm:=bz hg;have hid:e.1=r.flanks[i].1:=by have:=eh hg;simpa using this
      exact hid▸ptN e hm
    ·rcases this.2 with h|h<;>rw[h]<;>exact⟨by decide,by decide⟩
theorem Eg {p:Pl} (h:Uf p=true):Wq X7u (Wg p) p:=by
 obtain⟨v,w,sl,s,pl,q,gl,g,rl,r⟩:=Us h;refine Yu (Zm v) (Yu (Zm w) (Yu (K0 (by omega) fun x hx=> ?_) (Yu (K0 (by omega) fun x hx=> ?_) (Yu (K0 (by omega) fun x hx=> ?_) (Ke (K0 (by omega) fun x hx=> ?_))))))
 ·obtain⟨a,b,c,e⟩:=s x hx;exact X2f a.ok b.ok (fun j hj=>⟨(c j hj).1.ok,(c j hj).2.ok⟩) e
 ·exact R3 (q x hx).1.ok (q x hx).2.ok
 ·exact X2e (g x hx).1.ok (g x hx).2.1.ok (g x hx).2.2.ok
 ·obtain⟨a,b,c,d,e,f,t,l1,l2,l3⟩:=r x hx;exact X2g a.ok b.ok c.ok (fun n hn=>(d n hn).ok) (fun n hn=>(e n hn).ok) (fun j hj=>⟨(f j hj).1.ok,(f j hj).2.ok⟩) t.ok (by omega) (by omega) (by omega)
def V6 (b:List UInt8):Pl×(Nat×Bool):=X7u b (0,false)
theorem G9 {p:Pl} (h:Uf p=true) (more:List UInt8):V6 (Wg p++more)=(p,((Wg p).length,false)):=by
 have:=Eg h [] more;unfold V6;simpa using this
def Aq:Pl:=⟨0,0,[],[],[],[]⟩
def Sh (q:Pl) (s:Nat×Bool) (written:List UInt8) (b:List UInt8):Bool:= !s.2&&decide (s.1=b.length)&&Uf q&&(written==b)
def Z6 (b:List UInt8):Bool:=Sh (V6 b).1 (V6 b).2 (Wg (V6 b).1) b
theorem Eh {p:Pl} (h:Uf p=true) (more:List UInt8):Z6 (Wg p++more)=(decide (more=[])):=by
 unfold Z6 Sh;rw[G9 h more];cases more with
 |nil=>simp [h]
 |cons x l=>simp
theorem Xu7 {p:Pl} (h:Uf p=true):(V6 (Wg p)).1=p:=by
 have:=G9 h [];rw[b9] at this;rw[this]
theorem Kg {b:List UInt8} (h:Z6 b=true):Uf (V6 b).1=true∧Wg (V6 b).1=b:=by
 unfold Z6 Sh at h;simp only[ag,cv] at h;exact⟨h.1.2,h.2⟩
theorem Mj:∀(f n:Nat),(Ur f n).length<=f
 |0,_=>Nat.le_refl 0
 |f+1,n=>by
  unfold Ur;split
  ·simp
  ·have:=Mj f (n / 128);rw[List.length_cons];omega
theorem R5 (n:Int):(Y3m n).length<=5:=by
 unfold Y3m;split
 ·exact Mj 5 _
 ·simp
theorem D6 {n:Int} (h:n<=127):(Y3m n).length<=1:=by
 unfold Y3m;split
 ·unfold Ur;rw[if_pos (by omega)];simp
 ·simp
theorem R6 {α:Type} {f:α->List UInt8} {m:Nat}:∀{l:List α},(∀x,x∈l->(f x).length<=m)->(l.flatMap f).length<=l.length*m
 |[],_=>by simp
 |x::l,h=>by
  have h1:=h x (db ..);have h2:=R6 (f:=f) (m:=m) (l:=l) fun y hy=>h y (cz _ hy);rw[dp,ac,List.length_cons,eq];omega
theorem K4 {α:Type} {f:α->List UInt8} {m k:Nat} {l:List α} (hl:l.length<=k) (hk:k<=127) (h:∀x,x∈l->(f x).length<=m):(Zz f l).length<=1+k*m:=by
 unfold Zz;have h1:=D6 (n:=(l.length:Int)) (by omega);have h2:=R6 h;have h3:=b7 m hl;rw[ac];omega
theorem R7 {p:Pl} (h:Uf p=true):(Wg p).length<=700:=by
 obtain⟨v,w,sl,s,pl,q,gl,g,rl,r⟩:=Us h;have z:∀{n:Int},nS n->(Y3m n).length<=1:=fun h=>D6 h.2;have e1:(Zz D4 p.secs).length<=1+16*8:=K4 sl (by decide) fun x hx=>by
  obtain⟨a,b,c,e⟩:=s x hx;have h1:=z a;have h2:=z b;have h3:=R6 (f:=Ug) (m:=2) (l:=x.ends) fun j hj=>by
   have h4:=z (c j hj).1;have h5:=z (c j hj).2;unfold Ug;rw[ac];omega
  unfold D4;rw[ac,ac];split at e<;>omega
 have e2:(Zz Ug p.pts).length<=1+6*2:=K4 pl (by decide) fun j hj=>by
  have h4:=z (q j hj).1;have h5:=z (q j hj).2;unfold Ug;rw[ac];omega
 have e3:(Zz Ee p.sgs).length<=1+10*3:=K4 gl (by decide) fun j hj=>by
  have h4:=z (g j hj).1;have h5:=z (g j hj).2.1;have h6:=z (g j hj).2.2;unfold Ee;rw[ac,ac];omega
 have e4:(Zz Ef p.rts).length<=1+16*21:=K4 rl (by decide) fun x hx=>by
  obtain⟨a,b,c,d,e,f,t,l1,l2,l3⟩:=r x hx;have h1:=z a;have h2:=z b;have h3:=z c;have h4:(Zz Y3m x.path).length<=1+6*1:=K4 l1 (by decide) fun n hn=>z (d n hn);have h5:(Zz Y3m x.over).length<=1+2*1:=K4 l2 (by decide) fun n hn=>z (e n hn);have h6:(Zz Ug x.flanks).length<=1+3*2:=K4 l3 (by decide) fun j hj=>by
   have h4:=z (f j hj).1;have h5:=z (f j hj).2;unfold Ug;rw[ac];omega
  have h7:=z t;unfold Ef;simp only[ac];omega
 have h1:=R5 p.ver;have h2:=R5 p.par;unfold Wg;simp only[ac];omega
theorem X9e {a b k:Nat} (h:a<2 ^ k) (hb:2 ^ k*b+a<9223372036854775808):Zr .or .i64 (a:Int) ((2 ^ k*b:Nat):Int)=some (.int .i64 ((2 ^ k*b+a:Nat):Int)):=by
 show some (Value.int .i64 (IntKind.i64.wrap (((BitVec.ofInt 64 (a:Int)|||BitVec.ofInt 64 ((2 ^ k*b:Nat):Int)).toNat:Nat):Int)))= _
 rw[V3,V3,BitVec.toNat_or,da,da,fi (by omega),fi (by omega),Nat.or_comm,<- Nat.two_pow_add_eq_or_of_lt h,wrap_i64 (by omega) (by omega)]
theorem X9f (c:UInt8):Zr .and .u8 (c.toNat:Int) 127=some (.int .u8 ((c.toNat % 128:Nat):Int)):=by
 have hc:=c.toNat_lt
 show some (Value.int .u8 (IntKind.u8.wrap (((BitVec.ofInt 8 (c.toNat:Int)&&&BitVec.ofInt 8 ((127:Nat):Int)).toNat:Nat):Int)))= _
 rw[V3,V3,BitVec.toNat_and,da,da,fi (by omega),show 127 % 2 ^ 8=2 ^ 7 - 1 by decide,Nat.and_two_pow_sub_one_eq_mod,Se (by omega) (by omega)]
theorem X9g {m i:Nat} (hm:m<128) (hi:i<=4):Zr .shl .i64 (m:Int) ((7*i:Nat):Int)=some (.int .i64 ((2 ^ (7*i)*m:Nat):Int)):=by
 have e:(((7*i:Nat):Int)<0)=False:=dc (by omega);have e2:min ((7*i:Nat):Int).toNat IntKind.i64.bits=7*i:=by
  rw[Int.toNat_natCast]
  show min (7*i) 64=7*i
  omega
 have e3:((2:Int) ^ (7*i))=((2 ^ (7*i):Nat):Int):=by simp
 have hp:2 ^ (7*i)<=2 ^ 28:=Nat.pow_le_pow_right (by decide) (by omega);have hb:m*2 ^ (7*i)<=128*2 ^ 28:=Nat.mul_le_mul (by omega) hp;simp only[Zr,e,if_false];rw[e2,e3,<- Int.natCast_mul,Nat.mul_comm m] at*;rw[wrap_i64 (by omega) (by omega)]
theorem X7v {a:Nat} (h:a<128):Zr .or .u8 (a:Int) 128=some (.int .u8 ((UInt8.ofNat (a+128)).toNat:Int)):=by
 have hx:(UInt8.ofNat (a+128)).toNat=a+128:=by rw[dr];omega
 rw[hx]
 show some (Value.int .u8 (IntKind.u8.wrap (((BitVec.ofInt 8 (a:Int)|||BitVec.ofInt 8 ((128:Nat):Int)).toNat:Nat):Int)))= _
 rw[V3,V3,BitVec.toNat_or,da,da,fi (by omega),show 128 % 2 ^ 8=2 ^ 7*1 by decide,Nat.or_comm,<- Nat.two_pow_add_eq_or_of_lt (i:=7) h,Se (by omega) (by omega)]
 congr 2;omega
def K5 (l:List UInt8):Nat->Nat
 |0=>0
 |i+1=>K5 l i+(l.getD i 0).toNat % 128*128 ^ i
theorem Bb (l:List UInt8):∀i,K5 l i<128 ^ i
 |0=>by simp [K5]
 |i+1=>by
  have h:=Bb l i;have h2:(l.getD i 0).toNat % 128*128 ^ i<=127*128 ^ i:=b7 _ (by omega)
  show K5 l i+ _<128 ^ (i+1)
  rw[Nat.pow_succ];omega
theorem Ga (l:List UInt8):∀i,i<=l.length->(∀j,j<i->128<=(l.getD j 0).toNat)->i<=5->Jt l=R1 (l.drop i) i (K5 l i)
 |0,_,_,_=>by simp [Jt,K5]
 |i+1,h,hj,h5=>by
  rw[Ga l i (by omega) (fun j hji=>hj j (by omega)) (by omega)];have hl:i<l.length:=by omega
  have e:l.getD i 0=l[i]:=by simp [ah,hl]
  rw[dd hl,R1,if_neg (by omega),if_pos (by rw[<- e];exact hj i (by omega)),<- e];rfl
end Go.Proofs.YtgpdghbmiihfbaaGreat.Pln
