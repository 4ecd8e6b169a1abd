/- The layer of abstract values, joined. -/
import Derived.Test.YtdngdjbgmojcoaaGreatZW14
import Derived.Test.YtdngdjbgmojcoaaGreatZPR
import Derived.Test.YtdngdjbgmojcoaaGreatZVsA
namespace Go.Proofs.YtdngdjbgmojcoaaGreat.Pln
set_option linter.all false
set_option maxHeartbeats 4000000
open Go Go.VS Tab
def Xxd (pre:List (Int×Int×Int)) (k:Nat):Bool:=pre.any fun y=>y.1==(k:Int)
def Xr1 (pre:List (Int×Int×Int)):List AV:=(List.range 100).map fun k=>bool (Xxd pre k)
theorem Xqr:Xr1 []=List.replicate 100 (bool false):=by rw[W4,Xr1];simp [Xxd]
theorem Xvu (pre:List (Int×Int×Int)):(Xr1 pre).length=100:=by simp [Xr1]
theorem Xui (pre:List (Int×Int×Int)) (j s:Nat) (h:j<100):pick false s (List.drop j (Xr1 pre))=some (bool (Xxd pre j)):=Uu _ _ _ _ h
theorem Xvv (l:List (Int×Int×Int)) (i:Nat) (hi:i<l.length) (j:Nat) (h:j<100) (hj:l[i].1=j):Yf (Xr1 (l.take i)) j [bool true]=Xr1 (l.take (i+1)):=by
 rw[Xr1,Q0 _ _ _ h,Xr1];apply er;intro k hk;have e:Xxd (l.take (i+1)) k=(Xxd (l.take i) k||(l[i].1==(k:Int))):=by
  rw[Xxd,Xxd,aj hi,iu];simp
 by_cases hk:k=j
 ·subst hk;rw[if_pos rfl,e,hj];simp
 ·rw[if_neg hk,e,hj];have:((j:Int)==(k:Int))=false:=by simp;omega
  rw[this,gt]
def okA (pre:List (Int×Int×Int)) (x:Int×Int×Int):Bool:= !pre.any fun y=>y.1==x.1
def Xvw (l:List (Int×Int×Int)):Bool:=Ue okA l
def Xux (r:Rt) (i:Nat) (j:Int×Int) (x:Int×Int×Int):Bool:= !(x.2.1==j.1&&(x.2.2==j.2&&(decide (i+1<r.path.length)||x.1 !=r.ex)))
def Xsa (p:Pl) (r:Rt) (outs:List (Int×Int)):Bool:=(List.range r.path.length).all fun i=>p.sgs.all (Xux r i (outs.getD i (0,0)))
def Xpp (p:Pl) (r:Rt):Bool:=Xvw (Xop p r).asks&&Xsa p r (Xpv p r)
def Xo3 (p:Pl):Int:=if Xs0 p=0∧p.rts.all (Xpp p)=true then 0 else 100
theorem Xtr {p:Pl} (hm:Uf p=true) {r:Rt} (hr:r∈p.rts) (hf:Xrb p r=0):Gone p r (Xop p r) (Xpv p r):=by
 have hl:(Xt6 p r).lost=false:=by
  unfold Xrb at hf;cases hl:(Xt6 p r).lost with
  |true=>rw[hl] at hf;simp at hf
  |false=>rfl
 have e:Xop p r=⟨r.path,r.over,(Xsk (Xt6 p r) r.flanks).asks,(Xl0 p.sgs r.entry).2.1⟩:=by
  unfold Xop;rw[hl,if_neg (by decide)]
 have eo:Xpv p r=(Xt6 p r).outs:=by
  unfold Xpv;rw[hl,if_neg (by decide)]
 exact⟨hm,hr,(Xu2 hm hr).1,hl,by rw[e],by rw[e],by rw[e],by rw[e];exact Xu3 _ _ (Xwa hm hr),eo⟩
theorem Xvx {p:Pl} (h:Uf p=true) {r:Rt} (hr:r∈p.rts):∀f,f∈r.flanks->0<f.1∧f.1<100∧1<=f.2∧f.2<=2:=by
 obtain⟨_,_,hpts,_,_,_,hrs⟩:=Xol h;have ho:=hrs r hr;unfold okR at ho;cases hg:Xpe p.sgs r.entry with
 |none=>rw[hg] at ho;cases ho
 |some en=>
  rw[hg] at ho;rw[ad] at ho;intro f hf;obtain⟨i,hi,rfl⟩:=am hf;have h1:=Z3.1 ho.2 i hi;unfold okF at h1;simp only[ad,ck,bq] at h1;obtain⟨⟨h2,_⟩,h3⟩:=h1;obtain⟨x,hx⟩:=cu.1 h2;have hxm:=bg hx;have hx1:x.1=r.flanks[i].1:=by simpa using dg hx
  unfold Ul at hpts;simp only[ad] at hpts;obtain⟨j,hj,rfl⟩:=am hxm;have h5:=Z3.1 hpts.1.1.1 j (by simpa using hj);simp only[Ye,ad,U1,da] at h5;omega
theorem Xts {p:Pl} {r:Rt} {W:Wy} {O:List (Int×Int)} (g:Gone p r W O):∀a,a∈W.asks->0<a.1∧a.1<100∧1<=a.2.1∧a.2.1<=2:=by
 intro a ha;rw[g.asks,dh] at ha;rcases ha with ha|ha
 ·obtain⟨i,hi,rfl⟩:=am ha;obtain⟨j,s,_,_,h1,_,h2,h3,h4⟩:=(Xw9 (Xol g.may).2.1 r _).1.each i hi;have:=Uv.1 (U0 (Xol g.may).2.1 h1).2;rw[<- h2];omega
 ·obtain⟨f,hf,rfl⟩:=eu.1 ha;exact Xvx g.may g.mem f hf
theorem Xvy {p:Pl} {r:Rt} {W:Wy} {O:List (Int×Int)} (g:Gone p r W O):r.path.length<=O.length:=by
 have hn:r.path.length<=(Xs2 r).length:=by unfold Xs2;simp
 have h1:=Xu5 (p:=p) (r:=r) r.path.length (Xry g.not _ hn) fun i hi=>by
  by_cases h:i+1=r.path.length
  ·exact .inl h
  ·exact .inr (by omega)
 obtain⟨t,ht⟩:=Xu6 (p:=p) (r:=r) (Xs2 r).length hn g.not;rw[g.outs,ht,ac];omega
end Go.Proofs.YtdngdjbgmojcoaaGreat.Pln
namespace Go.Proofs.YtdngdjbgmojcoaaGreat.Pln
set_option linter.all false
set_option maxHeartbeats 8000000
set_option maxRecDepth 4000
open Go Go.VS Tab
attribute [local irreducible] AWp Xp0 Pg X5c Qy Lt Tp FdT Eb
theorem Xzm (l:List (Int×Int×Int)) (hl:l.length<=1000000) (hp:∀a,a∈l->0<a.1∧a.1<100):Xr Tryz.prog 68 [.sl 3 (l.map sgC) .sh] [] (bool (Xvw l)) []:=by
 unfold Xvw;refine Xc 2 Tryz.func68 rfl fun n out _ _=> ?_;simp only[sn,Tryz.ntmps68,simprocAttr];repeat' (first|refine Vk fun K hK=> ?_|apply V0|apply Vb|apply Vc|apply Vr|apply Vs|with_reducible apply ab|((first|apply gE|apply gR);simp only[zA,simprocAttr, -List.reduceReplicate,Qg])|exact Vn|(apply Vz;refine Vo rfl rfl rfl (fun _ _=>rfl) ?_<;>first|rfl|skip)|(apply Vx;simp only[sb,reduceIte,Nat.reduceEqDiff])|(refine hK _ ?_;clear hK K)|refine Vt rfl ?_|refine Vf rfl ?_|refine Vi rfl (fun hg=> ?_) (fun hg=> ?_)|clear hK K)
 apply V5;refine Xpw (l.length) (fun i=>(∀j (hj:j<l.length),j<i->okA (l.take j) l[j]=true)) (fun m i=>tp [2,5] (tr 9 11 [(8,i64 (i:Int)),(3,.ptr (m+0) 0)])) (fun m i=>[some (.box 175 (Xr1 (l.take i))),none]) (by intros;omega) ?_ fun m i hm hi=> ?_
 ·refine X2 ?_ ?_ (by first|rfl|(simp only[ai,List.take_zero,Xqr];rfl)|simp only[ai,List.take_zero,Xqr]) rfl rfl rfl<;>simp only[sL,Xqr]
 obtain⟨hi,hq⟩:=hi;simp only[pt];have hw:=Yl (n:=i) 1 1 rfl (by omega);by_cases hlt:i<l.length
 ·have gi:=Xg sgC l i [] hlt;obtain⟨a1,a2⟩:=hp _ (a8 hlt);obtain⟨np,hpt⟩:=bj (Int.le_of_lt a1);have hnp:np<100:=by omega
  have hnp':(np:Int)<100:=by omega
  have hnp9:np<=99:=by omega
  have hst:=Xvv l i hlt np hnp hpt;have okv:okA (l.take i) l[i]= !Xxd (l.take i) np:=by unfold okA Xxd;rw[hpt]
  have next:okA (l.take i) l[i]=true->∀j (hj:j<l.length),j<i+1->okA (l.take j) l[j]=true:=fun h j hj hji=>by
   by_cases h':j=i
   ·subst h';exact h
   ·exact hq j hj (by omega)
  repeat' (first|refine Vk fun K hK=> ?_|apply V0|apply Vb|apply Vc|apply Vr|apply Vs|with_reducible apply ab|((first|apply gE|apply gR);simp only[zA,simprocAttr, -List.reduceReplicate,Xi hm,hlt,gi,sgC,X0,hw,hpt,hnp',hnp9,Xvu,Xui _ np 1 hnp,hst])|exact Vn|(apply Vz;refine Vo rfl rfl rfl (fun _ _=>rfl) ?_<;>first|rfl|(rw[Yz hlt (by rw[okv];simp_all)];rfl)|skip)|(apply Vx;simp only[sb,reduceIte,Nat.reduceEqDiff])|(refine hK _ ?_;clear hK K)|refine Vt rfl ?_|refine Vf rfl ?_|refine Vi rfl (fun hg=> ?_) (fun hg=> ?_)|clear hK K)
  refine⟨i+1,⟨by omega,next (by rw[okv];simp_all)⟩,by omega,?_⟩;refine Xx [true,false] ?_ ?_<;>intro n_<;>simp only[sM]
 ·have hall:=Q3 (f:=okA) (l:=l) fun j hj=>hq j hj (by omega);repeat' (first|refine Vk fun K hK=> ?_|apply V0|apply Vb|apply Vc|apply Vr|apply Vs|with_reducible apply ab|((first|apply gE|apply gR);simp only[zA,simprocAttr, -List.reduceReplicate,hlt])|exact Vn|(apply Vz;refine Vo rfl rfl rfl (fun _ _=>rfl) ?_<;>first|rfl|(rw[hall];rfl)|skip)|(apply Vx;simp only[sb])|(refine hK _ ?_;clear hK K)|refine Vt rfl ?_|refine Vf rfl ?_|refine Vi rfl (fun hg=> ?_) (fun hg=> ?_)|clear hK K)
theorem Xyv (p:Pl) (hs:Sm p) (r:Rt) (h20:r.path.length<=1000000) (O:List (Int×Int)) (ho:r.path.length<=O.length) (hol:O.length<=1000000):Xr Tryz.prog 69 [plA p,rtA r,.sl 2 (O.map jnC) .sh] [] (bool (Xsa p r O)) []:=by
 have hsl:=hs.sgs;obtain⟨OT,hOT⟩:∃OT,OT=O.take r.path.length:=⟨_,rfl⟩
 have hOm:(O.map jnC).take r.path.length=OT.map jnC:=by rw[hOT,ip]
 have hOl:OT.length=r.path.length:=by rw[hOT,ba];omega
 have hOg:∀i (hi:i<OT.length),O.getD i (0,0)=OT[i]:=fun i hi=>by
  subst hOT;have:i<O.length:=by omega
  simp [af,this]
 unfold Xsa;have bad:∀i (hi:i<OT.length) k (hk:k<p.sgs.length),Xux r i OT[i] p.sgs[k]=false->((List.range r.path.length).all fun i=>p.sgs.all (Xux r i (O.getD i (0,0))))=false:=fun i hi k hk h=>by
  refine Ez (i:=i) (by omega) ?_;rw[hOg i hi];exact Kp hk h
 have good:(∀i (hi:i<OT.length),p.sgs.all (Xux r i OT[i])=true)->((List.range r.path.length).all fun i=>p.sgs.all (Xux r i (O.getD i (0,0))))=true:=fun h=>by
  refine Hn fun i hi=> ?_;rw[hOg i (by omega)];exact h i (by omega)
 generalize ((List.range r.path.length).all fun i=>p.sgs.all (Xux r i (O.getD i (0,0))))=B at*;clear hOg;refine Xc 4 Tryz.func69 rfl fun n out _ _=> ?_;simp only[sn,Tryz.ntmps69,simprocAttr];have hg:=Nat.le_refl 0;repeat' (first|refine Vk fun K hK=> ?_|apply V0|apply Vb|apply Vc|apply Vr|apply Vs|with_reducible apply ab|((first|apply gE|apply gR|apply gS);simp only[zA,simprocAttr,plA,plC,rtA,rtC,hOm,hOl,ho,P6,Nh,Nat.sub_zero])|exact Vn|(apply Vz;refine Vo rfl rfl rfl (fun _ _=>rfl) ?_<;>first|rfl|skip)|((refine Vg (fun hg=> ?_) (fun hg=> ?_))<;>try simp only[nb] at hg)|(apply Vx;simp only[sb,reduceIte,Nat.reduceEqDiff])|(refine hK _ ?_;clear hK K)|refine Vt rfl ?_|refine Vf rfl ?_|refine Vi rfl (fun hg=> ?_) (fun hg=> ?_)|clear hK K)
 apply V5;refine Xpw (r.path.length) (fun i=>(∀j (hj:j<OT.length),j<i->p.sgs.all (Xux r j OT[j])=true)) (fun m i=>tp [6,7,8,10] (tr 18 40 [(17,i64 (i:Int)),(3,.ptr (m+0) 0),(4,.ptr (m+1) 0)])) (fun m i=>[some (.box 28 (plC p)),some (.box 82 (rtC r)),none,none]) (by intros;omega) ?_ fun m i hm hi=> ?_
 ·refine X2 ?_ ?_ (by first|rfl|(simp only[ai,plC,rtC];rfl)|simp only[ai,plC,rtC]) rfl rfl rfl<;>simp only[sL,plC,rtC]
 obtain⟨hi,hq⟩:=hi;simp only[pt];have hw:=Yl (n:=i) 1 1 rfl (by omega);by_cases hlt:i<r.path.length
 ·have hlo:i<OT.length:=by omega
  have gi:=Xg jnC OT i [] hlo;have hs1:=X25 (n:=r.path.length) 1 1 rfl (by omega) (by omega);have hd:decide ((i:Int)<((r.path.length - 1:Nat):Int))=decide (i+1<r.path.length):=fp.2 (by omega);have hq0:=hq;have hlti:=hlt;clear hq;repeat' (first|refine Vk fun K hK=> ?_|apply V0|apply Vb|apply Vc|apply Vr|apply Vs|with_reducible apply ab|((first|apply gE|apply gR|apply gS);simp only[zA,simprocAttr,Xi hm,hlt,hlo,gi,jnC,plC,X0])|exact Vn|(apply Vz;refine Vo rfl rfl rfl (fun _ _=>rfl) ?_<;>first|rfl|skip)|((refine Vg (fun hg=> ?_) (fun hg=> ?_))<;>try simp only[nb] at hg)|(apply Vx;simp only[sb,reduceIte,Nat.reduceEqDiff])|(refine hK _ ?_;clear hK K)|refine Vt rfl ?_|refine Vf rfl ?_|refine Vi rfl (fun hg=> ?_) (fun hg=> ?_)|clear hK K)
  apply V5;refine Xpw (p.sgs.length) (fun k=>(∀q (hq:q<p.sgs.length),q<k->Xux r i OT[i] p.sgs[q]=true)) (fun m k=>tp [6,10] (tr 26 31 [(25,i64 (k:Int)),(3,.ptr (m+0) 0),(4,.ptr (m+1) 0),(8,.ptr (m+2) 0)])) (fun m k=>[some (.box 28 (plC p)),some (.box 82 (rtC r)),some (.box 138 (jnC OT[i])),none]) (by intros;omega) ?_ fun m k hm hk=> ?_
  ·refine X2 ?_ ?_ (by first|rfl|(simp only[ai,plC,rtC,jnC];rfl)|simp only[ai,plC,rtC,jnC]) rfl rfl rfl<;>simp only[sL,plC,rtC,jnC]
  obtain⟨hk,hq⟩:=hk;simp only[pt];have hw2:=Yl (n:=k) 1 1 rfl (by omega);by_cases hlt:k<p.sgs.length
  ·have gk:=Xg sgC p.sgs k [] hlt;have okv:Xux r i OT[i] p.sgs[k]= !(p.sgs[k].2.1==OT[i].1&&(p.sgs[k].2.2==OT[i].2&&(decide (i+1<r.path.length)||p.sgs[k].1 !=r.ex))):=rfl;have next:Xux r i OT[i] p.sgs[k]=true->∀q (hq:q<p.sgs.length),q<k+1->Xux r i OT[i] p.sgs[q]=true:=fun h q hq1 hq2=>by
    by_cases h':q=k
    ·subst h';exact h
    ·exact hq q hq1 (by omega)
   have bad':=bad i hlo k hlt;clear hq hq0 bad good;repeat' (first|refine Vk fun K hK=> ?_|apply V0|apply Vb|apply Vc|apply Vr|apply Vs|with_reducible apply ab|((first|apply gE|apply gR|apply gS);simp only[zA,simprocAttr,hg,Xi hm,hlt,gk,sgC,jnC,rtC,X0,hs1,hw2])|exact Vn|(apply Vz;refine Vo rfl rfl rfl (fun _ _=>rfl) ?_<;>first|rfl|(rw[bad' (by rw[okv];simp_all)];rfl)|skip)|((refine Vg (fun hg=> ?_) (fun hg=> ?_))<;>try simp only[nb] at hg)|(apply Vx;simp only[sb,reduceIte,Nat.reduceEqDiff])|(refine hK _ ?_;clear hK K)|refine Vt rfl ?_|refine Vf rfl ?_|refine Vi rfl (fun hg=> ?_) (fun hg=> ?_)|clear hK K)
   all_goals (refine⟨k+1,⟨by omega,next (by rw[okv];simp_all)⟩,by omega,?_⟩)
   all_goals (refine Xx [true,true,true,false] ?_ ?_<;>intro n_<;>simp only[X4,sm,plC,rtC,jnC,hlt,e8])
  ·obtain rfl:k=p.sgs.length:=by omega
   have hallk:p.sgs.all (Xux r i OT[i])=true:=Mm fun q hq1=>hq q hq1 hq1;repeat' (first|refine Vk fun K hK=> ?_|apply V0|apply Vb|apply Vc|apply Vr|apply Vs|with_reducible apply ab|((first|apply gE|apply gR|apply gS);simp only[zA,simprocAttr,hlt,hw])|exact Vn|(apply Vz;refine Vo rfl rfl rfl (fun _ _=>rfl) ?_<;>first|rfl|skip)|((refine Vg (fun hg=> ?_) (fun hg=> ?_))<;>try simp only[nb] at hg)|(apply Vx;simp only[sb,Nat.reduceEqDiff])|(refine hK _ ?_;clear hK K)|refine Vt rfl ?_|refine Vf rfl ?_|refine Vi rfl (fun hg=> ?_) (fun hg=> ?_)|clear hK K)
   refine⟨i+1,⟨by omega,fun j hj hji=> ?_⟩,by omega,?_⟩
   ·by_cases h:j=i
    ·subst h;exact hallk
    ·exact hq0 j hj (by omega)
   refine Xx [true,true,false,false] ?_ ?_<;>intro n_<;>simp only[sM,plC,rtC]
 ·have hall:=good fun j hj=>hq j hj (by omega);repeat' (first|refine Vk fun K hK=> ?_|apply V0|apply Vb|apply Vc|apply Vr|apply Vs|with_reducible apply ab|((first|apply gE|apply gR|apply gS);simp only[zA,simprocAttr,hlt])|exact Vn|(apply Vz;refine Vo rfl rfl rfl (fun _ _=>rfl) ?_<;>first|rfl|(rw[hall];rfl)|skip)|((refine Vg (fun hg=> ?_) (fun hg=> ?_))<;>try simp only[nb] at hg)|(apply Vx;simp only[sb])|(refine hK _ ?_;clear hK K)|refine Vt rfl ?_|refine Vf rfl ?_|refine Vi rfl (fun hg=> ?_) (fun hg=> ?_)|clear hK K)
theorem Xsb {p:Pl} (h:Xs0 p=0):Uf p=true∧∀r,r∈p.rts->Xrb p r=0:=by
 unfold Xs0 at h;cases hm:Uf p with
 |false=>simp [hm] at h
 |true=>
  rw[hm,if_pos rfl] at h;refine⟨rfl,fun r hr=> ?_⟩;cases hf:p.rts.find? (fun r=>Xrb p r !=0) with
  |none=>
   rw[cx] at hf;have:=hf r hr;simpa using this
  |some q=>
   rw[hf] at h;have:=dg hf;simp at this;exact absurd h this
theorem Xsc {p:Pl} (hs:Sm p) {r:Rt} (hr:r∈p.rts):(Xop p r).asks.length<=60∧(Xpv p r).length<=40:=by
 obtain⟨b1,b2,b3⟩:=hs.rt r hr;have h1:=Xrw p r (r.path++r.over).length;have h2:=Xu1 (Xt6 p r) r.flanks;rw[ac] at h1;have e:(Xt6 p r).asks.length<=r.path.length+r.over.length∧(Xt6 p r).outs.length<=r.path.length+r.over.length:=by
  have:=h1;unfold Xt6;rw[ac];exact this
 unfold Xop Xpv;constructor
 ·split
  ·exact br _
  ·show(Xsk (Xt6 p r) r.flanks).asks.length<=60
   omega
 ·split
  ·exact br _
  ·omega
theorem Xrp (p:Pl) (hs:Sm p):Xr Tryz.prog 35 [plA p] [] (i64 (Xo3 p)) []:=by
 have cw:=Xy1 p hs;have hrl:=hs.rts;by_cases hE:Xs0 p=0
 ·obtain⟨hmy,hfE⟩:=Xsb hE;have e2:Xs1 p=p.rts.map (Xop p):=by unfold Xs1;rw[if_pos hE]
  have e3:Xwf p=p.rts.map (Xpv p):=by unfold Xwf;rw[if_pos hE]
  have hm1:(p.rts.map (Xop p)).map wyC=p.rts.map fun r=>wyC (Xop p r):=by rw[gr];rfl
  have hm2:(p.rts.map (Xpv p)).map joC=p.rts.map fun r=>joC (Xpv p r):=by rw[gr];rfl
  rw[hE,e2,e3,hm1,hm2] at cw;have bad:∀i (hi:i<p.rts.length),Xpp p p.rts[i]=false->Xo3 p=100:=fun i hi h=>by
   unfold Xo3;rw[if_neg (by rw[Kp hi h];simp)]
  have good:(∀i (hi:i<p.rts.length),Xpp p p.rts[i]=true)->Xo3 p=0:=fun h=>by
   unfold Xo3;rw[if_pos ⟨hE,Mm h⟩]
  generalize Xo3 p=RE at*;refine Xc 2 Tryz.func35 rfl fun n out _ _=> ?_;simp only[sn,Tryz.ntmps35,simprocAttr];have hg:=Nat.le_refl 0;repeat' (first|refine Vk fun K hK=> ?_|apply V0|apply Vb|apply Vc|apply Vr|apply Vs|with_reducible apply ab|refine Vq (by kernel_rfl) ?_|((first|apply gE|apply gR|apply gS);simp only[zA,simprocAttr,plA,plC])|exact Vn|(apply Vz;refine Vo rfl rfl rfl (fun _ _=>rfl) ?_<;>first|rfl|skip)|(refine X3 (cw) ?_)|((refine Vg (fun hg=> ?_) (fun hg=> ?_))<;>try simp only[nb] at hg)|(apply Vx;simp only[sb,reduceIte,Nat.reduceEqDiff])|(refine hK _ ?_;clear hK K)|refine Vt rfl ?_|refine Vf rfl ?_|refine Vi rfl (fun hg=> ?_) (fun hg=> ?_)|clear hK K)
  apply V5;refine Xpw (p.rts.length) (fun i=>(∀j (hj:j<p.rts.length),j<i->Xpp p p.rts[j]=true)) (fun m i=>tp [2,6,7] (tr 20 22 [(19,i64 (i:Int)),(1,.ptr (m+0) 0)])) (fun m i=>[some (.box 28 (plC p)),none]) (by intros;omega) ?_ fun m i hm hi=> ?_
  ·refine X2 ?_ ?_ (by first|rfl|(simp only[plC,ai];rfl)|simp only[plC,ai]) rfl rfl rfl<;>simp only[sL,plC]
  obtain⟨hi,hq⟩:=hi;simp only[pt];have hw:=Yl (n:=i) 1 1 rfl (by omega);by_cases hlt:i<p.rts.length
  ·have gi:=Xg rtC p.rts i [] hlt;have gw:=Xg (fun r=>wyC (Xop p r)) p.rts i [] hlt;have go:=Xg (fun r=>joC (Xpv p r)) p.rts i [] hlt;simp only[wyC,joC] at gw go;have hmem:=a8 hlt;obtain⟨z1,z2⟩:=Xsc hs hmem;obtain⟨b1,b2,b3⟩:=hs.rt _ hmem;have g:=Xtr hmy hmem (hfE _ hmem);have co:=Xzm (Xop p p.rts[i]).asks (by omega) fun a ha=>by obtain⟨x1,x2,_⟩:=Xts g a ha;exact⟨x1,x2⟩
   have cc:=Xyv p hs p.rts[i] (by omega) (Xpv p p.rts[i]) (Xvy g) (by omega);have okv:Xpp p p.rts[i]=(Xvw (Xop p p.rts[i]).asks&&Xsa p p.rts[i] (Xpv p p.rts[i])):=rfl;have next:Xpp p p.rts[i]=true->∀q (hq:q<p.rts.length),q<i+1->Xpp p p.rts[q]=true:=fun h q hq1 hq2=>by
    by_cases h':q=i
    ·subst h';exact h
    ·exact hq q hq1 (by omega)
   have bad':=bad i hlt;clear g hmy hfE bad good hq;generalize Xvw (Xop p p.rts[i]).asks=B1 at*;generalize Xsa p p.rts[i] (Xpv p p.rts[i])=B2 at*;simp only[plA,plC,rtA,rtC] at cc;repeat' (first|refine Vk fun K hK=> ?_|apply V0|apply Vb|apply Vc|apply Vr|apply Vs|with_reducible apply ab|refine Vq (by kernel_rfl) ?_|((first|apply gE|apply gR|apply gS);simp only[zA,simprocAttr,hg,Xi hm,plC,rtC,wyC,joC,hlt,gi,gw,go,X0,hw])|exact Vn|(apply Vz;refine Vo rfl rfl rfl (fun _ _=>rfl) ?_<;>first|rfl|(rw[bad' (by rw[okv];simp_all)];rfl)|skip)|(refine X3 (co) ?_)|(refine X3 (cc) ?_)|((refine Vg (fun hg=> ?_) (fun hg=> ?_))<;>try simp only[nb] at hg)|(apply Vx;simp only[sb,reduceIte,Nat.reduceEqDiff])|(refine hK _ ?_;clear hK K)|refine Vt rfl ?_|refine Vf rfl ?_|refine Vi rfl (fun hg=> ?_) (fun hg=> ?_)|clear hK K)
   all_goals (refine⟨i+1,⟨by omega,next (by rw[okv];simp_all)⟩,by omega,?_⟩)
   all_goals (refine Xx [true,false] ?_ ?_<;>intro n_<;>simp only[X4,sm,plC,hlt,e8])
  ·have hall:=good fun j hj=>hq j hj (by omega);repeat' (first|refine Vk fun K hK=> ?_|apply V0|apply Vb|apply Vc|apply Vr|apply Vs|with_reducible apply ab|refine Vq (by kernel_rfl) ?_|((first|apply gE|apply gR|apply gS);simp only[zA,simprocAttr,hlt])|exact Vn|(apply Vz;refine Vo rfl rfl rfl (fun _ _=>rfl) ?_<;>first|rfl|(rw[hall];rfl)|skip)|((refine Vg (fun hg=> ?_) (fun hg=> ?_))<;>try simp only[nb] at hg)|(apply Vx;simp only[sb])|(refine hK _ ?_;clear hK K)|refine Vt rfl ?_|refine Vf rfl ?_|refine Vi rfl (fun hg=> ?_) (fun hg=> ?_)|clear hK K)
 ·have e1:Xo3 p=100:=by unfold Xo3;rw[if_neg fun h=>hE h.1]
  have hE':(Xs0 p !=0)=true:=by simpa using hE
  rw[e1];refine Xc 2 Tryz.func35 rfl fun n out _ _=> ?_;simp only[sn,Tryz.ntmps35,simprocAttr];have hg:=Nat.le_refl 0;repeat' (first|refine Vk fun K hK=> ?_|apply V0|apply Vb|apply Vc|apply Vr|apply Vs|with_reducible apply ab|refine Vq (by kernel_rfl) ?_|((first|apply gE|apply gR|apply gS);simp only[zA,simprocAttr,plA,plC,hE'])|exact Vn|(apply Vz;refine Vo rfl rfl rfl (fun _ _=>rfl) ?_<;>first|rfl|skip)|(refine X3 (cw) ?_)|((refine Vg (fun hg=> ?_) (fun hg=> ?_))<;>try simp only[nb] at hg)|(apply Vx;simp only[sb,reduceIte,Nat.reduceEqDiff])|(refine hK _ ?_;clear hK K)|refine Vt rfl ?_|refine Vf rfl ?_|refine Vi rfl (fun hg=> ?_) (fun hg=> ?_)|clear hK K)
end Go.Proofs.YtdngdjbgmojcoaaGreat.Pln
