/- The layer of abstract values, joined. -/
import Derived.Test.YtdngdjbgmojcoaaGreatZW14
import Derived.Test.YtdngdjbgmojcoaaGreatZPR
import Derived.Test.YtdngdjbgmojcoaaGreatZVsA
import Derived.KernelRfl
namespace Go.Proofs.YtdngdjbgmojcoaaGreat.Pln
set_option linter.unusedSimpArgs false
set_option linter.unusedVariables false
set_option maxHeartbeats 16000000
set_option maxRecDepth 8000
open Go Go.VS Tab
theorem Xxc {P:Program} {f:FuncId} {args:List AV} {needs:List (Nat×Option Res)} {r r':AV} {gives:List (Nat×Res)} (h:Xr P f args needs r gives) (hle:AV.le r r'):Xr P f args needs r' gives:=
 fun M N vs hI hR hn hN hu=>Calls.mono (h M N vs hI hR hn hN hu) fun e w' ⟨v,he,M',h1,h2,h3,h4,h5⟩=>⟨v,he,M',h1,h2,h3,h4,h5.le hle⟩
def Xxd (pre:List (Int×Int×Int)) (k:Nat):Bool:=pre.any fun y=>y.1==(k:Int)
def Xr1 (pre:List (Int×Int×Int)):List AV:=(List.range 100).map fun k=>bool (Xxd pre k)
theorem Xqr:Xr1 []=List.replicate 100 (bool false):=by rw[W4,Xr1];simp [Xxd]
theorem Xvu (pre:List (Int×Int×Int)):(Xr1 pre).length=100:=by simp [Xr1]
theorem Xui (pre:List (Int×Int×Int)) (j s:Nat) (h:j<100):pick false s (List.drop j (Xr1 pre))=some (bool (Xxd pre j)):=Uu _ _ _ _ h
theorem Xvv (l:List (Int×Int×Int)) (i:Nat) (hi:i<l.length) (j:Nat) (h:j<100) (hj:l[i].1=j):Yf (Xr1 (l.take i)) j [bool true]=Xr1 (l.take (i+1)):=by
 rw[Xr1,Q0 _ _ _ h,Xr1]
 apply List.map_congr_left
 intro k hk
 have e:Xxd (l.take (i+1)) k=(Xxd (l.take i) k||(l[i].1==(k:Int))):=by
  rw[Xxd,Xxd,List.take_succ_eq_append_getElem hi,List.any_append];simp
 by_cases hk:k=j
 ·subst hk
  rw[if_pos rfl,e,hj];simp
 ·rw[if_neg hk,e,hj]
  have:((j:Int)==(k:Int))=false:=by simp;omega
  rw[this,Bool.or_false]
def okA (pre:List (Int×Int×Int)) (x:Int×Int×Int):Bool:= !pre.any fun y=>y.1==x.1
def Xvw (l:List (Int×Int×Int)):Bool:=Ue okA l
def Xux (r:Rt) (i:Nat) (j:Int×Int) (x:Int×Int×Int):Bool:= !(x.2.1==j.1&&(x.2.2==j.2&&(decide (i+1<r.path.length)||x.1 !=r.ex)))
def Xsa (p:Pl) (r:Rt) (outs:List (Int×Int)):Bool:=(List.range r.path.length).all fun i=>p.sgs.all (Xux r i (outs.getD i (0,0)))
def Xpp (p:Pl) (r:Rt):Bool:=Xvw (Xop p r).asks&&Xsa p r (Xpv p r)
def Xo3 (p:Pl):Int:=if Xs0 p=0∧p.rts.all (Xpp p)=true then 0 else 100
theorem Xtr {p:Pl} (hm:Uf p=true) {r:Rt} (hr:r∈p.rts) (hf:Xrb p r=0):Gone p r (Xop p r) (Xpv p r):=by
 have hl:(Xt6 p r).lost=false:=by
  unfold Xrb at hf
  cases hl:(Xt6 p r).lost with
  |true=>rw[hl] at hf;simp at hf
  |false=>rfl
 have e:Xop p r=⟨r.path,r.over,(Xsk (Xt6 p r) r.flanks).asks,(Xl0 p.sgs r.entry).2.1⟩:=by
  unfold Xop
  rw[hl,if_neg (by decide)]
 have eo:Xpv p r=(Xt6 p r).outs:=by
  unfold Xpv
  rw[hl,if_neg (by decide)]
 exact⟨hm,hr,(Xu2 hm hr).1,hl,by rw[e],by rw[e],by rw[e],by rw[e];exact Xu3 _ _ (Xwa hm hr),eo⟩
theorem Xvx {p:Pl} (h:Uf p=true) {r:Rt} (hr:r∈p.rts):∀f,f∈r.flanks→0<f.1∧f.1<100∧1≤f.2∧f.2≤2:=by
 obtain⟨_,_,hpts,_,_,_,hrs⟩:=Xol h
 have ho:=hrs r hr
 unfold okR at ho
 cases hg:Xpe p.sgs r.entry with
 |none=>rw[hg] at ho;cases ho
 |some en=>
  rw[hg] at ho
  rw[Bool.and_eq_true] at ho
  intro f hf
  obtain⟨i,hi,rfl⟩:=List.getElem_of_mem hf
  have h1:=Z3.1 ho.2 i hi
  unfold okF at h1
  simp only[Bool.and_eq_true,Bool.or_eq_true,beq_iff_eq] at h1
  obtain⟨⟨h2,_⟩,h3⟩:=h1
  obtain⟨x,hx⟩:=Option.isSome_iff_exists.1 h2
  have hxm:=List.mem_of_find?_eq_some hx
  have hx1:x.1=r.flanks[i].1:=by simpa using List.find?_some hx
  unfold Ul at hpts
  simp only[Bool.and_eq_true] at hpts
  obtain⟨j,hj,rfl⟩:=List.getElem_of_mem hxm
  have h5:=Z3.1 hpts.1.1.1 j (by simpa using hj)
  simp only[Ye,Bool.and_eq_true,U1,List.getElem_map] at h5
  omega
theorem Xts {p:Pl} {r:Rt} {W:Wy} {O:List (Int×Int)} (g:Gone p r W O):∀a,a∈W.asks→0<a.1∧a.1<100∧1≤a.2.1∧a.2.1≤2:=by
 intro a ha
 rw[g.asks,List.mem_append] at ha
 rcases ha with ha|ha
 ·obtain⟨i,hi,rfl⟩:=List.getElem_of_mem ha
  obtain⟨j,s,_,_,h1,_,h2,h3,h4⟩:=(Xw9 (Xol g.may).2.1 r _).1.each i hi
  have:=Uv.1 (U0 (Xol g.may).2.1 h1).2
  rw[← h2]
  omega
 ·obtain⟨f,hf,rfl⟩:=List.mem_map.1 ha
  exact Xvx g.may g.mem f hf
theorem Xvy {p:Pl} {r:Rt} {W:Wy} {O:List (Int×Int)} (g:Gone p r W O):r.path.length≤O.length:=by
 have hn:r.path.length≤(Xs2 r).length:=by unfold Xs2;simp
 have h1:=Xu5 (p:=p) (r:=r) r.path.length (Xry g.not _ hn) fun i hi=>by
  by_cases h:i+1=r.path.length
  ·exact .inl h
  ·exact .inr (by omega)
 obtain⟨t,ht⟩:=Xu6 (p:=p) (r:=r) (Xs2 r).length hn g.not
 rw[g.outs,ht,List.length_append]
 omega
theorem Xzm (l:List (Int×Int×Int)) (hl:l.length≤1000000) (hp:∀a,a∈l→0<a.1∧a.1<100):Xr Tryz.prog 68 [.sl 3 (l.map sgC) .sh] [] (bool (Xvw l)) []:=by
 unfold Xvw
 refine Xc 2 Tryz.func68 rfl fun n out _ _=> ?_
 simp only[sn,Tryz.ntmps68,Nat.reduceAdd,Nat.reduceSub]
 repeat' (first|(with_reducible first|refine Vk fun K hK=> ?_|refine V0 ?_|refine Vb ?_|refine Vc ?_|refine Vr ?_|refine Vs ?_|apply And.intro)|((with_reducible first|refine gE ?_|refine gR ?_);simp only[zA,simprocAttr, -List.reduceReplicate,Qg])|exact Vn|((with_reducible refine Vz ?_);refine Vo rfl rfl rfl (fun _ _=>rfl) ?_<;>first|rfl|skip)|((with_reducible refine Vx ?_);simp only[sb,reduceIte,Nat.reduceEqDiff])|(refine hK _ ?_;clear hK K)|refine Vt rfl ?_|refine Vf rfl ?_|refine Vi rfl (fun hg=> ?_) (fun hg=> ?_)|clear hK K)
 refine V5 ?_
 refine Xpw (l.length) (fun i=>(∀j (hj:j<l.length),j<i→okA (l.take j) l[j]=true)) (fun m i=>tp [2,5] (tr 9 11 [(8,i64 (i:Int)),(3,.ptr (m+0) 0)])) (fun m i=>[some (.box 175 (Xr1 (l.take i))),none]) (by intros;omega) ?_ fun m i hm hi=> ?_
 ·refine X2 ?_ ?_ (by first|rfl|(simp only[List.length_map,List.take_zero,Xqr];rfl)|simp only[List.length_map,List.take_zero,Xqr]) rfl rfl rfl<;>simp only[sL,Xqr]
 obtain⟨hi,hq⟩:=hi
 simp only[pt]
 have hw:=Yl (n:=i) 1 1 rfl (by omega)
 by_cases hlt:i<l.length
 ·have gi:=Xg sgC l i [] hlt
  obtain⟨a1,a2⟩:=hp _ (List.getElem_mem hlt)
  obtain⟨np,hpt⟩:=Int.eq_ofNat_of_zero_le (Int.le_of_lt a1)
  have hnp:np<100:=by omega
  have hnp':(np:Int)<100:=by omega
  have hnp9:np≤99:=by omega
  have hst:=Xvv l i hlt np hnp hpt
  have okv:okA (l.take i) l[i]= !Xxd (l.take i) np:=by unfold okA Xxd;rw[hpt]
  have next:okA (l.take i) l[i]=true→∀j (hj:j<l.length),j<i+1→okA (l.take j) l[j]=true:=fun h j hj hji=>by
   by_cases h':j=i
   ·subst h';exact h
   ·exact hq j hj (by omega)
  repeat' (first|(with_reducible first|refine Vk fun K hK=> ?_|refine V0 ?_|refine Vb ?_|refine Vc ?_|refine Vr ?_|refine Vs ?_|apply And.intro)|((with_reducible first|refine gE ?_|refine gR ?_);simp only[zA,simprocAttr, -List.reduceReplicate,Xi hm,hlt,gi,sgC,X0,hw,hpt,hnp',hnp9,Xvu,Xui _ np 1 hnp,hst])|exact Vn|((with_reducible refine Vz ?_);refine Vo rfl rfl rfl (fun _ _=>rfl) ?_<;>first|rfl|(rw[Yz hlt (by rw[okv];simp_all)];rfl)|skip)|((with_reducible refine Vx ?_);simp only[sb,reduceIte,Nat.reduceEqDiff])|(refine hK _ ?_;clear hK K)|refine Vt rfl ?_|refine Vf rfl ?_|refine Vi rfl (fun hg=> ?_) (fun hg=> ?_)|clear hK K)
  refine⟨i+1,⟨by omega,next (by rw[okv];simp_all)⟩,by omega,?_⟩
  refine Xx [true,false] ?_ ?_<;>intro n_<;>simp only[sM]
 ·have hall:=Q3 (f:=okA) (l:=l) fun j hj=>hq j hj (by omega)
  repeat' (first|(with_reducible first|refine Vk fun K hK=> ?_|refine V0 ?_|refine Vb ?_|refine Vc ?_|refine Vr ?_|refine Vs ?_|apply And.intro)|((with_reducible first|refine gE ?_|refine gR ?_);simp only[zA,simprocAttr, -List.reduceReplicate,hlt])|exact Vn|((with_reducible refine Vz ?_);refine Vo rfl rfl rfl (fun _ _=>rfl) ?_<;>first|rfl|(rw[hall];rfl)|skip)|((with_reducible refine Vx ?_);simp only[sb])|(refine hK _ ?_;clear hK K)|refine Vt rfl ?_|refine Vf rfl ?_|refine Vi rfl (fun hg=> ?_) (fun hg=> ?_)|clear hK K)
theorem Xyv (p:Pl) (hs:Sm p) (r:Rt) (h20:r.path.length≤1000000) (O:List (Int×Int)) (ho:r.path.length≤O.length) (hol:O.length≤1000000):Xr Tryz.prog 69 [plA p,rtA r,.sl 2 (O.map jnC) .sh] [] (bool (Xsa p r O)) []:=by
 have hsl:=hs.sgs
 obtain⟨OT,hOT⟩:∃OT,OT=O.take r.path.length:=⟨_,rfl⟩
 have hOm:(O.map jnC).take r.path.length=OT.map jnC:=by rw[hOT,List.map_take]
 have hOl:OT.length=r.path.length:=by rw[hOT,List.length_take];omega
 have hOg:∀i (hi:i<OT.length),O.getD i (0,0)=OT[i]:=fun i hi=>by
  subst hOT
  have:i<O.length:=by omega
  simp [List.getD_eq_getElem?_getD,this]
 unfold Xsa
 have bad:∀i (hi:i<OT.length) k (hk:k<p.sgs.length),Xux r i OT[i] p.sgs[k]=false→((List.range r.path.length).all fun i=>p.sgs.all (Xux r i (O.getD i (0,0))))=false:=fun i hi k hk h=>by
  refine Ez (i:=i) (by omega) ?_
  rw[hOg i hi]
  exact Kp hk h
 have good:(∀i (hi:i<OT.length),p.sgs.all (Xux r i OT[i])=true)→((List.range r.path.length).all fun i=>p.sgs.all (Xux r i (O.getD i (0,0))))=true:=fun h=>by
  refine Hn fun i hi=> ?_
  rw[hOg i (by omega)]
  exact h i (by omega)
 generalize ((List.range r.path.length).all fun i=>p.sgs.all (Xux r i (O.getD i (0,0))))=B at*
 clear hOg
 refine Xc 4 Tryz.func69 rfl fun n out _ _=> ?_
 simp only[sn,Tryz.ntmps69,Nat.reduceAdd,Nat.reduceSub]
 repeat' (first|(with_reducible first|refine Vk fun K hK=> ?_|refine V0 ?_|refine Vb ?_|refine Vc ?_|refine Vr ?_|refine Vs ?_|apply And.intro)|((with_reducible first|refine gE ?_|refine gR ?_);simp only[zA,simprocAttr,plA,plC,rtA,rtC,hOm,hOl,ho,P6,Nh,Nat.sub_zero])|exact Vn|((with_reducible refine Vz ?_);refine Vo rfl rfl rfl (fun _ _=>rfl) ?_<;>first|rfl|skip)|((with_reducible refine Vg (fun hg=> ?_) (fun hg=> ?_))<;>(try simp only[nb] at hg)<;>simp only[zA,simprocAttr,hg,plA,plC,rtA,rtC,List.length_map,X0,hOm,hOl,ho,P6,Nh,Nat.sub_zero])|((with_reducible refine Vx ?_);simp only[sb,reduceIte,Nat.reduceEqDiff])|(refine hK _ ?_;clear hK K)|refine Vt rfl ?_|refine Vf rfl ?_|refine Vi rfl (fun hg=> ?_) (fun hg=> ?_)|clear hK K)
 refine V5 ?_
 refine Xpw (r.path.length) (fun i=>(∀j (hj:j<OT.length),j<i→p.sgs.all (Xux r j OT[j])=true)) (fun m i=>tp [6,7,8,10] (tr 18 40 [(17,i64 (i:Int)),(3,.ptr (m+0) 0),(4,.ptr (m+1) 0)])) (fun m i=>[some (.box 28 (plC p)),some (.box 82 (rtC r)),none,none]) (by intros;omega) ?_ fun m i hm hi=> ?_
 ·refine X2 ?_ ?_ (by first|rfl|(simp only[List.length_map,plC,rtC];rfl)|simp only[List.length_map,plC,rtC]) rfl rfl rfl<;>simp only[sL,plC,rtC]
 obtain⟨hi,hq⟩:=hi
 simp only[pt]
 have hw:=Yl (n:=i) 1 1 rfl (by omega)
 by_cases hlt:i<r.path.length
 ·have hlo:i<OT.length:=by omega
  have gi:=Xg jnC OT i [] hlo
  have hs1:=X25 (n:=r.path.length) 1 1 rfl (by omega) (by omega)
  have hd:decide ((i:Int)<((r.path.length - 1:Nat):Int))=decide (i+1<r.path.length):=decide_eq_decide.2 (by omega)
  have hq0:=hq
  have hlti:=hlt
  clear hq
  repeat' (first|(with_reducible first|refine Vk fun K hK=> ?_|refine V0 ?_|refine Vb ?_|refine Vc ?_|refine Vr ?_|refine Vs ?_|apply And.intro)|((with_reducible first|refine gE ?_|refine gR ?_);simp only[zA,simprocAttr,Xi hm,hlt,hlo,gi,jnC,plC,X0])|exact Vn|((with_reducible refine Vz ?_);refine Vo rfl rfl rfl (fun _ _=>rfl) ?_<;>first|rfl|skip)|((with_reducible refine Vg (fun hg=> ?_) (fun hg=> ?_))<;>(try simp only[nb] at hg)<;>simp only[zA,simprocAttr,hg,Xi hm,List.length_map,hlt,hlo,gi,jnC,plC,X0])|((with_reducible refine Vx ?_);simp only[sb,reduceIte,Nat.reduceEqDiff])|(refine hK _ ?_;clear hK K)|refine Vt rfl ?_|refine Vf rfl ?_|refine Vi rfl (fun hg=> ?_) (fun hg=> ?_)|clear hK K)
  refine V5 ?_
  refine Xpw (p.sgs.length) (fun k=>(∀q (hq:q<p.sgs.length),q<k→Xux r i OT[i] p.sgs[q]=true)) (fun m k=>tp [6,10] (tr 26 31 [(25,i64 (k:Int)),(3,.ptr (m+0) 0),(4,.ptr (m+1) 0),(8,.ptr (m+2) 0)])) (fun m k=>[some (.box 28 (plC p)),some (.box 82 (rtC r)),some (.box 138 (jnC OT[i])),none]) (by intros;omega) ?_ fun m k hm hk=> ?_
  ·refine X2 ?_ ?_ (by first|rfl|(simp only[List.length_map,plC,rtC,jnC];rfl)|simp only[List.length_map,plC,rtC,jnC]) rfl rfl rfl<;>simp only[sL,plC,rtC,jnC]
  obtain⟨hk,hq⟩:=hk
  simp only[pt]
  have hw2:=Yl (n:=k) 1 1 rfl (by omega)
  by_cases hlt:k<p.sgs.length
  ·have gk:=Xg sgC p.sgs k [] hlt
   have okv:Xux r i OT[i] p.sgs[k]= !(p.sgs[k].2.1==OT[i].1&&(p.sgs[k].2.2==OT[i].2&&(decide (i+1<r.path.length)||p.sgs[k].1 !=r.ex))):=rfl
   have next:Xux r i OT[i] p.sgs[k]=true→∀q (hq:q<p.sgs.length),q<k+1→Xux r i OT[i] p.sgs[q]=true:=fun h q hq1 hq2=>by
    by_cases h':q=k
    ·subst h';exact h
    ·exact hq q hq1 (by omega)
   have bad':=bad i hlo k hlt
   clear hq hq0 bad good
   repeat' (first|(with_reducible first|refine Vk fun K hK=> ?_|refine V0 ?_|refine Vb ?_|refine Vc ?_|refine Vr ?_|refine Vs ?_|apply And.intro)|((with_reducible first|refine gE ?_|refine gR ?_);simp only[zA,simprocAttr,Xi hm,hlt,gk,sgC,jnC,rtC,X0,hw2])|exact Vn|((with_reducible refine Vz ?_);refine Vo rfl rfl rfl (fun _ _=>rfl) ?_<;>first|rfl|(rw[bad' (by rw[okv];simp_all)];rfl)|skip)|((with_reducible refine Vg (fun hg=> ?_) (fun hg=> ?_))<;>(try simp only[nb] at hg)<;>simp only[zA,simprocAttr,hg,Xi hm,hs1])|((with_reducible refine Vx ?_);simp only[sb,reduceIte,Nat.reduceEqDiff])|(refine hK _ ?_;clear hK K)|refine Vt rfl ?_|refine Vf rfl ?_|refine Vi rfl (fun hg=> ?_) (fun hg=> ?_)|clear hK K)
   all_goals (refine⟨k+1,⟨by omega,next (by rw[okv];simp_all)⟩,by omega,?_⟩)
   all_goals (refine Xx [true,true,true,false] ?_ ?_<;>intro n_<;>simp only[X4,sm,plC,rtC,jnC,hlt,decide_true])
  ·obtain rfl:k=p.sgs.length:=by omega
   have hallk:p.sgs.all (Xux r i OT[i])=true:=Mm fun q hq1=>hq q hq1 hq1
   repeat' (first|(with_reducible first|refine Vk fun K hK=> ?_|refine V0 ?_|refine Vb ?_|refine Vc ?_|refine Vr ?_|refine Vs ?_|apply And.intro)|((with_reducible first|refine gE ?_|refine gR ?_);simp only[zA,simprocAttr,hlt,hw])|exact Vn|((with_reducible refine Vz ?_);refine Vo rfl rfl rfl (fun _ _=>rfl) ?_<;>first|rfl|skip)|((with_reducible refine Vg (fun hg=> ?_) (fun hg=> ?_))<;>(try simp only[nb] at hg)<;>simp only[zA,simprocAttr,hg,Xi hm,List.length_map,hlt,hw])|((with_reducible refine Vx ?_);simp only[sb,Nat.reduceEqDiff])|(refine hK _ ?_;clear hK K)|refine Vt rfl ?_|refine Vf rfl ?_|refine Vi rfl (fun hg=> ?_) (fun hg=> ?_)|clear hK K)
   refine⟨i+1,⟨by omega,fun j hj hji=> ?_⟩,by omega,?_⟩
   ·by_cases h:j=i
    ·subst h;exact hallk
    ·exact hq0 j hj (by omega)
   refine Xx [true,true,false,false] ?_ ?_<;>intro n_<;>simp only[sM,plC,rtC]
 ·have hall:=good fun j hj=>hq j hj (by omega)
  repeat' (first|(with_reducible first|refine Vk fun K hK=> ?_|refine V0 ?_|refine Vb ?_|refine Vc ?_|refine Vr ?_|refine Vs ?_|apply And.intro)|((with_reducible first|refine gE ?_|refine gR ?_);simp only[zA,simprocAttr,hlt])|exact Vn|((with_reducible refine Vz ?_);refine Vo rfl rfl rfl (fun _ _=>rfl) ?_<;>first|rfl|(rw[hall];rfl)|skip)|((with_reducible refine Vg (fun hg=> ?_) (fun hg=> ?_))<;>(try simp only[nb] at hg)<;>simp only[zA,simprocAttr,hg,List.length_map,hlt])|((with_reducible refine Vx ?_);simp only[sb])|(refine hK _ ?_;clear hK K)|refine Vt rfl ?_|refine Vf rfl ?_|refine Vi rfl (fun hg=> ?_) (fun hg=> ?_)|clear hK K)
theorem Xsb {p:Pl} (h:Xs0 p=0):Uf p=true∧∀r,r∈p.rts→Xrb p r=0:=by
 unfold Xs0 at h
 cases hm:Uf p with
 |false=>simp [hm] at h
 |true=>
  rw[hm,if_pos rfl] at h
  refine⟨rfl,fun r hr=> ?_⟩
  cases hf:p.rts.find? (fun r=>Xrb p r !=0) with
  |none=>
   rw[List.find?_eq_none] at hf
   have:=hf r hr
   simpa using this
  |some q=>
   rw[hf] at h
   have:=List.find?_some hf
   simp at this
   exact absurd h this
theorem Xsc {p:Pl} (hs:Sm p) {r:Rt} (hr:r∈p.rts):(Xop p r).asks.length≤60∧(Xpv p r).length≤40:=by
 obtain⟨b1,b2,b3⟩:=hs.rt r hr
 have h1:=Xrw p r (r.path++r.over).length
 have h2:=Xu1 (Xt6 p r) r.flanks
 rw[List.length_append] at h1
 have e:(Xt6 p r).asks.length≤r.path.length+r.over.length∧(Xt6 p r).outs.length≤r.path.length+r.over.length:=by
  have:=h1
  unfold Xt6
  rw[List.length_append]
  exact this
 unfold Xop Xpv
 constructor
 ·split
  ·exact Nat.zero_le _
  ·show(Xsk (Xt6 p r) r.flanks).asks.length≤60
   omega
 ·split
  ·exact Nat.zero_le _
  ·omega
theorem Xrp (p:Pl) (hs:Sm p):Xr Tryz.prog 35 [plA p] [] (i64 (Xo3 p)) []:=by
 have cw:=Xy1 p hs
 have hrl:=hs.rts
 by_cases hE:Xs0 p=0
 ·obtain⟨hmy,hfE⟩:=Xsb hE
  have e2:Xs1 p=p.rts.map (Xop p):=by unfold Xs1;rw[if_pos hE]
  have e3:Xwf p=p.rts.map (Xpv p):=by unfold Xwf;rw[if_pos hE]
  have hm1:(p.rts.map (Xop p)).map wyC=p.rts.map fun r=>wyC (Xop p r):=by rw[List.map_map];rfl
  have hm2:(p.rts.map (Xpv p)).map joC=p.rts.map fun r=>joC (Xpv p r):=by rw[List.map_map];rfl
  rw[hE,e2,e3,hm1,hm2] at cw
  have bad:∀i (hi:i<p.rts.length),Xpp p p.rts[i]=false→Xo3 p=100:=fun i hi h=>by
   unfold Xo3;rw[if_neg (by rw[Kp hi h];simp)]
  have good:(∀i (hi:i<p.rts.length),Xpp p p.rts[i]=true)→Xo3 p=0:=fun h=>by
   unfold Xo3;rw[if_pos ⟨hE,Mm h⟩]
  generalize Xo3 p=RE at*
  refine Xc 2 Tryz.func35 rfl fun n out _ _=> ?_
  simp only[sn,Tryz.ntmps35,Nat.reduceAdd,Nat.reduceSub]
  repeat' (first|(with_reducible first|refine Vk fun K hK=> ?_|refine V0 ?_|refine Vb ?_|refine Vc ?_|refine Vr ?_|refine Vs ?_|apply And.intro|refine Vq (by kernel_rfl) ?_)|((with_reducible first|refine gE ?_|refine gR ?_);simp only[zA,simprocAttr,plA,plC])|exact Vn|((with_reducible refine Vz ?_);refine Vo rfl rfl rfl (fun _ _=>rfl) ?_<;>first|rfl|skip)|(refine X3 (cw) ?_)|((with_reducible refine Vg (fun hg=> ?_) (fun hg=> ?_))<;>(try simp only[nb] at hg)<;>simp only[zA,simprocAttr,hg,plA,plC,List.length_map])|((with_reducible refine Vx ?_);simp only[sb,reduceIte,Nat.reduceEqDiff])|(refine hK _ ?_;clear hK K)|refine Vt rfl ?_|refine Vf rfl ?_|refine Vi rfl (fun hg=> ?_) (fun hg=> ?_)|clear hK K)
  refine V5 ?_
  refine Xpw (p.rts.length) (fun i=>(∀j (hj:j<p.rts.length),j<i→Xpp p p.rts[j]=true)) (fun m i=>tp [2,6,7] (tr 20 22 [(19,i64 (i:Int)),(1,.ptr (m+0) 0)])) (fun m i=>[some (.box 28 (plC p)),none]) (by intros;omega) ?_ fun m i hm hi=> ?_
  ·refine X2 ?_ ?_ (by first|rfl|(simp only[plC,List.length_map];rfl)|simp only[plC,List.length_map]) rfl rfl rfl<;>simp only[sL,plC]
  obtain⟨hi,hq⟩:=hi
  simp only[pt]
  have hw:=Yl (n:=i) 1 1 rfl (by omega)
  by_cases hlt:i<p.rts.length
  ·have gi:=Xg rtC p.rts i [] hlt
   have gw:=Xg (fun r=>wyC (Xop p r)) p.rts i [] hlt
   have go:=Xg (fun r=>joC (Xpv p r)) p.rts i [] hlt
   simp only[wyC,joC] at gw go
   have hmem:=List.getElem_mem hlt
   obtain⟨z1,z2⟩:=Xsc hs hmem
   obtain⟨b1,b2,b3⟩:=hs.rt _ hmem
   have g:=Xtr hmy hmem (hfE _ hmem)
   have co:=Xzm (Xop p p.rts[i]).asks (by omega) fun a ha=>by obtain⟨x1,x2,_⟩:=Xts g a ha;exact⟨x1,x2⟩
   have cc:=Xyv p hs p.rts[i] (by omega) (Xpv p p.rts[i]) (Xvy g) (by omega)
   have okv:Xpp p p.rts[i]=(Xvw (Xop p p.rts[i]).asks&&Xsa p p.rts[i] (Xpv p p.rts[i])):=rfl
   have next:Xpp p p.rts[i]=true→∀q (hq:q<p.rts.length),q<i+1→Xpp p p.rts[q]=true:=fun h q hq1 hq2=>by
    by_cases h':q=i
    ·subst h';exact h
    ·exact hq q hq1 (by omega)
   have bad':=bad i hlt
   clear g hmy hfE bad good hq
   generalize Xvw (Xop p p.rts[i]).asks=B1 at*
   generalize Xsa p p.rts[i] (Xpv p p.rts[i])=B2 at*
   simp only[plA,plC,rtA,rtC] at cc
   repeat' (first|(with_reducible first|refine Vk fun K hK=> ?_|refine V0 ?_|refine Vb ?_|refine Vc ?_|refine Vr ?_|refine Vs ?_|apply And.intro|refine Vq (by kernel_rfl) ?_)|((with_reducible first|refine gE ?_|refine gR ?_);simp only[zA,simprocAttr,Xi hm,plC,rtC,wyC,joC,hlt,gi,gw,X0,hw])|exact Vn|((with_reducible refine Vz ?_);refine Vo rfl rfl rfl (fun _ _=>rfl) ?_<;>first|rfl|(rw[bad' (by rw[okv];simp_all)];rfl)|skip)|(refine X3 (co) ?_)|(refine X3 (cc) ?_)|((with_reducible refine Vg (fun hg=> ?_) (fun hg=> ?_))<;>(try simp only[nb] at hg)<;>simp only[zA,simprocAttr,hg,Xi hm,hlt,go])|((with_reducible refine Vx ?_);simp only[sb,reduceIte,Nat.reduceEqDiff])|(refine hK _ ?_;clear hK K)|refine Vt rfl ?_|refine Vf rfl ?_|refine Vi rfl (fun hg=> ?_) (fun hg=> ?_)|clear hK K)
   all_goals (refine⟨i+1,⟨by omega,next (by rw[okv];simp_all)⟩,by omega,?_⟩)
   all_goals (refine Xx [true,false] ?_ ?_<;>intro n_<;>simp only[X4,sm,plC,hlt,decide_true])
  ·have hall:=good fun j hj=>hq j hj (by omega)
   repeat' (first|(with_reducible first|refine Vk fun K hK=> ?_|refine V0 ?_|refine Vb ?_|refine Vc ?_|refine Vr ?_|refine Vs ?_|apply And.intro|refine Vq (by kernel_rfl) ?_)|((with_reducible first|refine gE ?_|refine gR ?_);simp only[zA,simprocAttr,hlt])|exact Vn|((with_reducible refine Vz ?_);refine Vo rfl rfl rfl (fun _ _=>rfl) ?_<;>first|rfl|(rw[hall];rfl)|skip)|((with_reducible refine Vg (fun hg=> ?_) (fun hg=> ?_))<;>(try simp only[nb] at hg)<;>simp only[zA,simprocAttr,hg,List.length_map,hlt])|((with_reducible refine Vx ?_);simp only[sb])|(refine hK _ ?_;clear hK K)|refine Vt rfl ?_|refine Vf rfl ?_|refine Vi rfl (fun hg=> ?_) (fun hg=> ?_)|clear hK K)
 ·have e1:Xo3 p=100:=by unfold Xo3;rw[if_neg fun h=>hE h.1]
  have hE':(Xs0 p !=0)=true:=by simpa using hE
  rw[e1]
  refine Xc 2 Tryz.func35 rfl fun n out _ _=> ?_
  simp only[sn,Tryz.ntmps35,Nat.reduceAdd,Nat.reduceSub]
  repeat' (first|(with_reducible first|refine Vk fun K hK=> ?_|refine V0 ?_|refine Vb ?_|refine Vc ?_|refine Vr ?_|refine Vs ?_|apply And.intro|refine Vq (by kernel_rfl) ?_)|((with_reducible first|refine gE ?_|refine gR ?_);simp only[zA,simprocAttr,plA,plC,hE'])|exact Vn|((with_reducible refine Vz ?_);refine Vo rfl rfl rfl (fun _ _=>rfl) ?_<;>first|rfl|skip)|(refine X3 (cw) ?_)|((with_reducible refine Vg (fun hg=> ?_) (fun hg=> ?_))<;>(try simp only[nb] at hg)<;>simp only[zA,simprocAttr,hg,plA,plC,hE'])|((with_reducible refine Vx ?_);simp only[sb,reduceIte,Nat.reduceEqDiff])|(refine hK _ ?_;clear hK K)|refine Vt rfl ?_|refine Vf rfl ?_|refine Vi rfl (fun hg=> ?_) (fun hg=> ?_)|clear hK K)
def tS1:Sec:=⟨1,0,[(0,0),(2,0)]⟩
def tS2:Sec:=⟨2,2,[(1,1),(3,0),(4,0)]⟩
def tS3:Sec:=⟨3,0,[(2,1),(5,1)]⟩
def tS4:Sec:=⟨4,0,[(2,2),(5,2)]⟩
def tS5:Sec:=⟨5,5,[(6,0),(3,1),(4,1)]⟩
def tS6:Sec:=⟨6,0,[(5,0),(0,0)]⟩
def tSs:List Sec:=[tS1,tS2,tS3,tS4,tS5,tS6]
def tPs:List (Int×Int):=[(2,2),(5,5)]
def tGs:List (Int×Int×Int):=[(1,1,1),(3,3,1),(4,4,1),(6,6,0)]
def tR1:Rt:=⟨1,1,3,[2,3],[5],[],2⟩
def tR3:Rt:=⟨3,3,0,[5,6],[],[],1⟩
def tR6:Rt:=⟨6,6,0,[5,4,2,1],[],[],1⟩
def exT:Pl:=⟨1,0,tSs,tPs,tGs,[tR1,tR3,tR6]⟩
theorem Xxy:Sm exT:=⟨by decide,by decide,by decide,by decide,by decide,by decide⟩
theorem Xt3:Xr Tryz.prog 39 [] [] (.agg [i64 1,i64 0,.sl 3 (tSs.map Y6) .sh,.sl 2 (tPs.map jnC) .sh,.sl 3 (tGs.map sgC) .full,.sl 7 (exT.rts.map rtC) .sh]) []:=by
 refine Xc 1 Tryz.func39 rfl fun n out _ _=> ?_
 simp only[sn,Tryz.ntmps39,Nat.reduceSub]
 repeat' (first|(with_reducible first|refine Vk fun K hK=> ?_|refine V0 ?_|refine Vs ?_|apply And.intro)|((with_reducible first|refine gE ?_|refine gR ?_);simp only[zB,simprocAttr,X0,exT,tSs,tPs,tGs,tS1,tS2,tS3,tS4,tS5,tS6,tR1,tR3,tR6,Y6,jnC,sgC,rtC,Ym])|exact Vn|((with_reducible refine Vz ?_);(first|refine Xu (.inr rfl) rfl rfl rfl (fun _ _=>rfl) ok28 (k:=n+0) (off:=0) rfl (Xb _ (by simp)) (X6 _ (Nat.le_refl _) 0) rfl ?_|refine Xu (.inr rfl) rfl rfl rfl (fun _ _=>rfl) ok28 (k:=m+0) (off:=0) rfl (Xb _ (by simp)) (X6 _ hm 0) rfl ?_)<;>first|rfl|exact AV.le.rfl _|(simp only[sL,List.map_nil,exT,tSs,tPs,tGs,tS1,tS2,tS3,tS4,tS5,tS6,tR1,tR3,tR6,Y6,jnC,sgC,rtC,Ym,List.map_cons,List.map_nil];done)|rfl|skip)|(refine Xal 2 [[i64 0,i64 0],[i64 2,i64 0]] rfl ?_)|(refine Xal 2 [[i64 1,i64 1],[i64 3,i64 0],[i64 4,i64 0]] rfl ?_)|(refine Xal 2 [[i64 2,i64 1],[i64 5,i64 1]] rfl ?_)|(refine Xal 2 [[i64 2,i64 2],[i64 5,i64 2]] rfl ?_)|(refine Xal 2 [[i64 6,i64 0],[i64 3,i64 1],[i64 4,i64 1]] rfl ?_)|(refine Xal 2 [[i64 5,i64 0],[i64 0,i64 0]] rfl ?_)|(refine Xal 3 [[i64 1,i64 0,.sl 2 [[i64 0,i64 0],[i64 2,i64 0]] .full],[i64 2,i64 2,.sl 2 [[i64 1,i64 1],[i64 3,i64 0],[i64 4,i64 0]] .full],[i64 3,i64 0,.sl 2 [[i64 2,i64 1],[i64 5,i64 1]] .full],[i64 4,i64 0,.sl 2 [[i64 2,i64 2],[i64 5,i64 2]] .full],[i64 5,i64 5,.sl 2 [[i64 6,i64 0],[i64 3,i64 1],[i64 4,i64 1]] .full],[i64 6,i64 0,.sl 2 [[i64 5,i64 0],[i64 0,i64 0]] .full]] rfl ?_)|(refine Xal 2 [[i64 2,i64 2],[i64 5,i64 5]] rfl ?_)|(refine Xal 3 [[i64 1,i64 1,i64 1],[i64 3,i64 3,i64 1],[i64 4,i64 4,i64 1],[i64 6,i64 6,i64 0]] rfl ?_)|(refine Xal 1 [[i64 2],[i64 3]] rfl ?_)|(refine Xal 1 [[i64 5]] rfl ?_)|(refine Xal 1 [[i64 5],[i64 6]] rfl ?_)|(refine Xal 1 [[i64 5],[i64 4],[i64 2],[i64 1]] rfl ?_)|(refine Xal 7 [[i64 1,i64 1,i64 3,.sl 1 [[i64 2],[i64 3]] .full,.sl 1 [[i64 5]] .full,.sl 0 [] .nil,i64 2],[i64 3,i64 3,i64 0,.sl 1 [[i64 5],[i64 6]] .full,.sl 0 [] .nil,.sl 0 [] .nil,i64 1],[i64 6,i64 6,i64 0,.sl 1 [[i64 5],[i64 4],[i64 2],[i64 1]] .full,.sl 0 [] .nil,.sl 0 [] .nil,i64 1]] rfl ?_)|(refine hK _ ?_;clear hK K)|clear hK K)
theorem Xzn:Xr Tryz.prog 39 [] [] (plA exT) []:=Xxc Xt3 (by simp only[plA,plC,exT,sL])
end Go.Proofs.YtdngdjbgmojcoaaGreat.Pln
