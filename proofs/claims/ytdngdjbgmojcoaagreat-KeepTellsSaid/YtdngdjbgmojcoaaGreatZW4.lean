/- The layer of abstract values, joined. -/
import Derived.Test.YtdngdjbgmojcoaaGreatZPR
import Derived.Test.YtdngdjbgmojcoaaGreatZPO
import Derived.Test.YtdngdjbgmojcoaaGreatZPN
namespace Go.Proofs.YtdngdjbgmojcoaaGreat.Pln
set_option linter.all false
set_option maxHeartbeats 4000000
set_option maxRecDepth 4000
open Go Go.VS Tab
attribute [local irreducible] AWp Xp0 Pg X5c Qy Lt Tp FdT Eb
theorem H6 (l:List Sec) (x:Int×Int) (k:Nat) (hk:x.1=k) (hk9:k<100):Xr Tryz.prog 139 [jnA x,.ref (inA l)] [] (bool (decide (x.2=0)||(inF l k !=x.2))) []:=by
 have hk':(k:Int)<100:=by omega
 have e0:(x.2==0)=decide (x.2=0):=rfl;refine Xc 1 Tryz.func139 rfl fun n out _ _=> ?_;simp only[sn,Tryz.ntmps139,simprocAttr];have hg:=Nat.le_refl 0;repeat' (first|refine Vk fun K hK=> ?_|apply V0|refine Vq (by kernel_rfl) ?_|((first|apply gE|apply gS);simp only[zA,simprocAttr, -List.reduceReplicate,hg,jnA,jnC,hk,hk',Dq l k 1 hk9,e0])|(apply Vz;refine Vo rfl rfl rfl (fun _ _=>rfl) ?_<;>first|rfl|(simp only[g_0,g_s];refine congrArg VS.bool ?_;simp_all;done)|skip)|((refine Vg (fun hg=> ?_) (fun hg=> ?_))<;>try simp only[nb] at hg)|(refine hK _ ?_;clear hK K))
structure SmB (p:Pl):Prop where
 secs:p.secs.length<=1000
 ends:∀s,s∈p.secs->s.ends.length<=20
 pts:p.pts.length<=5000
 sgs:p.sgs.length<=5000
 rts:p.rts.length<=5000
 rt:∀r,r∈p.rts->r.path.length<=5000∧r.over.length<=5000∧r.flanks.length<=5000
structure Sm (p:Pl):Prop where
 secs:p.secs.length<=40
 ends:∀s,s∈p.secs->s.ends.length<=20
 pts:p.pts.length<=40
 sgs:p.sgs.length<=40
 rts:p.rts.length<=40
 rt:∀r,r∈p.rts->r.path.length<=20∧r.over.length<=20∧r.flanks.length<=20
structure SmV (p:Pl):Prop where
 secs:p.secs.length<=1000
 pts:p.pts.length<=5000
 sgs:p.sgs.length<=5000
 rts:p.rts.length<=5000
 rt:∀r,r∈p.rts->r.path.length<=140737488355328∧r.over.length<=140737488355328∧r.flanks.length<=140737488355328
theorem SmB.v {p:Pl} (h:SmB p):SmV p:=⟨h.secs,h.pts,h.sgs,h.rts,fun r hr=>by have:=h.rt r hr;omega⟩
theorem Sm.wide {p:Pl} (h:Sm p):SmB p:=
 ⟨by have:=h.secs;omega,h.ends,by have:=h.pts;omega,by have:=h.sgs;omega,by have:=h.rts;omega,fun r hr=>by have:=h.rt r hr;omega⟩
theorem Ep {p:Pl} (h:(Ue Ye (p.pts.map fun x=>x.1)&&decide ((p.pts.length:Int)<=6))=false):Ul p=false:=by
 unfold Ul;have e:decide ((p.pts.length:Int)<=6)=decide (p.pts.length<=6):=fp.2 (by omega);rw[e] at h;have h':(Ue Ye (p.pts.map Prod.fst)&&decide (p.pts.length<=6))=false:=h;rw[h',dc,dc]
def Xwe (pre:List Sec):Nat:=pre.countP fun s=>s.pt !=0
theorem Xsd:((Xwe []:Nat):Int)=0:=rfl
theorem Sn {l:List Sec} {i:Nat} (hi:i<l.length):Xwe (l.take (i+1))=Xwe (l.take i)+if l[i].pt=0 then 0 else 1:=by
 unfold Xwe;rw[aj hi,List.countP_append];by_cases h:l[i].pt=0<;>simp [h]
theorem H7 (l:List Sec):Xwe l<=l.length:=List.countP_le_length
theorem Az (p:Pl) (hs:SmV p) (hmay:Uq p.secs=true):Xr Tryz.prog 78 [plA p] [] (bool (Ul p)) []:=by
 have h1:=hs.pts;have h2:=hs.secs;have cr:=Gy p.pts 6 (by omega);cases hb:(Ue Ye (p.pts.map fun x=>x.1)&&decide ((p.pts.length:Int)<=6)) with
 |false=>
  rw[Ep hb];rw[hb] at cr;refine Xc 3 Tryz.func78 rfl fun n out _ _=> ?_;simp only[sn,Tryz.ntmps78,simprocAttr];have hg:=Nat.le_refl 0;repeat' (first|refine Vk fun K hK=> ?_|apply V0|((first|apply gE|apply gR|apply gS);simp only[zA,simprocAttr, -List.reduceReplicate,plA,plC])|(apply Vz;refine Vo rfl rfl rfl (fun _ _=>rfl) ?_<;>first|rfl|skip)|(refine X3 (cr) ?_)|(refine hK _ ?_;clear hK K)|refine Vt rfl ?_)
 |true=>
  rw[hb] at cr;rw[ad,ao] at hb;obtain⟨hr,h6⟩:=hb;refine Xc 3 Tryz.func78 rfl fun n out _ _=> ?_;simp only[sn,Tryz.ntmps78,simprocAttr];have hg:=Nat.le_refl 0;repeat' (first|refine Vk fun K hK=> ?_|apply V0|apply Vs|((first|apply gE|apply gR|apply gS);simp only[zA,simprocAttr, -List.reduceReplicate,plA,plC])|(refine X3 (cr) ?_)|(refine hK _ ?_;clear hK K)|refine Vf rfl ?_)
  apply V5;refine Xrd (p.secs.length) (fun m i=>tp [6] (tr 15 14 [(14,i64 (i:Int)),(3,.ptr (m+1) 0),(1,.ptr (m+0) 0),(4,i64 (Xwe (p.secs.take i):Int))])) (fun m i=>[some (.box 28 (plC p)),some (.box 132 (inA (p.secs.take i))),none]) ?_ fun m i hm hi=> ?_
  ·refine X2 ?_ ?_ (by first|rfl|(simp only[ai,List.take_zero,Br,Xsd,plC];rfl)|simp only[ai,List.take_zero,Br,Xsd,plC]) rfl rfl rfl<;>simp only[sL,Br,Xsd,plC]
  simp only[pt];have hw:=Yl (n:=i) 1 1 rfl (by omega);by_cases hlt:i<p.secs.length
  ·have gi:=Xg Y6 p.secs i [] hlt;have hsc:=Sn hlt;have hcl:=H7 (p.secs.take i);have hcl2:(p.secs.take i).length<=1000:=by rw[ba];omega
   have hw2:=Yl (n:=Xwe (p.secs.take i)) 1 1 rfl (by omega);have hsh:=(U0 hmay (a8 hlt)).2;obtain⟨np,hnp,hpt⟩:∃np:Nat,np<100∧p.secs[i].pt=np:=by
    rw[Uv] at hsh;obtain⟨np,h⟩:=bj (a:=p.secs[i].pt) (by omega);exact⟨np,by omega,h⟩
   have hnp':(np:Int)<100:=by omega
   have hnp9:np<=99:=by omega
   by_cases h0:np=0
   ·have hp0:p.secs[i].pt=0:=by omega
    have hg0:decide ((np:Int)>0)=false:=ak (by omega);rw[if_pos hp0] at hsc;replace hsc:=hsc.trans (Nat.add_zero _);have hsk:=X07 hlt hp0;repeat' (first|refine Vk fun K hK=> ?_|apply V0|apply Vb|apply Vs|((first|apply gE|apply gS);simp only[zA,simprocAttr, -List.reduceReplicate,Xi hm,hlt,gi,Y6,plC,X0,hpt,hg0,hw])|(refine hK _ ?_;clear hK K)|refine Vt rfl ?_|refine Vf rfl ?_|clear hK K)
    refine⟨i+1,by omega,by omega,?_⟩;rw[hsc,hsk];refine Xx [true,true,false] ?_ ?_<;>intro n_<;>simp only[sM]
   ·have hp0:¬p.secs[i].pt=0:=by omega
    have hg0:decide ((np:Int)>0)=true:=ax (by omega);rw[if_neg hp0] at hsc;have hst:=X3d hmay hlt np hnp (by omega) hpt;repeat' (first|refine Vk fun K hK=> ?_|apply V0|apply Vb|apply Vs|((first|apply gE|apply gS);simp only[zA,simprocAttr, -List.reduceReplicate,Xi hm,hlt,gi,Y6,plC,X0,hpt,hg0,hnp',hnp9,Rl,hst,hw,hw2])|(refine hK _ ?_;clear hK K)|refine Vt rfl ?_|clear hK K)
    refine⟨i+1,by omega,by omega,?_⟩;rw[hsc];refine Xx [true,true,false] ?_ ?_<;>intro n_<;>simp only[sM]
  ·obtain rfl:i=p.secs.length:=by omega
   refine Yy (Zi (i:=1) (t:=3) 1 (.ref (inA (p.secs.take p.secs.length))) rfl rfl (.ptr 0)) ?_;simp only[s_0,s_s,bi];have hx:∀x,x∈p.pts->∃k:Nat,x.1=k∧k<100:=fun x hx=>by
    obtain⟨i,hi,rfl⟩:=am hx;have h1:=Z3.1 hr i (by simpa using hi);simp only[Ye,da,ad,U1] at h1;exact⟨(p.pts[i].1).toNat,by omega,by omega⟩
   have ca:=Aw p.pts 139 [.ref (inA p.secs)] (fun x=>decide (x.2=0)||(inF p.secs x.1.toNat !=x.2)) (hb0 _ (by decide) (by decide)) (by omega) fun x hxm=>by
    obtain⟨k,hk,hk9⟩:=hx x hxm;have:=H6 p.secs x k hk hk9;rw[show x.1.toNat=k by omega];exact this
   have hok:Ul p=(((Xwe p.secs:Nat):Int)==(p.pts.length:Int)&& !(p.pts.any fun x=>decide (x.2=0)||(inF p.secs x.1.toNat !=x.2))):=by
    rw[X3e hmay hr];unfold Ul;have e1:Ue Ye (p.pts.map Prod.fst)=true:=hr;have e2:decide (p.pts.length<=6)=true:=ax (by omega);have e3:decide (p.secs.countP (fun s=>s.pt !=0)=p.pts.length)=(((Xwe p.secs:Nat):Int)==(p.pts.length:Int)):=by
     rw[ar];simp [Xwe];omega
    rw[e1,e2,e3];rfl
   generalize (p.pts.any fun x=>decide (x.2=0)||(inF p.secs x.1.toNat !=x.2))=A at ca hok;repeat' (first|refine Vk fun K hK=> ?_|apply V0|((first|apply gE|apply gR|apply gS);simp only[zA,simprocAttr, -List.reduceReplicate,hg,Xi hm,plC,hlt])|(apply Vz;refine Vo rfl rfl rfl (fun _ _=>rfl) ?_<;>first|rfl|(rw[hok];simp only[g_0,g_s];refine congrArg VS.bool ?_;simp_all;done)|skip)|(refine X3 (ca) ?_)|((refine Vg (fun hg=> ?_) (fun hg=> ?_))<;>try simp only[nb] at hg)|(apply Vx;simp only[sb])|(refine hK _ ?_;clear hK K)|refine Vf rfl ?_|clear hK K)
theorem Er {p:Pl} (h:(Ue Ye (p.sgs.map fun x=>x.1)&&decide ((p.sgs.length:Int)<=10))=false):Qu p=false:=by
 unfold Qu;have e:decide ((p.sgs.length:Int)<=10)=decide (p.sgs.length<=10):=fp.2 (by omega);rw[e] at h;have h':(Ue Ye (p.sgs.map Prod.fst)&&decide (p.sgs.length<=10))=false:=h;rw[h',dc]
theorem X00 {p:Pl} (hr:Ue Ye (p.sgs.map fun x=>x.1)=true) (h10:p.sgs.length<=10):Qu p=Ue (okG p) p.sgs:=by
 unfold Qu;have e1:Ue Ye (p.sgs.map Prod.fst)=true:=hr;rw[e1,ax h10];rfl
theorem X37 {p:Pl} (hmay:Uq p.secs=true) {pre:List (Int×Int×Int)} {x:Int×Int×Int} (h:okG p pre x=true):0<=x.2.2∧x.2.2<3:=by
 unfold okG at h;rw[ad] at h;cases hg:Qt p.secs x.2.1 with
 |none=>rw[hg] at h;cases h.1
 |some s=>
  rw[hg] at h;have hs:=(U0 hmay (W5 hg).1).2;rw[Uv] at hs;have:=h.1;simp at this;omega
theorem H8 (p:Pl) (hs:SmV p) (hmay:Uq p.secs=true):Xr Tryz.prog 79 [plA p,.agg (Uj p.secs)] [] (bool (Qu p)) []:=by
 have h1:=hs.sgs;have h2:=hs.secs;have cr:=Gz p.sgs 10 (by omega);cases hb:(Ue Ye (p.sgs.map fun x=>x.1)&&decide ((p.sgs.length:Int)<=10)) with
 |false=>
  rw[Er hb];rw[hb] at cr;refine Xc 4 Tryz.func79 rfl fun n out _ _=> ?_;simp only[sn,Tryz.ntmps79,simprocAttr];have hg:=Nat.le_refl 0;repeat' (first|refine Vk fun K hK=> ?_|apply V0|((first|apply gE|apply gR|apply gS);simp only[zA,simprocAttr, -List.reduceReplicate,plA,plC])|(apply Vz;refine Vo rfl rfl rfl (fun _ _=>rfl) ?_<;>first|rfl|skip)|(refine X3 (cr) ?_)|(refine hK _ ?_;clear hK K)|refine Vt rfl ?_)
 |true=>
  rw[hb] at cr;rw[ad,ao] at hb;obtain⟨hr,h10⟩:=hb;rw[X00 hr (by omega)];refine Xc 4 Tryz.func79 rfl fun n out _ _=> ?_;simp only[sn,Tryz.ntmps79,simprocAttr];have hg:=Nat.le_refl 0;repeat' (first|refine Vk fun K hK=> ?_|apply V0|apply Vs|((first|apply gE|apply gR|apply gS);simp only[zA,simprocAttr, -List.reduceReplicate,plA,plC,Qg])|(refine X3 (cr) ?_)|(refine hK _ ?_;clear hK K)|refine Vf rfl ?_)
  apply V5;refine Xpw (p.sgs.length) (fun i=>(∀j (hj:j<p.sgs.length),j<i->okG p (p.sgs.take j) p.sgs[j]=true)) (fun m i=>tp [4,7] (tr 16 38 [(15,i64 (i:Int)),(2,.ptr (m+0) 0),(3,.ptr (m+1) 0),(5,.ptr (m+2) 0)])) (fun m i=>[some (.box 28 (plC p)),some (.box 132 (Uj p.secs)),some (.box 219 (P8 (p.sgs.take i))),none]) (by intros;omega) ?_ fun m i hm hi=> ?_
  ·refine X2 ?_ ?_ (by first|rfl|(simp only[ai,List.take_zero,N5,plC];rfl)|simp only[ai,List.take_zero,N5,plC]) rfl rfl rfl<;>simp only[sL,N5,plC]
  obtain⟨hi,hq⟩:=hi;simp only[pt];have hw:=Yl (n:=i) 1 1 rfl (by omega);by_cases hlt:i<p.sgs.length
  ·have gi:=Xg sgC p.sgs i [] hlt;have ct:=Hg p.secs p.sgs[i].2.1 hmay;have next:okG p (p.sgs.take i) p.sgs[i]=true->∀j (hj:j<p.sgs.length),j<i+1->okG p (p.sgs.take j) p.sgs[j]=true:=fun h j hj hji=>by
    by_cases h':j=i
    ·subst h';exact h
    ·exact hq j hj (by omega)
   cases hg:Qt p.secs p.sgs[i].2.1 with
   |none=>
    have bad:okG p (p.sgs.take i) p.sgs[i]=false:=by unfold okG;rw[hg];rfl
    rw[hg] at ct;repeat' (first|refine Vk fun K hK=> ?_|apply V0|apply Vb|apply Vs|refine Vq (by kernel_rfl) ?_|((first|apply gE|apply gR|apply gS);simp only[zA,simprocAttr, -List.reduceReplicate,Xi hm,hlt,gi,sgC,plC,X0,Option.isSome_none])|(apply Vz;refine Vo rfl rfl rfl (fun _ _=>rfl) ?_<;>first|rfl|(rw[Yz hlt bad];rfl)|skip)|(refine X3 (ct) ?_)|(refine hK _ ?_;clear hK K)|refine Vt rfl ?_)
   |some s=>
    obtain⟨hsm,hsi⟩:=W5 hg;have hn:=(U0 hmay hsm)
    have hn1:=U1.1 hn.1;have hn2:=Uv.1 hn.2;obtain⟨np,hpt⟩:=bj (a:=p.sgs[i].2.1) (by omega);have hnp:np<100:=by omega
    have hnp':(np:Int)<100:=by omega
    have hnp9:np<=99:=by omega
    have hcn:cnt p.secs np=s.ends.length:=by unfold cnt;rw[<- hpt,hg]
    rw[hg] at ct;simp only[hpt] at ct;have okv:okG p (p.sgs.take i) p.sgs[i]=(decide (0<=p.sgs[i].2.2)&&decide (p.sgs[i].2.2<s.ends.length)&&(p.sgs.take i).all fun y=> !(y.2==p.sgs[i].2)):=by unfold okG;rw[hg]
    by_cases hb:0<=p.sgs[i].2.2∧p.sgs[i].2.2<s.ends.length
    ·obtain⟨nb,hnb⟩:=bj hb.1;have hb3:nb<3:=by omega
     have hb3':(nb:Int)<3:=by omega
     have hb0:decide ((nb:Int)<0)=false:=ak (by omega);have hb1:decide ((nb:Int)>=(s.ends.length:Int))=false:=ak (by omega);have hx3:np*3+nb<300:=by omega
     have hx4:np*3+nb+1<=300:=by omega
     have hmk:=X3f (pre:=p.sgs.take i) (fun y hy=>by
      rw[bm] at hy;obtain⟨q,hq',rfl⟩:=hy;exact X37 hmay (hq q (by omega) (by omega))) (a:=np) hb3
     have hst:=Hh p.sgs i hlt np nb hx3 hpt hnb;have okv2:okG p (p.sgs.take i) p.sgs[i]= !mark (p.sgs.take i) (np*3+nb):=by
      rw[okv,hmk,ax hb.1,ax hb.2,bo,bo,ig];have:p.sgs[i].2=((np:Int),(nb:Int)):=by rw[<- hpt,<- hnb]
      rw[this]
     clear hmk okv;repeat' (first|refine Vk fun K hK=> ?_|apply V0|apply Vb|apply Vs|refine Vd 9 [] [[],[3],[],[3],[],[],[2]] [[],[],[],[],[],[],[2]] (by kernel_rfl) (by decide) (by decide) (by kernel_rfl) ?_|refine Vq (by kernel_rfl) ?_|((first|apply gE|apply gR|apply gD|apply gS);simp only[zA,simprocAttr, -List.reduceReplicate,hg,Xi hm,hlt,gi,sgC,plC,X0,hw,hpt,hnb,hnp',hb3',hb0,hb1,hcn,U5 p.secs np 1 hnp,Sr,Pm _ (np*3+nb) 1 hx3,hx4,hst])|(apply Vz;refine Vo rfl rfl rfl (fun _ _=>rfl) ?_<;>first|rfl|(rw[Yz hlt (by rw[okv2];simp_all)];rfl)|skip)|(refine X3 (ct) ?_)|(refine hK _ ?_;clear hK K)|refine Vt rfl ?_|refine Vi rfl (fun hg=> ?_) (fun hg=> ?_)|clear hK K)
     refine⟨i+1,⟨by omega,next (by rw[okv2];simp_all)⟩,by omega,?_⟩;refine Xx [true,true,true,false] ?_ ?_<;>intro n_<;>simp only[sM]
    ·have bad:okG p (p.sgs.take i) p.sgs[i]=false:=by
      rw[okv];have:(decide (0<=p.sgs[i].2.2)&&decide (p.sgs[i].2.2<(s.ends.length:Int)))=false:=by rw[cv];intro h;exact hb (by simpa using h)
      rw[this,dc]
     repeat' (first|refine Vk fun K hK=> ?_|apply V0|apply Vb|apply Vs|with_reducible apply ab|refine Vq (by kernel_rfl) ?_|((first|apply gE|apply gR|apply gS);simp only[zA,simprocAttr, -List.reduceReplicate,hg,Xi hm,hlt,gi,sgC,plC,X0,hpt,hnp',hcn,U5 p.secs np 1 hnp])|(apply Vz;refine Vo rfl rfl rfl (fun _ _=>rfl) ?_<;>first|rfl|(rw[Yz hlt bad];rfl)|skip)|(refine X3 (ct) ?_)|((refine Vg (fun hg=> ?_) (fun hg=> ?_))<;>try simp only[nb] at hg)|(refine hK _ ?_;clear hK K)|refine Vt rfl ?_|clear hK K)
     all_goals (exfalso;simp at*;omega)
  ·have hall:=Q3 (f:=okG p) (l:=p.sgs) fun j hj=>hq j hj (by omega);repeat' (first|refine Vk fun K hK=> ?_|apply V0|((first|apply gE|apply gS);simp only[zA,simprocAttr, -List.reduceReplicate,hlt])|(apply Vz;refine Vo rfl rfl rfl (fun _ _=>rfl) ?_<;>first|rfl|(rw[hall];rfl)|skip)|(apply Vx;simp only[sb])|(refine hK _ ?_;clear hK K)|refine Vf rfl ?_|clear hK K)
end Go.Proofs.YtdngdjbgmojcoaaGreat.Pln
namespace Go.Proofs.YtdngdjbgmojcoaaGreat.Pln
set_option linter.all false
set_option maxHeartbeats 4000000
open Go Go.VS Tab
structure Wy where
 path:List Int
 over:List Int
 asks:List (Int×Int×Int)
 near:Int
def wyC (w:Wy):List AV:=[.sl 1 (w.path.map Ym) .sh,.sl 1 (w.over.map Ym) .sh,.sl 3 (w.asks.map sgC) .sh,i64 w.near]
def wyA (w:Wy):AV:= .agg (wyC w)
def Y2w:Wy:=⟨[],[],[],0⟩
def Xwg (l:List Sec) (g:Int×Int×Int):Int×Int:=l.foldl (fun o s=>if (s.id==g.2.1)=true then s.ends.getD g.2.2.toNat (0,0) else o) (0,0)
theorem Xru (g:Int×Int×Int):Xwg [] g=(0,0):=rfl
theorem Xsj {l:List Sec} {i:Nat} (hi:i<l.length) (g:Int×Int×Int):Xwg (l.take (i+1)) g=if (l[i].id==g.2.1)=true then l[i].ends.getD g.2.2.toNat (0,0) else Xwg (l.take i) g:=by
 unfold Xwg;rw[aj hi,dp];rfl
def Xp6 (p:Pl) (r:Rt) (w:Wk) (i:Nat):Wk:=
 if i+1=r.path.length then(if r.ex=0 then Xso p w ((r.path++r.over).getD i 0) i (fun _ j=>j==(0,0)) else Xso p w ((r.path++r.over).getD i 0) i (fun e _=>(r.path++r.over).getD i 0==(Xl0 p.sgs r.ex).2.1&&e==(Xl0 p.sgs r.ex).2.2))
 else if i+1=(r.path++r.over).length then Xpt p w ((r.path++r.over).getD i 0) i
 else Xso p w ((r.path++r.over).getD i 0) i (fun _ j=>j.1==(r.path++r.over).getD (i+1) 0)
def Xom (p:Pl) (r:Rt):Nat->Wk
 |0=>⟨Xwg p.secs (Xl0 p.sgs r.entry),[],[],false⟩
 |i+1=>Xp6 p r (Xom p r i) i
def Xsk (w:Wk) (l:List (Int×Int)):Wk:=l.foldl (fun w f=>Xps w f.1 f.2 (-1)) w
theorem Xw3 {l:List (Int×Int)} {i:Nat} (hi:i<l.length) (w:Wk):Xsk w (l.take (i+1))=Xps (Xsk w (l.take i)) l[i].1 l[i].2 (-1):=by
 unfold Xsk;rw[aj hi,dp];rfl
def Xt6 (p:Pl) (r:Rt):Wk:=Xom p r (r.path++r.over).length
def Xop (p:Pl) (r:Rt):Wy:=if (Xt6 p r).lost then Y2w else⟨r.path,r.over,(Xsk (Xt6 p r) r.flanks).asks,(Xl0 p.sgs r.entry).2.1⟩
def Xpv (p:Pl) (r:Rt):List (Int×Int):=if (Xt6 p r).lost then[] else(Xt6 p r).outs
def Xrb (p:Pl) (r:Rt):Int:=if (Xt6 p r).lost then 90 else 0
theorem Xqd (w:Wk) (a b c:Int):(Xps w a b c).asks.length<=w.asks.length+1∧(Xps w a b c).outs=w.outs∧(Xps w a b c).lost=w.lost:=by
 unfold Xps;split
 ·exact⟨by simp,rfl,rfl⟩
 ·exact⟨by omega,rfl,rfl⟩
theorem Xrv (p:Pl) (w:Wk) (id at':Int) (f:Int->Int×Int->Bool):(Xso p w id at' f).asks.length<=w.asks.length+1∧(Xso p w id at' f).outs.length<=w.outs.length+1:=by
 obtain⟨s,l,e⟩:=Xox p w id;unfold Xso;rw[e];dsimp only;unfold Xxn;split
 ·rename_i e' _;have:=Xqd ⟨w.inn,w.asks,w.outs,l⟩ s.pt (Xoq s w.inn.2 e') at';unfold Xt7;dsimp only at this⊢;rw[ac,this.2.1];exact⟨this.1,by simp⟩
 ·exact⟨by dsimp only;omega,by dsimp only;omega⟩
theorem Xw4 (p:Pl) (w:Wk) (id at':Int):(Xpt p w id at').asks.length<=w.asks.length+1∧(Xpt p w id at').outs.length<=w.outs.length+1:=by
 obtain⟨s,l,e⟩:=Xox p w id;unfold Xpt;rw[e];dsimp only;split
 ·have:=Xqd ⟨w.inn,w.asks,w.outs,l⟩ s.pt w.inn.2 at';dsimp only at this⊢;rw[this.2.1];exact⟨this.1,by omega⟩
 ·exact⟨by dsimp only;omega,by dsimp only;omega⟩
theorem Xw5 (p:Pl) (r:Rt) (w:Wk) (i:Nat):(Xp6 p r w i).asks.length<=w.asks.length+1∧(Xp6 p r w i).outs.length<=w.outs.length+1:=by
 unfold Xp6;split
 ·split
  ·exact Xrv _ _ _ _ _
  ·exact Xrv _ _ _ _ _
 ·split
  ·exact Xw4 _ _ _ _
  ·exact Xrv _ _ _ _ _
theorem Xrw (p:Pl) (r:Rt):∀i,(Xom p r i).asks.length<=i∧(Xom p r i).outs.length<=i
 |0=>⟨Nat.le_refl _,Nat.le_refl _⟩
 |i+1=>by
  have:=Xrw p r i;have h:=Xw5 p r (Xom p r i) i
  show(Xp6 p r (Xom p r i) i).asks.length<= _∧ _
  exact⟨by omega,by show(Xp6 p r (Xom p r i) i).outs.length<= _;omega⟩
theorem Xu1 (w:Wk):∀(l:List (Int×Int)),(Xsk w l).asks.length<=w.asks.length+l.length∧(Xsk w l).outs=w.outs∧(Xsk w l).lost=w.lost:=by
 intro l;induction l generalizing w with
 |nil=>exact⟨Nat.le_refl _,rfl,rfl⟩
 |cons f l ih=>
  have h:=ih (Xps w f.1 f.2 (-1));have h2:=Xqd w f.1 f.2 (-1)
  show(Xsk (Xps w f.1 f.2 (-1)) l).asks.length<= _∧(Xsk (Xps w f.1 f.2 (-1)) l).outs= _∧(Xsk (Xps w f.1 f.2 (-1)) l).lost= _
  exact⟨by simp only[List.length_cons];omega,h.2.1.trans h2.2.1,h.2.2.trans h2.2.2⟩
theorem Xus {p:Pl} (hs:Sm p) (w:Wk) (id:Int):(Xp4 p w id).1.ends.length<=20:=by
 unfold Xp4;split
 ·rename_i s h;split
  ·exact br _
  ·exact hs.ends _ (bg h)
 ·exact br _
end Go.Proofs.YtdngdjbgmojcoaaGreat.Pln
