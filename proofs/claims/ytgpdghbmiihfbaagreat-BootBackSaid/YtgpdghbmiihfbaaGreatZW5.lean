/- The layer of abstract values, joined. -/
import Derived.Test.YtgpdghbmiihfbaaGreatZP5
import Derived.Test.YtgpdghbmiihfbaaGreatZPO
import Derived.Test.YtgpdghbmiihfbaaGreatZPN
import Derived.Test.YtgpdghbmiihfbaaGreatZWC
namespace Go.Proofs.YtgpdghbmiihfbaaGreat.Pln
set_option linter.all false
set_option maxHeartbeats 4000000
set_option maxRecDepth 4000
open Go Go.VS Tab
attribute [local irreducible] AWp Xp0 Pg X5c Qy Lt Tp FdT Eb
theorem H6 (l:List Sec) (x:Int×Int) (k:Nat) (hk:x.1=k) (hk9:k<100):Xr Tryz.prog 241 [jnA x,.ref (inA l)] [] (bool (decide (x.2=0)||(inF l k !=x.2))) []:=by
 have hk':(k:Int)<100:=by omega
 have e0:(x.2==0)=decide (x.2=0):=rfl;refine Xc 1 Tryz.func241 rfl fun n out _ _=> ?_;simp only[sn,Tryz.ntmps241,simprocAttr];have hg:=Nat.le_refl 0;repeat' (first|refine Vk fun K hK=> ?_|apply V0|refine Vq (by kernel_rfl) ?_|((first|apply gE|apply gS);simp only[zA,simprocAttr, -List.reduceReplicate,hg,jnA,jnC,hk,hk',Dq l k 1 hk9,e0])|(apply Vz;refine Vo rfl rfl rfl (fun _ _=>rfl) ?_<;>first|rfl|(simp only[g_0,g_s];refine congrArg VS.bool ?_;simp_all;done)|skip)|((refine Vg (fun hg=> ?_) (fun hg=> ?_))<;>try simp only[nb] at hg)|(refine hK _ ?_;clear hK K))
structure SmB (p:Pl):Prop where
 secs:p.secs.length<=1000
 ends:∀s,s∈p.secs->s.ends.length<=20
 pts:p.pts.length<=5000
 sgs:p.sgs.length<=5000
 rts:p.rts.length<=5000
 rt:∀r,r∈p.rts->r.path.length<=5000∧r.over.length<=5000∧r.flanks.length<=5000
structure Sm (p:Pl):Prop where
 secs:p.secs.length<=40
 ends:∀s,s∈p.secs->s.ends.length<=20
 pts:p.pts.length<=40
 sgs:p.sgs.length<=40
 rts:p.rts.length<=40
 rt:∀r,r∈p.rts->r.path.length<=20∧r.over.length<=20∧r.flanks.length<=20
structure SmV (p:Pl):Prop where
 secs:p.secs.length<=1000
 pts:p.pts.length<=5000
 sgs:p.sgs.length<=5000
 rts:p.rts.length<=5000
 rt:∀r,r∈p.rts->r.path.length<=140737488355328∧r.over.length<=140737488355328∧r.flanks.length<=140737488355328
theorem SmB.v {p:Pl} (h:SmB p):SmV p:=⟨h.secs,h.pts,h.sgs,h.rts,fun r hr=>by have:=h.rt r hr;omega⟩
theorem Sm.wide {p:Pl} (h:Sm p):SmB p:=
 ⟨by have:=h.secs;omega,h.ends,by have:=h.pts;omega,by have:=h.sgs;omega,by have:=h.rts;omega,fun r hr=>by have:=h.rt r hr;omega⟩
theorem Ep {p:Pl} (h:(Ue Ye (p.pts.map fun x=>x.1)&&decide ((p.pts.length:Int)<=6))=false):Ul p=false:=by
 unfold Ul;have e:decide ((p.pts.length:Int)<=6)=decide (p.pts.length<=6):=fj.2 (by omega);rw[e] at h;have h':(Ue Ye (p.pts.map Prod.fst)&&decide (p.pts.length<=6))=false:=h;rw[h',dh,dh]
def Xwe (pre:List Sec):Nat:=pre.countP fun s=>s.pt !=0
theorem Xsd:((Xwe []:Nat):Int)=0:=rfl
theorem Sn {l:List Sec} {i:Nat} (hi:i<l.length):Xwe (l.take (i+1))=Xwe (l.take i)+if l[i].pt=0 then 0 else 1:=by
 unfold Xwe;rw[ai hi,List.countP_append];by_cases h:l[i].pt=0<;>simp [h]
theorem H7 (l:List Sec):Xwe l<=l.length:=List.countP_le_length
theorem Az (p:Pl) (hs:SmV p) (hmay:Uq p.secs=true):Xr Tryz.prog 189 [plA p] [] (bool (Ul p)) []:=by
 have h1:=hs.pts;have h2:=hs.secs;have cr:=Gy p.pts 6 (by omega);cases hb:(Ue Ye (p.pts.map fun x=>x.1)&&decide ((p.pts.length:Int)<=6)) with
 |false=>
  rw[Ep hb];rw[hb] at cr;refine Xc 3 Tryz.func189 rfl fun n out _ _=> ?_;simp only[sn,Tryz.ntmps189,simprocAttr];have hg:=Nat.le_refl 0;repeat' (first|refine Vk fun K hK=> ?_|apply V0|((first|apply gE|apply gR|apply gS);simp only[zA,simprocAttr, -List.reduceReplicate,plA,plC])|(apply Vz;refine Vo rfl rfl rfl (fun _ _=>rfl) ?_<;>first|rfl|skip)|(refine X3 (cr) ?_)|(refine hK _ ?_;clear hK K)|refine Vt rfl ?_)
 |true=>
  rw[hb] at cr;rw[ag,am] at hb;obtain⟨hr,h6⟩:=hb;refine Xc 3 Tryz.func189 rfl fun n out _ _=> ?_;simp only[sn,Tryz.ntmps189,simprocAttr];have hg:=Nat.le_refl 0;repeat' (first|refine Vk fun K hK=> ?_|apply V0|apply Vs|((first|apply gE|apply gR|apply gS);simp only[zA,simprocAttr, -List.reduceReplicate,plA,plC])|(refine X3 (cr) ?_)|(refine hK _ ?_;clear hK K)|refine Vf rfl ?_)
  apply V5;refine Xrd (p.secs.length) (fun m i=>tp [6] (tr 15 14 [(14,i64 (i:Int)),(3,.ptr (m+1) 0),(1,.ptr (m+0) 0),(4,i64 (Xwe (p.secs.take i):Int))])) (fun m i=>[some (.box 28 (plC p)),some (.box 243 (inA (p.secs.take i))),none]) ?_ fun m i hm hi=> ?_
  ·refine X2 ?_ ?_ (by first|rfl|(simp only[af,List.take_zero,Br,Xsd,plC];rfl)|simp only[af,List.take_zero,Br,Xsd,plC]) rfl rfl rfl<;>simp only[sL,Br,Xsd,plC]
  simp only[pt];have hw:=Yl (n:=i) 1 1 rfl (by omega);by_cases hlt:i<p.secs.length
  ·have gi:=Xg secC p.secs i [] hlt;have hsc:=Sn hlt;have hcl:=H7 (p.secs.take i);have hcl2:(p.secs.take i).length<=1000:=by rw[aj];omega
   have hw2:=Yl (n:=Xwe (p.secs.take i)) 1 1 rfl (by omega);have hsh:=(U0 hmay (ak hlt)).2;obtain⟨np,hnp,hpt⟩:∃np:Nat,np<100∧p.secs[i].pt=np:=by
    rw[Uv] at hsh;obtain⟨np,h⟩:=br (a:=p.secs[i].pt) (by omega);exact⟨np,by omega,h⟩
   have hnp':(np:Int)<100:=by omega
   have hnp9:np<=99:=by omega
   by_cases h0:np=0
   ·have hp0:p.secs[i].pt=0:=by omega
    have hg0:decide ((np:Int)>0)=false:=aq (by omega);rw[if_pos hp0] at hsc;replace hsc:=hsc.trans (Nat.add_zero _);have hsk:=X07 hlt hp0;repeat' (first|refine Vk fun K hK=> ?_|apply V0|apply Vb|apply Vs|((first|apply gE|apply gS);simp only[zA,simprocAttr, -List.reduceReplicate,Xi hm,hlt,gi,secC,plC,X0,hpt,hg0,hw])|(refine hK _ ?_;clear hK K)|refine Vt rfl ?_|refine Vf rfl ?_|clear hK K)
    refine⟨i+1,by omega,by omega,?_⟩;rw[hsc,hsk];refine Xx [true,true,false] ?_ ?_<;>intro n_<;>simp only[sM]
   ·have hp0:¬p.secs[i].pt=0:=by omega
    have hg0:decide ((np:Int)>0)=true:=ay (by omega);rw[if_neg hp0] at hsc;have hst:=X3d hmay hlt np hnp (by omega) hpt;repeat' (first|refine Vk fun K hK=> ?_|apply V0|apply Vb|apply Vs|((first|apply gE|apply gS);simp only[zA,simprocAttr, -List.reduceReplicate,Xi hm,hlt,gi,secC,plC,X0,hpt,hg0,hnp',hnp9,Rl,hst,hw,hw2])|(refine hK _ ?_;clear hK K)|refine Vt rfl ?_|clear hK K)
    refine⟨i+1,by omega,by omega,?_⟩;rw[hsc];refine Xx [true,true,false] ?_ ?_<;>intro n_<;>simp only[sM]
  ·obtain rfl:i=p.secs.length:=by omega
   refine Yy (Zi (i:=1) (t:=3) 1 (.ref (inA (p.secs.take p.secs.length))) rfl rfl (.ptr 0)) ?_;simp only[s_0,s_s,bm];have hx:∀x,x∈p.pts->∃k:Nat,x.1=k∧k<100:=fun x hx=>by
    obtain⟨i,hi,rfl⟩:=az hx;have h1:=Z3.1 hr i (by simpa using hi);simp only[Ye,fv,ag,U1] at h1;exact⟨(p.pts[i].1).toNat,by omega,by omega⟩
   have ca:=Aw p.pts 241 [.ref (inA p.secs)] (fun x=>decide (x.2=0)||(inF p.secs x.1.toNat !=x.2)) (hb0 _ (by decide) (by decide)) (by omega) fun x hxm=>by
    obtain⟨k,hk,hk9⟩:=hx x hxm;have:=H6 p.secs x k hk hk9;rw[show x.1.toNat=k by omega];exact this
   have hok:Ul p=(((Xwe p.secs:Nat):Int)==(p.pts.length:Int)&& !(p.pts.any fun x=>decide (x.2=0)||(inF p.secs x.1.toNat !=x.2))):=by
    rw[X3e hmay hr];unfold Ul;have e1:Ue Ye (p.pts.map Prod.fst)=true:=hr;have e2:decide (p.pts.length<=6)=true:=ay (by omega);have e3:decide (p.secs.countP (fun s=>s.pt !=0)=p.pts.length)=(((Xwe p.secs:Nat):Int)==(p.pts.length:Int)):=by
     rw[bp];simp [Xwe];omega
    rw[e1,e2,e3];rfl
   generalize (p.pts.any fun x=>decide (x.2=0)||(inF p.secs x.1.toNat !=x.2))=A at ca hok;repeat' (first|refine Vk fun K hK=> ?_|apply V0|((first|apply gE|apply gR|apply gS);simp only[zA,simprocAttr, -List.reduceReplicate,hg,Xi hm,plC,hlt])|(apply Vz;refine Vo rfl rfl rfl (fun _ _=>rfl) ?_<;>first|rfl|(rw[hok];simp only[g_0,g_s];refine congrArg VS.bool ?_;simp_all;done)|skip)|(refine X3 (ca) ?_)|((refine Vg (fun hg=> ?_) (fun hg=> ?_))<;>try simp only[nb] at hg)|(apply Vx;simp only[sb])|(refine hK _ ?_;clear hK K)|refine Vf rfl ?_|clear hK K)
theorem Er {p:Pl} (h:(Ue Ye (p.sgs.map fun x=>x.1)&&decide ((p.sgs.length:Int)<=10))=false):Qu p=false:=by
 unfold Qu;have e:decide ((p.sgs.length:Int)<=10)=decide (p.sgs.length<=10):=fj.2 (by omega);rw[e] at h;have h':(Ue Ye (p.sgs.map Prod.fst)&&decide (p.sgs.length<=10))=false:=h;rw[h',dh]
theorem X00 {p:Pl} (hr:Ue Ye (p.sgs.map fun x=>x.1)=true) (h10:p.sgs.length<=10):Qu p=Ue (okG p) p.sgs:=by
 unfold Qu;have e1:Ue Ye (p.sgs.map Prod.fst)=true:=hr;rw[e1,ay h10];rfl
theorem X37 {p:Pl} (hmay:Uq p.secs=true) {pre:List (Int×Int×Int)} {x:Int×Int×Int} (h:okG p pre x=true):0<=x.2.2∧x.2.2<3:=by
 unfold okG at h;rw[ag] at h;cases hg:Qt p.secs x.2.1 with
 |none=>rw[hg] at h;cases h.1
 |some s=>
  rw[hg] at h;have hs:=(U0 hmay (W5 hg).1).2;rw[Uv] at hs;have:=h.1;simp at this;omega
theorem H8 (p:Pl) (hs:SmV p) (hmay:Uq p.secs=true):Xr Tryz.prog 190 [plA p,.agg (Uj p.secs)] [] (bool (Qu p)) []:=by
 have h1:=hs.sgs;have h2:=hs.secs;have cr:=Gz p.sgs 10 (by omega);cases hb:(Ue Ye (p.sgs.map fun x=>x.1)&&decide ((p.sgs.length:Int)<=10)) with
 |false=>
  rw[Er hb];rw[hb] at cr;refine Xc 4 Tryz.func190 rfl fun n out _ _=> ?_;simp only[sn,Tryz.ntmps190,simprocAttr];have hg:=Nat.le_refl 0;repeat' (first|refine Vk fun K hK=> ?_|apply V0|((first|apply gE|apply gR|apply gS);simp only[zA,simprocAttr, -List.reduceReplicate,plA,plC])|(apply Vz;refine Vo rfl rfl rfl (fun _ _=>rfl) ?_<;>first|rfl|skip)|(refine X3 (cr) ?_)|(refine hK _ ?_;clear hK K)|refine Vt rfl ?_)
 |true=>
  rw[hb] at cr;rw[ag,am] at hb;obtain⟨hr,h10⟩:=hb;rw[X00 hr (by omega)];refine Xc 4 Tryz.func190 rfl fun n out _ _=> ?_;simp only[sn,Tryz.ntmps190,simprocAttr];have hg:=Nat.le_refl 0;repeat' (first|refine Vk fun K hK=> ?_|apply V0|apply Vs|((first|apply gE|apply gR|apply gS);simp only[zA,simprocAttr, -List.reduceReplicate,plA,plC,Qg])|(refine X3 (cr) ?_)|(refine hK _ ?_;clear hK K)|refine Vf rfl ?_)
  apply V5;refine Xpw (p.sgs.length) (fun i=>(∀j (hj:j<p.sgs.length),j<i->okG p (p.sgs.take j) p.sgs[j]=true)) (fun m i=>tp [4,7] (tr 16 38 [(15,i64 (i:Int)),(2,.ptr (m+0) 0),(3,.ptr (m+1) 0),(5,.ptr (m+2) 0)])) (fun m i=>[some (.box 28 (plC p)),some (.box 243 (Uj p.secs)),some (.box 321 (P8 (p.sgs.take i))),none]) (by intros;omega) ?_ fun m i hm hi=> ?_
  ·refine X2 ?_ ?_ (by first|rfl|(simp only[af,List.take_zero,N5,plC];rfl)|simp only[af,List.take_zero,N5,plC]) rfl rfl rfl<;>simp only[sL,N5,plC]
  obtain⟨hi,hq⟩:=hi;simp only[pt];have hw:=Yl (n:=i) 1 1 rfl (by omega);by_cases hlt:i<p.sgs.length
  ·have gi:=Xg sgC p.sgs i [] hlt;have ct:=Hg p.secs p.sgs[i].2.1 hmay;have next:okG p (p.sgs.take i) p.sgs[i]=true->∀j (hj:j<p.sgs.length),j<i+1->okG p (p.sgs.take j) p.sgs[j]=true:=fun h j hj hji=>by
    by_cases h':j=i
    ·subst h';exact h
    ·exact hq j hj (by omega)
   cases hg:Qt p.secs p.sgs[i].2.1 with
   |none=>
    have bad:okG p (p.sgs.take i) p.sgs[i]=false:=by unfold okG;rw[hg];rfl
    rw[hg] at ct;repeat' (first|refine Vk fun K hK=> ?_|apply V0|apply Vb|apply Vs|refine Vq (by kernel_rfl) ?_|((first|apply gE|apply gR|apply gS);simp only[zA,simprocAttr, -List.reduceReplicate,Xi hm,hlt,gi,sgC,plC,X0,Option.isSome_none])|(apply Vz;refine Vo rfl rfl rfl (fun _ _=>rfl) ?_<;>first|rfl|(rw[Yz hlt bad];rfl)|skip)|(refine X3 (ct) ?_)|(refine hK _ ?_;clear hK K)|refine Vt rfl ?_)
   |some s=>
    obtain⟨hsm,hsi⟩:=W5 hg;have hn:=(U0 hmay hsm)
    have hn1:=U1.1 hn.1;have hn2:=Uv.1 hn.2;obtain⟨np,hpt⟩:=br (a:=p.sgs[i].2.1) (by omega);have hnp:np<100:=by omega
    have hnp':(np:Int)<100:=by omega
    have hnp9:np<=99:=by omega
    have hcn:cnt p.secs np=s.ends.length:=by unfold cnt;rw[<- hpt,hg]
    rw[hg] at ct;simp only[hpt] at ct;have okv:okG p (p.sgs.take i) p.sgs[i]=(decide (0<=p.sgs[i].2.2)&&decide (p.sgs[i].2.2<s.ends.length)&&(p.sgs.take i).all fun y=> !(y.2==p.sgs[i].2)):=by unfold okG;rw[hg]
    by_cases hb:0<=p.sgs[i].2.2∧p.sgs[i].2.2<s.ends.length
    ·obtain⟨nb,hnb⟩:=br hb.1;have hb3:nb<3:=by omega
     have hb3':(nb:Int)<3:=by omega
     have hb0:decide ((nb:Int)<0)=false:=aq (by omega);have hb1:decide ((nb:Int)>=(s.ends.length:Int))=false:=aq (by omega);have hx3:np*3+nb<300:=by omega
     have hx4:np*3+nb+1<=300:=by omega
     have hmk:=X3f (pre:=p.sgs.take i) (fun y hy=>by
      rw[de] at hy;obtain⟨q,hq',rfl⟩:=hy;exact X37 hmay (hq q (by omega) (by omega))) (a:=np) hb3
     have hst:=Hh p.sgs i hlt np nb hx3 hpt hnb;have okv2:okG p (p.sgs.take i) p.sgs[i]= !mark (p.sgs.take i) (np*3+nb):=by
      rw[okv,hmk,ay hb.1,ay hb.2,cy,cy,i6];have:p.sgs[i].2=((np:Int),(nb:Int)):=by rw[<- hpt,<- hnb]
      rw[this]
     clear hmk okv;repeat' (first|refine Vk fun K hK=> ?_|apply V0|apply Vb|apply Vs|refine Vd 9 [] [[],[3],[],[3],[],[],[2]] [[],[],[],[],[],[],[2]] (by kernel_rfl) (by decide) (by decide) (by kernel_rfl) ?_|refine Vq (by kernel_rfl) ?_|((first|apply gE|apply gR|apply gD|apply gS);simp only[zA,simprocAttr, -List.reduceReplicate,hg,Xi hm,hlt,gi,sgC,plC,X0,hw,hpt,hnb,hnp',hb3',hb0,hb1,hcn,U5 p.secs np 1 hnp,Sr,Pm _ (np*3+nb) 1 hx3,hx4,hst])|(apply Vz;refine Vo rfl rfl rfl (fun _ _=>rfl) ?_<;>first|rfl|(rw[Yz hlt (by rw[okv2];simp_all)];rfl)|skip)|(refine X3 (ct) ?_)|(refine hK _ ?_;clear hK K)|refine Vt rfl ?_|refine Vi rfl (fun hg=> ?_) (fun hg=> ?_)|clear hK K)
     refine⟨i+1,⟨by omega,next (by rw[okv2];simp_all)⟩,by omega,?_⟩;refine Xx [true,true,true,false] ?_ ?_<;>intro n_<;>simp only[sM]
    ·have bad:okG p (p.sgs.take i) p.sgs[i]=false:=by
      rw[okv];have:(decide (0<=p.sgs[i].2.2)&&decide (p.sgs[i].2.2<(s.ends.length:Int)))=false:=by rw[fe];intro h;exact hb (by simpa using h)
      rw[this,dh]
     repeat' (first|refine Vk fun K hK=> ?_|apply V0|apply Vb|apply Vs|with_reducible apply aa|refine Vq (by kernel_rfl) ?_|((first|apply gE|apply gR|apply gS);simp only[zA,simprocAttr, -List.reduceReplicate,hg,Xi hm,hlt,gi,sgC,plC,X0,hpt,hnp',hcn,U5 p.secs np 1 hnp])|(apply Vz;refine Vo rfl rfl rfl (fun _ _=>rfl) ?_<;>first|rfl|(rw[Yz hlt bad];rfl)|skip)|(refine X3 (ct) ?_)|((refine Vg (fun hg=> ?_) (fun hg=> ?_))<;>try simp only[nb] at hg)|(refine hK _ ?_;clear hK K)|refine Vt rfl ?_|clear hK K)
     all_goals (exfalso;simp at*;omega)
  ·have hall:=Q3 (f:=okG p) (l:=p.sgs) fun j hj=>hq j hj (by omega);repeat' (first|refine Vk fun K hK=> ?_|apply V0|((first|apply gE|apply gS);simp only[zA,simprocAttr, -List.reduceReplicate,hlt])|(apply Vz;refine Vo rfl rfl rfl (fun _ _=>rfl) ?_<;>first|rfl|(rw[hall];rfl)|skip)|(apply Vx;simp only[sb])|(refine hK _ ?_;clear hK K)|refine Vf rfl ?_|clear hK K)
end Go.Proofs.YtgpdghbmiihfbaaGreat.Pln
namespace Go.Proofs.YtgpdghbmiihfbaaGreat.Pln
set_option linter.all false
set_option maxHeartbeats 4000000
open Go Go.VS Tab
structure Wy where
 path:List Int
 over:List Int
 asks:List (Int×Int×Int)
 near:Int
def wyC (w:Wy):List AV:=[.sl 1 (w.path.map Ym) .sh,.sl 1 (w.over.map Ym) .sh,.sl 3 (w.asks.map sgC) .sh,i64 w.near]
def wyA (w:Wy):AV:= .agg (wyC w)
def Y2w:Wy:=⟨[],[],[],0⟩
def Xwg (l:List Sec) (g:Int×Int×Int):Int×Int:=l.foldl (fun o s=>if (s.id==g.2.1)=true then s.ends.getD g.2.2.toNat (0,0) else o) (0,0)
theorem Xru (g:Int×Int×Int):Xwg [] g=(0,0):=rfl
theorem Xsj {l:List Sec} {i:Nat} (hi:i<l.length) (g:Int×Int×Int):Xwg (l.take (i+1)) g=if (l[i].id==g.2.1)=true then l[i].ends.getD g.2.2.toNat (0,0) else Xwg (l.take i) g:=by
 unfold Xwg;rw[ai hi,fo];rfl
def Xp6 (p:Pl) (r:Rt) (w:Wk) (i:Nat):Wk:=
 if i+1=r.path.length then(if r.ex=0 then Xso p w ((r.path++r.over).getD i 0) i (fun _ j=>j==(0,0)) else Xso p w ((r.path++r.over).getD i 0) i (fun e _=>(r.path++r.over).getD i 0==(Xl0 p.sgs r.ex).2.1&&e==(Xl0 p.sgs r.ex).2.2))
 else if i+1=(r.path++r.over).length then Xpt p w ((r.path++r.over).getD i 0) i
 else Xso p w ((r.path++r.over).getD i 0) i (fun _ j=>j.1==(r.path++r.over).getD (i+1) 0)
def Xom (p:Pl) (r:Rt):Nat->Wk
 |0=>⟨Xwg p.secs (Xl0 p.sgs r.entry),[],[],false⟩
 |i+1=>Xp6 p r (Xom p r i) i
def Xsk (w:Wk) (l:List (Int×Int)):Wk:=l.foldl (fun w f=>Xps w f.1 f.2 (-1)) w
theorem Xw3 {l:List (Int×Int)} {i:Nat} (hi:i<l.length) (w:Wk):Xsk w (l.take (i+1))=Xps (Xsk w (l.take i)) l[i].1 l[i].2 (-1):=by
 unfold Xsk;rw[ai hi,fo];rfl
def Xt6 (p:Pl) (r:Rt):Wk:=Xom p r (r.path++r.over).length
def Xop (p:Pl) (r:Rt):Wy:=if (Xt6 p r).lost then Y2w else⟨r.path,r.over,(Xsk (Xt6 p r) r.flanks).asks,(Xl0 p.sgs r.entry).2.1⟩
def Xpv (p:Pl) (r:Rt):List (Int×Int):=if (Xt6 p r).lost then[] else(Xt6 p r).outs
def Xrb (p:Pl) (r:Rt):Int:=if (Xt6 p r).lost then 90 else 0
theorem Xqd (w:Wk) (a b c:Int):(Xps w a b c).asks.length<=w.asks.length+1∧(Xps w a b c).outs=w.outs∧(Xps w a b c).lost=w.lost:=by
 unfold Xps;split
 ·exact⟨by simp,rfl,rfl⟩
 ·exact⟨by omega,rfl,rfl⟩
theorem Xrv (p:Pl) (w:Wk) (id at':Int) (f:Int->Int×Int->Bool):(Xso p w id at' f).asks.length<=w.asks.length+1∧(Xso p w id at' f).outs.length<=w.outs.length+1:=by
 obtain⟨s,l,e⟩:=Xox p w id;unfold Xso;rw[e];dsimp only;unfold Xxn;split
 ·rename_i e' _;have:=Xqd ⟨w.inn,w.asks,w.outs,l⟩ s.pt (Xoq s w.inn.2 e') at';unfold Xt7;dsimp only at this⊢;rw[ac,this.2.1];exact⟨this.1,by simp⟩
 ·exact⟨by dsimp only;omega,by dsimp only;omega⟩
theorem Xw4 (p:Pl) (w:Wk) (id at':Int):(Xpt p w id at').asks.length<=w.asks.length+1∧(Xpt p w id at').outs.length<=w.outs.length+1:=by
 obtain⟨s,l,e⟩:=Xox p w id;unfold Xpt;rw[e];dsimp only;split
 ·have:=Xqd ⟨w.inn,w.asks,w.outs,l⟩ s.pt w.inn.2 at';dsimp only at this⊢;rw[this.2.1];exact⟨this.1,by omega⟩
 ·exact⟨by dsimp only;omega,by dsimp only;omega⟩
theorem Xw5 (p:Pl) (r:Rt) (w:Wk) (i:Nat):(Xp6 p r w i).asks.length<=w.asks.length+1∧(Xp6 p r w i).outs.length<=w.outs.length+1:=by
 unfold Xp6;split
 ·split
  ·exact Xrv _ _ _ _ _
  ·exact Xrv _ _ _ _ _
 ·split
  ·exact Xw4 _ _ _ _
  ·exact Xrv _ _ _ _ _
theorem Xrw (p:Pl) (r:Rt):∀i,(Xom p r i).asks.length<=i∧(Xom p r i).outs.length<=i
 |0=>⟨Nat.le_refl _,Nat.le_refl _⟩
 |i+1=>by
  have:=Xrw p r i;have h:=Xw5 p r (Xom p r i) i
  show(Xp6 p r (Xom p r i) i).asks.length<= _∧ _
  exact⟨by omega,by show(Xp6 p r (Xom p r i) i).outs.length<= _;omega⟩
theorem Xu1 (w:Wk):∀(l:List (Int×Int)),(Xsk w l).asks.length<=w.asks.length+l.length∧(Xsk w l).outs=w.outs∧(Xsk w l).lost=w.lost:=by
 intro l;induction l generalizing w with
 |nil=>exact⟨Nat.le_refl _,rfl,rfl⟩
 |cons f l ih=>
  have h:=ih (Xps w f.1 f.2 (-1));have h2:=Xqd w f.1 f.2 (-1)
  show(Xsk (Xps w f.1 f.2 (-1)) l).asks.length<= _∧(Xsk (Xps w f.1 f.2 (-1)) l).outs= _∧(Xsk (Xps w f.1 f.2 (-1)) l).lost= _
  exact⟨by simp only[List.length_cons];omega,h.2.1.trans h2.2.1,h.2.2.trans h2.2.2⟩
theorem Xus {p:Pl} (hs:Sm p) (w:Wk) (id:Int):(Xp4 p w id).1.ends.length<=20:=by
 unfold Xp4;split
 ·rename_i s h;split
  ·exact ba _
  ·exact hs.ends _ (bz h)
 ·exact ba _
end Go.Proofs.YtgpdghbmiihfbaaGreat.Pln
namespace Go.Proofs.YtgpdghbmiihfbaaGreat.Pln
set_option linter.all false
set_option maxHeartbeats 16000000
set_option maxRecDepth 8000
open Go Go.VS Tab
attribute [local irreducible] AWp Xp0 Pg X5c Qy Lt Tp FdT Eb
theorem Lb {P:Program} {c:Code} {Q:Exit->AState->Prop} {σ:AState} (lE:List (Nat×AV)) (loE:List (Option Res)) (h1:σ.le {σ with fr:=X4 σ.fr lE,lo:=loE}) (h:AWp P c Q {σ with fr:=X4 σ.fr lE,lo:=loE}):AWp P c Q σ:=Yy h1 h
theorem Y1b (a b c d e f:Bool) (l:List Bool):B7 (a::b::c::d::e::f::true::l) 6↔True:=by simp [B7]
theorem Y1c (a b c d e f g:Bool) (l:List Bool):B7 (a::b::c::d::e::f::g::true::l) 7↔True:=by simp [B7]
theorem Y1d (a b c d e f g h:Bool) (l:List Bool):B7 (a::b::c::d::e::f::g::h::true::l) 8↔True:=by simp [B7]
theorem Y1e (a b c d e f g h i:Bool) (l:List Bool):B7 (a::b::c::d::e::f::g::h::i::true::l) 9↔True:=by simp [B7]
def sk:=aa @Y1b<|aa @Y1c<|aa @Y1d<| @Y1e
theorem Xut (p:Pl) (r:Rt) (hs:Sm p) (h20:r.path.length<=20∧r.over.length<=20∧r.flanks.length<=20) (hpath:1<=r.path.length)
  (hin:∀s,s∈p.secs->(s.id==(Xl0 p.sgs r.entry).2.1)=true->0<=(Xl0 p.sgs r.entry).2.2∧(Xl0 p.sgs r.entry).2.2<s.ends.length):
  Xr Tryz.prog 234 [plA p,rtA r] [] (.tup [wyA (Xop p r),.sl 2 ((Xpv p r).map jnC) .sh,i64 (Xrb p r)]) []:=by
 obtain⟨hp1,hp2,hp3⟩:=h20;have hsl:=hs.sgs;have hsc:=hs.secs;have c1:=Xu0 p r.entry (by omega);have c2:=Xu0 p r.ex (by omega);obtain⟨en,hen⟩:∃en,en=Xl0 p.sgs r.entry:=⟨_,rfl⟩
 obtain⟨ex,hex⟩:∃ex,ex=Xl0 p.sgs r.ex:=⟨_,rfl⟩
 rw[<- hen] at c1 hin;rw[<- hex] at c2;simp only[sgA,sgC,plA,plC] at c1 c2;obtain⟨RW,hRW⟩:∃RW,RW=Xop p r:=⟨_,rfl⟩
 obtain⟨RO,hRO⟩:∃RO,RO=Xpv p r:=⟨_,rfl⟩
 obtain⟨RE,hRE⟩:∃RE,RE=Xrb p r:=⟨_,rfl⟩
 rw[<- hRW,<- hRO,<- hRE];refine Xc 12 Tryz.func234 rfl fun n out _ _=> ?_;simp only[sn,Tryz.ntmps234,simprocAttr];have hg:=Nat.le_refl 0;refine Vy fun K hK=> ?_;simp only[zA,simprocAttr,plA,plC,rtA,rtC];repeat' (first|(refine hK _ ?_;clear hK K)|with_reducible apply aa)
 repeat' (first|refine Vk fun K hK=> ?_|apply V0|apply Vb|apply Vc|apply Vr|apply Vs|with_reducible apply aa|refine Vd 1 [] [[0],[],[1],[],[0],[],[1],[],[3],[4],[3],[4]] [[],[],[],[],[],[],[],[],[3],[4],[3],[4]] (by kernel_rfl) (by decide) (by decide) (by kernel_rfl) ?_|refine Vq (by kernel_rfl) ?_|((first|apply gE|apply gR|apply gD|apply gF|apply gS);simp only[zA,simprocAttr,X0])|exact Vn|(refine X3 (c1) ?_)|(refine X3 (c2) ?_)|((refine Vg (fun hg=> ?_) (fun hg=> ?_))<;>try simp only[nb] at hg)|(apply Vx;simp only[sb,reduceIte,Nat.reduceEqDiff])|(refine hK _ ?_;clear hK K)|refine Vt rfl ?_|refine Vf rfl ?_|refine Vi rfl (fun hg=> ?_) (fun hg=> ?_)|clear hK K)
 refine Yy (Q9 (i:=6) 248 3 rfl) ?_;refine Yy (Q9 (i:=7) 167 2 rfl) ?_;refine Yy (Zi (i:=4) (t:=8) 1 (.ref (sgC ex)) rfl rfl (.ptr 0)) ?_;simp only[s_0,s_s];apply V5;refine Xrd (p.secs.length) (fun m i=>tp [11] (tr 32 18 [(31,i64 (i:Int)),(2,.ptr (m+0) 0),(3,.ptr (m+1) 0),(4,.ptr (m+2) 0),(7,.ptr (m+3) 0),(9,.ptr (m+5) 0)])) (fun m i=>[some (.box 28 (plC p)),some (.box 161 (rtC r)),some (.box 258 [.sl 0 [] .nil,.sl 0 [] .nil,.sl 0 [] .nil,i64 0]),some (.box 169 (sgC en)),some .dead,some (.box 356 (wkC p ⟨Xwg (p.secs.take i) en,[],[],false⟩ (m+6) (m+7))),some (.row 248 3 0),some (.row 167 2 0),none,none,none,none]) ?_ fun m i hm hi=> ?_
 ·refine X2 ?_ ?_ (by first|rfl|(simp only[plC,rtC,sgC,wkC,af,ad,List.take_zero,Xru];rfl)|simp only[plC,rtC,sgC,wkC,af,ad,List.take_zero,Xru]) rfl rfl rfl<;>simp only[sL,plC,rtC,sgC,wkC,ad,Xru]
 simp only[pt];have hw:=Yl (n:=i) 1 1 rfl (by omega);by_cases hlt:i<p.secs.length
 ·have gi:=Xg secC p.secs i [] hlt;have hsu:=Xsj hlt en;have hii:=hin _ (ak hlt);cases hb:(p.secs[i].id==en.2.1) with
  |false=>
   rw[hb,if_neg (by decide)] at hsu;repeat' (first|refine Vk fun K hK=> ?_|apply V0|apply Vb|apply Vc|apply Vr|apply Vs|with_reducible apply aa|refine Vq (by kernel_rfl) ?_|((first|apply gE|apply gR|apply gS);simp only[zA,simprocAttr,Xi hm,secC,sgC,hlt,gi,X0,hb,hw])|exact Vn|((refine Vg (fun hg=> ?_) (fun hg=> ?_))<;>try simp only[nb] at hg)|(apply Vx;simp only[sb,reduceIte,Nat.reduceEqDiff])|(refine hK _ ?_;clear hK K)|refine Vt rfl ?_|refine Vf rfl ?_|refine Vi rfl (fun hg=> ?_) (fun hg=> ?_)|clear hK K)
   refine⟨i+1,by omega,by omega,?_⟩;rw[hsu];refine Xx [true,true,true,true,true,true,true,true,false,false,false,false] ?_ ?_<;>intro n_<;>simp only[sM,plC,rtC,wkC,sk]
  |true=>
   rw[hb,if_pos rfl] at hsu;obtain⟨q1,q2⟩:=hii hb;obtain⟨ne,hne⟩:=br q1;have hnl:ne<p.secs[i].ends.length:=by omega
   have gn:=Xg jnC p.secs[i].ends ne [] hnl;have gd:p.secs[i].ends.getD en.2.2.toNat (0,0)=p.secs[i].ends[ne]:=by rw[hne];simp [ah,hnl]
   rw[gd] at hsu;repeat' (first|refine Vk fun K hK=> ?_|apply V0|apply Vb|apply Vc|apply Vr|apply Vs|with_reducible apply aa|refine Vq (by kernel_rfl) ?_|((first|apply gE|apply gR|apply gS);simp only[zA,simprocAttr,Xi hm,secC,sgC,jnC,wkC,hlt,gi,X0,hb,hw,hne,hnl,gn])|exact Vn|((refine Vg (fun hg=> ?_) (fun hg=> ?_))<;>try simp only[nb] at hg)|(apply Vx;simp only[sb,reduceIte,Nat.reduceEqDiff])|(refine hK _ ?_;clear hK K)|refine Vt rfl ?_|refine Vf rfl ?_|refine Vi rfl (fun hg=> ?_) (fun hg=> ?_)|clear hK K)
   refine⟨i+1,by omega,by omega,?_⟩;rw[hsu];refine Xx [true,true,true,true,true,true,true,true,false,false,false,false] ?_ ?_<;>intro n_<;>simp only[sM,plC,rtC,sk]
 ·obtain rfl:i=p.secs.length:=by omega
  rw[bm];have cc:=fun k=>Xpu k (r.path.map Ym) (r.over.map Ym) .full .sh .sh (by simp;omega);have lit:∀(σ:AState) (K:AV->List (Nat×Res)->Prop),X1 tab σ K none 326 2 [(0,.sl 1 (r.path.map Ym) .sh),(1,.sl 1 (r.over.map Ym) .sh)]=K (.sl 1 [[.sl 1 (r.path.map Ym) .sh],[.sl 1 (r.over.map Ym) .sh]] .full) []:=fun σ K=>Te (T:=tab) (ti:=ti326) (te:=ti99) rfl rfl rfl rfl rfl rfl;repeat' (first|refine Vk fun K hK=> ?_|apply V0|apply Vb|apply Vc|apply Vr|apply Vs|with_reducible apply aa|refine Vq (by kernel_rfl) ?_|((first|apply gE|apply gR|apply gS);simp only[zB,simprocAttr,lit,Xi hm,plC,rtC,wkC,hlt,X0])|exact Vn|(refine Sb (cc (m+8)) (X6 _ hm 8) (Xb _ (by simp)) (by simp) ?_)|((refine Vg (fun hg=> ?_) (fun hg=> ?_))<;>try simp only[nb] at hg)|(apply Vx;simp only[sb])|(refine hK _ ?_;clear hK K)|refine Vt rfl ?_|refine Vf rfl ?_|refine Vi rfl (fun hg=> ?_) (fun hg=> ?_)|clear hK K)
  obtain⟨L,hL⟩:∃L,L=r.path++r.over:=⟨_,rfl⟩
  have hLm:r.path.map Ym++r.over.map Ym=L.map Ym:=by rw[hL,cu]
  have hLl:L.length=r.path.length+r.over.length:=by rw[hL,ac]
  have hL40:L.length<=40:=by omega
  obtain⟨WK,hWK⟩:∃WK,WK=Xom p r:=⟨_,rfl⟩
  have hW0:WK 0=⟨Xwg p.secs en,[],[],false⟩:=by rw[hWK,hen];rfl
  have hWS:∀i,WK (i+1)=Xp6 p r (WK i) i:=fun i=>by rw[hWK];rfl
  have hWl:∀i,(WK i).asks.length<=i∧(WK i).outs.length<=i:=fun i=>by rw[hWK];exact Xrw p r i
  have hEW:Xt6 p r=WK L.length:=by rw[hWK,hL];rfl
  unfold Xop Xpv Xrb at*;rw[<- hen] at hRW;rw[hEW] at hRW hRO hRE;refine Lb [(56,X62 L),(57,i64 (L.length:Int))] ([some (.box 28 (plC p)),some (.box 161 (rtC r)),some (.box 258 [.sl 0 [] .nil,.sl 0 [] .nil,.sl 0 [] .nil,i64 0]),some (.box 169 (sgC en)),some .dead,some (.box 356 (wkC p ⟨Xwg p.secs en,[],[],false⟩ (m+6) (m+7))),some (.row 248 3 (WK 0).asks.length),some (.row 167 2 (WK 0).outs.length),some (.row 3 1 (r.path.length+r.over.length)),some (.box 99 [X62 L]),none,none]) ?_ ?_
  ·refine La rfl ?_ ?_<;>simp only[sL,hLm,hW0,af,plC,rtC,sgC,wkC,ad,List.length_nil]
  refine Yy (Zi (i:=9) (t:=12) 1 (.ref [X62 L]) rfl rfl (.ptr 0)) ?_;simp only[pt];apply V5;refine Xrd (L.length) (fun m i=>tp [13,14] (tr 59 48 [(58,i64 (i:Int)),(2,.ptr (m+0) 0),(3,.ptr (m+1) 0),(4,.ptr (m+2) 0),(7,.ptr (m+3) 0),(9,.ptr (m+5) 0)])) (fun m i=>[some (.box 28 (plC p)),some (.box 161 (rtC r)),some (.box 258 [.sl 0 [] .nil,.sl 0 [] .nil,.sl 0 [] .nil,i64 0]),some (.box 169 (sgC en)),some .dead,some (.box 356 (wkC p (WK i) (m+6) (m+7))),some (.row 248 3 (WK i).asks.length),some (.row 167 2 (WK i).outs.length),some (.row 3 1 (r.path.length+r.over.length)),some .dead,none,none]) ?_ fun m i hm hi=> ?_
  ·refine X2 ?_ ?_ (by first|rfl|(simp only[plC,rtC,sgC,wkC,hW0,af,ad];rfl)|simp only[plC,rtC,sgC,wkC,hW0,af,ad]) rfl rfl rfl<;>simp only[sL,plC,rtC,sgC,wkC,hW0,ad]
  simp only[pt];have hw:=Yl (n:=i) 1 1 rfl (by omega);by_cases hlt:i<L.length
  ·have gi:=Xg Ym L i [] hlt;have hwp:=X25 (n:=r.path.length) 1 1 rfl (by omega) (by omega);have hwl:=X25 (n:=L.length) 1 1 rfl (by omega) (by omega);obtain⟨ha,ho⟩:=hWl i;have hse:=Xus hs (WK i) L[i];have gd:(r.path++r.over).getD i 0=L[i]:=by rw[<- hL];simp [ah,hlt]
   have hst:=hWS i;unfold Xp6 at hst;rw[gd,<- hex,<- hL] at hst;repeat' (first|refine Vk fun K hK=> ?_|apply V0|apply Vb|apply Vc|apply Vr|apply Vs|with_reducible apply aa|refine Vq (by kernel_rfl) ?_|((first|apply gE|apply gR|apply gS);simp only[zA,simprocAttr,Xi hm,hlt])|exact Vn|((refine Vg (fun hg=> ?_) (fun hg=> ?_))<;>try simp only[nb] at hg)|(apply Vx;simp only[sb,reduceIte,Nat.reduceEqDiff])|(refine hK _ ?_;clear hK K)|refine Vt rfl ?_|refine Vf rfl ?_|refine Vi rfl (fun hg=> ?_) (fun hg=> ?_)|clear hK K)
   simp only[zA,simprocAttr,gi,Ym,X0];repeat' (first|(refine hK _ ?_;clear hK K)|with_reducible apply aa)
   refine Yy (Zi (i:=10) (t:=13) 1 (.ref [i64 (i:Int)]) rfl rfl (.ptr 0)) ?_;refine Yy (Zi (i:=11) (t:=14) 1 (.ref [i64 L[i]]) rfl rfl (.ptr 0)) ?_;simp only[s_0,s_s];have hnl:(L.getD (i+1) 0)=L.getD (i+1) 0:=rfl;have hb0f:(Xd Tryz.prog 275)=True:=hb0 _ (by decide) (by decide);by_cases hA:i+1=r.path.length
   ·have bA:((i:Int)==((r.path.length - 1:Nat):Int))=true:=by simp;omega
    rw[if_pos hA] at hst;cases hX:(r.ex==0) with
    |true=>
     rw[if_pos (by simpa using hX)] at hst;have ct:=Xz0 p (WK i) (m+5) (m+6) (m+7) (by omega) (by omega) (by omega) L[i] i 275 [] (fun _ j=>j==(0,0)) (hb0 _ (by decide) (by decide)) (fun e j=>Xxk e j) (by omega) (by omega) (by omega) (by omega);rw[<- hst] at ct;repeat' (first|refine Vk fun K hK=> ?_|apply V0|apply Vb|apply Vc|apply Vr|apply Vs|with_reducible apply aa|refine Vq (by kernel_rfl) ?_|((first|apply gE|apply gR|apply gS);simp only[zA,simprocAttr,Xi hm,rtC,Xjn hm,hwp,hw,bA,hX])|exact Vn|(refine Xpb ct (X6 _ hm 5) (X6 _ hm 6) (X6 _ hm 7) (Xb _ (by simp)) (Xb _ (by simp)) (Xb _ (by simp)) (by simp) (by simp) (by simp) ?_)|((refine Vg (fun hg=> ?_) (fun hg=> ?_))<;>try simp only[nb] at hg)|(apply Vx;simp only[sb,reduceIte,Nat.reduceEqDiff])|(refine hK _ ?_;clear hK K)|refine Vt rfl ?_|refine Vf rfl ?_|(refine Vi rfl (fun hg=> ?_) (fun hg=> ?_))<;>try simp only[hg]|clear hK K)
     refine⟨i+1,by omega,by omega,?_⟩;refine Xx [true,true,true,true,true,true,true,true,true,true,false,false] ?_ ?_<;>intro n_<;>simp only[sM,plC,sgC,wkC,sk]
    |false=>
     rw[if_neg (by simpa using hX)] at hst;have ct:=Xz0 p (WK i) (m+5) (m+6) (m+7) (by omega) (by omega) (by omega) L[i] i 276 [.ref [i64 L[i]],.ref (sgC ex)] (fun e _=>L[i]==ex.2.1&&e==ex.2.2) (hb0 _ (by decide) (by decide)) (fun e j=>Xxl L[i] ex e j) (by omega) (by omega) (by omega) (by omega);rw[<- hst] at ct;repeat' (first|refine Vk fun K hK=> ?_|apply V0|apply Vb|apply Vc|apply Vr|apply Vs|with_reducible apply aa|refine Vq (by kernel_rfl) ?_|((first|apply gE|apply gR|apply gS);simp only[zA,simprocAttr,Xi hm,rtC,Xjn hm,hwp,hw,bA,hX])|exact Vn|(refine Xpb ct (X6 _ hm 5) (X6 _ hm 6) (X6 _ hm 7) (Xb _ (by simp)) (Xb _ (by simp)) (Xb _ (by simp)) (by simp) (by simp) (by simp) ?_)|((refine Vg (fun hg=> ?_) (fun hg=> ?_))<;>try simp only[nb] at hg)|(apply Vx;simp only[sb,reduceIte,Nat.reduceEqDiff])|(refine hK _ ?_;clear hK K)|refine Vt rfl ?_|refine Vf rfl ?_|(refine Vi rfl (fun hg=> ?_) (fun hg=> ?_))<;>try simp only[hg]|clear hK K)
     refine⟨i+1,by omega,by omega,?_⟩;refine Xx [true,true,true,true,true,true,true,true,true,true,false,false] ?_ ?_<;>intro n_<;>simp only[sM,plC,sgC,wkC,sk]
   ·have bA:((i:Int)==((r.path.length - 1:Nat):Int))=false:=by simp;omega
    rw[if_neg hA] at hst;by_cases hB:i+1=L.length
    ·have bB:((i:Int)==((L.length - 1:Nat):Int))=true:=by simp;omega
     rw[if_pos hB] at hst;have ct:=Y1a p (WK i) (m+5) (m+6) (m+7) (by omega) L[i] i (by omega) (by omega);rw[<- hst] at ct;have ho2:(WK (i+1)).outs.length=(WK i).outs.length:=by
      rw[hst];unfold Xpt;obtain⟨s,l,e⟩:=Xox p (WK i) L[i];rw[e];dsimp only;split
      ·rw[(Xqd _ _ _ _).2.1]
      ·rfl
     repeat' (first|refine Vk fun K hK=> ?_|apply V0|apply Vb|apply Vc|apply Vr|apply Vs|with_reducible apply aa|refine Vq (by kernel_rfl) ?_|((first|apply gE|apply gR|apply gS);simp only[zA,simprocAttr,Xi hm,rtC,Xjn hm,hwp,hwl,hw,bA,bB])|exact Vn|(refine Xk ct (X6 _ hm 5) (X6 _ hm 6) (Xb _ (by simp)) (Xb _ (by simp)) (by simp) (by simp) ?_)|((refine Vg (fun hg=> ?_) (fun hg=> ?_))<;>try simp only[nb] at hg)|(apply Vx;simp only[sb,reduceIte,Nat.reduceEqDiff])|(refine hK _ ?_;clear hK K)|refine Vt rfl ?_|refine Vf rfl ?_|(refine Vi rfl (fun hg=> ?_) (fun hg=> ?_))<;>try simp only[hg]|clear hK K)
     rw[<- ho2];refine⟨i+1,by omega,by omega,?_⟩;refine Xx [true,true,true,true,true,true,true,true,true,true,false,false] ?_ ?_<;>intro n_<;>simp only[sM,plC,sgC,wkC,sk]
    ·have bB:((i:Int)==((L.length - 1:Nat):Int))=false:=by simp;omega
     rw[if_neg hB] at hst;have ct:=Xz0 p (WK i) (m+5) (m+6) (m+7) (by omega) (by omega) (by omega) L[i] i 278 [.ref [X62 L],.ref [i64 (i:Int)]] (fun _ j=>j.1==L.getD (i+1) 0) (hb0 _ (by decide) (by decide)) (fun e j=>Xxm L i (by omega) (by omega) e j) (by omega) (by omega) (by omega) (by omega);rw[<- hst] at ct;repeat' (first|refine Vk fun K hK=> ?_|apply V0|apply Vb|apply Vc|apply Vr|apply Vs|with_reducible apply aa|refine Vq (by kernel_rfl) ?_|((first|apply gE|apply gR|apply gS);simp only[zA,simprocAttr,Xi hm,rtC,Xjn hm,hwp,hwl,hw,bA,bB])|exact Vn|(refine Xpb ct (X6 _ hm 5) (X6 _ hm 6) (X6 _ hm 7) (Xb _ (by simp)) (Xb _ (by simp)) (Xb _ (by simp)) (by simp) (by simp) (by simp) ?_)|((refine Vg (fun hg=> ?_) (fun hg=> ?_))<;>try simp only[nb] at hg)|(apply Vx;simp only[sb,reduceIte,Nat.reduceEqDiff])|(refine hK _ ?_;clear hK K)|refine Vt rfl ?_|refine Vf rfl ?_|(refine Vi rfl (fun hg=> ?_) (fun hg=> ?_))<;>try simp only[hg]|clear hK K)
     refine⟨i+1,by omega,by omega,?_⟩;refine Xx [true,true,true,true,true,true,true,true,true,true,false,false] ?_ ?_<;>intro n_<;>simp only[sM,plC,sgC,wkC,sk]
  ·obtain rfl:i=L.length:=by omega
   obtain⟨ha,ho⟩:=hWl L.length;obtain⟨w,hw'⟩:∃w,w=WK L.length:=⟨_,rfl⟩
   rw[<- hw'] at hRW hRO hRE ha ho;simp only[<- hw'];clear hWS hW0 hWl hEW;cases hlost:w.lost with
   |true=>
    rw[hlost,if_pos rfl] at hRW hRO hRE;subst hRW hRO hRE;repeat' (first|refine Vk fun K hK=> ?_|apply V0|apply Vb|apply Vc|apply Vr|apply Vs|with_reducible apply aa|refine Vq (by kernel_rfl) ?_|((first|apply gE|apply gR|apply gS);simp only[zA,simprocAttr,Xi hm,wkC,hlt,hlost,X0])|exact Vn|((refine Vg (fun hg=> ?_) (fun hg=> ?_))<;>try simp only[nb] at hg)|(apply Vx;simp only[sb])|(refine hK _ ?_;clear hK K)|refine Vt rfl ?_|refine Vf rfl ?_|refine Vi rfl (fun hg=> ?_) (fun hg=> ?_)|clear hK K)
    apply Vz;refine Xuy (.inr rfl) rfl rfl rfl (fun _ _=>rfl) ok258 (k:=m+2) (off:=0) rfl (Xb _ (by simp)) (X6 _ hm 2) rfl rfl rfl ?_;simp only[wyA,wyC,Y2w,ad,List.take,sL,ti258]
   |false=>
    rw[hlost,if_neg (by decide)] at hRW hRO hRE;obtain⟨F,hF⟩:∃F:Nat->Wk,F=fun i=>Xsk w (r.flanks.take i):=⟨_,rfl⟩
    have hF0:F 0=w:=by rw[hF];rfl
    have hFS:∀i (hi:i<r.flanks.length),F (i+1)=Xps (F i) r.flanks[i].1 r.flanks[i].2 (-1):=fun i hi=>by rw[hF];exact Xw3 hi w
    have hFl:∀i,(F i).asks.length<=40+i∧(F i).outs=w.outs:=fun i=>by
     rw[hF];have:=Xu1 w (r.flanks.take i);rw[aj] at this;exact⟨by dsimp only;omega,this.2.1⟩
    have hFe:Xsk w r.flanks=F r.flanks.length:=by rw[hF];dsimp only;rw[List.take_length]
    rw[hFe] at hRW;subst hRW hRO hRE;clear hF;repeat' (first|refine Vk fun K hK=> ?_|apply V0|apply Vb|apply Vc|apply Vr|apply Vs|with_reducible apply aa|refine Vq (by kernel_rfl) ?_|((first|apply gE|apply gR|apply gS);simp only[zA,simprocAttr,Xi hm,rtC,wkC,hlt,hlost])|exact Vn|((refine Vg (fun hg=> ?_) (fun hg=> ?_))<;>try simp only[nb] at hg)|(apply Vx;simp only[sb])|(refine hK _ ?_;clear hK K)|refine Vt rfl ?_|refine Vf rfl ?_|refine Vi rfl (fun hg=> ?_) (fun hg=> ?_)|clear hK K)
    apply V5;refine Xrd (r.flanks.length) (fun m i=>tp [16] (tr 116 10 [(115,i64 (i:Int)),(2,.ptr (m+0) 0),(3,.ptr (m+1) 0),(4,.ptr (m+2) 0),(7,.ptr (m+3) 0),(9,.ptr (m+5) 0)])) (fun m i=>[some (.box 28 (plC p)),some (.box 161 (rtC r)),some (.box 258 [.sl 0 [] .nil,.sl 0 [] .nil,.sl 0 [] .nil,i64 0]),some (.box 169 (sgC en)),some .dead,some (.box 356 (wkC p (F i) (m+6) (m+7))),some (.row 248 3 (F i).asks.length),some (.row 167 2 w.outs.length),some (.row 3 1 (r.path.length+r.over.length)),some .dead,none,none]) ?_ fun m i hm hi=> ?_
    ·refine X2 ?_ ?_ (by first|rfl|(simp only[plC,rtC,sgC,wkC,hF0,hlost,af];rfl)|simp only[plC,rtC,sgC,wkC,hF0,hlost,af]) rfl rfl rfl<;>simp only[sL,plC,rtC,sgC,wkC,hF0,hlost]
    simp only[pt];have hw2:=Yl (n:=i) 1 1 rfl (by omega);by_cases hltf:i<r.flanks.length
    ·have gf:=Xg jnC r.flanks i [] hltf;have cA:=Xxj p (F i) (m+5) (m+6) (m+7) (by omega) r.flanks[i].1 r.flanks[i].2 (-1) (by have:=(hFl i).1;omega);rw[<- hFS i hltf] at cA;repeat' (first|refine Vk fun K hK=> ?_|apply V0|apply Vb|apply Vc|apply Vr|apply Vs|with_reducible apply aa|refine Vq (by kernel_rfl) ?_|((first|apply gE|apply gR|apply gS);simp only[zA,simprocAttr,Xi hm,rtC,jnC,X0,Xjn hm,hltf,gf,hw2])|exact Vn|(refine Xk cA (X6 _ hm 5) (X6 _ hm 6) (Xb _ (by simp)) (Xb _ (by simp)) (by simp) (by simp) ?_)|((refine Vg (fun hg=> ?_) (fun hg=> ?_))<;>try simp only[nb] at hg)|(apply Vx;simp only[sb,reduceIte,Nat.reduceEqDiff])|(refine hK _ ?_;clear hK K)|refine Vt rfl ?_|refine Vf rfl ?_|refine Vi rfl (fun hg=> ?_) (fun hg=> ?_)|clear hK K)
     refine⟨i+1,by omega,by omega,?_⟩;refine Xx [true,true,true,true,true,true,true,true,true,true,false,false] ?_ ?_<;>intro n_<;>simp only[sM,plC,sgC,wkC,sk]
    ·obtain rfl:i=r.flanks.length:=by omega
     have k1:=Xez (r.path.map Ym) (by simp;omega);have k2:=Xez (r.over.map Ym) (by simp;omega);have ho3:=(hFl r.flanks.length).2;repeat' (first|refine Vk fun K hK=> ?_|apply V0|apply Vb|apply Vc|apply Vr|apply Vs|with_reducible apply aa|refine Vd 28 [] [[],[1],[],[],[1],[],[],[],[],[5],[],[3],[],[],[],[],[5],[2],[],[]] [[],[],[],[],[],[],[],[],[],[],[],[],[],[],[],[],[],[2],[],[]] (by kernel_rfl) (by decide) (by decide) (by kernel_rfl) ?_|refine Vq (by kernel_rfl) ?_|((first|apply gE|apply gR|apply gD|apply gF|apply gS);simp only[zA,simprocAttr,Xi hm,rtC,wkC,sgC,hltf,X0])|exact Vn|(refine X3 (k1) ?_)|(refine X3 (k2) ?_)|((refine Vg (fun hg=> ?_) (fun hg=> ?_))<;>try simp only[nb] at hg)|(apply Vx;simp only[sb])|(refine hK _ ?_;clear hK K)|refine Vt rfl ?_|refine Vf rfl ?_|refine Vi rfl (fun hg=> ?_) (fun hg=> ?_)|clear hK K)
     apply Vz;refine Xuy (.inr rfl) rfl rfl rfl (fun _ _=>rfl) ok258 (k:=m+2) (off:=0) rfl (Xb _ (by simp)) (X6 _ hm 2) rfl rfl rfl ?_;simp only[wyA,wyC,ho3,List.take,sL,ti258]
end Go.Proofs.YtgpdghbmiihfbaaGreat.Pln
