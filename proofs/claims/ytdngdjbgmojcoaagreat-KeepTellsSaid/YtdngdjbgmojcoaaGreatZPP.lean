/- The layer of abstract values, joined. -/
import Derived.Test.YtdngdjbgmojcoaaGreatZPR
import Derived.Test.YtdngdjbgmojcoaaGreatZP19
namespace Go.Proofs.YtdngdjbgmojcoaaGreat.Pln
set_option linter.all false
set_option maxHeartbeats 8000000
set_option maxRecDepth 4000
open Go Go.VS Tab
attribute [local irreducible] AWp Xp0 Pg X5c Qy Lt Tp FdT Eb
theorem X33 (p:Pl) (r:Rt) (hs:SmV p) (h20:r.path.length<=140737488355328∧r.over.length<=140737488355328∧r.flanks.length<=140737488355328) (hmay:Uq p.secs=true) (hsg:Qu p=true):Xr Tryz.prog 81 [plA p,rtA r,.agg (Uj p.secs)] [] (bool (okR p r)) []:=by
 obtain⟨hp1,hp2,hp3⟩:=h20;have hsl:=hs.sgs;have hpl:=hs.pts;have c1:=Kl p.sgs r.entry (by omega);have c2:=Kl p.sgs r.ex (by omega);cases hg:Xpe p.sgs r.entry with
 |none=>
  exact Xtc p r hs ⟨hp1,hp2,hp3⟩ hmay hsg (.inl hg)
 |some en=>
  rw[hg] at c1;have hen:en∈p.sgs:=bg hg;obtain⟨hn1,hn2,hn3⟩:=H2 hmay hsg hen;obtain⟨ne,hne⟩:=bj (a:=en.2.1) (by omega);have hn:ne<100:=by omega
  have hn':(ne:Int)<100:=by omega
  have hn9:ne<=99:=by omega
  have hok:=Rh hg;rw[hne] at hok;cases hh:Ma p r with
  |false=>exact Xtc p r hs ⟨hp1,hp2,hp3⟩ hmay hsg (.inr hh)
  |true=>
   rw[hh,bo] at hok;unfold Ma at hh;simp only[ad,ck,ao,c9,fe,dt] at hh;obtain⟨⟨⟨⟨⟨⟨⟨q1,q2⟩,q3⟩,q4⟩,q5⟩,q6⟩,q7⟩,q8⟩:=hh;generalize hB:(Xpe p.sgs r.ex).isSome=B at c2 q1;generalize (Xpe p.sgs r.ex).getD (0,0,0)=ex at c2;have d1:decide ((r.path.length:Int)<1)=false:=ak (by omega);have d2:decide ((r.path.length:Int)>6)=false:=ak (by omega);have d3:decide ((r.over.length:Int)>2)=false:=ak (by omega);have d4:decide ((r.flanks.length:Int)>3)=false:=ak (by omega);have d5:decide (r.timer<1)=false:=ak (by omega);have d6:decide (r.timer>9)=false:=ak (by omega);refine Xc 8 Tryz.func81 rfl fun n out _ _=> ?_;simp only[sn,Tryz.ntmps81,simprocAttr];have hg:=Nat.le_refl 0;refine Vy fun K hK=> ?_;simp only[zA,simprocAttr, -List.reduceReplicate,plA,plC,rtA,rtC]
   (refine hK _ ?_;clear hK K)
   refine Vy fun K hK=> ?_;simp only[zA,simprocAttr, -List.reduceReplicate]
   skip
   refine X3 c1 ?_;simp only[zA,simprocAttr, -List.reduceReplicate,sgA,sgC,X0,Option.getD_some,hne]
   (refine hK _ ?_;clear hK K)
   refine Vy fun K hK=> ?_;simp only[zA,simprocAttr, -List.reduceReplicate]
   skip
   refine X3 c2 ?_;simp only[zA,simprocAttr, -List.reduceReplicate,sgA,sgC,X0]
   (refine hK _ ?_;clear hK K)
   refine Vk fun K hK=> ?_;obtain⟨LO,hLO⟩:∃LO,LO=[some (Res.box 28 (plC p)),some (.box 82 (rtC r)),some (.box 132 (Uj p.secs)),some (.box 92 [i64 en.1,i64 (ne:Int),i64 en.2.2]),some (.box 92 (sgC ex)),none,none,none]:=⟨_,rfl⟩
   refine Xsh [(6,.top),(36,.top),(37,.top),(38,.top),(39,.top),(40,.top),(41,.top),(42,.top),(43,.top),(44,.top),(45,.top),(46,.top),(47,.top),(48,.top),(49,.top),(50,.top),(51,.top),(52,.top),(53,.top),(54,.top),(55,.top),(56,.top),(57,.top),(58,.top),(59,.top),(60,.top),(61,.top),(62,.top),(63,.top),(64,.top),(65,.top),(66,.top),(67,.top),(68,.top),(69,.top),(70,.top),(71,.top),(72,.top),(73,.top),(74,.top),(75,.top),(76,.top),(77,.top),(78,.top),(79,.top),(80,.top),(81,.top),(82,.top),(83,.top),(84,.top),(85,.top)] LO out ?_ ?_;rotate_left
   ·by_cases hx:r.ex=0
    ·have x1:(r.ex !=0)=false:=by simp [hx]
     have x2:(r.ex==0)=true:=by simp [hx]
     have x3:decide ((r.over.length:Int)>0)=false:=by
      rcases q2 with h|h
      ·exact absurd hx h
      ·have:r.over=[]:=by simpa using h
       simp [this]
     repeat' (first|refine Vk fun K hK=> ?_|apply V0|apply Vs|((first|apply gE|apply gS);simp only[zA,simprocAttr, -List.reduceReplicate,hLO,plC,rtC,sgC,x1,x2,x3,d1,d2,d3,d4,d5,d6])|(refine hK _ ?_;clear hK K)|refine Vf rfl ?_|(refine Or.inl ⟨rfl,?_⟩;refine La rfl ?_ ?_<;>simp only[sL,hLO,plC,rtC,sgC]))
    ·have x1:(r.ex !=0)=true:=by simpa using hx
     have x2:(r.ex==0)=false:=by simpa using hx
     obtain⟨x4,x5⟩:B=true∧(r.ex==r.entry)=false:=by
      rcases q1 with h|h
      ·exact absurd h hx
      ·exact⟨h.1,h.2⟩
     repeat' (first|refine Vk fun K hK=> ?_|apply V0|apply Vs|((first|apply gE|apply gS);simp only[zA,simprocAttr, -List.reduceReplicate,hLO,plC,rtC,sgC,x1,x2,x4,x5,d1,d2,d3,d4,d5,d6])|(refine hK _ ?_;clear hK K)|refine Vf rfl ?_|(refine Or.inl ⟨rfl,?_⟩;refine La rfl ?_ ?_<;>simp only[sL,hLO,plC,rtC,sgC,x4]))
   refine hK _ ?_;clear hK K;simp only[pt,hLO];clear hLO;obtain⟨LL,hLL⟩:∃LL,LL=[r.path,r.over]:=⟨_,rfl⟩
   have hl2:LL.length=2:=by rw[hLL];rfl
   have hL20:∀i (hi:i<LL.length),LL[i].length<=140737488355328:=fun i hi=>by
    subst hLL;have:i=0∨i=1:=by simp at hi;omega
    rcases this with rfl|rfl<;>simp<;>omega
   have hbadQ:∀j (hj:j<LL.length),okQ p ne (LL.take j).flatten LL[j]=false->okR p r=false:=fun j hj h=>by
    subst hLL;have:j=0∨j=1:=by simp at hj;omega
    rcases this with rfl|rfl
    ·simp at h;rw[hok,h];simp
    ·simp at h;rw[hok,h];simp
   have hgoodQ:(∀j (hj:j<LL.length),okQ p ne (LL.take j).flatten LL[j]=true)->okR p r=Ue (okF p) r.flanks:=fun h=>by
    have h0:=h 0 (by omega);have h1:=h 1 (by omega);subst hLL;simp at h0 h1;rw[hok,h0,h1];rfl
   have lit:∀(σ:AState) (K:AV->List (Nat×Res)->Prop),X1 tab σ K none 224 2 [(0,.sl 1 (r.path.map Ym) .sh),(1,.sl 1 (r.over.map Ym) .sh)]=K (.sl 1 (LL.map X5v) .full) []:=fun σ K=>by
    rw[hLL];exact Te (T:=tab) (ti:=ti224) (te:=ti61) rfl rfl rfl rfl rfl rfl
   repeat' (first|refine Vk fun K hK=> ?_|apply V0|((first|apply gE|apply gS);simp only[zB,simprocAttr, -List.reduceReplicate,plC,rtC,hn',hn9,Qg,Xuk ne hn,lit])|(refine hK _ ?_;clear hK K))
   apply V5;refine Xpw (LL.length) (fun i=>(∀j (hj:j<LL.length),j<i->okQ p ne (LL.take j).flatten LL[j]=true)) (fun m i=>tp [6,13,15] (tr 96 22 [(95,i64 (i:Int)),(3,.ptr (m+0) 0),(4,.ptr (m+1) 0),(5,.ptr (m+2) 0),(7,.ptr (m+3) 0),(9,.ptr (m+4) 0),(11,.ptr (m+5) 0)])) (fun m i=>[some (.box 28 (plC p)),some (.box 82 (rtC r)),some (.box 132 (Uj p.secs)),some (.box 92 [i64 en.1,i64 (ne:Int),i64 en.2.2]),some (.box 92 (sgC ex)),some (.box 175 (Fu ne (LL.take i).flatten)),none,none]) (by intros;omega) ?_ fun m i hm hi=> ?_
   ·refine X2 ?_ ?_ (by first|rfl|(simp only[ai,List.take_zero,List.flatten_nil,plC,rtC,sgC];rfl)|simp only[ai,List.take_zero,List.flatten_nil,plC,rtC,sgC]) rfl rfl rfl<;>simp only[sL,List.flatten_nil,plC,rtC,sgC]
   obtain⟨hi,hq⟩:=hi;simp only[pt];have hw:=Yl (n:=i) 1 1 rfl (by omega);by_cases hlt:i<LL.length
   ·have gi:=Xg X5v LL i [] hlt;have hq0:=hq;clear hq;repeat' (first|refine Vk fun K hK=> ?_|apply V0|apply Vb|apply Vs|((first|apply gE|apply gS);simp only[zA,simprocAttr, -List.reduceReplicate,hlt,gi,X5v])|(refine hK _ ?_;clear hK K)|refine Vt rfl ?_)
    have hLi:=hL20 i hlt;have hlti:=hlt;obtain⟨L,hL⟩:∃L,L=LL[i]:=⟨_,rfl⟩
    obtain⟨Bf,hBf⟩:∃Bf,Bf=(LL.take i).flatten:=⟨_,rfl⟩
    have hfl:(LL.take (i+1)).flatten=Bf++L:=by rw[aj hlti,f5,hBf,hL];simp
    have hbad2:okQ p ne Bf L=false->okR p r=false:=fun h=>hbadQ i hlti (by rw[<- hBf,<- hL];exact h);have hnext:okQ p ne Bf L=true->∀j (hj:j<LL.length),j<i+1->okQ p ne (LL.take j).flatten LL[j]=true:=fun h j hj hji=>by
     by_cases h':j=i
     ·subst h';rw[<- hBf,<- hL];exact h
     ·exact hq0 j hj (by omega)
    rw[<- hL] at hLi;simp only[<- hL,<- hBf];apply V5;refine Xpw (L.length) (fun k=>(∀q (hq:q<L.length),q<k->okL p ne (Bf++L.take q) L[q]=true)) (fun m k=>tp [6,15] (tr 102 15 [(101,i64 (k:Int)),(3,.ptr (m+0) 0),(4,.ptr (m+1) 0),(5,.ptr (m+2) 0),(7,.ptr (m+3) 0),(9,.ptr (m+4) 0),(11,.ptr (m+5) 0)])) (fun m k=>[some (.box 28 (plC p)),some (.box 82 (rtC r)),some (.box 132 (Uj p.secs)),some (.box 92 [i64 en.1,i64 (ne:Int),i64 en.2.2]),some (.box 92 (sgC ex)),some (.box 175 (Fu ne (Bf++L.take k))),none,none]) (by intros;omega) ?_ fun m k hm hk=> ?_
    ·refine X2 ?_ ?_ (by first|rfl|(simp only[ai,List.take_zero,a9,plC,rtC,sgC];rfl)|simp only[ai,List.take_zero,a9,plC,rtC,sgC]) rfl rfl rfl<;>simp only[sL,a9,plC,rtC,sgC]
    obtain⟨hk,hq⟩:=hk;simp only[pt];have hw2:=Yl (n:=k) 1 1 rfl (by omega);by_cases hlt:k<L.length
    ·have gk:=Xg Ym L k [] hlt;have ct:=Hg p.secs L[k] hmay;have hfk:Bf++L.take k++[L[k]]=Bf++L.take (k+1):=by rw[aq,<- aj hlt]
     cases hgs:(Qt p.secs L[k]).isSome with
     |false=>
      have bad:okL p ne (Bf++L.take k) L[k]=false:=by unfold okL;rw[hgs];rfl
      rw[hgs] at ct;repeat' (first|refine Vk fun K hK=> ?_|apply V0|apply Vb|apply Vs|((first|apply gE|apply gR|apply gS);simp only[zA,simprocAttr, -List.reduceReplicate,Xi hm,hlt,gk,Ym])|(apply Vz;(try refine Or.inr ⟨(by intro h;cases h),?_⟩);refine Vo rfl rfl rfl (fun _ _=>rfl) ?_<;>first|rfl|(rw[hbad2 (Yz hlt bad)];rfl)|skip)|(refine X3 (ct) ?_)|(refine hK _ ?_;clear hK K)|refine Vt rfl ?_)
     |true=>
      obtain⟨nb,hnb,hnb1⟩:∃nb:Nat,L[k]=nb∧nb<100:=by
       obtain⟨s,hs'⟩:=cu.1 hgs;obtain⟨h1,h2⟩:=W5 hs';have:=U1.1 (U0 hmay h1).1;exact⟨(L[k]).toNat,by omega,by omega⟩
      have hnb':(nb:Int)<100:=by omega
      have hnb9:nb<=99:=by omega
      have hokL:=X5u p ne (Bf++L.take k) nb;rw[<- hnb,hgs,bo] at hokL;have hst:=Av ne (Bf++L.take k) nb hnb1;rw[<- hnb,hfk] at hst;rw[hgs,hnb] at ct;repeat' (first|refine Vk fun K hK=> ?_|apply V0|apply Vb|apply Vs|((first|apply gE|apply gR|apply gS);simp only[zA,simprocAttr, -List.reduceReplicate,hg,Xi hm,hlt,gk,Ym,hnb,hnb',hnb9,Ri,Mt _ _ nb 1 hnb1,hst,hw2])|(apply Vz;(try refine Or.inr ⟨(by intro h;cases h),?_⟩);refine Vo rfl rfl rfl (fun _ _=>rfl) ?_<;>first|rfl|(rw[hbad2 (Yz hlt (by rw[hokL];simp_all))];rfl)|skip)|(refine X3 (ct) ?_)|(refine hK _ ?_;clear hK K)|refine Vt rfl ?_|refine Vi rfl (fun hg=> ?_) (fun hg=> ?_)|clear hK K)
      refine⟨k+1,⟨by omega,fun q hq1 hq2=> ?_⟩,by omega,?_⟩
      ·by_cases h:q=k
       ·subst h;rw[hokL];simp_all
       ·exact hq q hq1 (by omega)
      refine Xx [true,true,true,true,true,true,false,false] ?_ ?_<;>intro n_<;>simp only[sM,plC,rtC,sgC]
    ·obtain rfl:k=L.length:=by omega
     have hallL:okQ p ne Bf L=true:=Q3 fun q hq1=>hq q hq1 hq1;repeat' (first|refine Vk fun K hK=> ?_|apply V0|((first|apply gE|apply gS);simp only[zA,simprocAttr, -List.reduceReplicate,hlt,hw,bi])|(apply Vx;simp only[sb,Nat.reduceEqDiff])|(refine hK _ ?_;clear hK K)|refine Vf rfl ?_|clear hK K)
     refine⟨i+1,⟨by omega,hnext hallL⟩,by omega,?_⟩;rw[hfl];refine Xx [true,true,true,true,true,true,false,false] ?_ ?_<;>intro n_<;>simp only[sM,plC,rtC,sgC]
   ·obtain rfl:i=LL.length:=by omega
    have hok2:=hgoodQ fun j hj=>hq j hj hj;clear hq hbadQ hgoodQ;obtain⟨MA,hMA⟩:∃MA,MA=Fu ne (LL.take LL.length).flatten:=⟨_,rfl⟩
    rw[<- hMA];repeat' (first|refine Vk fun K hK=> ?_|apply V0|((first|apply gE|apply gS);simp only[zA,simprocAttr, -List.reduceReplicate,Xi hm,plC,rtC,hlt])|(apply Vx;simp only[sb])|(refine hK _ ?_;clear hK K)|refine Vf rfl ?_|clear hK K)
    apply V5;refine Xpw (r.flanks.length) (fun i=>(∀j (hj:j<r.flanks.length),j<i->okF p (r.flanks.take j) r.flanks[j]=true)) (fun m i=>tp [6] (tr 122 41 (tr 16 4 [(121,i64 (i:Int)),(3,.ptr (m+0) 0),(4,.ptr (m+1) 0),(5,.ptr (m+2) 0),(7,.ptr (m+3) 0),(9,.ptr (m+4) 0),(11,.ptr (m+5) 0)]))) (fun m i=>[some (.box 28 (plC p)),some (.box 82 (rtC r)),some (.box 132 (Uj p.secs)),some (.box 92 [i64 en.1,i64 (ne:Int),i64 en.2.2]),some (.box 92 (sgC ex)),some (.box 175 (MA)),none,none]) (by intros;omega) ?_ fun m i hm hi=> ?_
    ·refine X2 ?_ ?_ (by first|rfl|(simp only[ai,plC,rtC,sgC];rfl)|simp only[ai,plC,rtC,sgC]) rfl rfl rfl<;>simp only[sL,plC,rtC,sgC]
    obtain⟨hi,hq⟩:=hi;simp only[pt];have hw:=Yl (n:=i) 1 1 rfl (by omega);by_cases hltf:i<r.flanks.length
    ·have gi:=Xg jnC r.flanks i [] hltf;have c3:=He p.pts r.flanks[i].1 (by omega);have hokF:okF p (r.flanks.take i) r.flanks[i]=((Bt p.pts r.flanks[i].1).isSome&&(match (r.flanks.take i).getLast? with
      |none=>true
      |some k=>decide (k.1<r.flanks[i].1))&&(r.flanks[i].2==1||r.flanks[i].2==2)):=rfl
     generalize (Bt p.pts r.flanks[i].1).getD (0,0)=X at c3;generalize (Bt p.pts r.flanks[i].1).isSome=S at c3 hokF;have bad:okF p (r.flanks.take i) r.flanks[i]=false->okR p r=false:=fun h=>by rw[hok2,Yz hltf h]
     have next:okF p (r.flanks.take i) r.flanks[i]=true->∀j (hj:j<r.flanks.length),j<i+1->okF p (r.flanks.take j) r.flanks[j]=true:=fun h j hj hji=>by
      by_cases h':j=i
      ·subst h';exact h
      ·exact hq j hj (by omega)
     by_cases h0:i=0
     ·have hd0:decide ((i:Int)>0)=false:=ak (by omega);have hlast:(r.flanks.take i).getLast? =none:=by rw[h0];rfl
      rw[hlast] at hokF;simp only[di] at hokF;repeat' (first|refine Vk fun K hK=> ?_|apply V0|apply Vb|apply Vs|refine Vq (by kernel_rfl) ?_|((first|apply gE|apply gR|apply gS);simp only[zA,simprocAttr, -List.reduceReplicate,hg,Xi hm,plC,hltf,gi,jnA,jnC,X0,hd0,hw])|(apply Vz;(try refine Or.inr ⟨(by intro h;cases h),?_⟩);refine Vo rfl rfl rfl (fun _ _=>rfl) ?_<;>first|rfl|(rw[bad (by rw[hokF];simp at*;simp_all)];rfl)|skip)|(refine X3 (c3) ?_)|((refine Vg (fun hg=> ?_) (fun hg=> ?_))<;>try simp only[nb] at hg)|(refine hK _ ?_;clear hK K)|refine Vt rfl ?_|refine Vf rfl ?_|(refine Vi rfl (fun hg=> ?_) (fun hg=> ?_))<;>try simp only[hg]|clear hK K)
      ·refine⟨i+1,⟨by omega,next (by rw[hokF];simp at*;simp_all)⟩,by omega,?_⟩;refine Xx [true,true,true,true,true,true,false,false] ?_ ?_<;>intro n_<;>simp only[sM,rtC,sgC]
      ·refine⟨i+1,⟨by omega,next (by rw[hokF];simp at*;simp_all)⟩,by omega,?_⟩;refine Xx [true,true,true,true,true,true,false,false] ?_ ?_<;>intro n_<;>simp only[sM,rtC,sgC]
     ·have hd0:decide ((i:Int)>0)=true:=ax (by omega);have hs1:=X25 (n:=i) 1 1 rfl (by omega) (by omega);have hl1:i - 1<r.flanks.length:=by omega
      have g1:=Xg jnC r.flanks (i - 1) [] hl1;have hlast:(r.flanks.take i).getLast? =some r.flanks[i - 1]:=by rw[List.getLast?_eq_getElem?,ba,Nat.min_eq_left (by omega),bc (by omega),ah hl1]
      rw[hlast] at hokF;dsimp only at hokF;have hge:decide (r.flanks[i - 1].1>=r.flanks[i].1)= !decide (r.flanks[i - 1].1<r.flanks[i].1):=by rw[ar];simp
      generalize decide (r.flanks[i - 1].1<r.flanks[i].1)=D at hokF hge;repeat' (first|refine Vk fun K hK=> ?_|apply V0|apply Vb|apply Vs|refine Vq (by kernel_rfl) ?_|((first|apply gE|apply gR|apply gS);simp only[zA,simprocAttr, -List.reduceReplicate,hg,Xi hm,plC,rtC,hltf,gi,jnA,jnC,X0,hd0,hs1,hl1,g1,hge,hw])|(apply Vz;(try refine Or.inr ⟨(by intro h;cases h),?_⟩);refine Vo rfl rfl rfl (fun _ _=>rfl) ?_<;>first|rfl|(rw[bad (by rw[hokF];clear hge;simp at*;simp_all)];rfl)|skip)|(refine X3 (c3) ?_)|((refine Vg (fun hg=> ?_) (fun hg=> ?_))<;>try simp only[nb] at hg)|(refine hK _ ?_;clear hK K)|refine Vt rfl ?_|refine Vf rfl ?_|(refine Vi rfl (fun hg=> ?_) (fun hg=> ?_))<;>try simp only[hg]|clear hK K)
      ·refine⟨i+1,⟨by omega,next (by rw[hokF];clear hge;simp at*;simp_all)⟩,by omega,?_⟩;refine Xx [true,true,true,true,true,true,false,false] ?_ ?_<;>intro n_<;>simp only[sM,sgC]
      ·refine⟨i+1,⟨by omega,next (by rw[hokF];clear hge;simp at*;simp_all)⟩,by omega,?_⟩;refine Xx [true,true,true,true,true,true,false,false] ?_ ?_<;>intro n_<;>simp only[sM,sgC]
    ·have e:=Q3 (f:=okF p) (l:=r.flanks) fun j hj=>hq j hj (by omega);repeat' (first|refine Vk fun K hK=> ?_|apply V0|((first|apply gE|apply gS);simp only[zA,simprocAttr, -List.reduceReplicate,rtC,hltf])|(apply Vz;(try refine Or.inr ⟨(by intro h;cases h),?_⟩);refine Vo rfl rfl rfl (fun _ _=>rfl) ?_<;>first|rfl|(rw[hok2,e];rfl)|skip)|(apply Vx;simp only[sb])|(refine hK _ ?_;clear hK K)|refine Vf rfl ?_|clear hK K)
theorem X3g (p:Pl):Uf p=(Kq p&&Uq p.secs&&(Ul p&&Qu p&&(Ue Ye (p.rts.map Rt.id)&&decide ((p.rts.length:Int)<=16)))&&p.rts.all (okR p)):=by
 unfold Uf;have e:decide ((p.rts.length:Int)<=16)=decide (p.rts.length<=16):=fp.2 (by omega);rw[e];simp only[ik]
theorem Hi (p:Pl):Kq p=(!decide (p.ver<1)&& !decide (p.ver>2147483647)&& !decide (p.par<0)&& !decide (p.par>=p.ver)):=by
 unfold Kq;rw[ar];simp
theorem Y3g (p:Pl) (hs:SmV p):Xr Tryz.prog 51 [plA p] [] (i64 (if Uf p then 0 else 8)) []:=by
 have hme:=X3g p;have ct:=X06 p.secs (by have:=hs.secs;omega);cases hmay:Uq p.secs with
 |false=>
  have hf:Uf p=false:=by rw[hme,hmay];simp
  rw[hmay] at ct;rw[hf];refine Xc 3 Tryz.func51 rfl fun n out _ _=> ?_;simp only[sn,Tryz.ntmps51,simprocAttr];have hg:=Nat.le_refl 0;repeat' (first|refine Vk fun K hK=> ?_|apply V0|apply Vb|apply Vc|apply Vr|apply Vs|with_reducible apply ab|((first|apply gE|apply gR|apply gS);simp only[zA,simprocAttr, -List.reduceReplicate,hg,plA,plC])|exact Vn|(apply Vz;refine Vo rfl rfl rfl (fun _ _=>rfl) ?_<;>first|rfl|skip)|(refine X3 (ct) ?_)|((refine Vg (fun hg=> ?_) (fun hg=> ?_))<;>try simp only[nb] at hg)|(apply Vx;simp only[sb,reduceIte,Nat.reduceEqDiff])|(refine hK _ ?_;clear hK K)|refine Vt rfl ?_|refine Vf rfl ?_|refine Vi rfl (fun hg=> ?_) (fun hg=> ?_)|clear hK K)
 |true=>
  rw[hmay] at ct;have hd:=Hi p;cases hh:Kq p with
  |false=>
   have hf:Uf p=false:=by rw[hme,hh];simp
   rw[hh] at hd;rw[hf];refine Xc 3 Tryz.func51 rfl fun n out _ _=> ?_;simp only[sn,Tryz.ntmps51,simprocAttr];have hg:=Nat.le_refl 0;repeat' (first|refine Vk fun K hK=> ?_|apply V0|apply Vb|apply Vc|apply Vr|apply Vs|with_reducible apply ab|((first|apply gE|apply gR|apply gS);simp only[zA,simprocAttr, -List.reduceReplicate,hg,plA,plC])|exact Vn|(apply Vz;refine Vo rfl rfl rfl (fun _ _=>rfl) ?_<;>first|rfl|skip)|(refine X3 (ct) ?_)|((refine Vg (fun hg=> ?_) (fun hg=> ?_))<;>try simp only[nb] at hg)|(apply Vx;simp only[sb,reduceIte,Nat.reduceEqDiff])|(refine hK _ ?_;clear hK K)|refine Vt rfl ?_|refine Vf rfl ?_|refine Vi rfl (fun hg=> ?_) (fun hg=> ?_)|clear hK K)
   all_goals (exfalso;clear hme hf ct hs hK K;simp only[*,es,di,dy,Bool.and_self,reduceCtorEq] at hd)
  |true=>
   rw[hh] at hd;obtain⟨⟨⟨d1,d2⟩,d3⟩,d4⟩:((decide (p.ver<1)=false∧decide (p.ver>2147483647)=false)∧decide (p.par<0)=false)∧decide (p.par>=p.ver)=false:=by
    have:=hd.symm;simp only[ad,c9] at this;exact this
   have ce:=X5y p.secs hmay;have cp:=Az p hs hmay;have cg:=H8 p hs hmay;have cr:=H0 p.rts 16 (by have:=hs.rts;omega);simp only[plA,plC] at cp cg;rw[hh,hmay,bo,bo] at hme;cases hpg:Ul p&&Qu p&&(Ue Ye (p.rts.map Rt.id)&&decide ((p.rts.length:Int)<=16)) with
   |false=>
    have hf:Uf p=false:=by rw[hme,hpg];rfl
    rw[hf];generalize (Ue Ye (p.rts.map Rt.id)&&decide ((p.rts.length:Int)<=16))=R at*;generalize Ul p=P1 at*;generalize Qu p=G1 at*;refine Xc 3 Tryz.func51 rfl fun n out _ _=> ?_;simp only[sn,Tryz.ntmps51,simprocAttr];have hg:=Nat.le_refl 0;repeat' (first|refine Vk fun K hK=> ?_|apply V0|apply Vb|apply Vc|apply Vr|apply Vs|with_reducible apply ab|((first|apply gE|apply gR|apply gS);simp only[zA,simprocAttr, -List.reduceReplicate,hg,plA,plC,d1,d2,d3,d4,X0,Yt])|exact Vn|(apply Vz;refine Vo rfl rfl rfl (fun _ _=>rfl) ?_<;>first|rfl|skip)|(refine X3 (ct) ?_)|(refine X3 (ce) ?_)|(refine X3 (cp) ?_)|(refine X3 (cg) ?_)|(refine X3 (cr) ?_)|((refine Vg (fun hg=> ?_) (fun hg=> ?_))<;>try simp only[nb] at hg)|(apply Vx;simp only[sb,reduceIte,Nat.reduceEqDiff])|(refine hK _ ?_;clear hK K)|refine Vt rfl ?_|refine Vf rfl ?_|refine Vi rfl (fun hg=> ?_) (fun hg=> ?_)|clear hK K)
    all_goals (exfalso;clear hme hf ct hs hK K ce cp cg cr hd hh d1 d2 d3 d4;revert P1 G1 R;decide)
   |true=>
    rw[hpg,bo] at hme;rw[ad,ad] at hpg;obtain⟨⟨g1,g2⟩,g3⟩:=hpg;rw[g1] at cp;rw[g2] at cg;rw[g3] at cr;refine Xc 3 Tryz.func51 rfl fun n out _ _=> ?_;simp only[sn,Tryz.ntmps51,simprocAttr];have hg:=Nat.le_refl 0;repeat' (first|refine Vk fun K hK=> ?_|apply V0|apply Vb|apply Vc|apply Vr|apply Vs|with_reducible apply ab|((first|apply gE|apply gR|apply gS);simp only[zA,simprocAttr, -List.reduceReplicate,plA,plC,d1,d2,d3,d4,X0,Yt])|exact Vn|(apply Vz;refine Vo rfl rfl rfl (fun _ _=>rfl) ?_<;>first|rfl|skip)|(refine X3 (ct) ?_)|(refine X3 (ce) ?_)|(refine X3 (cp) ?_)|(refine X3 (cg) ?_)|(refine X3 (cr) ?_)|((refine Vg (fun hg=> ?_) (fun hg=> ?_))<;>try simp only[nb] at hg)|(apply Vx;simp only[sb,reduceIte,Nat.reduceEqDiff])|(refine hK _ ?_;clear hK K)|refine Vt rfl ?_|refine Vf rfl ?_|refine Vi rfl (fun hg=> ?_) (fun hg=> ?_)|clear hK K)
    apply V5;refine Xpw (p.rts.length) (fun i=>(∀j (hj:j<p.rts.length),j<i->okR p p.rts[j]=true)) (fun m i=>tp [2,5] (tr 54 9 [(53,i64 (i:Int)),(1,.ptr (m+0) 0),(3,.ptr (m+1) 0)])) (fun m i=>[some (.box 28 (plC p)),some (.box 132 (Uj p.secs)),none]) (by intros;omega) ?_ fun m i hm hi=> ?_
    ·refine X2 ?_ ?_ (by first|rfl|(simp only[plC,ai];rfl)|simp only[plC,ai]) rfl rfl rfl<;>simp only[sL,plC]
    obtain⟨hi,hq⟩:=hi;simp only[pt];have hw:=Yl (n:=i) 1 1 rfl (by have:=hs.rts;omega);by_cases hlt:i<p.rts.length
    ·have gi:=Xg rtC p.rts i [] hlt;have cq:=X33 p p.rts[i] hs (hs.rt _ (a8 hlt)) hmay g2;simp only[plA,plC,rtA,rtC] at cq;have bad:okR p p.rts[i]=false->Uf p=false:=fun h=>by rw[hme,Kp hlt h]
     repeat' (first|refine Vk fun K hK=> ?_|apply V0|apply Vb|apply Vc|apply Vr|apply Vs|with_reducible apply ab|((first|apply gE|apply gR|apply gS);simp only[zA,simprocAttr, -List.reduceReplicate,hg,Xi hm,plC,rtC,hlt,gi,X0,hw,E6 (Yt p.secs)])|exact Vn|(apply Vz;refine Vo rfl rfl rfl (fun _ _=>rfl) ?_<;>first|rfl|(rw[bad (by simpa using hg)];rfl)|skip)|(refine X3 (cq) ?_)|((refine Vg (fun hg=> ?_) (fun hg=> ?_))<;>try simp only[nb] at hg)|(apply Vx;simp only[sb,reduceIte,Nat.reduceEqDiff])|(refine hK _ ?_;clear hK K)|refine Vt rfl ?_|refine Vf rfl ?_|refine Vi rfl (fun hg=> ?_) (fun hg=> ?_)|clear hK K)
     refine⟨i+1,⟨by omega,fun j hj hji=> ?_⟩,by omega,?_⟩
     ·by_cases h':j=i
      ·subst h';simpa using hg
      ·exact hq j hj (by omega)
     refine Xx [true,true,false] ?_ ?_<;>intro n_<;>simp only[sM]
    ·have e:=Mm (p:=okR p) (l:=p.rts) fun j hj=>hq j hj (by omega);repeat' (first|refine Vk fun K hK=> ?_|apply V0|apply Vb|apply Vc|apply Vr|apply Vs|with_reducible apply ab|((first|apply gE|apply gR|apply gS);simp only[zA,simprocAttr, -List.reduceReplicate,plC,hlt])|exact Vn|(apply Vz;refine Vo rfl rfl rfl (fun _ _=>rfl) ?_<;>first|rfl|(rw[hme,e];rfl)|skip)|((refine Vg (fun hg=> ?_) (fun hg=> ?_))<;>try simp only[nb] at hg)|(apply Vx;simp only[sb])|(refine hK _ ?_;clear hK K)|refine Vt rfl ?_|refine Vf rfl ?_|refine Vi rfl (fun hg=> ?_) (fun hg=> ?_)|clear hK K)
theorem Ss (p:Pl) (hs:SmB p):Xr Tryz.prog 51 [plA p] [] (i64 (if Uf p then 0 else 8)) []:=Y3g p hs.v
theorem Dr (p:Pl) (hs:Sm p):Xr Tryz.prog 51 [plA p] [] (i64 (if Uf p then 0 else 8)) []:=Ss p hs.wide
end Go.Proofs.YtdngdjbgmojcoaaGreat.Pln
namespace Go.Proofs.YtdngdjbgmojcoaaGreat.Pln
set_option linter.all false
set_option maxHeartbeats 8000000
set_option maxRecDepth 4000
open Go Go.VS Tab
def atF (l:List (Int×Int×Int)) (s e:Int):Int:=match l.find? (fun g=>g.2.1==s&&g.2.2==e) with
 |some g=>g.1
 |none=>0
theorem Yfw {p:Pl} (h:Qu p=true) {i:Nat} (hi:i<p.sgs.length) (s e:Int):atF (p.sgs.take (i+1)) s e=if (p.sgs[i].2.1==s&&p.sgs[i].2.2==e)=true then p.sgs[i].1 else atF (p.sgs.take i) s e:=by
 unfold atF;rw[aj hi,fx];by_cases hm:(p.sgs[i].2.1==s&&p.sgs[i].2.2==e)=true
 ·rw[if_pos hm];have:(p.sgs.take i).find? (fun g=>g.2.1==s&&g.2.2==e)=none:=by
   rw[cx];intro x hx hxe;unfold Qu at h;rw[ad] at h;have h1:=Z3.1 h.2 i hi;unfold okG at h1;rw[ad,az] at h1;have h2:=h1.2 x hx;simp only[ad,bq] at hxe hm;have:x.2=p.sgs[i].2:=Prod.ext (by omega) (by omega);simp [this] at h2
  rw[this];simp [hm]
 ·rw[if_neg hm];have hm':(p.sgs[i].2.1==s&&p.sgs[i].2.2==e)=false:=by simpa using hm
  rw[List.find?_cons,hm'];cases (p.sgs.take i).find? (fun g=>g.2.1==s&&g.2.2==e)<;>rfl
theorem Y2 {p:Pl} (h:Uf p=true):Kq p=true∧Uq p.secs=true∧Ul p=true∧Qu p=true∧Ue Ye (p.rts.map Rt.id)=true∧p.rts.length<=16∧∀r,r∈p.rts->okR p r=true:=by
 unfold Uf at h;simp only[ad,ao,az] at h;obtain⟨⟨⟨⟨⟨⟨h1,h2⟩,h3⟩,h4⟩,h5⟩,h6⟩,h7⟩:=h;exact⟨h1,h2,h3,h4,h5,h6,h7⟩
def stE (p:Pl) (s e:Int):Int:=if Uf p then Yf9 p.secs s e else 8
def stL (p:Pl) (s e:Int):Int:=if stE p s e=0 then atF p.sgs s e else 0
end Go.Proofs.YtdngdjbgmojcoaaGreat.Pln
