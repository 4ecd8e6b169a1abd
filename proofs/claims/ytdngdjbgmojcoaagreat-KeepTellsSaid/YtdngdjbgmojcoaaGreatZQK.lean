/- The layer of abstract values, joined. -/
import Derived.Test.YtdngdjbgmojcoaaGreatZPR
import Derived.Test.YtdngdjbgmojcoaaGreatZQD
import Derived.Test.YtdngdjbgmojcoaaGreatZRB
import Derived.Test.YtdngdjbgmojcoaaGreatZPM
import Derived.Test.YtdngdjbgmojcoaaGreatZVsMop
namespace Go.Proofs.YtdngdjbgmojcoaaGreat.Pln
set_option linter.all false
open Go Go.VS Tab
attribute [local irreducible] AWp Xp0 Pg X5c Qy Lt Tp FdT Eb
set_option maxHeartbeats 8000000
set_option maxRecDepth 4000
theorem Yfy (l:Int×UInt8×Int×Int) (r:Rt) (hr:r.path.length<=1000000):Xr Tryz.prog 154 [lkA l,i64 (r.path.length:Int),i64 r.timer] [] (bool (Xr7 l r)) []:=by
 have hs:IntKind.i64.wrap ((r.path.length:Int) - 1)=(r.path.length:Int) - 1:=by rw[wrap_i64]<;>omega
 obtain⟨a,ph,g,le⟩:=l;have q:∀k:UInt8,((ph.toNat:Int)==(k.toNat:Int))=(ph==k):=fun k=>Xr8 ph k;have q0:=q 0;have q1:=q 1;have q2:=q 2;have q3:=q 3;have q4:=q 4;simp only[show((0:UInt8).toNat:Int)=0 from rfl,show((1:UInt8).toNat:Int)=1 from rfl,show((2:UInt8).toNat:Int)=2 from rfl,show((3:UInt8).toNat:Int)=3 from rfl,show((4:UInt8).toNat:Int)=4 from rfl] at q0 q1 q2 q3 q4;unfold Xr7;dsimp only;by_cases p0:ph=0
 ·have e0:(ph==0)=true:=by simpa using p0
  rw[if_pos (.inl p0)];rw[e0] at q0;refine Xc 1 Tryz.func154 rfl fun n out _ _=> ?_;simp only[sn,Tryz.ntmps154,simprocAttr];have hg:=Nat.le_refl 0;repeat' (first|refine Vk fun K hK=> ?_|apply V0|apply Vb|apply Vs|((first|apply gE|apply gS);simp only[zA,simprocAttr,hg,lkA,lkC,q0])|(apply Vz;refine Vo rfl rfl rfl (fun _ _=>rfl) ?_<;>first|rfl|(first|rfl|(simp only[g_0,g_s];refine congrArg VS.bool ?_;rw[ar];first|(simp [] at* <;>omega)|(simp_all []<;>omega)))|skip)|((refine Vg (fun hg=> ?_) (fun hg=> ?_))<;>try simp only[nb] at hg)|(refine hK _ ?_;clear hK K)|refine Vt rfl ?_)
 ·have e0:(ph==0)=false:=by simpa using p0
  rw[e0] at q0;by_cases p1:ph=1
  ·have e1:(ph==1)=true:=by simpa using p1
   rw[if_pos (.inr p1)];rw[e1] at q1;refine Xc 1 Tryz.func154 rfl fun n out _ _=> ?_;simp only[sn,Tryz.ntmps154,simprocAttr];have hg:=Nat.le_refl 0;repeat' (first|refine Vk fun K hK=> ?_|apply V0|apply Vb|((first|apply gE|apply gS);simp only[zA,simprocAttr,hg,lkA,lkC,q0,q1])|(apply Vz;refine Vo rfl rfl rfl (fun _ _=>rfl) ?_<;>first|rfl|(first|rfl|(simp only[g_0,g_s];refine congrArg VS.bool ?_;rw[ar];first|(simp [] at* <;>omega)|(simp_all []<;>omega)))|skip)|((refine Vg (fun hg=> ?_) (fun hg=> ?_))<;>try simp only[nb] at hg)|(refine hK _ ?_;clear hK K)|refine Vt rfl ?_|refine Vf rfl ?_)
  ·have e1:(ph==1)=false:=by simpa using p1
   rw[e1] at q1;rw[if_neg (by simp [p0,p1])];by_cases p2:ph=2
   ·have e2:(ph==2)=true:=by simpa using p2
    rw[if_pos p2];rw[e2] at q2;refine Xc 1 Tryz.func154 rfl fun n out _ _=> ?_;simp only[sn,Tryz.ntmps154,simprocAttr];have hg:=Nat.le_refl 0;repeat' (first|refine Vk fun K hK=> ?_|apply V0|apply Vb|((first|apply gE|apply gS);simp only[zA,simprocAttr,hg,lkA,lkC,q0,q1,q2])|(apply Vz;refine Vo rfl rfl rfl (fun _ _=>rfl) ?_<;>first|rfl|(first|rfl|(simp only[g_0,g_s];refine congrArg VS.bool ?_;rw[ar];first|(simp [] at* <;>omega)|(simp_all []<;>omega)))|skip)|((refine Vg (fun hg=> ?_) (fun hg=> ?_))<;>try simp only[nb] at hg)|(refine hK _ ?_;clear hK K)|refine Vt rfl ?_|refine Vf rfl ?_)
   ·have e2:(ph==2)=false:=by simpa using p2
    rw[e2] at q2;rw[if_neg p2];by_cases p3:ph=3
    ·have e3:(ph==3)=true:=by simpa using p3
     rw[if_pos p3];rw[e3] at q3;refine Xc 1 Tryz.func154 rfl fun n out _ _=> ?_;simp only[sn,Tryz.ntmps154,simprocAttr];have hg:=Nat.le_refl 0;repeat' (first|refine Vk fun K hK=> ?_|apply V0|apply Vb|((first|apply gE|apply gS);simp only[zA,simprocAttr,hg,lkA,lkC,hs,q0,q1,q2,q3])|(apply Vz;refine Vo rfl rfl rfl (fun _ _=>rfl) ?_<;>first|rfl|(first|rfl|(simp only[g_0,g_s];refine congrArg VS.bool ?_;rw[ar];first|(simp [] at* <;>omega)|(simp_all []<;>omega)))|skip)|((refine Vg (fun hg=> ?_) (fun hg=> ?_))<;>try simp only[nb] at hg)|(refine hK _ ?_;clear hK K)|refine Vt rfl ?_|refine Vf rfl ?_)
    ·have e3:(ph==3)=false:=by simpa using p3
     rw[e3] at q3;rw[if_neg p3];by_cases p4:ph=4
     ·have e4:(ph==4)=true:=by simpa using p4
      rw[if_pos p4];rw[e4] at q4;refine Xc 1 Tryz.func154 rfl fun n out _ _=> ?_;simp only[sn,Tryz.ntmps154,simprocAttr];have hg:=Nat.le_refl 0;repeat' (first|refine Vk fun K hK=> ?_|apply V0|apply Vb|((first|apply gE|apply gS);simp only[zA,simprocAttr,hg,lkA,lkC,q0,q1,q2,q3,q4])|(apply Vz;refine Vo rfl rfl rfl (fun _ _=>rfl) ?_<;>first|rfl|(first|rfl|(simp only[g_0,g_s];refine congrArg VS.bool ?_;rw[ar];first|(simp [] at* <;>omega)|(simp_all []<;>omega)))|skip)|((refine Vg (fun hg=> ?_) (fun hg=> ?_))<;>try simp only[nb] at hg)|(refine hK _ ?_;clear hK K)|refine Vt rfl ?_|refine Vf rfl ?_)
     ·have e4:(ph==4)=false:=by simpa using p4
      rw[e4] at q4;rw[if_neg p4];refine Xc 1 Tryz.func154 rfl fun n out _ _=> ?_;simp only[sn,Tryz.ntmps154,simprocAttr];have hg:=Nat.le_refl 0;repeat' (first|refine Vk fun K hK=> ?_|apply V0|apply Vb|apply Vs|((first|apply gE|apply gS);simp only[zA,simprocAttr,hg,lkA,lkC,q0,q1,q2,q3,q4])|(apply Vz;refine Vo rfl rfl rfl (fun _ _=>rfl) ?_<;>first|rfl|(first|rfl|(simp only[g_0,g_s];refine congrArg VS.bool ?_;rw[ar];first|(simp [] at* <;>omega)|(simp_all []<;>omega)))|skip)|((refine Vg (fun hg=> ?_) (fun hg=> ?_))<;>try simp only[nb] at hg)|(refine hK _ ?_;clear hK K)|refine Vf rfl ?_)
theorem Yeu (p:Pl) (hs:Sm p) (i:Nat) (hi:i<p.pts.length) (hf:∀j (hj:j<p.pts.length),j<i->p.pts[j].1≠p.pts[i].1):Xr Tryz.prog 110 [plA p,i64 p.pts[i].1] [] (i64 (i:Int)) []:=by
 have hpl:=hs.pts;obtain⟨z,hz⟩:∃z,z=p.pts[i].1:=⟨_,rfl⟩
 rw[<- hz];refine Xc 1 Tryz.func110 rfl fun n out _ _=> ?_;simp only[sn,Tryz.ntmps110,simprocAttr];repeat' (first|refine Vk fun K hK=> ?_|apply V0|(apply gE;simp only[zA,simprocAttr,plA,plC])|(refine hK _ ?_;clear hK K))
 apply V5;refine Xwm (i) (fun j=>tp [4] (tr 6 16 [(5,i64 (j:Int))])) (fun j=>[some (.box 28 (plC p))]) ?_ fun j hj=> ?_
 ·refine X2 ?_ ?_ (by first|rfl|(simp only[plC];rfl)|simp only[plC]) rfl rfl rfl<;>simp only[sL,plC]
 simp only[pt];have hw:=Yl (n:=j) 1 1 rfl (by omega);have hjl:j<p.pts.length:=by omega
 have gj:=Xg jnC p.pts j [] hjl;by_cases hji:j<i
 ·have hne:(p.pts[j].1==z)=false:=by rw[hz];simpa using hf j hjl hji
  repeat' (first|refine Vk fun K hK=> ?_|apply V0|apply Vb|apply Vs|(apply gE;simp only[zA,simprocAttr,plC,jnC,hjl,gj,hne,hw])|(refine hK _ ?_;clear hK K)|refine Vt rfl ?_|refine Vf rfl ?_|clear hK K)
  refine⟨j+1,by omega,by omega,?_⟩;refine La rfl ?_ ?_<;>simp only[sL]
 ·obtain rfl:j=i:=by omega
  have heq:(p.pts[j].1==z)=true:=by rw[hz];simp
  repeat' (first|refine Vk fun K hK=> ?_|apply V0|apply Vb|apply Vs|(apply gE;simp only[zA,simprocAttr,plC,jnC,hjl,gj,heq])|(apply Vz;refine Vo rfl rfl rfl (fun _ _=>rfl) ?_<;>first|rfl|skip)|(refine hK _ ?_;clear hK K)|refine Vt rfl ?_)
theorem Yep (p:Pl) (hs:Sm p) {r:Rt} (g:Gone p r (Xop p r) (Xpv p r)) (k:Nat) (hk:k<p.rts.length) (hkr:p.rts[k]=r):Xr Tryz.prog 155 [plA p,i64 (k:Int)] [] (wyA (Xop p r)) []:=by
 have c:=Yfl p hs g k hk hkr;generalize Xop p r=W at*;simp only[plA,wyA] at c⊢;refine Xc 2 Tryz.func155 rfl fun n out _ _=> ?_;simp only[sn,Tryz.ntmps155,simprocAttr];repeat' (first|refine Vk fun K hK=> ?_|apply V0|((first|apply gE|apply gR);simp only[zA,simprocAttr,plC,wyC,X0])|(apply Vz;(first|refine Xu (.inr rfl) rfl rfl rfl (fun _ _=>rfl) ok130 (k:=n+1) (off:=0) rfl (Xb _ (by simp)) (X6 _ (Nat.le_refl _) 1) rfl ?_|refine Xu (.inr rfl) rfl rfl rfl (fun _ _=>rfl) ok130 (k:=m+1) (off:=0) rfl (Xb _ (by simp)) (X6 _ hm 1) rfl ?_)<;>first|rfl|exact AV.le.rfl _|(simp only[sL,ti130,ag,plC,wyC,X0];done)|(exact AV.le.rfl _)|(simp only[sL,plC,wyC,X0];done)|rfl|skip)|(refine X3 (c) ?_)|(refine hK _ ?_;clear hK K))
theorem Yhl (v:Int) (σ:AState) (K:AV->List (Nat×Res)->Prop):X1 tab σ K none 61 1 [(0,i64 v)]=K (.sl 1 [[i64 v]] .full) []:=Yk (T:=tab) (ti:=ti61) (te:=ti3) rfl rfl rfl (by decide) (by decide) rfl rfl
theorem Ygn (p:Pl) (hs:Sm p) {r:Rt} (g:Gone p r (Xop p r) (Xpv p r)) (k:Nat) (hk:k<p.rts.length) (hkr:p.rts[k]=r) (l:Int×UInt8×Int×Int) (hpl:(Xop p r).path.length<=1000) (hol:(Xop p r).over.length<=1000):
  Xr Tryz.prog 108 [plA p,lkA l,i64 (k:Int)] [] (.sl 1 ((Xql (Xop p r) l).map Ym) .sh) []:=by
 have cw:=Yep p hs g k hk hkr;have q0:((l.2.1.toNat:Int)==0)=(l.2.1==0):=Xr8 l.2.1 0;generalize Xop p r=W at*;unfold Xql;by_cases h0:l.2.1=0
 ·have e0:(l.2.1==0)=true:=by simpa using h0
  rw[e0] at q0;rw[if_pos h0];refine Xc 4 Tryz.func108 rfl fun n out _ _=> ?_;simp only[sn,Tryz.ntmps108,simprocAttr];repeat' (first|refine Vk fun K hK=> ?_|apply V0|(apply gE;simp only[zA,simprocAttr,plA,plC,lkA,lkC,q0])|(apply Vz;refine Xv (.inr rfl) rfl rfl rfl (fun _ _=>rfl) ?_ rfl<;>first|rfl|(exact AV.le.rfl _)|(simp only[sL,ag];done)|rfl|skip)|(refine hK _ ?_;clear hK K)|refine Vt rfl ?_)
  all_goals exact(Py _ _).2 trivial
 ·have e0:(l.2.1==0)=false:=by simpa using h0
  rw[e0] at q0;rw[if_neg h0];obtain⟨G,hG⟩:∃G,G=l.2.2.1.toNat:=⟨_,rfl⟩
  have hmx:(if l.2.2.1<0 then(0:Int) else l.2.2.1)=(G:Int):=by split<;>omega
  have hdr:W.path.drop (Xpm W l)=W.path.drop G:=by
   unfold Xpm;rw[<- hG];by_cases h:G<=W.path.length
   ·rw[Nat.min_eq_left h]
   ·rw[Nat.min_eq_right (by omega),f8,fk (by omega)]
  rw[hdr];obtain⟨D,hD⟩:∃D,D=W.path.drop G:=⟨_,rfl⟩
  have hDl:D.length=W.path.length - G:=by rw[hD,bt]
  rw[<- hD];simp only[plA,wyA] at cw;refine Xc 4 Tryz.func108 rfl fun n out _ _=> ?_;simp only[sn,Tryz.ntmps108,simprocAttr];repeat' (first|refine Vk fun K hK=> ?_|apply V0|apply Vs|((first|apply gE|apply gR);simp only[zA,simprocAttr,plA,plC,lkA,lkC,wyC,X0,q0,Y2r,hmx])|(refine X3 (cw) ?_)|(refine hK _ ?_;clear hK K)|refine Vf rfl ?_)
  refine Yy (Q9 (i:=3) 3 1 rfl) ?_;simp only[s_0,s_s];apply V5;refine Xwm (D.length) (fun i=>tr 19 15 [(8,.sl 1 ((D.take i).map Ym) (.own (n+3))),(9,i64 ((G+i:Nat):Int))]) (fun i=>[some (.box 28 (plC p)),some (.box 65 (lkC l)),some (.box 130 (wyC W)),some (.row 3 1 i)]) ?_ fun i hi=> ?_
  ·refine X2 ?_ ?_ (by first|rfl|(simp only[plC,lkC,wyC,Nat.add_zero,List.take_zero,ag];rfl)|simp only[plC,lkC,wyC,Nat.add_zero,List.take_zero,ag]) rfl rfl rfl<;>simp only[sL,plC,lkC,wyC,Nat.add_zero,ag]
  simp only[pt];by_cases hlt:i<D.length
  ·have hGi:G+i<W.path.length:=by omega
   have hw:IntKind.i64.wrap (((G+i:Nat):Int)+1)=((G+(i+1):Nat):Int):=Yl (n:=G+i) 1 1 rfl (by omega);have hGi':((G+i:Nat):Int)<(W.path.length:Int):=by omega
   have gi:=Xg Ym W.path (G+i) [] hGi;have ge:W.path[G+i]=D[i]:=by simp [hD]
   rw[ge] at gi;have tl:((D.take i).map Ym).length=i:=by rw[ai,ba];omega
   have sn:(D.take i).map Ym++[[i64 D[i]]]=(D.take (i+1)).map Ym:=by rw[aj hlt,aw];rfl
   have y1:(i+1)*8<=140737488355328:=by omega
   have y2:i+1<=9223372036854775807:=by omega
   repeat' (first|refine Vk fun K hK=> ?_|apply V0|apply Vr|apply Vs|(apply gE;simp only[zB,simprocAttr,Yhl,wyC,hGi,hGi',gi,Ym,tl,y1,y2,sn,hw])|(refine hK _ ?_;clear hK K)|refine Vt rfl ?_|clear hK K)
   refine⟨i+1,by omega,by omega,?_⟩;refine La rfl ?_ ?_<;>simp only[sL,plC,lkC]
  ·obtain rfl:i=D.length:=by omega
   rw[bi];have hGi:¬G+D.length<W.path.length:=by omega
   have hGi':¬((G+D.length:Nat):Int)<(W.path.length:Int):=by omega
   have y1:(D.length+W.over.length)*8<=140737488355328:=by omega
   have y2:D.length+W.over.length<=9223372036854775807:=by omega
   have sn:D.map Ym++W.over.map Ym=(D++W.over).map Ym:=(aw ..).symm;repeat' (first|refine Vk fun K hK=> ?_|apply V0|(apply gE;simp only[zA,simprocAttr,wyC,hGi',y1,y2,sn])|(apply Vz;refine Xv (.inr rfl) rfl rfl rfl (fun _ _=>rfl) ?_ rfl<;>first|rfl|(exact AV.le.rfl _)|(simp only[sL];done)|rfl|skip)|(apply Vx;simp only[sb])|(refine hK _ ?_;clear hK K)|refine Vf rfl ?_|clear hK K)
   all_goals exact .sh _ _ _
theorem Ygo (x y z:Int) (σ:AState) (K:AV->List (Nat×Res)->Prop):X1 tab σ K none 128 1 [(0,.agg [i64 x,i64 y,i64 z])]=K (.sl 3 [[i64 x,i64 y,i64 z]] .full) []:=Yk (T:=tab) (ti:=ti128) (te:=ti179) rfl rfl rfl (by decide) (by decide) rfl rfl
def Yeh (w:Wy) (l:Int×UInt8×Int×Int):List (Int×Int×Int):=(Xrn w l).filter (Xug l)
theorem Ygp (p:Pl) (hs:Sm p) {r:Rt} (g:Gone p r (Xop p r) (Xpv p r)) (k:Nat) (hk:k<p.rts.length) (hkr:p.rts[k]=r) (l:Int×UInt8×Int×Int) (hal:(Xop p r).asks.length<=1000):
  Xr Tryz.prog 109 [plA p,lkA l,i64 (k:Int)] [] (.sl 3 ((Yeh (Xop p r) l).map sgC) .sh) []:=by
 have cw:=Yep p hs g k hk hkr;have q0:((l.2.1.toNat:Int)==0)=(l.2.1==0):=Xr8 l.2.1 0;generalize Xop p r=W at*;unfold Yeh Xrn;by_cases h0:l.2.1=0
 ·have e0:(l.2.1==0)=true:=by simpa using h0
  rw[e0] at q0;rw[if_pos h0];refine Xc 4 Tryz.func109 rfl fun n out _ _=> ?_;simp only[sn,Tryz.ntmps109,simprocAttr];repeat' (first|refine Vk fun K hK=> ?_|apply V0|((first|apply gE);simp only[zA,simprocAttr,plA,plC,lkA,lkC,q0,List.filter_nil])|(apply Vz;refine Xv (.inr rfl) rfl rfl rfl (fun _ _=>rfl) ?_ rfl<;>first|rfl|(exact AV.le.rfl _)|(simp only[sL,ag,List.filter_nil];done)|rfl|skip)|(refine hK _ ?_;clear hK K)|refine Vt rfl ?_)
  all_goals exact(Py _ _).2 trivial
 ·have e0:(l.2.1==0)=false:=by simpa using h0
  rw[e0] at q0;rw[if_neg h0];obtain⟨D,hD⟩:∃D:Nat->List (Int×Int×Int),D=fun i=>(W.asks.take i).filter (Xug l):=⟨_,rfl⟩
  have D0:D 0=[]:=by rw[hD];rfl
  have Dn:D W.asks.length=W.asks.filter (Xug l):=by rw[hD];simp
  have DS:∀i (hi:i<W.asks.length),D (i+1)=if Xug l W.asks[i]=true then D i++[W.asks[i]] else D i:=fun i hi=>by
   rw[hD];dsimp only;rw[aj hi,List.filter_append];by_cases h:Xug l W.asks[i]=true
   ·rw[if_pos h,List.filter_cons_of_pos h];rfl
   ·rw[if_neg h,List.filter_cons_of_neg h];simp
  have Dl:∀i,(D i).length<=i:=fun i=>by
   rw[hD];have:=List.length_filter_le (Xug l) (W.asks.take i);rw[ba] at this;dsimp only;omega
  rw[<- Dn];clear hD;simp only[plA,wyA] at cw;refine Xc 4 Tryz.func109 rfl fun n out _ _=> ?_;simp only[sn,Tryz.ntmps109,simprocAttr];repeat' (first|refine Vk fun K hK=> ?_|apply V0|apply Vs|((first|apply gE|apply gR);simp only[zA,simprocAttr,plA,plC,lkA,lkC,wyC,X0,q0])|(refine X3 (cw) ?_)|(refine hK _ ?_;clear hK K)|refine Vf rfl ?_)
  refine Yy (Q9 (i:=3) 179 3 rfl) ?_;simp only[s_0,s_s];apply V5;refine Xwm (W.asks.length) (fun i=>tr 16 33 [(8,.sl 3 ((D i).map sgC) (.own (n+3))),(9,i64 (i:Int))]) (fun i=>[some (.box 28 (plC p)),some (.box 65 (lkC l)),some (.box 130 (wyC W)),some (.row 179 3 (D i).length)]) ?_ fun i hi=> ?_
  ·refine X2 ?_ ?_ (by first|rfl|(simp only[plC,lkC,wyC,D0,ag,List.length_nil];rfl)|simp only[plC,lkC,wyC,D0,ag,List.length_nil]) rfl rfl rfl<;>simp only[sL,plC,lkC,wyC,D0,ag,List.length_nil]
  simp only[pt];have hw:=Yl (n:=i) 1 1 rfl (by omega);by_cases hlt:i<W.asks.length
  ·have gi:=Xg sgC W.asks i [] hlt;have dl:=Dl i;have ds:=DS i hlt;obtain⟨x,hx⟩:∃x,x=W.asks[i]:=⟨_,rfl⟩
   rw[<- hx] at gi ds;have y1:((D i).length+1)*24<=140737488355328:=by omega
   have y2:(D i).length+1<=9223372036854775807:=by omega
   have sn:(D i).map sgC++[[i64 x.1,i64 x.2.1,i64 x.2.2]]=(D i++[x]).map sgC:=by rw[aw];rfl
   by_cases ha:Xug l x=true
   ·rw[if_pos ha] at ds;have go:∀P:Prop,(decide (x.2.2<0)=true->P)->(decide (x.2.2<0)=false->decide (l.2.2.1<=x.2.2)=true->P)->P:=fun P h1 h2=>by
     unfold Xug at ha;rw[ck] at ha;cases h:decide (x.2.2<0) with
     |true=>exact h1 h
     |false=>exact h2 h (by rw[h] at ha;simpa using ha)
    refine go _ (fun h1=> ?_) (fun h1 h2=> ?_)
    ·repeat' (first|refine Vk fun K hK=> ?_|apply V0|apply Vb|apply Vs|refine Vq (by kernel_rfl) ?_|((first|apply gE);simp only[zB,simprocAttr,Ygo,wyC,lkC,sgC,hlt,gi,h1,y1,y2,sn,hw])|(refine hK _ ?_;clear hK K)|refine Vt rfl ?_|clear hK K)
     refine⟨i+1,by omega,by omega,?_⟩;rw[ds,ac];refine La rfl ?_ ?_<;>simp only[sL,plC,List.length_singleton]
    ·repeat' (first|refine Vk fun K hK=> ?_|apply V0|apply Vb|apply Vs|refine Vq (by kernel_rfl) ?_|((first|apply gE);simp only[zB,simprocAttr,Ygo,wyC,lkC,sgC,hlt,gi,ge_iff_le,h1,h2,y1,y2,sn,hw])|(refine hK _ ?_;clear hK K)|refine Vt rfl ?_|clear hK K)
     refine⟨i+1,by omega,by omega,?_⟩;rw[ds,ac];refine La rfl ?_ ?_<;>simp only[sL,plC,List.length_singleton]
   ·rw[if_neg ha] at ds;obtain⟨h1,h2⟩:decide (x.2.2<0)=false∧decide (l.2.2.1<=x.2.2)=false:=by
     unfold Xug at ha;rw[ck,not_or] at ha;exact⟨by simpa using ha.1,by simpa using ha.2⟩
    repeat' (first|refine Vk fun K hK=> ?_|apply V0|apply Vb|apply Vs|refine Vq (by kernel_rfl) ?_|((first|apply gE);simp only[zB,simprocAttr,wyC,lkC,sgC,hlt,gi,ge_iff_le,h1,h2,hw])|(refine hK _ ?_;clear hK K)|refine Vt rfl ?_|refine Vf rfl ?_|clear hK K)
    refine⟨i+1,by omega,by omega,?_⟩;rw[ds];refine La rfl ?_ ?_<;>simp only[sL,plC]
  ·obtain rfl:i=W.asks.length:=by omega
   repeat' (first|refine Vk fun K hK=> ?_|apply V0|((first|apply gE);simp only[zA,simprocAttr,wyC,hlt])|(apply Vz;refine Xv (.inr rfl) rfl rfl rfl (fun _ _=>rfl) ?_ rfl<;>first|rfl|(exact AV.le.rfl _)|(simp only[sL];done)|rfl|skip)|(apply Vx;simp only[sb])|(refine hK _ ?_;clear hK K)|refine Vf rfl ?_|clear hK K)
   all_goals exact .sh _ _ _
theorem Yfz (p:Pl) (s:St) (hs:Sm p) (hS:SmS s):Xr Tryz.prog 107 [plA p,stA s] [] (bool (Xog p s)) []:=by
 have l1:=hS.t;have l2:=hS.w;have l3:=hS.l;obtain⟨B,hB⟩:∃B,B=Xog p s:=⟨_,rfl⟩
 have hB2:B=(Fv Xvr s.tr p.secs&&(Fv Xuw s.sw p.pts&&Fv Xsm s.lk p.rts)):=hB;rw[<- hB];clear hB;by_cases hh:s.tr.length=p.secs.length∧s.sw.length=p.pts.length∧s.lk.length=p.rts.length
 ·obtain⟨h4,h5,h6⟩:=hh;have e4:((s.tr.length:Int) !=(p.secs.length:Int))=false:=by simp [h4]
  have e5:((s.sw.length:Int) !=(p.pts.length:Int))=false:=by simp [h5]
  have e6:((s.lk.length:Int) !=(p.rts.length:Int))=false:=by simp [h6]
  have badT:∀i (hi:i<s.tr.length) (hi':i<p.secs.length),Xvr s.tr[i] p.secs[i]=false->B=false:=fun i hi hi' h=>by rw[hB2,Xo5 hi hi' h];rfl
  have badW:∀i (hi:i<s.sw.length) (hi':i<p.pts.length),Xuw s.sw[i] p.pts[i]=false->B=false:=fun i hi hi' h=>by rw[hB2,Xo5 hi hi' h];simp
  have X3j:∀i (hi:i<s.lk.length) (hi':i<p.rts.length),Xsm s.lk[i] p.rts[i]=false->B=false:=fun i hi hi' h=>by rw[hB2,Xo5 hi hi' h];simp
  refine Xc 3 Tryz.func107 rfl fun n out _ _=> ?_;simp only[sn,Tryz.ntmps107,simprocAttr];have hg:=Nat.le_refl 0;repeat' (first|refine Vk fun K hK=> ?_|apply V0|apply Vs|((first|apply gE|apply gS);simp only[zA,simprocAttr,plA,plC,stA,stC,e4,e5,e6])|(refine hK _ ?_;clear hK K)|refine Vf rfl ?_)
  apply V5;refine Xse (s.tr.length) (fun i=>(∀j (hj:j<s.tr.length) (hj':j<p.secs.length),j<i->Xvr s.tr[j] p.secs[j]=true)) (fun i=>tp [4] (tr 34 29 [(5,i64 (i:Int))])) (fun i=>[some (.box 28 (plC p)),some (.box 33 (stC s)),none]) (by intros;omega) ?_ fun i hi=> ?_
  ·refine X2 ?_ ?_ (by first|rfl|(simp only[plC,stC];rfl)|simp only[plC,stC]) rfl rfl rfl<;>simp only[sL,plC,stC]
  obtain⟨hi,hq⟩:=hi;simp only[pt];have hw:=Yl (n:=i) 1 1 rfl (by omega);by_cases hlt:i<s.tr.length
  ·have hlt':i<p.secs.length:=by omega
   have ga:=Xg tkC s.tr i [] hlt;have gb:=Xg Y6 p.secs i [] hlt';have bad:=badT i hlt hlt';have good:Xvr s.tr[i] p.secs[i]=true->∀j (hj:j<s.tr.length) (hj':j<p.secs.length),j<i+1->Xvr s.tr[j] p.secs[j]=true:=fun h j hj hj' hji=>by
    by_cases e:j=i
    ·subst e;exact h
    ·exact hq j hj hj' (by omega)
   clear hq;generalize s.tr[i]=x at*;generalize p.secs[i]=y at*;have okv:Xvr x y= !(x.1 !=y.id||decide (2<(x.2.toNat:Int))):=by
    unfold Xvr;rw[ar];simp;omega
   repeat' (first|refine Vk fun K hK=> ?_|apply V0|apply Vb|apply Vs|refine Vq (by kernel_rfl) ?_|((first|apply gE|apply gS|refine gS2 ?_);simp only[zA,simprocAttr,hg,plC,stC,tkC,Y6,hlt,hlt',ga,gb,gt_iff_lt,hw])|(apply Vz;refine Vo rfl rfl rfl (fun _ _=>rfl) ?_<;>first|rfl|(rw[bad (by rw[okv];simp only[*,Bool.or_true,dx,dy])];rfl)|skip)|((first|refine Vg (fun hg=> ?_) (fun hg=> ?_)|refine Y5 (fun hg=> ?_) (fun hg=> ?_))<;>try simp only[nb] at hg)|(refine hK _ ?_;clear hK K)|refine Vt rfl ?_|refine Vi rfl (fun hg=> ?_) (fun hg=> ?_)|clear hK K)
   all_goals (refine⟨i+1,⟨by omega,good (by rw[okv];simp only[*,Bool.or_true,dx,gt,dy,es])⟩,by omega,?_⟩)
   all_goals (refine La rfl ?_ ?_<;>simp only[X4,sl,plC,stC,ai,hlt,e8])
  have eT:Fv Xvr s.tr p.secs=true:=Xo4 h4 fun j hj hj'=>hq j hj hj' (by omega);repeat' (first|refine Vk fun K hK=> ?_|apply V0|((first|apply gE|apply gS);simp only[zA,simprocAttr,plC,stC,hlt])|(apply Vx;simp only[sb])|(refine hK _ ?_;clear hK K)|refine Vf rfl ?_|clear hK K)
  clear hq hlt badT;apply V5;refine Xpw (s.sw.length) (fun i=>(∀j (hj:j<s.sw.length) (hj':j<p.pts.length),j<i->Xuw s.sw[j] p.pts[j]=true)) (fun m i=>tp [4,7] (tr 63 41 [(6,i64 (i:Int)),(2,.ptr (m+0) 0),(3,.ptr (m+1) 0)])) (fun m i=>[some (.box 28 (plC p)),some (.box 33 (stC s)),none]) (by intros;omega) ?_ fun m i hm hi=> ?_
  ·refine X2 ?_ ?_ (by first|rfl|(simp only[plC,stC];rfl)|simp only[plC,stC]) rfl rfl rfl<;>simp only[sL,plC,stC]
  obtain⟨hi,hq⟩:=hi;simp only[pt];have hw:=Yl (n:=i) 1 1 rfl (by omega);by_cases hlt:i<s.sw.length
  ·have hlt':i<p.pts.length:=by omega
   have ga:=Xg sgC s.sw i [] hlt;have gb:=Xg jnC p.pts i [] hlt';have bad:=badW i hlt hlt';have good:Xuw s.sw[i] p.pts[i]=true->∀j (hj:j<s.sw.length) (hj':j<p.pts.length),j<i+1->Xuw s.sw[j] p.pts[j]=true:=fun h j hj hj' hji=>by
    by_cases e:j=i
    ·subst e;exact h
    ·exact hq j hj hj' (by omega)
   clear hq;generalize s.sw[i]=x at*;generalize p.pts[i]=y at*;have okv:Xuw x y= !((((x.1 !=y.1||decide (x.2.1<0))||decide (2<x.2.1))||decide (x.2.2<0))||decide (2<x.2.2)):=by
    unfold Xuw Xyh;rw[ar];simp;omega
   repeat' (first|refine Vk fun K hK=> ?_|apply V0|apply Vb|apply Vs|refine Vd 12 [] [[],[2],[],[0],[],[],[],[],[],[],[],[2],[],[],[],[],[2],[],[],[],[],[2],[],[],[],[],[2],[],[]] [[],[],[],[],[],[],[],[],[],[],[],[],[],[],[],[],[],[],[],[],[],[],[],[],[],[],[],[],[]] (by kernel_rfl) (by decide) (by decide) (by kernel_rfl) ?_|((first|apply gE|apply gD|apply gS|refine gS2 ?_);simp only[zA,simprocAttr,hg,sg,Xi hm,plC,stC,sgC,jnC,X0,hlt,hlt',ga,gb,gt_iff_lt,hw])|(apply Vz;refine Vo rfl rfl rfl (fun _ _=>rfl) ?_<;>first|rfl|(rw[bad (by rw[okv];simp only[*,Bool.or_true,dx,gt,dy])];rfl)|skip)|((first|refine Vg (fun hg=> ?_) (fun hg=> ?_)|refine Y5 (fun hg=> ?_) (fun hg=> ?_))<;>try simp only[nb] at hg)|(refine hK _ ?_;clear hK K)|refine Vt rfl ?_|refine Vi rfl (fun hg=> ?_) (fun hg=> ?_)|clear hK K)
   all_goals (refine⟨i+1,⟨by omega,good (by rw[okv];simp only[*,Bool.or_true,dx,gt,dy,es])⟩,by omega,?_⟩)
   all_goals (refine Xx [true,true,false] ?_ ?_<;>intro n_<;>simp only[X4,sm,plC,stC,hlt,e8])
  have eW:Fv Xuw s.sw p.pts=true:=Xo4 h5 fun j hj hj'=>hq j hj hj' (by omega);repeat' (first|refine Vk fun K hK=> ?_|apply V0|((first|apply gE|apply gS);simp only[zA,simprocAttr,Xi hm,plC,stC,hlt])|(apply Vx;simp only[sb])|(refine hK _ ?_;clear hK K)|refine Vf rfl ?_|clear hK K)
  clear hq hlt badW;apply V5;refine Xpw (s.lk.length) (fun i=>(∀j (hj:j<s.lk.length) (hj':j<p.rts.length),j<i->Xsm s.lk[j] p.rts[j]=true)) (fun m i=>tp [4] (tr 104 42 [(8,i64 (i:Int)),(2,.ptr (m+0) 0),(3,.ptr (m+1) 0)])) (fun m i=>[some (.box 28 (plC p)),some (.box 33 (stC s)),none]) (by intros;omega) ?_ fun m i hm hi=> ?_
  ·refine X2 ?_ ?_ (by first|rfl|(simp only[plC,stC];rfl)|simp only[plC,stC]) rfl rfl rfl<;>simp only[sL,plC,stC]
  obtain⟨hi,hq⟩:=hi;simp only[pt];have hw:=Yl (n:=i) 1 1 rfl (by omega);by_cases hlt:i<s.lk.length
  ·have hlt':i<p.rts.length:=by omega
   have ga:=Xg lkC s.lk i [] hlt;have gb:=Xg rtC p.rts i [] hlt';have bad:=X3j i hlt hlt';have cp:=Yfy s.lk[i] p.rts[i] (by have:=(hs.rt _ (a8 hlt')).1;omega);have good:Xsm s.lk[i] p.rts[i]=true->∀j (hj:j<s.lk.length) (hj':j<p.rts.length),j<i+1->Xsm s.lk[j] p.rts[j]=true:=fun h j hj hj' hji=>by
    by_cases e:j=i
    ·subst e;exact h
    ·exact hq j hj hj' (by omega)
   clear hq;generalize s.lk[i]=x at*;generalize p.rts[i]=y at*;simp only[lkA,lkC] at cp;cases hD:Xr7 x y with
   |true=>
    rw[hD] at cp;have okv:Xsm x y= !(x.1 !=y.id):=by
     unfold Xsm;rw[hD,di,bne,Bool.not_not]
    repeat' (first|refine Vk fun K hK=> ?_|apply V0|apply Vb|apply Vs|refine Vd 17 [] [[],[1],[],[],[],[],[],[0],[],[],[],[],[],[],[],[1],[],[],[],[],[0],[],[],[],[],[],[],[0],[],[],[],[],[],[],[]] [[],[],[],[],[],[],[],[],[],[],[],[],[],[],[],[],[],[],[],[],[],[],[],[],[],[],[],[],[],[],[],[],[],[],[]] (by kernel_rfl) (by decide) (by decide) (by kernel_rfl) ?_|((first|apply gE|apply gD|apply gF|apply gS|refine gS2 ?_);simp only[zA,simprocAttr,hg,sg,Xi hm,plC,stC,lkC,rtC,hlt,hlt',ga,gb,hw])|(apply Vz;refine Vo rfl rfl rfl (fun _ _=>rfl) ?_<;>first|rfl|(rw[bad (by rw[okv];simp only[*,dy])];rfl)|skip)|(refine X3 (cp) ?_)|((first|refine Vg (fun hg=> ?_) (fun hg=> ?_)|refine Y5 (fun hg=> ?_) (fun hg=> ?_))<;>try simp only[nb] at hg)|(refine hK _ ?_;clear hK K)|refine Vt rfl ?_|refine Vf rfl ?_|clear hK K)
    all_goals (refine⟨i+1,⟨by omega,good (by rw[okv];simp only[*,Bool.or_true,dx,gt,dy,es])⟩,by omega,?_⟩)
    all_goals (refine Xx [true,true,false] ?_ ?_<;>intro n_<;>simp only[X4,sm,plC,stC,hlt,e8])
   |false=>
    rw[hD] at cp;have okv:Xsm x y=false:=by
     unfold Xsm;rw[hD,dm]
    rw[bad okv];repeat' (first|refine Vk fun K hK=> ?_|apply V0|apply Vb|apply Vs|refine Vd 17 [] [[],[1],[],[],[],[],[],[0],[],[],[],[],[],[],[],[1],[],[],[],[],[0],[],[],[],[],[],[],[0],[],[],[],[],[],[],[]] [[],[],[],[],[],[],[],[],[],[],[],[],[],[],[],[],[],[],[],[],[],[],[],[],[],[],[],[],[],[],[],[],[],[],[]] (by kernel_rfl) (by decide) (by decide) (by kernel_rfl) ?_|((first|apply gE|apply gD|apply gF|apply gS|refine gS2 ?_);simp only[zA,simprocAttr,hg,sg,Xi hm,plC,stC,lkC,rtC,hlt,hlt',ga,gb])|(apply Vz;refine Vo rfl rfl rfl (fun _ _=>rfl) ?_<;>first|rfl|skip)|(refine X3 (cp) ?_)|((first|refine Vg (fun hg=> ?_) (fun hg=> ?_)|refine Y5 (fun hg=> ?_) (fun hg=> ?_))<;>try simp only[nb] at hg)|(refine hK _ ?_;clear hK K)|refine Vt rfl ?_)
  have eL:Fv Xsm s.lk p.rts=true:=Xo4 h6 fun j hj hj'=>hq j hj hj' (by omega);have hT:B=true:=by rw[hB2,eT,eW,eL];rfl
  repeat' (first|refine Vk fun K hK=> ?_|apply V0|((first|apply gE|apply gS);simp only[zA,simprocAttr,Xi hm,plC,stC,hlt])|(apply Vz;refine Vo rfl rfl rfl (fun _ _=>rfl) ?_<;>first|rfl|(rw[hT];rfl)|skip)|(apply Vx;simp only[sb])|(refine hK _ ?_;clear hK K)|refine Vf rfl ?_|clear hK K)
 ·have eB:B=false:=by
   rw[hB2,cv];intro h;simp only[ad] at h;exact hh ⟨Xov h.1,Xov h.2.1,Xov h.2.2⟩
  rw[eB];refine Xc 3 Tryz.func107 rfl fun n out _ _=> ?_;simp only[sn,Tryz.ntmps107,simprocAttr];have hg:=Nat.le_refl 0;repeat' (first|refine Vk fun K hK=> ?_|apply V0|apply Vs|((first|apply gE|apply gS);simp only[zA,simprocAttr,hg,plA,plC,stA,stC])|(apply Vz;refine Vo rfl rfl rfl (fun _ _=>rfl) ?_<;>first|rfl|skip)|((refine Vg (fun hg=> ?_) (fun hg=> ?_))<;>try simp only[nb] at hg)|(refine hK _ ?_;clear hK K)|refine Vt rfl ?_|refine Vi rfl (fun hg=> ?_) (fun hg=> ?_))
  all_goals (exfalso;refine hh ?_;simp at*;exact⟨by omega,by omega,by omega⟩)
end Go.Proofs.YtdngdjbgmojcoaaGreat.Pln
