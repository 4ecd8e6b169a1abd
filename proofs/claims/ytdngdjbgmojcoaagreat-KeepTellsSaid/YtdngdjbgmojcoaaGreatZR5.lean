/- The layer of abstract values, joined. -/
import Derived.Test.YtdngdjbgmojcoaaGreatZPR
import Derived.Test.YtdngdjbgmojcoaaGreatZPK
import Derived.Test.YtdngdjbgmojcoaaGreatZPP
import Derived.Test.YtdngdjbgmojcoaaGreatZPQ
namespace Go.Proofs.YtdngdjbgmojcoaaGreat.Pln
set_option linter.all false
set_option maxHeartbeats 8000000
set_option maxRecDepth 4000
open Go Go.VS Tab
attribute [local irreducible] AWp Xp0 Pg X5c Qy Lt Tp FdT Eb
theorem Bu (r:Rt) (h0:r.path≠[]) (h1:r.path.length<=1000000) (h2:r.over.length<=1000000):Xr Tryz.prog 191 [rtA r] [] (X62 (r.path++r.over)) []:=by
 have h0':¬(r.path.map Ym=[]):=by simpa using h0
 have e1:r.path.length*8<=140737488355328:=by omega
 have e2:r.path.length<=9223372036854775807:=by omega
 have e4:(r.path.length+r.over.length)*8<=140737488355328:=by omega
 have e5:r.path.length+r.over.length<=9223372036854775807:=by omega
 refine Xc 2 Tryz.func191 rfl fun n out _ _=> ?_;simp only[sn,Tryz.ntmps191,simprocAttr];repeat' (first|refine Vk fun K hK=> ?_|refine Ve [(7,none)] ?_|(apply gE;simp only[zA,simprocAttr,rtA,rtC,h0',e1,e2,e4,e5])|(apply Vz;refine Xv (.inr rfl) rfl rfl rfl (fun _ _=>rfl) ?_ rfl<;>first|rfl|(exact AV.le.rfl _)|(simp only[sL,aw];done)|rfl|skip)|(refine hK _ ?_;clear hK K))
def X0c (p:Pl) (r:Rt):Bool:=(r.ex !=0&&(!(Xpe p.sgs r.ex).isSome||r.ex==r.entry))||(r.ex==0&&((r.over.length:Int) !=0))
def X3j (r:Rt):Bool:=decide ((r.path.length:Int)<1)||decide ((r.path.length:Int)>6)||decide ((r.over.length:Int)>2)||decide ((r.flanks.length:Int)>3)||decide (r.timer<1)||decide (r.timer>9)
theorem Dt (p:Pl) (r:Rt):Ma p r=(!X0c p r&& !X3j r):=by
 have e:r.over.isEmpty= !((r.over.length:Int) !=0):=by
  cases h:r.over with
  |nil=>rfl
  |cons a l=>simp;omega
 unfold Ma X0c X3j;rw[e];generalize ((r.over.length:Int) !=0)=V;generalize (Xpe p.sgs r.ex).isSome=B;generalize hQ:(r.ex==r.entry)=Q;have e0:(r.ex !=0)= !decide (r.ex=0):=rfl;have e1:(r.ex==0)=decide (r.ex=0):=rfl;rw[e0,e1];generalize decide (r.ex=0)=Z;have d1:decide (1<=r.path.length)= !decide ((r.path.length:Int)<1):=by rw[ar];simp;omega
 have d2:decide (r.path.length<=6)= !decide ((r.path.length:Int)>6):=by rw[ar];simp;omega
 have d3:decide (r.over.length<=2)= !decide ((r.over.length:Int)>2):=by rw[ar];simp;omega
 have d4:decide (r.flanks.length<=3)= !decide ((r.flanks.length:Int)>3):=by rw[ar];simp;omega
 have d5:decide (1<=r.timer)= !decide (r.timer<1):=by rw[ar];simp
 have d6:decide (r.timer<=9)= !decide (r.timer>9):=by rw[ar];simp
 rw[d1,d2,d3,d4,d5,d6];generalize decide ((r.path.length:Int)<1)=A1;generalize decide ((r.path.length:Int)>6)=A2;generalize decide ((r.over.length:Int)>2)=A3;generalize decide ((r.flanks.length:Int)>3)=A4;generalize decide (r.timer<1)=A5;generalize decide (r.timer>9)=A6;cases Z<;>cases B<;>cases V<;>cases Q<;>simp [Bool.not_or,ik]
theorem Hq (l:List (Int×Int×Int)) (n:Int):decide (idx (fun x:Int×Int×Int=>x.1==n) l<0)= !(Xpe l n).isSome:=by
 rcases Ze (fun x:Int×Int×Int=>x.1==n) l with ⟨z1,z2,z3⟩|⟨k,hk,z1,z2,z3,z4⟩
 ·unfold Xpe;rw[z1,z2];rfl
 ·unfold Xpe;rw[z1,z2];exact ak (by omega)
theorem X63 (l:List (Int×Int)) (n:Int):decide (idx (fun x:Int×Int=>x.1==n) l<0)= !(Bt l n).isSome:=by
 rcases Ze (fun x:Int×Int=>x.1==n) l with ⟨z1,z2,z3⟩|⟨k,hk,z1,z2,z3,z4⟩
 ·unfold Bt;rw[z1,z2];rfl
 ·unfold Bt;rw[z1,z2];exact ak (by omega)
theorem X0d (l:List Sec) (n:Int):decide (idx (fun x:Sec=>x.id==n) l<0)= !(Qt l n).isSome:=by
 rcases Ze (fun x:Sec=>x.id==n) l with ⟨z1,z2,z3⟩|⟨k,hk,z1,z2,z3,z4⟩
 ·unfold Qt;rw[z1,z2];rfl
 ·unfold Qt;rw[z1,z2];exact ak (by omega)
theorem N6 (p:Pl) (r:Rt) (hs:SmB p) (hbad:(Xpe p.sgs r.entry).isSome=false∨X0c p r=true∨X3j r=true):Xr Tryz.prog 149 [plA p,rtA r] [] (bool (okR p r)) []:=by
 have hsl:=hs.sgs;have c1:=Vj p.sgs r.entry (by omega);have c2:=Vj p.sgs r.ex (by omega);have k1:=Hq p.sgs r.entry;have k2:=Hq p.sgs r.ex;have hno:okR p r=false:=by
  cases hg:Xpe p.sgs r.entry with
  |none=>exact Dj hg
  |some en=>
   refine Dk hg ?_;rw[Dt];rcases hbad with h|h|h
   ·rw[hg] at h;cases h
   ·rw[h];rfl
   ·rw[h];simp
 rw[hno];have hb:(!(Xpe p.sgs r.entry).isSome||X0c p r||X3j r)=true:=by
  rcases hbad with h|h|h<;>rw[h]<;>simp
 unfold X0c X3j at hb;clear hno hbad;generalize (Xpe p.sgs r.entry).isSome=B1 at*;generalize (Xpe p.sgs r.ex).isSome=B2 at*;generalize idx (fun x:Int×Int×Int=>x.1==r.entry) p.sgs=K1 at*;generalize idx (fun x:Int×Int×Int=>x.1==r.ex) p.sgs=K2 at*;have x0:(r.ex !=0)= !(r.ex==0):=rfl;rw[x0] at hb;generalize (r.ex==0)=X at*;refine Xc 3 Tryz.func149 rfl fun n out _ _=> ?_;simp only[sn,Tryz.ntmps149,simprocAttr];have hg:=Nat.le_refl 0;repeat' (first|refine Vk fun K hK=> ?_|apply V0|apply Vs|((first|apply gE|apply gR|apply gS);simp only[zA,simprocAttr,hg,plA,plC,rtA,rtC,k1,k2,x0])|(apply Vz;refine Vo rfl rfl rfl (fun _ _=>rfl) ?_<;>first|rfl|skip)|(refine X3 (c1) ?_)|(refine X3 (c2) ?_)|((refine Vg (fun hg=> ?_) (fun hg=> ?_))<;>try simp only[nb] at hg)|(refine hK _ ?_;clear hK K)|refine Vt rfl ?_|refine Vf rfl ?_|refine Vi rfl (fun hg=> ?_) (fun hg=> ?_))
 all_goals (exfalso;simp_all;done)
theorem X81 {p:Pl} {r:Rt} {en:Int×Int×Int} (h:Xpe p.sgs r.entry=some en):okR p r=(Ma p r&&Ue (okL p en.2.1) (r.path++r.over)&&Ue (okF p) r.flanks):=by
 unfold okR Ma;rw[h]
theorem X64 (p:Pl) (pre:List (Int×Int)) (f:Int×Int):okF p pre f=((Bt p.pts f.1).isSome&&(match pre.getLast? with
 |none=>true
 |some k=>decide (k.1<f.1))&&(!decide (f.2<1)&& !decide (f.2>2))):=by
 unfold okF
 congr 1
 rw[ar];simp;omega
theorem X0e (p:Pl) (r:Rt) (hs:SmB p) (h20:r.path.length<=5000∧r.over.length<=5000∧r.flanks.length<=5000):Xr Tryz.prog 149 [plA p,rtA r] [] (bool (okR p r)) []:=by
 obtain⟨hp1,hp2,hp3⟩:=h20;have hsl:=hs.sgs;have hpl:=hs.pts;have hsc:=hs.secs;cases hg:Xpe p.sgs r.entry with
 |none=>exact N6 p r hs (.inl (by rw[hg];rfl))
 |some en=>
 cases hA:X0c p r with
 |true=>exact N6 p r hs (.inr (.inl hA))
 |false=>
 cases hB:X3j r with
 |true=>exact N6 p r hs (.inr (.inr hB))
 |false=>
 have hok:=X81 hg;rw[Dt,hA,hB,es,Bool.and_self,bo] at hok;have c1:=Vj p.sgs r.entry (by omega);have c2:=Vj p.sgs r.ex (by omega);have k2:=Hq p.sgs r.ex;obtain⟨k,hk,ek,hk1⟩:∃(k:Nat) (hk:k<p.sgs.length),p.sgs[k]=en∧idx (fun x:Int×Int×Int=>x.1==r.entry) p.sgs=k:=by
  rcases Ze (fun x:Int×Int×Int=>x.1==r.entry) p.sgs with ⟨z1,z2,z3⟩|⟨k,hk,z1,z2,z3,z4⟩
  ·unfold Xpe at hg;rw[z2] at hg;cases hg
  ·unfold Xpe at hg;rw[z2] at hg;exact⟨k,hk,by cases hg;rfl,z1⟩
 rw[hk1] at c1;have hk0:decide ((k:Int)<0)=false:=ak (by omega);have gk:=Xg sgC p.sgs k [] hk;rw[ek] at gk;have x0:(r.ex !=0)= !(r.ex==0):=rfl;unfold X0c at hA;rw[x0] at hA;unfold X3j at hB;simp only[dj] at hB;obtain⟨⟨⟨⟨⟨d1,d2⟩,d3⟩,d4⟩,d5⟩,d6⟩:=hB;have hp0:r.path≠[]:=by intro h;rw[h] at d1;simp at d1
 have cs:=Bu r hp0 (by omega) (by omega);generalize (Xpe p.sgs r.ex).isSome=B2 at*;generalize idx (fun x:Int×Int×Int=>x.1==r.ex) p.sgs=K2 at*;clear hk1;refine Xc 3 Tryz.func149 rfl fun n out _ _=> ?_;simp only[sn,Tryz.ntmps149,simprocAttr];have hg:=Nat.le_refl 0;refine Vy fun K hK=> ?_;simp only[zA,simprocAttr,plA,plC,rtA,rtC]
 (refine hK _ ?_;clear hK K)
 refine Vy fun K hK=> ?_;simp only[zA,simprocAttr]
 skip
 refine X3 c1 ?_;simp only[zA,simprocAttr]
 (refine hK _ ?_;clear hK K)
 refine Qf [(48,bool false),(16,.top),(17,.top),(18,.top),(19,.top),(20,.top),(21,.top),(22,.top),(23,.top),(24,.top),(25,.top),(26,.top),(27,.top),(28,.top),(29,.top),(30,.top),(31,.top),(32,.top),(33,.top),(34,.top),(35,.top),(36,.top),(37,.top),(38,.top),(39,.top),(40,.top),(41,.top),(42,.top),(43,.top),(44,.top),(45,.top),(46,.top),(47,.top)] [some (.box 28 (plC p)),some (.box 82 (rtC r)),none] out (id ?_) ?_;rotate_left
 ·cases hX:(r.ex==0) with
  |true=>
   have hV:((r.over.length:Int) !=0)=false:=by rw[hX] at hA;simpa using hA
   repeat' (first|refine Vk fun K hK=> ?_|apply V0|apply Vs|((first|apply gE|apply gS);simp only[zA,simprocAttr,plC,rtC,hk0,x0,hX,hV])|(refine hK _ ?_;clear hK K)|refine Vf rfl ?_|(refine Or.inl ⟨rfl,?_⟩;refine La rfl ?_ ?_<;>simp only[sL,plC,rtC]))
  |false=>
   rw[hX] at hA;obtain⟨h2,hQ⟩:B2=true∧(r.ex==r.entry)=false:=by cases B2<;>simp_all
   subst h2;repeat' (first|refine Vk fun K hK=> ?_|apply V0|apply Vs|((first|apply gE|apply gR|apply gS);simp only[zA,simprocAttr,plC,rtC,hk0,x0,hX,hQ,k2])|(refine X3 (c2) ?_)|(refine hK _ ?_;clear hK K)|refine Vf rfl ?_|(refine Or.inl ⟨rfl,?_⟩;refine La rfl ?_ ?_<;>simp only[sL,plC,rtC]))
 simp only[pt];obtain⟨L,hL⟩:∃L,L=r.path++r.over:=⟨_,rfl⟩
 rw[<- hL] at cs hok;have hL40:L.length<=10000:=by rw[hL];simp;omega
 repeat' (first|refine Vk fun K hK=> ?_|apply V0|apply Vs|((first|apply gE|apply gR|apply gS);simp only[zA,simprocAttr,plC,rtC,d1,d2,d3,d4,d5,d6])|(refine X3 (cs) ?_)|(refine hK _ ?_;clear hK K)|refine Vf rfl ?_)
 obtain⟨LO,hLO⟩:∃LO,LO=[some (Res.box 28 (plC p)),some (.box 82 (rtC r)),none]:=⟨_,rfl⟩
 apply V5;refine Xse (L.length) (fun i=>(∀j (hj:j<L.length),j<i->okL p en.2.1 (L.take j) L[j]=true)) (fun i=>tp [4,8] (tr 83 41 [(7,i64 (i:Int))])) (fun i=>LO) (by intros;omega) ?_ fun i hi=> ?_
 ·refine X2 ?_ ?_ (by first|rfl|(simp only[hLO,plC,rtC,ai];rfl)|simp only[hLO,plC,rtC,ai]) rfl rfl rfl<;>simp only[sL,hLO,plC,rtC]
 obtain⟨hi,hq⟩:=hi;simp only[pt];have hw:=Yl (n:=i) 1 1 rfl (by omega);by_cases hlt:i<L.length
 ·have gi:=Xg Ym L i [] hlt;have ca:=X39 p.secs L[i] (by omega);have k3:=X0d p.secs L[i];have bad:okL p en.2.1 (L.take i) L[i]=false->okR p r=false:=fun h=>by rw[hok,Yz hlt h];rfl
  have next:okL p en.2.1 (L.take i) L[i]=true->∀j (hj:j<L.length),j<i+1->okL p en.2.1 (L.take j) L[j]=true:=fun h j hj hji=>by
   by_cases h':j=i
   ·subst h';exact h
   ·exact hq j hj (by omega)
  have ho:okL p en.2.1 (L.take i) L[i]=((Qt p.secs L[i]).isSome&& !(L[i]==en.2.1)&&(L.take i).all fun k=> !(k==L[i])):=rfl;clear hq;generalize okL p en.2.1 (L.take i) L[i]=O at*;generalize (Qt p.secs L[i]).isSome=B3 at*;generalize idx (fun s:Sec=>s.id==L[i]) p.secs=K3 at*;repeat' (first|refine Vk fun K hK=> ?_|apply V0|apply Vb|apply Vs|refine Vd 10 [] [[],[0],[],[],[],[],[],[],[],[],[],[],[],[],[0],[],[],[],[],[],[]] [[],[],[],[],[],[],[],[],[],[],[],[],[],[],[],[],[],[],[],[],[]] (by kernel_rfl) (by decide) (by decide) (by kernel_rfl) ?_|((first|apply gE|apply gD|apply gF|apply gS|refine gS2 ?_);simp only[zA,simprocAttr,hg,sg,hLO,plC,hlt,gi,Ym,sgC,k3,hk,gk])|(apply Vz;(try refine Or.inr ⟨(by intro h;cases h),?_⟩);refine Vo rfl rfl rfl (fun _ _=>rfl) ?_<;>first|rfl|(rw[bad (by rw[ho];simp_all)];rfl)|skip)|(refine X3 (ca) ?_)|((first|refine Vg (fun hg=> ?_) (fun hg=> ?_)|refine Y5 (fun hg=> ?_) (fun hg=> ?_))<;>try simp only[nb] at hg)|(refine hK _ ?_;clear hK K)|refine Vt rfl ?_|refine Vi rfl (fun hg=> ?_) (fun hg=> ?_))
  have hO2:O=(L.take i).all fun k=> !(k==L[i]):=by rw[ho];simp_all
  have hlti:=hlt;apply V5;refine Xse (i) (fun q=>(∀m (hm:m<q) (hmi:m<i),(L[m]'(by omega)==L[i])=false)) (fun q=>tp [4] (tr 110 14 [(8,i64 (q:Int))])) (fun q=>LO) (by intros;omega) ?_ fun q hq=> ?_
  ·refine X2 ?_ ?_ (by first|rfl|(simp only[hLO,plC,rtC];rfl)|simp only[hLO,plC,rtC]) rfl rfl rfl<;>simp only[sL,hLO,plC,rtC]
  obtain⟨hq,hq⟩:=hq;simp only[pt];have hw2:=Yl (n:=q) 1 1 rfl (by omega);by_cases hltq:q<i
  ·have gq:=Xg Ym L q [] (by omega);have hq2:q<L.length:=by omega
   repeat' (first|refine Vk fun K hK=> ?_|apply V0|apply Vb|apply Vs|refine Vq (by kernel_rfl) ?_|((first|apply gE|apply gS);simp only[zA,simprocAttr,hg,hLO,hlti,hltq,hq2,gi,gq,Ym,hw2])|(apply Vz;(try refine Or.inr ⟨(by intro h;cases h),?_⟩);refine Vo rfl rfl rfl (fun _ _=>rfl) ?_<;>first|rfl|(rw[bad (by rw[hO2];exact List.all_eq_false.2 ⟨_,Z8 hltq hq2,by simp_all⟩)];rfl)|skip)|(refine hK _ ?_;clear hK K)|refine Vt rfl ?_|refine Vi rfl (fun hg=> ?_) (fun hg=> ?_)|clear hK K)
   refine⟨q+1,⟨by omega,fun m hm hmi=> ?_⟩,by omega,?_⟩
   ·by_cases h':m=q
    ·subst h';assumption
    ·exact hq m (by omega) hmi
   refine La rfl ?_ ?_<;>simp only[sL]
  ·obtain rfl:q=i:=by omega
   repeat' (first|refine Vk fun K hK=> ?_|apply V0|((first|apply gE|apply gS);simp only[zA,simprocAttr,hLO,hltq,hw])|(apply Vx;simp only[sb,Nat.reduceEqDiff])|(refine hK _ ?_;clear hK K)|refine Vf rfl ?_|clear hK K)
   refine⟨q+1,⟨by omega,next (by
    rw[hO2,az];intro x hx;rw[bm] at hx;obtain⟨m,hm,rfl⟩:=hx;rw[hq m (by omega) (by omega)];rfl)⟩,by omega,?_⟩
   refine La rfl ?_ ?_<;>simp only[sL]
 ·have hall:=Q3 (f:=okL p en.2.1) (l:=L) fun j hj=>hq j hj (by omega);rw[hall,bo] at hok;obtain rfl:i=L.length:=by omega
  clear hq;repeat' (first|refine Vk fun K hK=> ?_|apply V0|((first|apply gE|apply gS);simp only[zA,simprocAttr,hLO,hlt])|(apply Vx;simp only[sb])|(refine hK _ ?_;clear hK K)|refine Vf rfl ?_|clear hK K)
  apply V5;refine Xpw (r.flanks.length) (fun i=>(∀j (hj:j<r.flanks.length),j<i->okF p (r.flanks.take j) r.flanks[j]=true)) (fun m i=>tp [4,10] (tr 124 44 [(9,i64 (i:Int)),(2,.ptr (m+0) 0),(3,.ptr (m+1) 0)])) (fun m i=>[some (.box 28 (plC p)),some (.box 82 (rtC r)),none]) (by intros;omega) ?_ fun m i hm hi=> ?_
  ·refine X2 ?_ ?_ (by first|rfl|(simp only[hLO,plC,rtC,ai];rfl)|simp only[hLO,plC,rtC,ai]) rfl rfl rfl<;>simp only[sL,plC,rtC]
  obtain⟨hi,hq⟩:=hi;simp only[pt];have hw:=Yl (n:=i) 1 1 rfl (by omega);by_cases hltf:i<r.flanks.length
  ·have gi:=Xg jnC r.flanks i [] hltf;have ca:=Em p.pts r.flanks[i].1 (by omega);have k3:=X63 p.pts r.flanks[i].1;have hokF:=X64 p (r.flanks.take i) r.flanks[i];have bad:okF p (r.flanks.take i) r.flanks[i]=false->okR p r=false:=fun h=>by rw[hok,Yz hltf h]
   have next:okF p (r.flanks.take i) r.flanks[i]=true->∀j (hj:j<r.flanks.length),j<i+1->okF p (r.flanks.take j) r.flanks[j]=true:=fun h j hj hji=>by
    by_cases h':j=i
    ·subst h';exact h
    ·exact hq j hj (by omega)
   clear hq;generalize okF p (r.flanks.take i) r.flanks[i]=O at*;generalize (Bt p.pts r.flanks[i].1).isSome=B3 at*;generalize idx (fun x:Int×Int=>x.1==r.flanks[i].1) p.pts=K3 at*;by_cases h0:i=0
   ·have hd0:decide ((i:Int)>0)=false:=ak (by omega);have hlast:(r.flanks.take i).getLast? =none:=by rw[h0];rfl
    rw[hlast] at hokF;simp only[di] at hokF;repeat' (first|refine Vk fun K hK=> ?_|apply V0|apply Vb|apply Vs|refine Vd 21 [] [[],[0],[],[2],[],[],[],[],[],[],[],[1],[],[],[],[],[],[],[2],[],[],[],[],[],[2],[],[],[],[],[2],[],[]] [[],[],[],[],[],[],[],[],[],[],[],[],[],[],[],[],[],[],[],[],[],[],[],[],[],[],[],[],[],[],[],[]] (by kernel_rfl) (by decide) (by decide) (by kernel_rfl) ?_|((first|apply gE|apply gD|apply gF|apply gS|refine gS2 ?_);simp only[zA,simprocAttr,hg,sg,Xi hm,plC,rtC,hltf,gi,jnC,X0,hd0,hw,k3])|(apply Vz;(try refine Or.inr ⟨(by intro h;cases h),?_⟩);refine Vo rfl rfl rfl (fun _ _=>rfl) ?_<;>first|rfl|(rw[bad (by rw[hokF];simp_all)];rfl)|skip)|(refine X3 (ca) ?_)|((first|refine Vg (fun hg=> ?_) (fun hg=> ?_)|refine Y5 (fun hg=> ?_) (fun hg=> ?_))<;>try simp only[nb] at hg)|(refine hK _ ?_;clear hK K)|refine Vt rfl ?_|refine Vi rfl (fun hg=> ?_) (fun hg=> ?_)|clear hK K)
    refine⟨i+1,⟨by omega,next (by rw[hokF];simp_all)⟩,by omega,?_⟩;refine Xx [true,true,false] ?_ ?_<;>intro n_<;>simp only[sM]
   ·have hd0:decide ((i:Int)>0)=true:=ax (by omega);have hs1:=X25 (n:=i) 1 1 rfl (by omega) (by omega);have hl1:i - 1<r.flanks.length:=by omega
    have g1:=Xg jnC r.flanks (i - 1) [] hl1;have hlast:(r.flanks.take i).getLast? =some r.flanks[i - 1]:=by rw[List.getLast?_eq_getElem?,ba,Nat.min_eq_left (by omega),bc (by omega),ah hl1]
    rw[hlast] at hokF;dsimp only at hokF;have hge:decide (r.flanks[i - 1].1>=r.flanks[i].1)= !decide (r.flanks[i - 1].1<r.flanks[i].1):=by rw[ar];simp
    generalize decide (r.flanks[i - 1].1<r.flanks[i].1)=D at hokF hge;repeat' (first|refine Vk fun K hK=> ?_|apply V0|apply Vb|apply Vs|refine Vd 21 [] [[],[0],[],[2],[],[],[],[],[],[],[],[1],[],[],[],[],[],[],[2],[],[],[],[],[],[2],[],[],[],[],[2],[],[]] [[],[],[],[],[],[],[],[],[],[],[],[],[],[],[],[],[],[],[],[],[],[],[],[],[],[],[],[],[],[],[],[]] (by kernel_rfl) (by decide) (by decide) (by kernel_rfl) ?_|((first|apply gE|apply gD|apply gF|apply gS|refine gS2 ?_);simp only[zA,simprocAttr,hg,sg,Xi hm,plC,rtC,hltf,gi,jnC,X0,hd0,hs1,hl1,g1,hge,hw,k3])|(apply Vz;(try refine Or.inr ⟨(by intro h;cases h),?_⟩);refine Vo rfl rfl rfl (fun _ _=>rfl) ?_<;>first|rfl|(rw[bad (by rw[hokF];clear hge;simp_all)];rfl)|skip)|(refine X3 (ca) ?_)|((first|refine Vg (fun hg=> ?_) (fun hg=> ?_)|refine Y5 (fun hg=> ?_) (fun hg=> ?_))<;>try simp only[nb] at hg)|(refine hK _ ?_;clear hK K)|refine Vt rfl ?_|refine Vi rfl (fun hg=> ?_) (fun hg=> ?_)|clear hK K)
    refine⟨i+1,⟨by omega,next (by rw[hokF];clear hge;simp_all)⟩,by omega,?_⟩;refine Xx [true,true,false] ?_ ?_<;>intro n_<;>simp only[sM]
  ·have e:=Q3 (f:=okF p) (l:=r.flanks) fun j hj=>hq j hj (by omega);repeat' (first|refine Vk fun K hK=> ?_|apply V0|((first|apply gE|apply gS);simp only[zA,simprocAttr,Xi hm,plC,rtC,hltf])|(apply Vz;(try refine Or.inr ⟨(by intro h;cases h),?_⟩);refine Vo rfl rfl rfl (fun _ _=>rfl) ?_<;>first|rfl|(rw[hok,e];rfl)|skip)|(apply Vx;simp only[sb])|(refine hK _ ?_;clear hK K)|refine Vf rfl ?_|clear hK K)
def X38 (p:Pl):Bool:=decide (p.ver<1)||decide (p.ver>2147483647)||decide (p.par<0)||decide (p.par>=p.ver)||decide ((p.rts.length:Int)>16)
def X02 (p:Pl) (i:Nat):Bool:=match p.rts[i]? with
 |some x=>Ye ((p.rts.take i).map Rt.id) x.id&&okR p x
 |none=>true
theorem Ydu {p:Pl} {i:Nat} (hi:i<p.rts.length):X02 p i=(Ye ((p.rts.take i).map Rt.id) p.rts[i].id&&okR p p.rts[i]):=by
 unfold X02;rw[ah hi]
theorem Rk (p:Pl):Uf p=(!X38 p&&Uq p.secs&&Ul p&&Qu p&&Ue Ye (p.rts.map Rt.id)&&p.rts.all (okR p)):=by
 have e:(Kq p&&decide (p.rts.length<=16))= !X38 p:=by
  rw[ar];simp [Kq,X38];omega
 unfold Uf;rw[<- e];generalize Kq p=A;generalize Uq p.secs=B;generalize Ul p=C;generalize Qu p=D;generalize decide (p.rts.length<=16)=E;generalize Ue Ye (p.rts.map Rt.id)=F;cases A<;>cases B<;>cases C<;>cases D<;>cases E<;>cases F<;>rfl
theorem X03 {p:Pl} {i:Nat} (hi:i<p.rts.length) (h:X02 p i=false):Uf p=false:=by
 rw[Rk];rw[Ydu hi,fe] at h;rcases h with h|h
 ·rw[Dp (g:=Rt.id) hi h];simp
 ·rw[Kp hi h,dm]
theorem X04 {p:Pl} (h:∀i (hi:i<p.rts.length),X02 p i=true):Uf p=(!X38 p&&Uq p.secs&&Ul p&&Qu p):=by
 have h1:Ue Ye (p.rts.map Rt.id)=true:=Ml.2 fun i hi=>by
  have:=h i hi;rw[Ydu hi,ad] at this;exact this.1
 have h2:p.rts.all (okR p)=true:=Mm fun i hi=>by
  have:=h i hi;rw[Ydu hi,ad] at this;exact this.2
 rw[Rk,h1,h2,di,di]
theorem Hd (p:Pl) (hs:SmB p):Xr Tryz.prog 105 [plA p] [] (bool (Uf p)) []:=by
 have h1:=hs.rts;have cA:=X3a p.secs (by have:=hs.secs;omega) (fun s h=>by have:=hs.ends s h;omega);have cB:=Hb p hs;have cC:=Ev p hs;have cR:=fun r h=>X0e p r hs (hs.rt r h);simp only[plA,plC] at cB cC cR;cases hG:(!X38 p&&Uq p.secs&&Ul p&&Qu p) with
 |false=>
  have hno:Uf p=false:=by rw[Rk,hG];rfl
  rw[hno];unfold X38 at hG;clear hno cR;generalize Uq p.secs=MA at*;generalize Ul p=MB at*;generalize Qu p=MC at*;refine Xc 2 Tryz.func105 rfl fun n out _ _=> ?_;simp only[sn,Tryz.ntmps105,simprocAttr];have hg:=Nat.le_refl 0;repeat' (first|refine Vk fun K hK=> ?_|apply V0|apply Vs|((first|apply gE|apply gR|apply gS);simp only[zA,simprocAttr,hg,plA,plC])|(apply Vz;refine Vo rfl rfl rfl (fun _ _=>rfl) ?_<;>first|rfl|skip)|(refine X3 (cA) ?_)|(refine X3 (cB) ?_)|(refine X3 (cC) ?_)|((refine Vg (fun hg=> ?_) (fun hg=> ?_))<;>try simp only[nb] at hg)|(refine hK _ ?_;clear hK K)|refine Vt rfl ?_|refine Vi rfl (fun hg=> ?_) (fun hg=> ?_))
  all_goals (exfalso;simp_all;done)
 |true=>
  have hmay:=X04 (p:=p);rw[hG] at hmay;simp only[ad] at hG;obtain⟨⟨⟨g1,g2⟩,g3⟩,g4⟩:=hG;rw[g2] at cA;rw[g3] at cB;rw[g4] at cC;unfold X38 at g1;simp only[c9,dj] at g1;obtain⟨⟨⟨⟨d1,d2⟩,d3⟩,d4⟩,d5⟩:=g1;clear g2 g3 g4;refine Xc 2 Tryz.func105 rfl fun n out _ _=> ?_;simp only[sn,Tryz.ntmps105,simprocAttr];have hg:=Nat.le_refl 0;repeat' (first|refine Vk fun K hK=> ?_|apply V0|apply Vs|((first|apply gE|apply gR|apply gS);simp only[zA,simprocAttr,plA,plC,d1,d2,d3,d4,d5])|(refine X3 (cA) ?_)|(refine X3 (cB) ?_)|(refine X3 (cC) ?_)|(refine hK _ ?_;clear hK K)|refine Vf rfl ?_)
  apply V5;refine Xpw (p.rts.length) (fun i=>(∀j,j<i->X02 p j=true)) (fun m i=>tp [2,4] (tr 45 42 [(3,i64 (i:Int)),(1,.ptr (m+0) 0)])) (fun m i=>[some (.box 28 (plC p)),none]) (by intros;omega) ?_ fun m i hm hi=> ?_
  ·refine X2 ?_ ?_ (by first|rfl|(simp only[plC,ai];rfl)|simp only[plC,ai]) rfl rfl rfl<;>simp only[sL,plC]
  obtain⟨hi,hq⟩:=hi;simp only[pt];have hw:=Yl (n:=i) 1 1 rfl (by omega);by_cases hlt:i<p.rts.length
  ·have gi:=Xg rtC p.rts i [] hlt;have ca:=cR _ (a8 hlt);simp only[rtA,rtC] at ca;have ho:=Ydu hlt;rw[Do Rt.id p.rts i hlt fun j hj=>by
    have:=hq j hj;rw[Ydu (by omega),ad] at this;exact this.1,Bq] at ho
   have next:X02 p i=true->∀j,j<i+1->X02 p j=true:=fun h j hj=>by
    by_cases h':j=i
    ·subst h';exact h
    ·exact hq j (by omega)
   have bad:X02 p i=false->Uf p=false:=fun h=>X03 hlt h;clear hq;generalize X02 p i=O at*;generalize okR p p.rts[i]=OK at*;by_cases h0:i=0
   ·have hd0:decide ((i:Int)>0)=false:=ak (by omega);rw[ax h0,dx,di] at ho;repeat' (first|refine Vk fun K hK=> ?_|apply V0|apply Vb|apply Vs|refine Vd 9 [] [[],[1],[],[],[],[1],[],[],[],[],[],[],[],[0],[],[],[],[],[],[],[1],[],[],[],[],[0],[1],[],[],[]] [[],[],[],[],[],[],[],[],[],[],[],[],[],[],[],[],[],[],[],[],[],[],[],[],[],[],[],[],[],[]] (by kernel_rfl) (by decide) (by decide) (by kernel_rfl) ?_|((first|apply gE|apply gD|apply gF|apply gS|refine gS2 ?_);simp only[zA,simprocAttr,hg,sg,Xi hm,plC,hlt,gi,rtC,X0,hd0,hw])|(apply Vz;refine Vo rfl rfl rfl (fun _ _=>rfl) ?_<;>first|rfl|(rw[bad (by rw[ho];simp_all)];rfl)|skip)|(refine X3 (ca) ?_)|((first|refine Vg (fun hg=> ?_) (fun hg=> ?_)|refine Y5 (fun hg=> ?_) (fun hg=> ?_))<;>try simp only[nb] at hg)|(refine hK _ ?_;clear hK K)|refine Vt rfl ?_|refine Vi rfl (fun hg=> ?_) (fun hg=> ?_)|clear hK K)
    refine⟨i+1,⟨by omega,next (by rw[ho];simp_all)⟩,by omega,?_⟩;refine Xx [true,false] ?_ ?_<;>intro n_<;>simp only[sM]
   ·have hd0:decide ((i:Int)>0)=true:=ax (by omega);have hs1:=X25 (n:=i) 1 1 rfl (by omega) (by omega);have hl1:i - 1<p.rts.length:=by omega
    have g1:=Xg rtC p.rts (i - 1) [] hl1;have hge:decide (p.rts[i - 1].id>=p.rts[i].id)= !decide (p.rts[i - 1].id<p.rts[i].id):=by rw[ar];simp
    rw[ak h0,ee] at ho;generalize decide (p.rts[i - 1].id<p.rts[i].id)=D at hge ho;repeat' (first|refine Vk fun K hK=> ?_|apply V0|apply Vb|apply Vs|refine Vd 9 [] [[],[1],[],[],[],[1],[],[],[],[],[],[],[],[0],[],[],[],[],[],[],[1],[],[],[],[],[0],[1],[],[],[]] [[],[],[],[],[],[],[],[],[],[],[],[],[],[],[],[],[],[],[],[],[],[],[],[],[],[],[],[],[],[]] (by kernel_rfl) (by decide) (by decide) (by kernel_rfl) ?_|((first|apply gE|apply gD|apply gF|apply gS|refine gS2 ?_);simp only[zA,simprocAttr,hg,sg,Xi hm,plC,hlt,gi,rtC,X0,hd0,hs1,hl1,g1,hge,hw])|(apply Vz;refine Vo rfl rfl rfl (fun _ _=>rfl) ?_<;>first|rfl|(rw[bad (by rw[ho];clear hge;simp_all)];rfl)|skip)|(refine X3 (ca) ?_)|((first|refine Vg (fun hg=> ?_) (fun hg=> ?_)|refine Y5 (fun hg=> ?_) (fun hg=> ?_))<;>try simp only[nb] at hg)|(refine hK _ ?_;clear hK K)|refine Vt rfl ?_|refine Vi rfl (fun hg=> ?_) (fun hg=> ?_)|clear hK K)
    refine⟨i+1,⟨by omega,next (by rw[ho];clear hge;simp_all)⟩,by omega,?_⟩;refine Xx [true,false] ?_ ?_<;>intro n_<;>simp only[sM]
  ·have e:=hmay fun j hj=>hq j (by omega);repeat' (first|refine Vk fun K hK=> ?_|apply V0|((first|apply gE|apply gS);simp only[zA,simprocAttr,Xi hm,plC,hlt])|(apply Vz;refine Vo rfl rfl rfl (fun _ _=>rfl) ?_<;>first|rfl|(rw[e];rfl)|skip)|(apply Vx;simp only[sb])|(refine hK _ ?_;clear hK K)|refine Vf rfl ?_|clear hK K)
theorem X5w (p:Pl) (hs:Sm p):Xr Tryz.prog 105 [plA p] [] (bool (Uf p)) []:=Hd p hs.wide
theorem Yg7 (r:Rt) (h:r.path.length<=20∧r.over.length<=20∧r.flanks.length<=20):Xr Tryz.prog 194 [rtA r] [] (rtA r) []:=by
 obtain⟨h1,h2,h3⟩:=h;have a1:r.path.length*8<=140737488355328:=by omega
 have a2:r.path.length<=9223372036854775807:=by omega
 have a3:r.over.length*8<=140737488355328:=by omega
 have a4:r.over.length<=9223372036854775807:=by omega
 have a5:r.flanks.length*16<=140737488355328:=by omega
 have a6:r.flanks.length<=9223372036854775807:=by omega
 refine Xc 3 Tryz.func194 rfl fun n out _ _=> ?_;simp only[sn,Tryz.ntmps194,simprocAttr];repeat' (first|refine Vk fun K hK=> ?_|apply V0|(apply gE;simp only[zA,simprocAttr,rtA,rtC,X0,a1,a2,a3,a4,a5,a6])|(apply Vz;(first|refine Xu (.inr rfl) rfl rfl rfl (fun _ _=>rfl) ok82 (k:=n+1) (off:=0) rfl (Xb _ (by simp)) (X6 _ (Nat.le_refl _) 1) rfl ?_|refine Xu (.inr rfl) rfl rfl rfl (fun _ _=>rfl) ok82 (k:=m+1) (off:=0) rfl (Xb _ (by simp)) (X6 _ hm 1) rfl ?_)<;>first|rfl|exact AV.le.rfl _|(simp only[sL,ti82,ag,rtA,rtC,X0,ai,a1,a2,a3,a4,a5,a6];done)|rfl|skip)|(refine hK _ ?_;clear hK K))
def Ks (a b:Rt):Bool:=a.id==b.id&&(a.entry==b.entry&&(a.ex==b.ex&&(a.timer==b.timer&&(a.path==b.path&&(a.over==b.over&&a.flanks==b.flanks)))))
theorem Sx {a b:Rt}:Ks a b=true↔a=b:=by
 unfold Ks;simp only[ad,bq];constructor
 ·rintro⟨h1,h2,h3,h4,h5,h6,h7⟩;cases a;cases b;simp only at*;subst h1 h2 h3 h4 h5 h6 h7;rfl
 ·rintro rfl;exact⟨rfl,rfl,rfl,rfl,rfl,rfl,rfl⟩
theorem X0l (a b:Rt) (ha:a.path.length<=1000000∧a.over.length<=1000000∧a.flanks.length<=1000000):Xr Tryz.prog 41 [rtA a,rtA b] [] (bool (Ks a b)) []:=by
 obtain⟨l1,l2,l3⟩:=ha;have c1:=H1 a.path b.path l1;have c2:=H1 a.over b.over l2;by_cases hh:a.id=b.id∧a.entry=b.entry∧a.ex=b.ex∧a.timer=b.timer∧a.path=b.path∧a.over=b.over∧a.flanks.length=b.flanks.length
 ·obtain⟨h1,h2,h3,h4,h5,h6,h7⟩:=hh;have e1:(a.id !=b.id)=false:=by simp [h1]
  have e2:(a.entry !=b.entry)=false:=by simp [h2]
  have e3:(a.ex !=b.ex)=false:=by simp [h3]
  have e4:(a.timer !=b.timer)=false:=by simp [h4]
  have e5:(a.path==b.path)=true:=by simp [h5]
  have e6:(a.over==b.over)=true:=by simp [h6]
  have e7:((a.flanks.length:Int) !=(b.flanks.length:Int))=false:=by simp [h7]
  have hS:Ks a b=(a.flanks==b.flanks):=by unfold Ks;simp [h1,h2,h3,h4,h5,h6]
  rw[e5] at c1;rw[e6] at c2;clear h1 h2 h3 h4 h5 h6;rw[hS];refine Xc 2 Tryz.func41 rfl fun n out _ _=> ?_;simp only[sn,Tryz.ntmps41,simprocAttr];have hg:=Nat.le_refl 0;repeat' (first|refine Vk fun K hK=> ?_|apply V0|apply Vs|((first|apply gE|apply gR|apply gS);simp only[zA,simprocAttr,rtA,rtC,e1,e2,e3,e4,e7])|(refine X3 (c1) ?_)|(refine X3 (c2) ?_)|(refine hK _ ?_;clear hK K)|refine Vf rfl ?_)
  apply V5;refine Xpw (a.flanks.length) (fun i=>(∀j (hj:j<a.flanks.length) (hj':j<b.flanks.length),j<i->a.flanks[j]=b.flanks[j])) (fun m i=>tp [4] (tr 57 18 [(5,i64 (i:Int)),(2,.ptr (m+0) 0),(3,.ptr (m+1) 0)])) (fun m i=>[some (.box 82 (rtC a)),some (.box 82 (rtC b))]) (by intros;omega) ?_ fun m i hm hi=> ?_
  ·refine X2 ?_ ?_ (by first|rfl|(simp only[rtC];rfl)|simp only[rtC]) rfl rfl rfl<;>simp only[sL,rtC]
  obtain⟨hi,hq⟩:=hi;simp only[pt];have hw:=Yl (n:=i) 1 1 rfl (by omega);by_cases hlt:i<a.flanks.length
  ·have hlt':i<b.flanks.length:=by omega
   have ga:=Xg jnC a.flanks i [] hlt;have gb:=Xg jnC b.flanks i [] hlt';repeat' (first|refine Vk fun K hK=> ?_|apply V0|apply Vb|apply Vs|with_reducible apply ab|refine Vq (by kernel_rfl) ?_|((first|apply gE|apply gS);simp only[zA,simprocAttr,hg,Xi hm,rtC,jnC,hlt,hlt',ga,gb,Lj,hw])|exact Vn|(apply Vz;refine Vo rfl rfl rfl (fun _ _=>rfl) ?_<;>first|rfl|(rw[Ut hlt hlt' (by simpa using hg)];rfl)|skip)|(refine hK _ ?_;clear hK K)|refine Vt rfl ?_|refine Vi rfl (fun hg=> ?_) (fun hg=> ?_)|((first|show Program.eqGuardType _ _ _=false|show Xs _ _ _=true|show Program.stoodInHeld _ _=false);kernel_rfl)|clear hK K)
   refine⟨i+1,⟨by omega,fun j hj hj' hji=> ?_⟩,by omega,?_⟩
   ·by_cases h:j=i
    ·subst h;simpa using hg
    ·exact hq j hj hj' (by omega)
   refine Xx [true,true] ?_ ?_<;>intro n_<;>simp only[sM]
  ·have e:=Ua (l:=a.flanks) (m:=b.flanks) h7 fun j hj hj'=>hq j hj hj' (by omega);repeat' (first|refine Vk fun K hK=> ?_|apply V0|((first|apply gE|apply gS);simp only[zA,simprocAttr,Xi hm,rtC,hlt])|(apply Vz;refine Vo rfl rfl rfl (fun _ _=>rfl) ?_<;>first|rfl|(rw[e];rfl)|skip)|(apply Vx;simp only[sb])|(refine hK _ ?_;clear hK K)|refine Vf rfl ?_|clear hK K)
 ·have hS:Ks a b=false:=by
   rw[cv];intro h;obtain rfl:=Sx.1 h;exact hh ⟨rfl,rfl,rfl,rfl,rfl,rfl,rfl⟩
  rw[hS];generalize hP:(a.path==b.path)=P at c1;generalize hO:(a.over==b.over)=O at c2;refine Xc 2 Tryz.func41 rfl fun n out _ _=> ?_;simp only[sn,Tryz.ntmps41,simprocAttr];have hg:=Nat.le_refl 0;repeat' (first|refine Vk fun K hK=> ?_|apply V0|apply Vs|((first|apply gE|apply gR|apply gS);simp only[zA,simprocAttr,hg,rtA,rtC])|(apply Vz;refine Vo rfl rfl rfl (fun _ _=>rfl) ?_<;>first|rfl|skip)|(refine X3 (c1) ?_)|(refine X3 (c2) ?_)|((refine Vg (fun hg=> ?_) (fun hg=> ?_))<;>try simp only[nb] at hg)|(refine hK _ ?_;clear hK K)|refine Vt rfl ?_|refine Vi rfl (fun hg=> ?_) (fun hg=> ?_))
  all_goals (exfalso;refine hh ?_;simp at*;exact⟨by assumption,by assumption,by assumption,by assumption,by simp_all,by simp_all,by omega⟩)
def Sy (a b:Pl):Bool:=a.ver==b.ver&&(a.par==b.par&&(Lw a.secs b.secs&&(a.pts==b.pts&&(a.sgs==b.sgs&&Fv Ks a.rts b.rts))))
theorem Pq (p:Pl):Sy p p=true:=by
 unfold Sy;rw[Bp,Xo4 (p:=Ks) rfl fun i hi _=>Sx.2 rfl];simp
theorem Du (a b:Pl) (ha:Sm a):Xr Tryz.prog 18 [plA a,plA b] [] (bool (Sy a b)) []:=by
 have c1:=H5 a.secs b.secs (by have:=ha.secs;omega) fun s h=>by have:=ha.ends s h;omega
 have l1:=ha.pts;have l2:=ha.sgs;have l3:=ha.rts;by_cases hh:a.ver=b.ver∧a.par=b.par∧Lw a.secs b.secs=true∧a.pts.length=b.pts.length∧a.sgs.length=b.sgs.length∧a.rts.length=b.rts.length
 ·obtain⟨h1,h2,h3,h4,h5,h6⟩:=hh;have e1:(a.ver !=b.ver)=false:=by simp [h1]
  have e2:(a.par !=b.par)=false:=by simp [h2]
  have e4:((a.pts.length:Int) !=(b.pts.length:Int))=false:=by simp [h4]
  have e5:((a.sgs.length:Int) !=(b.sgs.length:Int))=false:=by simp [h5]
  have e6:((a.rts.length:Int) !=(b.rts.length:Int))=false:=by simp [h6]
  rw[h3] at c1;obtain⟨B,hB⟩:∃B,B=Sy a b:=⟨_,rfl⟩
  have hS:Sy a b=(a.pts==b.pts&&(a.sgs==b.sgs&&Fv Ks a.rts b.rts)):=by unfold Sy;simp [h1,h2,h3]
  rw[<- hB] at hS⊢;have badP:∀i (hi:i<a.pts.length) (hi':i<b.pts.length),a.pts[i]≠b.pts[i]->B=false:=fun i hi hi' h=>by rw[hS,Ut hi hi' h];rfl
  have badG:∀i (hi:i<a.sgs.length) (hi':i<b.sgs.length),a.sgs[i]≠b.sgs[i]->B=false:=fun i hi hi' h=>by rw[hS,Ut hi hi' h];simp
  have X0c:∀i (hi:i<a.rts.length) (hi':i<b.rts.length),Ks a.rts[i] b.rts[i]=false->B=false:=fun i hi hi' h=>by rw[hS,Xo5 hi hi' h];simp
  have cR:=fun i (hi:i<a.rts.length) (hi':i<b.rts.length)=>X0l a.rts[i] b.rts[i] (by obtain⟨x,y,z⟩:=ha.rt _ (a8 hi);omega);simp only[rtA,rtC] at cR;clear hB;refine Xc 2 Tryz.func18 rfl fun n out _ _=> ?_;simp only[sn,Tryz.ntmps18,simprocAttr];have hg:=Nat.le_refl 0;repeat' (first|refine Vk fun K hK=> ?_|apply V0|apply Vs|((first|apply gE|apply gR|apply gS);simp only[zA,simprocAttr,plA,plC,e1,e2,e4,e5,e6])|(refine X3 (c1) ?_)|(refine hK _ ?_;clear hK K)|refine Vf rfl ?_)
  apply V5;refine Xpw (a.pts.length) (fun i=>(∀j (hj:j<a.pts.length) (hj':j<b.pts.length),j<i->a.pts[j]=b.pts[j])) (fun m i=>tp [4] (tr 55 18 [(5,i64 (i:Int)),(2,.ptr (m+0) 0),(3,.ptr (m+1) 0)])) (fun m i=>[some (.box 28 (plC a)),some (.box 28 (plC b))]) (by intros;omega) ?_ fun m i hm hi=> ?_
  ·refine X2 ?_ ?_ (by first|rfl|(simp only[plC];rfl)|simp only[plC]) rfl rfl rfl<;>simp only[sL,plC]
  obtain⟨hi,hq⟩:=hi;simp only[pt];have hw:=Yl (n:=i) 1 1 rfl (by omega);by_cases hlt:i<a.pts.length
  ·have hlt':i<b.pts.length:=by omega
   have ga:=Xg jnC a.pts i [] hlt;have gb:=Xg jnC b.pts i [] hlt';repeat' (first|refine Vk fun K hK=> ?_|apply V0|apply Vb|apply Vs|with_reducible apply ab|refine Vq (by kernel_rfl) ?_|((first|apply gE|apply gS);simp only[zA,simprocAttr,hg,Xi hm,plC,jnC,hlt,hlt',ga,gb,Lj,hw])|exact Vn|(apply Vz;refine Vo rfl rfl rfl (fun _ _=>rfl) ?_<;>first|rfl|(rw[badP i hlt hlt' (by simpa using hg)];rfl)|skip)|(refine hK _ ?_;clear hK K)|refine Vt rfl ?_|refine Vi rfl (fun hg=> ?_) (fun hg=> ?_)|((first|show Program.eqGuardType _ _ _=false|show Xs _ _ _=true|show Program.stoodInHeld _ _=false);kernel_rfl)|clear hK K)
   refine⟨i+1,⟨by omega,fun j hj hj' hji=> ?_⟩,by omega,?_⟩
   ·by_cases h:j=i
    ·subst h;simpa using hg
    ·exact hq j hj hj' (by omega)
   refine Xx [true,true] ?_ ?_<;>intro n_<;>simp only[sM]
  ·have eP:(a.pts==b.pts)=true:=Ua (l:=a.pts) (m:=b.pts) h4 fun j hj hj'=>hq j hj hj' (by omega);repeat' (first|refine Vk fun K hK=> ?_|apply V0|((first|apply gE|apply gS);simp only[zA,simprocAttr,Xi hm,plC,hlt])|(apply Vx;simp only[sb])|(refine hK _ ?_;clear hK K)|refine Vf rfl ?_|clear hK K)
   apply V5;refine Xpw (a.sgs.length) (fun i=>(∀j (hj:j<a.sgs.length) (hj':j<b.sgs.length),j<i->a.sgs[j]=b.sgs[j])) (fun m i=>tp [4] (tr 73 18 [(6,i64 (i:Int)),(2,.ptr (m+0) 0),(3,.ptr (m+1) 0)])) (fun m i=>[some (.box 28 (plC a)),some (.box 28 (plC b))]) (by intros;omega) ?_ fun m i hm hi=> ?_
   ·refine X2 ?_ ?_ (by first|rfl|(simp only[plC];rfl)|simp only[plC]) rfl rfl rfl<;>simp only[sL,plC]
   obtain⟨hi,hq⟩:=hi;simp only[pt];have hw:=Yl (n:=i) 1 1 rfl (by omega);by_cases hlt:i<a.sgs.length
   ·have hlt':i<b.sgs.length:=by omega
    have ga:=Xg sgC a.sgs i [] hlt;have gb:=Xg sgC b.sgs i [] hlt';repeat' (first|refine Vk fun K hK=> ?_|apply V0|apply Vb|apply Vs|with_reducible apply ab|refine Vq (by kernel_rfl) ?_|((first|apply gE|apply gS);simp only[zA,simprocAttr,hg,Xi hm,plC,sgC,hlt,hlt',ga,gb,Js,hw])|exact Vn|(apply Vz;refine Vo rfl rfl rfl (fun _ _=>rfl) ?_<;>first|rfl|(rw[badG i hlt hlt' (by simpa using hg)];rfl)|skip)|(refine hK _ ?_;clear hK K)|refine Vt rfl ?_|refine Vi rfl (fun hg=> ?_) (fun hg=> ?_)|((first|show Program.eqGuardType _ _ _=false|show Xs _ _ _=true|show Program.stoodInHeld _ _=false);kernel_rfl)|clear hK K)
    refine⟨i+1,⟨by omega,fun j hj hj' hji=> ?_⟩,by omega,?_⟩
    ·by_cases h:j=i
     ·subst h;simpa using hg
     ·exact hq j hj hj' (by omega)
    refine Xx [true,true] ?_ ?_<;>intro n_<;>simp only[sM]
   ·have eG:(a.sgs==b.sgs)=true:=Ua (l:=a.sgs) (m:=b.sgs) h5 fun j hj hj'=>hq j hj hj' (by omega);repeat' (first|refine Vk fun K hK=> ?_|apply V0|((first|apply gE|apply gS);simp only[zA,simprocAttr,Xi hm,plC,hlt])|(apply Vx;simp only[sb])|(refine hK _ ?_;clear hK K)|refine Vf rfl ?_|clear hK K)
    apply V5;refine Xpw (a.rts.length) (fun i=>(∀j (hj:j<a.rts.length) (hj':j<b.rts.length),j<i->Ks a.rts[j] b.rts[j]=true)) (fun m i=>tp [4] (tr 91 19 [(7,i64 (i:Int)),(2,.ptr (m+0) 0),(3,.ptr (m+1) 0)])) (fun m i=>[some (.box 28 (plC a)),some (.box 28 (plC b))]) (by intros;omega) ?_ fun m i hm hi=> ?_
    ·refine X2 ?_ ?_ (by first|rfl|(simp only[plC];rfl)|simp only[plC]) rfl rfl rfl<;>simp only[sL,plC]
    obtain⟨hi,hq⟩:=hi;simp only[pt];have hw:=Yl (n:=i) 1 1 rfl (by omega);by_cases hlt:i<a.rts.length
    ·have hlt':i<b.rts.length:=by omega
     have ga:=Xg rtC a.rts i [] hlt;have gb:=Xg rtC b.rts i [] hlt';have cRi:=cR i hlt hlt';cases hb:Ks a.rts[i] b.rts[i] with
     |false=>
      rw[hb] at cRi;repeat' (first|refine Vk fun K hK=> ?_|apply V0|apply Vb|apply Vs|refine Vq (by kernel_rfl) ?_|((first|apply gE|apply gR|apply gS);simp only[zA,simprocAttr,Xi hm,plC,rtC,hlt,hlt',ga,gb])|(apply Vz;refine Vo rfl rfl rfl (fun _ _=>rfl) ?_<;>first|rfl|(rw[X0c i hlt hlt' hb];rfl)|skip)|(refine X3 (cRi) ?_)|(refine hK _ ?_;clear hK K)|refine Vt rfl ?_)
     |true=>
      rw[hb] at cRi;repeat' (first|refine Vk fun K hK=> ?_|apply V0|apply Vb|apply Vs|refine Vq (by kernel_rfl) ?_|((first|apply gE|apply gR|apply gS);simp only[zA,simprocAttr,Xi hm,plC,rtC,hlt,hlt',ga,gb,hw])|(refine X3 (cRi) ?_)|(refine hK _ ?_;clear hK K)|refine Vt rfl ?_|refine Vf rfl ?_|clear hK K)
      refine⟨i+1,⟨by omega,fun j hj hj' hji=> ?_⟩,by omega,?_⟩
      ·by_cases h:j=i
       ·subst h;exact hb
       ·exact hq j hj hj' (by omega)
      refine Xx [true,true] ?_ ?_<;>intro n_<;>simp only[sM]
    ·have eR:Fv Ks a.rts b.rts=true:=Xo4 (p:=Ks) h6 fun j hj hj'=>hq j hj hj' (by omega);have hT:B=true:=by rw[hS,eP,eG,eR];rfl
     repeat' (first|refine Vk fun K hK=> ?_|apply V0|((first|apply gE|apply gS);simp only[zA,simprocAttr,Xi hm,plC,hlt])|(apply Vz;refine Vo rfl rfl rfl (fun _ _=>rfl) ?_<;>first|rfl|(rw[hT];rfl)|skip)|(apply Vx;simp only[sb])|(refine hK _ ?_;clear hK K)|refine Vf rfl ?_|clear hK K)
 ·have hS:Sy a b=false:=by
   rw[cv];intro h;unfold Sy at h;simp only[ad,bq] at h;obtain⟨h1,h2,h3,h4,h5,h6⟩:=h;refine hh ⟨h1,h2,h3,by rw[h4],by rw[h5],?_⟩;exact dv fun hl=>by rw[Rj hl] at h6;cases h6
  rw[hS];generalize Lw a.secs b.secs=SS at*;refine Xc 2 Tryz.func18 rfl fun n out _ _=> ?_;simp only[sn,Tryz.ntmps18,simprocAttr];have hg:=Nat.le_refl 0;repeat' (first|refine Vk fun K hK=> ?_|apply V0|apply Vs|((first|apply gE|apply gR|apply gS);simp only[zA,simprocAttr,hg,plA,plC])|(apply Vz;refine Vo rfl rfl rfl (fun _ _=>rfl) ?_<;>first|rfl|skip)|(refine X3 (c1) ?_)|((refine Vg (fun hg=> ?_) (fun hg=> ?_))<;>try simp only[nb] at hg)|(refine hK _ ?_;clear hK K)|refine Vt rfl ?_|refine Vi rfl (fun hg=> ?_) (fun hg=> ?_))
  all_goals (exfalso;refine hh ?_;simp at*;exact⟨by simp_all,by simp_all,by simp_all,by omega,by omega,by omega⟩)
end Go.Proofs.YtdngdjbgmojcoaaGreat.Pln
