/- The layer of abstract values, joined. -/
import Derived.Test.YtdngdjbgmojcoaaGreatZPR
import Derived.Test.YtdngdjbgmojcoaaGreatZPN
namespace Go.Proofs.YtdngdjbgmojcoaaGreat.Pln
set_option linter.all false
set_option maxHeartbeats 4000000
set_option maxRecDepth 4000
open Go Go.VS Tab
attribute [local irreducible] AWp Xp0 Pg X5c Qy Lt Tp FdT Eb
theorem Re (x:Int×Int):Xr Tryz.prog 181 [jnA x] [] (i64 (x.1)) []:=by
 refine Xc 2 Tryz.func181 rfl fun n out _ _=> ?_;simp only[sn,Tryz.ntmps181,simprocAttr];repeat' (first|refine Vk fun K hK=> ?_|apply V0|apply Vb|(apply gE;simp only[zA,simprocAttr,jnA,jnC,X0,Qj])|(apply Vz;refine Vo rfl rfl rfl (fun _ _=>rfl) ?_<;>first|rfl|skip)|(refine hK _ ?_;clear hK K)|refine Vt rfl ?_)
theorem Rg (x:Int×Int×Int):Xr Tryz.prog 183 [sgA x] [] (i64 (x.1)) []:=by
 refine Xc 2 Tryz.func183 rfl fun n out _ _=> ?_;simp only[sn,Tryz.ntmps183,simprocAttr];repeat' (first|refine Vk fun K hK=> ?_|apply V0|apply Vb|(apply gE;simp only[zA,simprocAttr,sgA,sgC,X0,Qj])|(apply Vz;refine Vo rfl rfl rfl (fun _ _=>rfl) ?_<;>first|rfl|skip)|(refine hK _ ?_;clear hK K)|refine Vt rfl ?_|refine Vf rfl ?_)
theorem Bo (x:Rt):Xr Tryz.prog 142 [rtA x] [] (i64 (x.id)) []:=by
 refine Xc 2 Tryz.func142 rfl fun n out _ _=> ?_;simp only[sn,Tryz.ntmps142,simprocAttr];repeat' (first|refine Vk fun K hK=> ?_|apply V0|apply Vb|(apply gE;simp only[zA,simprocAttr,rtA,rtC,X0,Qj])|(apply Vz;refine Vo rfl rfl rfl (fun _ _=>rfl) ?_<;>first|rfl|skip)|(refine hK _ ?_;clear hK K)|refine Vt rfl ?_|refine Vf rfl ?_)
theorem Lh {l:List Int} {i:Nat} (hi:i<l.length) (hq:∀j (hj:j<l.length),j<i->Ye (l.take j) l[j]=true):Ye (l.take i) l[i]=(Uk l[i]&&(decide (i=0)||decide ((l[i - 1]'(by omega))<l[i]))):=by
 have e:=Bs (fun x:Int=>x) l i hi fun j hj k hk=>by
  have:=hq j (by omega) hj;simp only[Ye,ad,az,ao] at this;exact this.2 _ (Z8 hk (by omega))
 unfold Ye;rw[e]
theorem Gy (l:List (Int×Int)) (most:Int) (hl:l.length<=1000000):Xr Tryz.prog 137 [.sl 2 (l.map jnC) .sh,i64 most] [] (bool (Ue Ye (l.map (fun x:Int×Int=>x.1))&&decide ((l.length:Int)<=most))) []:=by
 refine Xc 1 Tryz.func137 rfl fun n out _ _=> ?_;simp only[sn,Tryz.ntmps137,simprocAttr];have hg:=Nat.le_refl 0;repeat' (first|refine Vk fun K hK=> ?_|apply V0|((first|apply gE|apply gS);simp only[zA,simprocAttr])|(refine hK _ ?_;clear hK K))
 apply V5;refine Xpw (l.length) (fun i=>(∀j (hj:j<(l.map (fun x:Int×Int=>x.1)).length),j<i->Ye ((l.map (fun x:Int×Int=>x.1)).take j) (l.map (fun x:Int×Int=>x.1))[j]=true)) (fun m i=>tr 11 27 (tr 4 4 [(10,i64 (i:Int))])) (fun m i=>[none]) (by intros;omega) ?_ fun m i hm hi=> ?_
 ·refine X2 ?_ ?_ (by first|rfl|(simp only[ai];rfl)|simp only[ai]) rfl rfl rfl<;>simp only[sL]
 obtain⟨hi,hq⟩:=hi;simp only[pt];have hw:=Yl (n:=i) 1 1 rfl (by omega);by_cases hlt:i<l.length
 ·have gi:=Xg jnC l i [] hlt;have hltm:i<(l.map (fun x:Int×Int=>x.1)).length:=by simpa using hlt
  have key:=Lh hltm hq;rw[show(l.map (fun x:Int×Int=>x.1))[i]=l[i].1 by simp,show(l.map (fun x:Int×Int=>x.1))[i - 1]'(by omega)=(l[i - 1]'(by omega)).1 by simp] at key;have next:Ye ((l.map (fun x:Int×Int=>x.1)).take i) l[i].1=true->∀j (hj:j<(l.map (fun x:Int×Int=>x.1)).length),j<i+1->Ye ((l.map (fun x:Int×Int=>x.1)).take j) (l.map (fun x:Int×Int=>x.1))[j]=true:=fun h j hj hji=>by
   by_cases h':j=i
   ·subst h';rw[show(l.map (fun x:Int×Int=>x.1))[j]=l[j].1 by simp];exact h
   ·exact hq j hj (by omega)
  have bad:Ye ((l.map (fun x:Int×Int=>x.1)).take i) l[i].1=false->Ue Ye (l.map (fun x:Int×Int=>x.1))=false:=fun h=>Yz hltm (by rw[show(l.map (fun x:Int×Int=>x.1))[i]=l[i].1 by simp];exact h);by_cases h0:i=0
  ·have hd0:decide ((i:Int)>0)=false:=ak (by omega);rw[ax h0,dx,di] at key;repeat' (first|refine Vk fun K hK=> ?_|apply V0|apply Vb|apply Vs|((first|apply gE|apply gR|apply gS);simp only[zA,simprocAttr,hg,Xi hm,hlt,gi,jnC,X0,hd0,hw])|(apply Vz;refine Vo rfl rfl rfl (fun _ _=>rfl) ?_<;>first|rfl|(rw[bad (by rw[key];simp [Uk] at*;omega)];rfl)|skip)|(refine X3 (Re l[i]) ?_)|((refine Vg (fun hg=> ?_) (fun hg=> ?_))<;>try simp only[nb] at hg)|(refine hK _ ?_;clear hK K)|refine Vt rfl ?_|refine Vf rfl ?_|clear hK K)
   refine⟨i+1,⟨by omega,fun j hj=>next (by rw[key];simp [Uk] at*;omega) j (by simpa using hj)⟩,by omega,?_⟩;refine Xx [false] ?_ ?_<;>intro n_<;>simp only[sM]
  ·have hd0:decide ((i:Int)>0)=true:=ax (by omega);have hs1:=X25 (n:=i) 1 1 rfl (by omega) (by omega);have hl1:i - 1<l.length:=by omega
   have g1:=Xg jnC l (i - 1) [] hl1;rw[ak h0,ee] at key;repeat' (first|refine Vk fun K hK=> ?_|apply V0|apply Vb|apply Vs|((first|apply gE|apply gR|apply gS);simp only[zA,simprocAttr,hg,Xi hm,hlt,gi,jnC,X0,hd0,hs1,hl1,g1,hw])|(apply Vz;refine Vo rfl rfl rfl (fun _ _=>rfl) ?_<;>first|rfl|(rw[bad (by rw[key];simp [Uk] at*;omega)];rfl)|skip)|(refine X3 (Re l[i]) ?_)|(refine X3 (Re l[i - 1]) ?_)|((refine Vg (fun hg=> ?_) (fun hg=> ?_))<;>try simp only[nb] at hg)|(refine hK _ ?_;clear hK K)|refine Vt rfl ?_|refine Vi rfl (fun hg=> ?_) (fun hg=> ?_)|clear hK K)
   refine⟨i+1,⟨by omega,fun j hj=>next (by rw[key];simp [Uk] at*;omega) j (by simpa using hj)⟩,by omega,?_⟩;refine Xx [false] ?_ ?_<;>intro n_<;>simp only[sM]
 ·have hall:=Q3 (f:=Ye) (l:=l.map (fun x:Int×Int=>x.1)) fun j hj=>hq j hj (by simp at hj;omega);repeat' (first|refine Vk fun K hK=> ?_|apply V0|((first|apply gE|apply gS);simp only[zA,simprocAttr,hlt])|(apply Vz;refine Vo rfl rfl rfl (fun _ _=>rfl) ?_<;>first|rfl|(rw[hall,bo];rfl)|skip)|(apply Vx;simp only[sb])|(refine hK _ ?_;clear hK K)|refine Vf rfl ?_|clear hK K)
theorem Gz (l:List (Int×Int×Int)) (most:Int) (hl:l.length<=1000000):Xr Tryz.prog 140 [.sl 3 (l.map sgC) .sh,i64 most] [] (bool (Ue Ye (l.map (fun x:Int×Int×Int=>x.1))&&decide ((l.length:Int)<=most))) []:=by
 refine Xc 1 Tryz.func140 rfl fun n out _ _=> ?_;simp only[sn,Tryz.ntmps140,simprocAttr];have hg:=Nat.le_refl 0;repeat' (first|refine Vk fun K hK=> ?_|apply V0|((first|apply gE|apply gS);simp only[zA,simprocAttr])|(refine hK _ ?_;clear hK K))
 apply V5;refine Xpw (l.length) (fun i=>(∀j (hj:j<(l.map (fun x:Int×Int×Int=>x.1)).length),j<i->Ye ((l.map (fun x:Int×Int×Int=>x.1)).take j) (l.map (fun x:Int×Int×Int=>x.1))[j]=true)) (fun m i=>tr 11 27 (tr 4 4 [(10,i64 (i:Int))])) (fun m i=>[none]) (by intros;omega) ?_ fun m i hm hi=> ?_
 ·refine X2 ?_ ?_ (by first|rfl|(simp only[ai];rfl)|simp only[ai]) rfl rfl rfl<;>simp only[sL]
 obtain⟨hi,hq⟩:=hi;simp only[pt];have hw:=Yl (n:=i) 1 1 rfl (by omega);by_cases hlt:i<l.length
 ·have gi:=Xg sgC l i [] hlt;have hltm:i<(l.map (fun x:Int×Int×Int=>x.1)).length:=by simpa using hlt
  have key:=Lh hltm hq;rw[show(l.map (fun x:Int×Int×Int=>x.1))[i]=l[i].1 by simp,show(l.map (fun x:Int×Int×Int=>x.1))[i - 1]'(by omega)=(l[i - 1]'(by omega)).1 by simp] at key;have next:Ye ((l.map (fun x:Int×Int×Int=>x.1)).take i) l[i].1=true->∀j (hj:j<(l.map (fun x:Int×Int×Int=>x.1)).length),j<i+1->Ye ((l.map (fun x:Int×Int×Int=>x.1)).take j) (l.map (fun x:Int×Int×Int=>x.1))[j]=true:=fun h j hj hji=>by
   by_cases h':j=i
   ·subst h';rw[show(l.map (fun x:Int×Int×Int=>x.1))[j]=l[j].1 by simp];exact h
   ·exact hq j hj (by omega)
  have bad:Ye ((l.map (fun x:Int×Int×Int=>x.1)).take i) l[i].1=false->Ue Ye (l.map (fun x:Int×Int×Int=>x.1))=false:=fun h=>Yz hltm (by rw[show(l.map (fun x:Int×Int×Int=>x.1))[i]=l[i].1 by simp];exact h);by_cases h0:i=0
  ·have hd0:decide ((i:Int)>0)=false:=ak (by omega);rw[ax h0,dx,di] at key;repeat' (first|refine Vk fun K hK=> ?_|apply V0|apply Vb|apply Vs|((first|apply gE|apply gR|apply gS);simp only[zA,simprocAttr,hg,Xi hm,hlt,gi,sgC,X0,hd0,hw])|(apply Vz;refine Vo rfl rfl rfl (fun _ _=>rfl) ?_<;>first|rfl|(rw[bad (by rw[key];simp [Uk] at*;omega)];rfl)|skip)|(refine X3 (Rg l[i]) ?_)|((refine Vg (fun hg=> ?_) (fun hg=> ?_))<;>try simp only[nb] at hg)|(refine hK _ ?_;clear hK K)|refine Vt rfl ?_|refine Vf rfl ?_|clear hK K)
   refine⟨i+1,⟨by omega,fun j hj=>next (by rw[key];simp [Uk] at*;omega) j (by simpa using hj)⟩,by omega,?_⟩;refine Xx [false] ?_ ?_<;>intro n_<;>simp only[sM]
  ·have hd0:decide ((i:Int)>0)=true:=ax (by omega);have hs1:=X25 (n:=i) 1 1 rfl (by omega) (by omega);have hl1:i - 1<l.length:=by omega
   have g1:=Xg sgC l (i - 1) [] hl1;rw[ak h0,ee] at key;repeat' (first|refine Vk fun K hK=> ?_|apply V0|apply Vb|apply Vs|((first|apply gE|apply gR|apply gS);simp only[zA,simprocAttr,hg,Xi hm,hlt,gi,sgC,X0,hd0,hs1,hl1,g1,hw])|(apply Vz;refine Vo rfl rfl rfl (fun _ _=>rfl) ?_<;>first|rfl|(rw[bad (by rw[key];simp [Uk] at*;omega)];rfl)|skip)|(refine X3 (Rg l[i]) ?_)|(refine X3 (Rg l[i - 1]) ?_)|((refine Vg (fun hg=> ?_) (fun hg=> ?_))<;>try simp only[nb] at hg)|(refine hK _ ?_;clear hK K)|refine Vt rfl ?_|refine Vi rfl (fun hg=> ?_) (fun hg=> ?_)|clear hK K)
   refine⟨i+1,⟨by omega,fun j hj=>next (by rw[key];simp [Uk] at*;omega) j (by simpa using hj)⟩,by omega,?_⟩;refine Xx [false] ?_ ?_<;>intro n_<;>simp only[sM]
 ·have hall:=Q3 (f:=Ye) (l:=l.map (fun x:Int×Int×Int=>x.1)) fun j hj=>hq j hj (by simp at hj;omega);repeat' (first|refine Vk fun K hK=> ?_|apply V0|((first|apply gE|apply gS);simp only[zA,simprocAttr,hlt])|(apply Vz;refine Vo rfl rfl rfl (fun _ _=>rfl) ?_<;>first|rfl|(rw[hall,bo];rfl)|skip)|(apply Vx;simp only[sb])|(refine hK _ ?_;clear hK K)|refine Vf rfl ?_|clear hK K)
theorem H0 (l:List (Rt)) (most:Int) (hl:l.length<=1000000):Xr Tryz.prog 80 [.sl 7 (l.map rtC) .sh,i64 most] [] (bool (Ue Ye (l.map Rt.id)&&decide ((l.length:Int)<=most))) []:=by
 refine Xc 1 Tryz.func80 rfl fun n out _ _=> ?_;simp only[sn,Tryz.ntmps80,simprocAttr];have hg:=Nat.le_refl 0;repeat' (first|refine Vk fun K hK=> ?_|apply V0|((first|apply gE|apply gS);simp only[zA,simprocAttr])|(refine hK _ ?_;clear hK K))
 apply V5;refine Xpw (l.length) (fun i=>(∀j (hj:j<(l.map Rt.id).length),j<i->Ye ((l.map Rt.id).take j) (l.map Rt.id)[j]=true)) (fun m i=>tr 11 27 (tr 4 4 [(10,i64 (i:Int))])) (fun m i=>[none]) (by intros;omega) ?_ fun m i hm hi=> ?_
 ·refine X2 ?_ ?_ (by first|rfl|(simp only[ai];rfl)|simp only[ai]) rfl rfl rfl<;>simp only[sL]
 obtain⟨hi,hq⟩:=hi;simp only[pt];have hw:=Yl (n:=i) 1 1 rfl (by omega);by_cases hlt:i<l.length
 ·have gi:=Xg rtC l i [] hlt;have hltm:i<(l.map Rt.id).length:=by simpa using hlt
  have key:=Lh hltm hq;rw[show(l.map Rt.id)[i]=l[i].id by simp,show(l.map Rt.id)[i - 1]'(by omega)=(l[i - 1]'(by omega)).id by simp] at key;have next:Ye ((l.map Rt.id).take i) l[i].id=true->∀j (hj:j<(l.map Rt.id).length),j<i+1->Ye ((l.map Rt.id).take j) (l.map Rt.id)[j]=true:=fun h j hj hji=>by
   by_cases h':j=i
   ·subst h';rw[show(l.map Rt.id)[j]=l[j].id by simp];exact h
   ·exact hq j hj (by omega)
  have bad:Ye ((l.map Rt.id).take i) l[i].id=false->Ue Ye (l.map Rt.id)=false:=fun h=>Yz hltm (by rw[show(l.map Rt.id)[i]=l[i].id by simp];exact h);by_cases h0:i=0
  ·have hd0:decide ((i:Int)>0)=false:=ak (by omega);rw[ax h0,dx,di] at key;repeat' (first|refine Vk fun K hK=> ?_|apply V0|apply Vb|apply Vs|((first|apply gE|apply gR|apply gS);simp only[zA,simprocAttr,hg,Xi hm,hlt,gi,rtC,X0,hd0,hw])|(apply Vz;refine Vo rfl rfl rfl (fun _ _=>rfl) ?_<;>first|rfl|(rw[bad (by rw[key];simp [Uk] at*;omega)];rfl)|skip)|(refine X3 (Bo l[i]) ?_)|((refine Vg (fun hg=> ?_) (fun hg=> ?_))<;>try simp only[nb] at hg)|(refine hK _ ?_;clear hK K)|refine Vt rfl ?_|refine Vf rfl ?_|clear hK K)
   refine⟨i+1,⟨by omega,fun j hj=>next (by rw[key];simp [Uk] at*;omega) j (by simpa using hj)⟩,by omega,?_⟩;refine Xx [false] ?_ ?_<;>intro n_<;>simp only[sM]
  ·have hd0:decide ((i:Int)>0)=true:=ax (by omega);have hs1:=X25 (n:=i) 1 1 rfl (by omega) (by omega);have hl1:i - 1<l.length:=by omega
   have g1:=Xg rtC l (i - 1) [] hl1;rw[ak h0,ee] at key;repeat' (first|refine Vk fun K hK=> ?_|apply V0|apply Vb|apply Vs|((first|apply gE|apply gR|apply gS);simp only[zA,simprocAttr,hg,Xi hm,hlt,gi,rtC,X0,hd0,hs1,hl1,g1,hw])|(apply Vz;refine Vo rfl rfl rfl (fun _ _=>rfl) ?_<;>first|rfl|(rw[bad (by rw[key];simp [Uk] at*;omega)];rfl)|skip)|(refine X3 (Bo l[i]) ?_)|(refine X3 (Bo l[i - 1]) ?_)|((refine Vg (fun hg=> ?_) (fun hg=> ?_))<;>try simp only[nb] at hg)|(refine hK _ ?_;clear hK K)|refine Vt rfl ?_|refine Vi rfl (fun hg=> ?_) (fun hg=> ?_)|clear hK K)
   refine⟨i+1,⟨by omega,fun j hj=>next (by rw[key];simp [Uk] at*;omega) j (by simpa using hj)⟩,by omega,?_⟩;refine Xx [false] ?_ ?_<;>intro n_<;>simp only[sM]
 ·have hall:=Q3 (f:=Ye) (l:=l.map Rt.id) fun j hj=>hq j hj (by simp at hj;omega);repeat' (first|refine Vk fun K hK=> ?_|apply V0|((first|apply gE|apply gS);simp only[zA,simprocAttr,hlt])|(apply Vz;refine Vo rfl rfl rfl (fun _ _=>rfl) ?_<;>first|rfl|(rw[hall,bo];rfl)|skip)|(apply Vx;simp only[sb])|(refine hK _ ?_;clear hK K)|refine Vf rfl ?_|clear hK K)
theorem Ew (x:Int×Int) (b:Int):Xr Tryz.prog 186 [jnA x,.ref [i64 b]] [] (bool (x.1==b)) []:=by
 have ci:=Re x;simp only[jnA,jnC] at ci;refine Xc 1 Tryz.func186 rfl fun n out _ _=> ?_;simp only[sn,Tryz.ntmps186,simprocAttr];repeat' (first|refine Vk fun K hK=> ?_|apply V0|refine Vq (by kernel_rfl) ?_|((first|apply gE|apply gR);simp only[zA,simprocAttr,jnA,jnC])|(apply Vz;refine Vo rfl rfl rfl (fun _ _=>rfl) ?_<;>first|rfl|skip)|(refine X3 (ci) ?_)|(refine hK _ ?_;clear hK K))
theorem He (l:List (Int×Int)) (b:Int) (hl:l.length<=1000000):Xr Tryz.prog 144 [.sl 2 (l.map jnC) .sh,i64 b] [] (.tup [jnA ((Bt l b).getD ((0,0):Int×Int)),bool (Bt l b).isSome]) []:=by
 have ci:=Sl l _ [.ref [i64 b]] (fun x=>x.1==b) (hb0 186 (by decide) (by decide)) (by omega) fun x _=>Ew x b;rcases Ze (fun x:Int×Int=>x.1==b) l with ⟨h1,h2,h3⟩|⟨i,hi,h1,h2,h3,h4⟩
 ·rw[h1] at ci;rw[show Bt l b=none from h2];refine Xc 3 Tryz.func144 rfl fun n out _ _=> ?_;simp only[sn,Tryz.ntmps144,simprocAttr];refine Vy fun K hK=> ?_;simp only[zA,simprocAttr]
  (refine hK _ ?_;clear hK K)
  refine Yy (Zi (i:=0) (t:=3) 1 (.ref [i64 b]) rfl rfl (.ptr 0)) ?_;simp only[s_0,s_s];repeat' (first|refine Vk fun K hK=> ?_|apply V0|((first|apply gE|apply gR);simp only[zA,simprocAttr,jnA,jnC,X0,Int.reduceNeg,Option.getD_none,Option.isSome_none])|(apply Vz;(first|refine Xp (.inr rfl) rfl rfl rfl (fun _ _=>rfl) ok79 (k:=n+1) (off:=0) rfl (Xb _ (by simp)) (X6 _ (Nat.le_refl _) 1) rfl rfl ?_|refine Xp (.inr rfl) rfl rfl rfl (fun _ _=>rfl) ok79 (k:=m+1) (off:=0) rfl (Xb _ (by simp)) (X6 _ hm 1) rfl rfl ?_)<;>first|rfl|exact AV.le.rfl _|(simp only[sL,ti79,ag,jnA,jnC,X0,Int.reduceLT,Int.reduceNeg,Option.getD_none,Option.isSome_none,X7o];done)|rfl|skip)|(refine X3 (ci) ?_)|(refine hK _ ?_;clear hK K)|refine Vt rfl ?_)
 ·rw[h1] at ci;rw[show Bt l b=some l[i] from h2];have hi0:decide ((i:Int)<0)=false:=ak (by omega);have gi:=Xg jnC l i [] hi;refine Xc 3 Tryz.func144 rfl fun n out _ _=> ?_;simp only[sn,Tryz.ntmps144,simprocAttr];refine Vy fun K hK=> ?_;simp only[zA,simprocAttr]
  (refine hK _ ?_;clear hK K)
  refine Yy (Zi (i:=0) (t:=3) 1 (.ref [i64 b]) rfl rfl (.ptr 0)) ?_;simp only[s_0,s_s];repeat' (first|refine Vk fun K hK=> ?_|apply V0|apply Vs|((first|apply gE|apply gR);simp only[zA,simprocAttr,jnA,jnC,X0,hi0,hi,gi,Option.getD_some])|(apply Vz;(first|refine Xp (.inr rfl) rfl rfl rfl (fun _ _=>rfl) ok79 (k:=n+1) (off:=0) rfl (Xb _ (by simp)) (X6 _ (Nat.le_refl _) 1) rfl rfl ?_|refine Xp (.inr rfl) rfl rfl rfl (fun _ _=>rfl) ok79 (k:=m+1) (off:=0) rfl (Xb _ (by simp)) (X6 _ hm 1) rfl rfl ?_)<;>first|rfl|exact AV.le.rfl _|(simp only[sL,ti79,ag,jnA,jnC,X0,hi0,hi,gi,ai,Option.getD_some,Option.isSome_some];done)|rfl|skip)|(refine X3 (ci) ?_)|(refine hK _ ?_;clear hK K)|refine Vf rfl ?_)
theorem Ex (x:Int×Int×Int) (b:Int):Xr Tryz.prog 185 [sgA x,.ref [i64 b]] [] (bool (x.1==b)) []:=by
 have ci:=Rg x;simp only[sgA,sgC] at ci;refine Xc 1 Tryz.func185 rfl fun n out _ _=> ?_;simp only[sn,Tryz.ntmps185,simprocAttr];repeat' (first|refine Vk fun K hK=> ?_|apply V0|refine Vq (by kernel_rfl) ?_|((first|apply gE|apply gR);simp only[zA,simprocAttr,sgA,sgC])|(apply Vz;refine Vo rfl rfl rfl (fun _ _=>rfl) ?_<;>first|rfl|skip)|(refine X3 (ci) ?_)|(refine hK _ ?_;clear hK K))
theorem Kl (l:List (Int×Int×Int)) (b:Int) (hl:l.length<=1000000):Xr Tryz.prog 143 [.sl 3 (l.map sgC) .sh,i64 b] [] (.tup [sgA ((Xpe l b).getD ((0,0,0):Int×Int×Int)),bool (Xpe l b).isSome]) []:=by
 have ci:=H3 l _ [.ref [i64 b]] (fun x=>x.1==b) (hb0 185 (by decide) (by decide)) (by omega) fun x _=>Ex x b;rcases Ze (fun x:Int×Int×Int=>x.1==b) l with ⟨h1,h2,h3⟩|⟨i,hi,h1,h2,h3,h4⟩
 ·rw[h1] at ci;rw[show Xpe l b=none from h2];refine Xc 3 Tryz.func143 rfl fun n out _ _=> ?_;simp only[sn,Tryz.ntmps143,simprocAttr];refine Vy fun K hK=> ?_;simp only[zA,simprocAttr]
  (refine hK _ ?_;clear hK K)
  refine Yy (Zi (i:=0) (t:=3) 1 (.ref [i64 b]) rfl rfl (.ptr 0)) ?_;simp only[s_0,s_s];repeat' (first|refine Vk fun K hK=> ?_|apply V0|((first|apply gE|apply gR);simp only[zA,simprocAttr,sgA,sgC,X0,Int.reduceNeg,Option.getD_none,Option.isSome_none])|(apply Vz;(first|refine Xp (.inr rfl) rfl rfl rfl (fun _ _=>rfl) ok92 (k:=n+1) (off:=0) rfl (Xb _ (by simp)) (X6 _ (Nat.le_refl _) 1) rfl rfl ?_|refine Xp (.inr rfl) rfl rfl rfl (fun _ _=>rfl) ok92 (k:=m+1) (off:=0) rfl (Xb _ (by simp)) (X6 _ hm 1) rfl rfl ?_)<;>first|rfl|exact AV.le.rfl _|(simp only[sL,ti92,ag,sgA,sgC,X0,Int.reduceLT,Int.reduceNeg,Option.getD_none,Option.isSome_none,X7o];done)|rfl|skip)|(refine X3 (ci) ?_)|(refine hK _ ?_;clear hK K)|refine Vt rfl ?_)
 ·rw[h1] at ci;rw[show Xpe l b=some l[i] from h2];have hi0:decide ((i:Int)<0)=false:=ak (by omega);have gi:=Xg sgC l i [] hi;refine Xc 3 Tryz.func143 rfl fun n out _ _=> ?_;simp only[sn,Tryz.ntmps143,simprocAttr];refine Vy fun K hK=> ?_;simp only[zA,simprocAttr]
  (refine hK _ ?_;clear hK K)
  refine Yy (Zi (i:=0) (t:=3) 1 (.ref [i64 b]) rfl rfl (.ptr 0)) ?_;simp only[s_0,s_s];repeat' (first|refine Vk fun K hK=> ?_|apply V0|apply Vs|((first|apply gE|apply gR);simp only[zA,simprocAttr,sgA,sgC,X0,hi0,hi,gi,Option.getD_some])|(apply Vz;(first|refine Xp (.inr rfl) rfl rfl rfl (fun _ _=>rfl) ok92 (k:=n+1) (off:=0) rfl (Xb _ (by simp)) (X6 _ (Nat.le_refl _) 1) rfl rfl ?_|refine Xp (.inr rfl) rfl rfl rfl (fun _ _=>rfl) ok92 (k:=m+1) (off:=0) rfl (Xb _ (by simp)) (X6 _ hm 1) rfl rfl ?_)<;>first|rfl|exact AV.le.rfl _|(simp only[sL,ti92,ag,sgA,sgC,X0,hi0,hi,gi,ai,Option.getD_some,Option.isSome_some];done)|rfl|skip)|(refine X3 (ci) ?_)|(refine hK _ ?_;clear hK K)|refine Vf rfl ?_)
def cnt (l:List Sec) (k:Nat):Nat:=match Qt l k with
 |some s=>s.ends.length
 |none=>0
def Uj (l:List Sec):List AV:=(List.range 100).map fun k=>i64 (cnt l k:Int)
theorem N4:Uj []=List.replicate 100 (i64 0):=by
 rw[W4,Uj];simp [cnt,Qt]
theorem Yt (l:List Sec):(Uj l).length=100:=by simp [Uj]
theorem U5 (l:List Sec) (j s:Nat) (h:j<100):pick false s (List.drop j (Uj l))=some (i64 (cnt l j:Int)):=Uu _ _ _ _ h
theorem Hf (l:List Sec) (hr:Pk l) (i:Nat) (hi:i<l.length) (j:Nat) (hj:j<100) (hp:l[i].id=j):Yf (Uj (l.take i)) j [.val (.int .i64 (l[i].ends.length:Int))]=Uj (l.take (i+1)):=by
 rw[Uj,Q0 _ _ _ hj,Uj];apply er;intro k hk;have e:Qt (l.take (i+1)) k=if l[i].id=k then some l[i] else Qt (l.take i) k:=by
  unfold Qt;rw[aj hi,fx];by_cases h:l[i].id=k
  ·rw[if_pos h];have:(l.take i).find? (fun s=>s.id==(k:Int))=none:=by
    rw[cx];intro x hx;rw[bm] at hx;obtain⟨q,hq,rfl⟩:=hx;have:=hr i hi q (by omega);simp;omega
   rw[this];simp [h]
  ·rw[if_neg h];simp [h]
 unfold cnt;rw[e];by_cases hkj:k=j
 ·subst hkj;rw[if_pos rfl,if_pos hp]
 ·rw[if_neg hkj,if_neg (by omega)]
theorem X5y (l:List Sec) (hmay:Uq l=true):Xr Tryz.prog 77 [P9 l] [] (.agg (Uj l)) []:=by
 have hr:=N3 hmay;have hl16:=(Kk.1 hmay).1;refine Xc 2 Tryz.func77 rfl fun n out _ _=> ?_;simp only[sn,Tryz.ntmps77,simprocAttr];repeat' (first|refine Vk fun K hK=> ?_|apply V0|(apply gE;simp only[zA,simprocAttr, -List.reduceReplicate])|(refine hK _ ?_;clear hK K))
 apply V5;refine Xrd (l.length) (fun m i=>tp [4] (tr 8 10 [(7,i64 (i:Int)),(2,.ptr (m+0) 0)])) (fun m i=>[some (.box 132 (Uj (l.take i))),none]) ?_ fun m i hm hi=> ?_
 ·refine X2 ?_ ?_ (by first|rfl|(simp only[ai,List.take_zero,N4];rfl)|simp only[ai,List.take_zero,N4]) rfl rfl rfl<;>simp only[sL,N4]
 simp only[pt];have hw:=Yl (n:=i) 1 1 rfl (by omega);by_cases hlt:i<l.length
 ·have gi:=Xg Y6 l i [] hlt;have hn:=(U0 hmay (a8 hlt)).1;rw[U1] at hn;obtain⟨np,hpt⟩:=bj (a:=l[i].id) (by omega);have hnp:np<100:=by omega
  have hnp':(np:Int)<100:=by omega
  have hnp9:np<=99:=by omega
  have hset:=Hf l hr i hlt np hnp hpt;repeat' (first|refine Vk fun K hK=> ?_|apply V0|apply Vb|apply Vs|(apply gE;simp only[zA,simprocAttr, -List.reduceReplicate,Xi hm,hlt,gi,Y6,X0,hpt,hnp',hnp9,Yt,hset,hw])|(refine hK _ ?_;clear hK K)|refine Vt rfl ?_|clear hK K)
  refine⟨i+1,by omega,by omega,?_⟩;refine Xx [true,false] ?_ ?_<;>intro n_<;>simp only[sM]
 ·obtain rfl:i=l.length:=by omega
  repeat' (first|refine Vk fun K hK=> ?_|apply V0|(apply gE;simp only[zA,simprocAttr, -List.reduceReplicate,hlt,bi])|(apply Vz;(first|refine Xu (.inr rfl) rfl rfl rfl (fun _ _=>rfl) ok132 (k:=n+0) (off:=0) rfl (Xb _ (by simp)) (X6 _ (Nat.le_refl _) 0) rfl ?_|refine Xu (.inr rfl) rfl rfl rfl (fun _ _=>rfl) ok132 (k:=m+0) (off:=0) rfl (Xb _ (by simp)) (X6 _ hm 0) rfl ?_)<;>first|rfl|exact AV.le.rfl _|(simp only[sL,ti132,ag,ai,hlt,bi];done)|rfl|skip)|(apply Vx;simp only[sb])|(refine hK _ ?_;clear hK K)|refine Vf rfl ?_|clear hK K)
theorem X3b {l:List Sec} (hmay:Uq l=true) (k:Nat):decide ((cnt l k:Int)>0)=(Qt l k).isSome:=by
 unfold cnt;cases hg:Qt l k with
 |none=>rfl
 |some s=>
  have hs:=(U0 hmay (bg hg)).2;rw[Uv] at hs;simp;omega
theorem Ey {l:List Sec} (hmay:Uq l=true) {b:Int} (h:¬(0<=b∧b<=99)):Qt l b=none:=by
 cases hg:Qt l b with
 |none=>rfl
 |some s=>
  have hs:=(U0 hmay (bg hg)).1;have:=dg hg;rw[U1] at hs;simp at this;omega
theorem Hg (l:List Sec) (b:Int) (hmay:Uq l=true):Xr Tryz.prog 141 [.agg (Uj l),i64 b] [] (bool (Qt l b).isSome) []:=by
 by_cases h:0<=b∧b<=99
 ·obtain⟨nb,rfl⟩:=bj h.1;have hnp:nb<100:=by omega
  have hnp':(nb:Int)<100:=by omega
  have hnp9:nb<=99:=by omega
  have h1:decide ((nb:Int)>=0)=true:=ax h.1;have h2:decide ((nb:Int)<=99)=true:=ax h.2;have hc:=X3b hmay nb;refine Xc 1 Tryz.func141 rfl fun n out _ _=> ?_;simp only[sn,Tryz.ntmps141,simprocAttr];have hg:=Nat.le_refl 0;repeat' (first|refine Vk fun K hK=> ?_|apply V0|((first|apply gE|apply gS);simp only[zA,simprocAttr, -List.reduceReplicate,h2,hnp',U5 l nb 1 hnp,hc])|(apply Vz;refine Vo rfl rfl rfl (fun _ _=>rfl) ?_<;>first|rfl|skip)|(refine hK _ ?_;clear hK K))
 ·rw[Ey hmay h];refine Xc 1 Tryz.func141 rfl fun n out _ _=> ?_;simp only[sn,Tryz.ntmps141,simprocAttr];have hg:=Nat.le_refl 0;repeat' (first|refine Vk fun K hK=> ?_|apply V0|with_reducible apply ab|((first|apply gE|apply gS);simp only[zA,simprocAttr, -List.reduceReplicate,hg])|(apply Vz;refine Vo rfl rfl rfl (fun _ _=>rfl) ?_<;>first|rfl|skip)|((refine Vg (fun hg=> ?_) (fun hg=> ?_))<;>try simp only[nb] at hg)|(refine hK _ ?_;clear hK K)|clear hK K)
  all_goals (exfalso;simp at*;omega)
end Go.Proofs.YtdngdjbgmojcoaaGreat.Pln
namespace Go.Proofs.YtdngdjbgmojcoaaGreat.Pln
set_option linter.all false
set_option maxHeartbeats 4000000
set_option maxRecDepth 4000
open Go Go.VS Tab
theorem X5z {l:List Sec} (h:Uq l=true) {s t:Sec} (hs:s∈l) (ht:t∈l) (e:s.id=t.id):s=t:=by
 obtain⟨i,hi,rfl⟩:=am hs;obtain⟨j,hj,rfl⟩:=am ht;have hr:=N3 h;rcases Nat.lt_trichotomy i j with h1|h1|h1
 ·have:=hr j hj i h1;omega
 ·subst h1;rfl
 ·have:=hr i hi j h1;omega
theorem X60 {l:List Sec} (h:Uq l=true) {s t:Sec} (hs:s∈l) (ht:t∈l) (e:s.pt=t.pt) (h0:s.pt≠0):s=t:=by
 obtain⟨i,hi,rfl⟩:=am hs;obtain⟨j,hj,rfl⟩:=am ht;have hq:=(Kk.1 h).2.1;rcases Nat.lt_trichotomy i j with h1|h1|h1
 ·have:=(((Ui hj).1 (hq j hj)).2.2 i h1).2;omega
 ·subst h1;rfl
 ·have:=(((Ui hi).1 (hq i hi)).2.2 j h1).2;omega
theorem X3c {l:List Sec} (h:Uq l=true) {s:Sec} (hs:s∈l):Qt l s.id=some s:=by
 cases hg:Qt l s.id with
 |none=>
  unfold Qt at hg;rw[cx] at hg;have:=hg s hs;simp at this
 |some t=>
  have h1:=bg hg;have h2:=dg hg;simp only[bq] at h2;rw[X5z h h1 hs h2]
theorem W5 {l:List Sec} {n:Int} {s:Sec} (h:Qt l n=some s):s∈l∧s.id=n:=⟨bg h,by simpa using dg h⟩
def inF (pre:List Sec) (k:Nat):Int:=match pre.find? (fun s=>decide (0<k)&&s.pt==(k:Int)) with
 |some s=>s.id
 |none=>0
def inA (pre:List Sec):List AV:=(List.range 100).map fun k=>i64 (inF pre k)
theorem Br:inA []=List.replicate 100 (i64 0):=by rw[W4,inA];rfl
theorem Rl (pre:List Sec):(inA pre).length=100:=by simp [inA]
theorem Dq (pre:List Sec) (j s:Nat) (h:j<100):pick false s (List.drop j (inA pre))=some (i64 (inF pre j)):=Uu _ _ _ _ h
theorem Sq {l:List Sec} {i k:Nat} (hi:i<l.length) (h:¬(0<k∧l[i].pt=(k:Int))):inF (l.take (i+1)) k=inF (l.take i) k:=by
 unfold inF;rw[aj hi,fx];have:(decide (0<k)&&l[i].pt==(k:Int))=false:=by rw[cv];intro h';simp at h';exact h ⟨h'.1,h'.2⟩
 rw[List.find?_cons,this];cases (l.take i).find? (fun s=>decide (0<k)&&s.pt==(k:Int))<;>rfl
theorem X07 {l:List Sec} {i:Nat} (hi:i<l.length) (h:l[i].pt=0):inA (l.take (i+1))=inA (l.take i):=by
 unfold inA;apply er;intro k hk;rw[Sq hi (by omega)]
theorem X3d {l:List Sec} (hm:Uq l=true) {i:Nat} (hi:i<l.length) (j:Nat) (hj:j<100) (h0:0<j) (hp:l[i].pt=j):Yf (inA (l.take i)) j [i64 l[i].id]=inA (l.take (i+1)):=by
 rw[inA,Q0 _ _ _ hj,inA];apply er;intro k hk;by_cases hkj:k=j
 ·subst hkj;rw[if_pos rfl];unfold inF;rw[aj hi,fx];have h1:(l.take i).find? (fun s=>decide (0<k)&&s.pt==(k:Int))=none:=by
   rw[cx];intro x hx hxp;rw[bm] at hx;obtain⟨q,hq,rfl⟩:=hx;have:=(((Ui hi).1 ((Kk.1 hm).2.1 i hi)).2.2 q (by omega)).2;simp at hxp;omega
  rw[h1];simp [h0,hp]
 ·rw[if_neg hkj,Sq hi (by omega)]
theorem X61 {p:Pl} (hm:Uq p.secs=true) {x:Int×Int} {k:Nat} (hk:x.1=k) (h0:0<k):(decide (x.2=0)||(inF p.secs k !=x.2))= !okP p x:=by
 have key:okP p x=true↔x.2≠0∧inF p.secs k=x.2:=by
  unfold okP;constructor
  ·intro h;cases hg:Qt p.secs x.2 with
   |none=>rw[hg] at h;cases h
   |some s=>
    rw[hg] at h;obtain⟨h1,h2⟩:=W5 hg;have hn:=(U0 hm h1).1;rw[U1] at hn;have hpt:s.pt=k:=by rw[<- hk];simpa using h
    refine⟨by omega,?_⟩;unfold inF;cases hf:p.secs.find? (fun s=>decide (0<k)&&s.pt==(k:Int)) with
    |none=>
     rw[cx] at hf;have:=hf s h1;simp [h0,hpt] at this
    |some t=>
     have h3:=bg hf;have h4:=dg hf;simp at h4;have:=X60 hm h3 h1 (by omega) (by omega);subst this;exact h2
  ·rintro⟨h1,h2⟩;unfold inF at h2;cases hf:p.secs.find? (fun s=>decide (0<k)&&s.pt==(k:Int)) with
   |none=>rw[hf] at h2;exact absurd h2.symm h1
   |some t=>
    rw[hf] at h2;have h3:=bg hf;have h4:=dg hf;simp at h4;rw[<- h2,X3c hm h3];simp;omega
 cases ho:okP p x with
 |true=>
  obtain⟨h1,h2⟩:=key.1 ho;simp [h1,h2]
 |false=>
  have:¬(x.2≠0∧inF p.secs k=x.2):=fun h=>by rw[key.2 h] at ho;cases ho
  by_cases h1:x.2=0
  ·simp [h1]
  ·have h2:inF p.secs k≠x.2:=fun h=>this ⟨h1,h⟩;simp [h1,h2]
theorem X3e {p:Pl} (hm:Uq p.secs=true) (hr:Ue Ye (p.pts.map fun x=>x.1)=true):(!p.pts.any fun x=>decide (x.2=0)||(inF p.secs x.1.toNat !=x.2))=p.pts.all (okP p):=by
 have hx:∀x,x∈p.pts->(decide (x.2=0)||(inF p.secs x.1.toNat !=x.2))= !okP p x:=fun x hx=>by
  obtain⟨i,hi,rfl⟩:=am hx;have h1:=Z3.1 hr i (by simpa using hi);simp only[Ye,da,ad,U1] at h1;exact X61 hm (by omega) (by omega)
 rw[ar,c9,fi,az];constructor
 ·intro h x hxm;have:=h x hxm;rw[hx x hxm] at this;simpa using this
 ·intro h x hxm;rw[hx x hxm,h x hxm];decide
def mark (pre:List (Int×Int×Int)) (q:Nat):Bool:=pre.any fun y=>y.2.1*3+y.2.2==(q:Int)
def P8 (pre:List (Int×Int×Int)):List AV:=(List.range 300).map fun q=>bool (mark pre q)
theorem N5:P8 []=List.replicate 300 (bool false):=by rw[W4,P8];simp [mark]
theorem Sr (pre:List (Int×Int×Int)):(P8 pre).length=300:=by simp [P8]
theorem Pm (pre:List (Int×Int×Int)) (j s:Nat) (h:j<300):pick false s (List.drop j (P8 pre))=some (bool (mark pre j)):=Uu _ _ _ _ h
theorem Hh (l:List (Int×Int×Int)) (i:Nat) (hi:i<l.length) (a b:Nat) (h:a*3+b<300) (ha:l[i].2.1=a) (hb:l[i].2.2=b):Yf (P8 (l.take i)) (a*3+b) [bool true]=P8 (l.take (i+1)):=by
 rw[P8,Q0 _ _ _ h,P8];apply er;intro k hk;have e:mark (l.take (i+1)) k=(mark (l.take i) k||(l[i].2.1*3+l[i].2.2==(k:Int))):=by
  rw[mark,mark,aj hi,iu];simp
 by_cases hk:k=a*3+b
 ·subst hk;rw[if_pos rfl,e,ha,hb]
  congr 2;simp
 ·rw[if_neg hk,e,ha,hb];have:((a:Int)*3+(b:Int)==(k:Int))=false:=by simp;omega
  rw[this,gt]
theorem X3f {pre:List (Int×Int×Int)} (hp:∀y,y∈pre->0<=y.2.2∧y.2.2<3) {a b:Nat} (hb:b<3):mark pre (a*3+b)=pre.any fun y=>y.2==((a:Int),(b:Int)):=by
 rw[ar,mark,f6,f6];constructor
 ·rintro⟨y,hy,h⟩;have:=hp y hy;refine⟨y,hy,?_⟩;simp at h;rw[bq,Prod.ext_iff];exact⟨by simp only;omega,by simp only;omega⟩
 ·rintro⟨y,hy,h⟩;refine⟨y,hy,?_⟩;rw[bq,Prod.ext_iff] at h;simp only at h;simp;omega
end Go.Proofs.YtdngdjbgmojcoaaGreat.Pln
