/- The layer of abstract values, joined. -/
import Derived.Test.YtdngdjbgmojcoaaGreatZPR
import Derived.Test.YtdngdjbgmojcoaaGreatZPM
import Derived.Test.YtdngdjbgmojcoaaGreatZS2
import Derived.Test.YtdngdjbgmojcoaaGreatZPQ
namespace Go.Proofs.YtdngdjbgmojcoaaGreat.Pln
set_option linter.all false
set_option maxHeartbeats 4000000
set_option maxRecDepth 4000
open Go Go.VS Tab
attribute [local irreducible] AWp Xp0 Pg X5c Qy Lt Tp FdT Eb
def Mw (a b:Sec):Bool:=a.id==b.id&&a.pt==b.pt&&a.ends==b.ends
theorem Ay (a b:Sec) (hl:a.ends.length<=1000000):Xr Tryz.prog 71 [Qh a,Qh b] [] (bool (Mw a b)) []:=by
 refine Xc 2 Tryz.func71 rfl fun n out _ _=> ?_;simp only[sn,Tryz.ntmps71,simprocAttr];have hg:=Nat.le_refl 0;repeat' (first|refine Vk fun K hK=> ?_|apply V0|apply Vs|((first|apply gE|apply gS);simp only[zA,simprocAttr,hg,Qh,Y6])|(apply Vz;refine Vo rfl rfl rfl (fun _ _=>rfl) ?_<;>first|rfl|(simp [Mw] at*;simp_all;done)|(simp only[g_0,g_s];refine congrArg VS.bool ?_;rw[Mw,Mu (by simp at*;omega)];simp;done)|skip)|((refine Vg (fun hg=> ?_) (fun hg=> ?_))<;>try simp only[nb] at hg)|(refine hK _ ?_;clear hK K)|refine Vt rfl ?_|refine Vi rfl (fun hg=> ?_) (fun hg=> ?_))
 have hlen:a.ends.length=b.ends.length:=by simp at hg;omega
 have hid:a.id=b.id∧a.pt=b.pt:=by constructor<;>simp_all
 apply V5;refine Xse (a.ends.length) (fun i=>(∀j (hj:j<a.ends.length) (hj':j<b.ends.length),j<i->a.ends[j]=b.ends[j])) (fun i=>tp [4] (tr 27 18 [(5,i64 (i:Int))])) (fun i=>[some (.box 75 [i64 a.id,i64 a.pt,.sl 2 (a.ends.map jnC) .sh]),some (.box 75 [i64 b.id,i64 b.pt,.sl 2 (b.ends.map jnC) .sh])]) (by intros;omega) ?_ fun i hi=> ?_
 ·refine La rfl ?_ ?_<;>simp only[sL]
 obtain⟨hi,hq⟩:=hi;simp only[pt];have hw:=Yl (n:=i) 1 1 rfl (by omega);by_cases hlt:i<a.ends.length
 ·have hlt':i<b.ends.length:=by omega
  have ga:=Xg jnC a.ends i [] hlt;have gb:=Xg jnC b.ends i [] hlt';repeat' (first|refine Vk fun K hK=> ?_|apply V0|apply Vb|apply Vs|with_reducible apply ab|refine Vq (by kernel_rfl) ?_|((first|apply gE|apply gS);simp only[zA,simprocAttr,hg,hlt,hlt',ga,gb,jnC,Lj,hw])|exact Vn|(apply Vz;refine Vo rfl rfl rfl (fun _ _=>rfl) ?_<;>first|rfl|(simp only[g_0,g_s];refine congrArg VS.bool ?_;rw[Mw,Ut hlt hlt' (by simpa using hg)];simp;done)|skip)|(refine hK _ ?_;clear hK K)|refine Vt rfl ?_|refine Vi rfl (fun hg=> ?_) (fun hg=> ?_)|((first|show Program.eqGuardType _ _ _=false|show Xs _ _ _=true|show Program.stoodInHeld _ _=false);kernel_rfl)|clear hK K)
  refine⟨i+1,⟨by omega,fun j hj hj' hji=> ?_⟩,by omega,?_⟩
  ·by_cases h:j=i
   ·subst h;simpa using hg
   ·exact hq j hj hj' (by omega)
  refine La rfl ?_ ?_<;>simp only[sL]
 ·have e:=Ua (l:=a.ends) (m:=b.ends) hlen fun j hj hj'=>hq j hj hj' (by omega);have e2:Mw a b=true:=by rw[Mw,e,hid.1,hid.2];simp
  repeat' (first|refine Vk fun K hK=> ?_|apply V0|((first|apply gE|apply gS);simp only[zA,simprocAttr,hlt])|(apply Vz;refine Vo rfl rfl rfl (fun _ _=>rfl) ?_<;>first|rfl|(rw[e2];rfl)|skip)|(apply Vx;simp only[sb])|(refine hK _ ?_;clear hK K)|refine Vf rfl ?_|clear hK K)
def Lw (l m':List Sec):Bool:=Fv Mw l m'
theorem H5 (l m':List Sec) (hl:l.length<=1000000) (he:∀s,s∈l->s.ends.length<=1000000):Xr Tryz.prog 40 [P9 l,P9 m'] [] (bool (Lw l m')) []:=by
 refine Xc 0 Tryz.func40 rfl fun n out _ _=> ?_;simp only[sn,Tryz.ntmps40,simprocAttr];repeat' (first|refine Vk fun K hK=> ?_|apply V0|apply Vs|(apply gE;simp only[zA,simprocAttr])|(apply Vz;refine Vo rfl rfl rfl (fun _ _=>rfl) ?_<;>first|rfl|(rw[Lw,Rj (by simp at*;omega)];rfl)|skip)|(refine hK _ ?_;clear hK K)|refine Vi rfl (fun hg=> ?_) (fun hg=> ?_))
 have hlen:l.length=m'.length:=by simp at hg;omega
 apply V5;refine Xse (l.length) (fun i=>(∀j (hj:j<l.length) (hj':j<m'.length),j<i->Mw l[j] m'[j]=true)) (fun i=>tp [4] (tr 11 16 [(5,i64 (i:Int))])) (fun i=>[]) (by intros;omega) ?_ fun i hi=> ?_
 ·refine La rfl ?_ ?_<;>simp only[sL]
 obtain⟨hi,hq⟩:=hi;simp only[pt];have hw:=Yl (n:=i) 1 1 rfl (by omega);by_cases hlt:i<l.length
 ·have hlt':i<m'.length:=by omega
  have ga:=Xg Y6 l i [] hlt;have gb:=Xg Y6 m' i [] hlt';repeat' (first|refine Vk fun K hK=> ?_|apply V0|apply Vb|apply Vs|refine Vq (by kernel_rfl) ?_|((first|apply gE|apply gR);simp only[zA,simprocAttr,hlt,hlt',ga,gb,X0b,hw])|(apply Vz;refine Vo rfl rfl rfl (fun _ _=>rfl) ?_<;>first|rfl|(rw[Lw,Xo5 hlt hlt' (by simpa using hg)];rfl)|skip)|(refine X3 (Ay _ _ (he _ (a8 hlt))) ?_)|(refine hK _ ?_;clear hK K)|refine Vt rfl ?_|refine Vi rfl (fun hg=> ?_) (fun hg=> ?_)|clear hK K)
  refine⟨i+1,⟨by omega,fun j hj hj' hji=> ?_⟩,by omega,?_⟩
  ·by_cases h:j=i
   ·subst h;simpa using hg
   ·exact hq j hj hj' (by omega)
  refine La rfl ?_ ?_<;>simp only[sL]
 ·have e:=Xo4 (p:=Mw) hlen fun j hj hj'=>hq j hj hj' (by omega);repeat' (first|refine Vk fun K hK=> ?_|apply V0|(apply gE;simp only[zA,simprocAttr,hlt])|(apply Vz;refine Vo rfl rfl rfl (fun _ _=>rfl) ?_<;>first|rfl|(rw[Lw,e];rfl)|skip)|(apply Vx;simp only[sb])|(refine hK _ ?_;clear hK K)|refine Vf rfl ?_|clear hK K)
theorem Eo (a:Sec):Mw a a=true:=by simp [Mw]
theorem Bp (l:List Sec):Lw l l=true:=Xo4 rfl fun i hi hi'=>Eo _
theorem Em (l:List (Int×Int)) (b:Int) (hl:l.length<=1000000):Xr Tryz.prog 192 [.sl 2 (l.map jnC) .sh,i64 b] [] (i64 (idx (fun x=>x.1==b) l)) []:=by
 refine Xc 0 Tryz.func192 rfl fun n out _ _=> ?_;simp only[sn,Tryz.ntmps192,simprocAttr];repeat' (first|refine Vk fun K hK=> ?_|apply V0|(apply gE;simp only[zA,simprocAttr])|(refine hK _ ?_;clear hK K))
 apply V5;refine Xse (l.length) (fun i=>(∀j (hj:j<l.length),j<i->(l[j].1==b)=false)) (fun i=>tp [4] (tr 6 14 [(5,i64 (i:Int))])) (fun i=>[]) (by intros;omega) ?_ fun i hi=> ?_
 ·refine La rfl ?_ ?_<;>simp only[sL]
 obtain⟨hi,hq⟩:=hi;simp only[pt];have hw:=Yl (n:=i) 1 1 rfl (by omega);by_cases hlt:i<l.length
 ·have gi:=Xg jnC l i [] hlt;repeat' (first|refine Vk fun K hK=> ?_|apply V0|apply Vb|apply Vs|(apply gE;simp only[zA,simprocAttr,hlt,gi,jnC,hw])|(apply Vz;refine Vo rfl rfl rfl (fun _ _=>rfl) ?_<;>first|rfl|(rw[Ko (p:=fun x:Int×Int=>x.1==b) hlt (by simp at*;simp_all) fun j hj=>hq j (by omega) hj];rfl)|skip)|(refine hK _ ?_;clear hK K)|refine Vt rfl ?_|refine Vi rfl (fun hg=> ?_) (fun hg=> ?_)|clear hK K)
  refine⟨i+1,⟨by omega,fun j hj hji=> ?_⟩,by omega,?_⟩
  ·by_cases h:j=i
   ·subst h;exact hg
   ·exact hq j hj (by omega)
  refine La rfl ?_ ?_<;>simp only[sL]
 ·repeat' (first|refine Vk fun K hK=> ?_|apply V0|(apply gE;simp only[zA,simprocAttr,hlt])|(apply Vz;refine Vo rfl rfl rfl (fun _ _=>rfl) ?_<;>first|rfl|(rw[Kn (p:=fun x:Int×Int=>x.1==b) (l:=l) fun j hj=>hq j hj (by omega)];rfl)|skip)|(apply Vx;simp only[sb])|(refine hK _ ?_;clear hK K)|refine Vf rfl ?_|clear hK K)
theorem Vj (l:List (Int×Int×Int)) (b:Int) (hl:l.length<=1000000):Xr Tryz.prog 190 [.sl 3 (l.map sgC) .sh,i64 b] [] (i64 (idx (fun x=>x.1==b) l)) []:=by
 refine Xc 0 Tryz.func190 rfl fun n out _ _=> ?_;simp only[sn,Tryz.ntmps190,simprocAttr];repeat' (first|refine Vk fun K hK=> ?_|apply V0|(apply gE;simp only[zA,simprocAttr])|(refine hK _ ?_;clear hK K))
 apply V5;refine Xse (l.length) (fun i=>(∀j (hj:j<l.length),j<i->(l[j].1==b)=false)) (fun i=>tp [4] (tr 6 14 [(5,i64 (i:Int))])) (fun i=>[]) (by intros;omega) ?_ fun i hi=> ?_
 ·refine La rfl ?_ ?_<;>simp only[sL]
 obtain⟨hi,hq⟩:=hi;simp only[pt];have hw:=Yl (n:=i) 1 1 rfl (by omega);by_cases hlt:i<l.length
 ·have gi:=Xg sgC l i [] hlt;repeat' (first|refine Vk fun K hK=> ?_|apply V0|apply Vb|apply Vs|(apply gE;simp only[zA,simprocAttr,hlt,gi,sgC,hw])|(apply Vz;refine Vo rfl rfl rfl (fun _ _=>rfl) ?_<;>first|rfl|(rw[Ko (p:=fun x:Int×Int×Int=>x.1==b) hlt (by simp at*;simp_all) fun j hj=>hq j (by omega) hj];rfl)|skip)|(refine hK _ ?_;clear hK K)|refine Vt rfl ?_|refine Vi rfl (fun hg=> ?_) (fun hg=> ?_)|clear hK K)
  refine⟨i+1,⟨by omega,fun j hj hji=> ?_⟩,by omega,?_⟩
  ·by_cases h:j=i
   ·subst h;exact hg
   ·exact hq j hj (by omega)
  refine La rfl ?_ ?_<;>simp only[sL]
 ·repeat' (first|refine Vk fun K hK=> ?_|apply V0|(apply gE;simp only[zA,simprocAttr,hlt])|(apply Vz;refine Vo rfl rfl rfl (fun _ _=>rfl) ?_<;>first|rfl|(rw[Kn (p:=fun x:Int×Int×Int=>x.1==b) (l:=l) fun j hj=>hq j hj (by omega)];rfl)|skip)|(apply Vx;simp only[sb])|(refine hK _ ?_;clear hK K)|refine Vf rfl ?_|clear hK K)
theorem Yet (l:List (Rt)) (b:Int) (hl:l.length<=1000000):Xr Tryz.prog 152 [.sl 7 (l.map rtC) .sh,i64 b] [] (i64 (idx (fun x=>x.id==b) l)) []:=by
 refine Xc 0 Tryz.func152 rfl fun n out _ _=> ?_;simp only[sn,Tryz.ntmps152,simprocAttr];repeat' (first|refine Vk fun K hK=> ?_|apply V0|apply Vb|apply Vc|apply Vr|apply Vs|with_reducible apply ab|((first|apply gE|apply gR);simp only[zA,simprocAttr])|exact Vn|(apply Vz;refine Vo rfl rfl rfl (fun _ _=>rfl) ?_<;>first|rfl|skip)|(apply Vx;simp only[sb,reduceIte,Nat.reduceEqDiff])|(refine hK _ ?_;clear hK K)|refine Vt rfl ?_|refine Vf rfl ?_|refine Vi rfl (fun hg=> ?_) (fun hg=> ?_)|clear hK K)
 apply V5;refine Xse (l.length) (fun i=>(∀j (hj:j<l.length),j<i->(l[j].id==b)=false)) (fun i=>tp [4] (tr 6 14 [(5,i64 (i:Int))])) (fun i=>[]) (by intros;omega) ?_ fun i hi=> ?_
 ·refine La rfl ?_ ?_<;>simp only[sL]
 obtain⟨hi,hq⟩:=hi;simp only[pt];have hw:=Yl (n:=i) 1 1 rfl (by omega);by_cases hlt:i<l.length
 ·have gi:=Xg rtC l i [] hlt;repeat' (first|refine Vk fun K hK=> ?_|apply V0|apply Vb|apply Vc|apply Vr|apply Vs|with_reducible apply ab|((first|apply gE|apply gR);simp only[zA,simprocAttr,hlt,gi,rtC,hw])|exact Vn|(apply Vz;refine Vo rfl rfl rfl (fun _ _=>rfl) ?_<;>first|rfl|(rw[Ko (p:=fun x:Rt=>x.id==b) hlt (by simp at*;simp_all) fun j hj=>hq j (by omega) hj];rfl)|skip)|(apply Vx;simp only[sb,reduceIte,Nat.reduceEqDiff])|(refine hK _ ?_;clear hK K)|refine Vt rfl ?_|refine Vf rfl ?_|refine Vi rfl (fun hg=> ?_) (fun hg=> ?_)|clear hK K)
  refine⟨i+1,⟨by omega,fun j hj hji=> ?_⟩,by omega,?_⟩
  ·by_cases h:j=i
   ·subst h;exact hg
   ·exact hq j hj (by omega)
  refine La rfl ?_ ?_<;>simp only[sL]
 ·repeat' (first|refine Vk fun K hK=> ?_|apply V0|apply Vb|apply Vc|apply Vr|apply Vs|with_reducible apply ab|((first|apply gE|apply gR);simp only[zA,simprocAttr,hlt])|exact Vn|(apply Vz;refine Vo rfl rfl rfl (fun _ _=>rfl) ?_<;>first|rfl|(rw[Kn (p:=fun x:Rt=>x.id==b) (l:=l) fun j hj=>hq j hj (by omega)];rfl)|skip)|(apply Vx;simp only[sb])|(refine hK _ ?_;clear hK K)|refine Vt rfl ?_|refine Vf rfl ?_|refine Vi rfl (fun hg=> ?_) (fun hg=> ?_)|clear hK K)
theorem H1 (l m':List Int) (hl:l.length<=1000000):Xr Tryz.prog 72 [X62 l,X62 m'] [] (bool (l==m')) []:=by
 refine Xc 0 Tryz.func72 rfl fun n out _ _=> ?_;simp only[sn,Tryz.ntmps72,simprocAttr];repeat' (first|refine Vk fun K hK=> ?_|apply V0|apply Vs|(apply gE;simp only[zA,simprocAttr])|(apply Vz;refine Vo rfl rfl rfl (fun _ _=>rfl) ?_<;>first|rfl|(rw[Mu (by intro h;simp [h] at hg)];rfl)|skip)|(refine hK _ ?_;clear hK K)|refine Vi rfl (fun hg=> ?_) (fun hg=> ?_))
 have hlen:l.length=m'.length:=by simp at hg;omega
 apply V5;refine Xse (l.length) (fun i=>(∀j (hj:j<l.length) (hj':j<m'.length),j<i->l[j]=m'[j])) (fun i=>tp [4] (tr 11 15 [(5,i64 (i:Int))])) (fun i=>[]) (by intros;omega) ?_ fun i hi=> ?_
 ·refine X2 ?_ ?_ (by first|rfl|(simp only[ai];rfl)|simp only[ai]) rfl rfl rfl<;>simp only[sL]
 obtain⟨hi,hq⟩:=hi;simp only[pt];have hw:=Yl (n:=i) 1 1 rfl (by omega);by_cases hlt:i<l.length
 ·have hlt':i<m'.length:=by omega
  have ga:=Xg Ym l i [] hlt;have gb:=Xg Ym m' i [] hlt';repeat' (first|refine Vk fun K hK=> ?_|apply V0|apply Vb|apply Vs|refine Vq (by kernel_rfl) ?_|(apply gE;simp only[zA,simprocAttr,hlt,hlt',ga,gb,Ym,hw])|(apply Vz;refine Vo rfl rfl rfl (fun _ _=>rfl) ?_<;>first|rfl|(rw[Ut hlt hlt' (by simpa using hg)];rfl)|skip)|(refine hK _ ?_;clear hK K)|refine Vt rfl ?_|refine Vi rfl (fun hg=> ?_) (fun hg=> ?_)|clear hK K)
  refine⟨i+1,⟨by omega,fun j hj hj' hji=> ?_⟩,by omega,?_⟩
  ·by_cases h:j=i
   ·subst h;simpa using hg
   ·exact hq j hj hj' (by omega)
  refine La rfl ?_ ?_<;>simp only[sL]
 ·have e:=Ua (l:=l) (m:=m') hlen fun j hj hj'=>hq j hj hj' (by omega);repeat' (first|refine Vk fun K hK=> ?_|apply V0|(apply gE;simp only[zA,simprocAttr,hlt])|(apply Vz;refine Vo rfl rfl rfl (fun _ _=>rfl) ?_<;>first|rfl|(rw[e];rfl)|skip)|(apply Vx;simp only[sb])|(refine hK _ ?_;clear hK K)|refine Vf rfl ?_|clear hK K)
theorem Do {α:Type} (g:α->Int) (l:List α) (i:Nat) (hi:i<l.length) (hq:∀j (hj:j<i),Ye ((l.take j).map g) (g (l[j]'(by omega)))=true):
  Ye ((l.take i).map g) (g l[i])=(Uk (g l[i])&&(decide (i=0)||decide (g (l[i - 1]'(by omega))<g l[i]))):=by
 unfold Ye;rw[List.all_map,<- Bs g l i hi fun j hj k hk=>by
  have h:=hq j hj;simp only[Ye,ad,List.all_map,az,Function.comp_apply,ao] at h;exact h.2 _ (Z8 hk (by omega))]
 rfl
theorem Ml {α:Type} {g:α->Int} {l:List α}:Ue Ye (l.map g)=true↔∀i (hi:i<l.length),Ye ((l.take i).map g) (g l[i])=true:=by
 rw[Z3];constructor
 ·intro h i hi;have:=h i (by simpa using hi);rwa [<- ip,da] at this
 ·intro h i hi;have hi':i<l.length:=by simpa using hi
  have:=h i hi';rw[da,<- ip];exact this
theorem Dp {α:Type} {g:α->Int} {l:List α} {i:Nat} (hi:i<l.length) (h:Ye ((l.take i).map g) (g l[i])=false):Ue Ye (l.map g)=false:=by
 rw[cv];intro h';rw[Ml.1 h' i hi] at h;cases h
theorem Bq (n:Int):Uk n=(!decide (n<1)&& !decide (n>99)):=by
 rw[ar,U1];simp
def X01 (p:Pl) (i:Nat):Bool:=match p.pts[i]? with
 |some x=>Ye ((p.pts.take i).map Prod.fst) x.1&&okP p x
 |none=>true
theorem Mx {p:Pl} {i:Nat} (hi:i<p.pts.length):X01 p i=(Ye ((p.pts.take i).map Prod.fst) p.pts[i].1&&okP p p.pts[i]):=by
 unfold X01;rw[ah hi]
theorem H9 {p:Pl} {i:Nat} (hi:i<p.pts.length) (h:X01 p i=false):Ul p=false:=by
 unfold Ul;rw[Mx hi,fe] at h;rcases h with h|h
 ·rw[Dp (g:=Prod.fst) hi h];simp
 ·rw[Kp hi h,dm]
theorem Ha {p:Pl} (h:∀i (hi:i<p.pts.length),X01 p i=true):Ul p=(decide ((p.pts.length:Int)<=6)&&((Xwe p.secs:Nat):Int)==(p.pts.length:Int)):=by
 have h1:Ue Ye (p.pts.map Prod.fst)=true:=Ml.2 fun i hi=>by
  have:=h i hi;rw[Mx hi,ad] at this;exact this.1
 have h2:p.pts.all (okP p)=true:=Mm fun i hi=>by
  have:=h i hi;rw[Mx hi,ad] at this;exact this.2
 unfold Ul;rw[h1,h2,di,bo];rw[ar];simp [Xwe];omega
theorem Hb (p:Pl) (hs:SmB p):Xr Tryz.prog 147 [plA p] [] (bool (Ul p)) []:=by
 have h1:=hs.pts;have h2:=hs.secs;refine Xc 2 Tryz.func147 rfl fun n out _ _=> ?_;simp only[sn,Tryz.ntmps147,simprocAttr];have hg:=Nat.le_refl 0;repeat' (first|refine Vk fun K hK=> ?_|apply V0|((first|apply gE|apply gS);simp only[zA,simprocAttr,plA,plC])|(refine hK _ ?_;clear hK K))
 apply V5;refine Xwm (p.secs.length) (fun i=>tr 8 16 [(4,i64 (i:Int)),(3,i64 (Xwe (p.secs.take i):Int))]) (fun i=>[some (.box 28 (plC p)),none]) ?_ fun i hi=> ?_
 ·refine X2 ?_ ?_ (by first|rfl|(simp only[plC,ai,List.take_zero,Xsd];rfl)|simp only[plC,ai,List.take_zero,Xsd]) rfl rfl rfl<;>simp only[sL,plC,Xsd]
 simp only[pt];have hw:=Yl (n:=i) 1 1 rfl (by omega);by_cases hlt:i<p.secs.length
 ·have gi:=Xg Y6 p.secs i [] hlt;have hsc:=Sn hlt;have hcl:=H7 (p.secs.take i);have hcl2:(p.secs.take i).length<=1000:=by rw[ba];omega
  have hw2:=Yl (n:=Xwe (p.secs.take i)) 1 1 rfl (by omega);cases h0:(p.secs[i].pt !=0) with
  |false=>
   rw[if_pos (by simpa using h0)] at hsc;replace hsc:=hsc.trans (Nat.add_zero _);repeat' (first|refine Vk fun K hK=> ?_|apply V0|apply Vb|apply Vs|((first|apply gE|apply gS);simp only[zA,simprocAttr,plC,hlt,gi,Y6,h0,hw])|(refine hK _ ?_;clear hK K)|refine Vt rfl ?_|refine Vf rfl ?_|clear hK K)
   refine⟨i+1,by omega,by omega,?_⟩;rw[hsc];refine La rfl ?_ ?_<;>simp only[sL]
  |true=>
   rw[if_neg (by simpa using h0)] at hsc;repeat' (first|refine Vk fun K hK=> ?_|apply V0|apply Vb|apply Vs|((first|apply gE|apply gS);simp only[zA,simprocAttr,plC,hlt,gi,Y6,h0,hw,hw2])|(refine hK _ ?_;clear hK K)|refine Vt rfl ?_|clear hK K)
   refine⟨i+1,by omega,by omega,?_⟩;rw[hsc];refine La rfl ?_ ?_<;>simp only[sL]
 ·obtain rfl:i=p.secs.length:=by omega
  repeat' (first|refine Vk fun K hK=> ?_|apply V0|((first|apply gE|apply gS);simp only[zA,simprocAttr,plC,hlt,bi])|(apply Vx;simp only[sb])|(refine hK _ ?_;clear hK K)|refine Vf rfl ?_|clear hK K)
  apply V5;refine Xpw (p.pts.length) (fun i=>(∀j,j<i->X01 p j=true)) (fun m i=>tp [2,6,7] (tr 24 56 [(5,i64 (i:Int)),(1,.ptr (m+0) 0)])) (fun m i=>[some (.box 28 (plC p)),none]) (by intros;omega) ?_ fun m i hm hi=> ?_
  ·refine X2 ?_ ?_ (by first|rfl|(simp only[plC,ai];rfl)|simp only[plC,ai]) rfl rfl rfl<;>simp only[sL,plC]
  obtain⟨hi,hq⟩:=hi;simp only[pt];have hw:=Yl (n:=i) 1 1 rfl (by omega);by_cases hlt:i<p.pts.length
  ·have gi:=Xg jnC p.pts i [] hlt;have ca:=X39 p.secs p.pts[i].2 (by omega);have ho:=Mx hlt;rw[Do Prod.fst p.pts i hlt fun j hj=>by
    have:=hq j hj;rw[Mx (by omega),ad] at this;exact this.1,Bq] at ho
   have next:X01 p i=true->∀j,j<i+1->X01 p j=true:=fun h j hj=>by
    by_cases h':j=i
    ·subst h';exact h
    ·exact hq j (by omega)
   have bad:X01 p i=false->Ul p=false:=fun h=>H9 hlt h;clear hq;generalize X01 p i=O at*;by_cases h0:i=0
   ·have hd0:decide ((i:Int)>0)=false:=ak (by omega);rw[ax h0,dx,di] at ho;rcases Ze (fun s:Sec=>s.id==p.pts[i].2) p.secs with ⟨z1,z2,z3⟩|⟨k,hk,z1,z2,z3,z4⟩
    ·have hkn:okP p p.pts[i]=false:=by unfold okP Qt;rw[z2]
     rw[hkn,dm] at ho;rw[z1] at ca;repeat' (first|refine Vk fun K hK=> ?_|apply V0|apply Vb|apply Vs|refine Vd 12 [] [[],[1],[],[],[],[1],[],[],[],[],[],[],[],[0],[],[],[],[],[],[],[1],[],[],[],[],[],[],[],[],[],[0],[],[],[],[],[],[1],[],[]] [[],[],[],[],[],[],[],[],[],[],[],[],[],[],[],[],[],[],[],[],[],[],[],[],[],[],[],[],[],[],[],[],[],[],[],[],[],[],[]] (by kernel_rfl) (by decide) (by decide) (by kernel_rfl) ?_|((first|apply gE|apply gR|apply gD|apply gS|refine gS2 ?_);simp only[zA,simprocAttr,hg,sg,Xi hm,plC,hlt,gi,jnC,X0,hd0,Int.reduceNeg])|(apply Vz;refine Vo rfl rfl rfl (fun _ _=>rfl) ?_<;>first|rfl|(rw[bad ho];rfl)|skip)|(refine X3 (ca) ?_)|((first|refine Vg (fun hg=> ?_) (fun hg=> ?_)|refine Y5 (fun hg=> ?_) (fun hg=> ?_))<;>try simp only[nb] at hg)|(refine hK _ ?_;clear hK K)|refine Vt rfl ?_)
    ·have hkn:okP p p.pts[i]= !(p.secs[k].pt !=p.pts[i].1):=by unfold okP Qt;rw[z2];simp [bne]
     have hk0:decide ((k:Int)<0)=false:=ak (by omega);have gk:=Xg Y6 p.secs k [] hk;rw[z1] at ca;rw[hkn] at ho;clear hkn z1 z2 z3 z4;repeat' (first|refine Vk fun K hK=> ?_|apply V0|apply Vb|apply Vs|refine Vd 12 [] [[],[1],[],[],[],[1],[],[],[],[],[],[],[],[0],[],[],[],[],[],[],[1],[],[],[],[],[],[],[],[],[],[0],[],[],[],[],[],[1],[],[]] [[],[],[],[],[],[],[],[],[],[],[],[],[],[],[],[],[],[],[],[],[],[],[],[],[],[],[],[],[],[],[],[],[],[],[],[],[],[],[]] (by kernel_rfl) (by decide) (by decide) (by kernel_rfl) ?_|((first|apply gE|apply gR|apply gD|apply gS|refine gS2 ?_);simp only[zA,simprocAttr,hg,sg,Xi hm,plC,hlt,gi,jnC,X0,hd0,hk0,hk,gk,Y6,hw])|(apply Vz;refine Vo rfl rfl rfl (fun _ _=>rfl) ?_<;>first|rfl|(rw[bad (by rw[ho];simp_all)];rfl)|skip)|(refine X3 (ca) ?_)|((first|refine Vg (fun hg=> ?_) (fun hg=> ?_)|refine Y5 (fun hg=> ?_) (fun hg=> ?_))<;>try simp only[nb] at hg)|(refine hK _ ?_;clear hK K)|refine Vt rfl ?_|refine Vi rfl (fun hg=> ?_) (fun hg=> ?_)|clear hK K)
     refine⟨i+1,⟨by omega,next (by rw[ho];simp_all)⟩,by omega,?_⟩;refine Xx [true,false] ?_ ?_<;>intro n_<;>simp only[sM]
   ·have hd0:decide ((i:Int)>0)=true:=ax (by omega);have hs1:=X25 (n:=i) 1 1 rfl (by omega) (by omega);have hl1:i - 1<p.pts.length:=by omega
    have g1:=Xg jnC p.pts (i - 1) [] hl1;have hge:decide (p.pts[i - 1].1>=p.pts[i].1)= !decide (p.pts[i - 1].1<p.pts[i].1):=by rw[ar];simp
    rw[ak h0,ee] at ho;generalize decide (p.pts[i - 1].1<p.pts[i].1)=D at hge ho;rcases Ze (fun s:Sec=>s.id==p.pts[i].2) p.secs with ⟨z1,z2,z3⟩|⟨k,hk,z1,z2,z3,z4⟩
    ·have hkn:okP p p.pts[i]=false:=by unfold okP Qt;rw[z2]
     rw[hkn,dm] at ho;rw[z1] at ca;repeat' (first|refine Vk fun K hK=> ?_|apply V0|apply Vb|apply Vs|refine Vd 12 [] [[],[1],[],[],[],[1],[],[],[],[],[],[],[],[0],[],[],[],[],[],[],[1],[],[],[],[],[],[],[],[],[],[0],[],[],[],[],[],[1],[],[]] [[],[],[],[],[],[],[],[],[],[],[],[],[],[],[],[],[],[],[],[],[],[],[],[],[],[],[],[],[],[],[],[],[],[],[],[],[],[],[]] (by kernel_rfl) (by decide) (by decide) (by kernel_rfl) ?_|((first|apply gE|apply gR|apply gD|apply gS|refine gS2 ?_);simp only[zA,simprocAttr,hg,sg,Xi hm,plC,hlt,gi,jnC,X0,hd0,hs1,hl1,g1,hge,Int.reduceNeg])|(apply Vz;refine Vo rfl rfl rfl (fun _ _=>rfl) ?_<;>first|rfl|(rw[bad ho];rfl)|skip)|(refine X3 (ca) ?_)|((first|refine Vg (fun hg=> ?_) (fun hg=> ?_)|refine Y5 (fun hg=> ?_) (fun hg=> ?_))<;>try simp only[nb] at hg)|(refine hK _ ?_;clear hK K)|refine Vt rfl ?_)
    ·have hkn:okP p p.pts[i]= !(p.secs[k].pt !=p.pts[i].1):=by unfold okP Qt;rw[z2];simp [bne]
     have hk0:decide ((k:Int)<0)=false:=ak (by omega);have gk:=Xg Y6 p.secs k [] hk;rw[z1] at ca;rw[hkn] at ho;clear hkn z1 z2 z3 z4;repeat' (first|refine Vk fun K hK=> ?_|apply V0|apply Vb|apply Vs|refine Vd 12 [] [[],[1],[],[],[],[1],[],[],[],[],[],[],[],[0],[],[],[],[],[],[],[1],[],[],[],[],[],[],[],[],[],[0],[],[],[],[],[],[1],[],[]] [[],[],[],[],[],[],[],[],[],[],[],[],[],[],[],[],[],[],[],[],[],[],[],[],[],[],[],[],[],[],[],[],[],[],[],[],[],[],[]] (by kernel_rfl) (by decide) (by decide) (by kernel_rfl) ?_|((first|apply gE|apply gR|apply gD|apply gS|refine gS2 ?_);simp only[zA,simprocAttr,hg,sg,Xi hm,plC,hlt,gi,jnC,X0,hd0,hs1,hl1,g1,hge,hk0,hk,gk,Y6,hw])|(apply Vz;refine Vo rfl rfl rfl (fun _ _=>rfl) ?_<;>first|rfl|(rw[bad (by rw[ho];clear hge;simp_all)];rfl)|skip)|(refine X3 (ca) ?_)|((first|refine Vg (fun hg=> ?_) (fun hg=> ?_)|refine Y5 (fun hg=> ?_) (fun hg=> ?_))<;>try simp only[nb] at hg)|(refine hK _ ?_;clear hK K)|refine Vt rfl ?_|refine Vi rfl (fun hg=> ?_) (fun hg=> ?_)|clear hK K)
     refine⟨i+1,⟨by omega,next (by rw[ho];clear hge;simp_all)⟩,by omega,?_⟩;refine Xx [true,false] ?_ ?_<;>intro n_<;>simp only[sM]
  ·have e:=Ha fun j hj=>hq j (by omega);obtain rfl:i=p.pts.length:=by omega
   clear hq;repeat' (first|refine Vk fun K hK=> ?_|apply V0|((first|apply gE|apply gS);simp only[zA,simprocAttr,hg,Xi hm,plC,hlt])|(apply Vz;refine Vo rfl rfl rfl (fun _ _=>rfl) ?_<;>first|rfl|(rw[e];simp only[g_0,g_s];refine congrArg VS.bool ?_;clear e;first|(simp_all;done)|(simp_all;omega))|skip)|((refine Vg (fun hg=> ?_) (fun hg=> ?_))<;>try simp only[nb] at hg)|(apply Vx;simp only[sb])|(refine hK _ ?_;clear hK K)|refine Vf rfl ?_|clear hK K)
def Fb (p:Pl) (x:Int×Int×Int):Bool:=Uk x.1&&match Qt p.secs x.2.1 with
 |none=>false
 |some s=>decide (0<=x.2.2)&&decide (x.2.2<s.ends.length)
def Ki (y x:Int×Int×Int):Bool:= !(decide (y.1>=x.1)||(y.2.1==x.2.1&&y.2.2==x.2.2))
theorem My {y x:Int×Int×Int}:Ki y x=true↔y.1<x.1∧(y.2==x.2)=false:=by
 obtain⟨a,b,c⟩:=y;obtain⟨d,e,f⟩:=x;simp only[Ki,c9,dj,fe,dt,dz,gu,ne_eq,gu];omega
theorem Mz {p:Pl}:Qu p=true↔p.sgs.length<=10∧∀i (hi:i<p.sgs.length),Fb p p.sgs[i]=true∧∀m (hm:m<i),Ki (p.sgs[m]'(by omega)) p.sgs[i]=true:=by
 have key:∀i (hi:i<p.sgs.length),(Ye ((p.sgs.take i).map Prod.fst) p.sgs[i].1=true∧okG p (p.sgs.take i) p.sgs[i]=true)↔(Fb p p.sgs[i]=true∧∀m (hm:m<i),Ki (p.sgs[m]'(by omega)) p.sgs[i]=true):=by
  intro i hi;unfold Ye okG Fb;simp only[ad,List.all_map,az,Function.comp_apply,ao,c9];constructor
  ·rintro⟨⟨h1,h2⟩,h3,h4⟩;refine⟨⟨h1,h3⟩,fun m hm=>My.2 ⟨h2 _ (Z8 hm (by omega)),h4 _ (Z8 hm (by omega))⟩⟩
  ·rintro⟨⟨h1,h3⟩,h5⟩;refine⟨⟨h1,fun x hx=> ?_⟩,h3,fun x hx=> ?_⟩
   ·rw[bm] at hx;obtain⟨m,hm,rfl⟩:=hx;exact(My.1 (h5 m (by omega))).1
   ·rw[bm] at hx;obtain⟨m,hm,rfl⟩:=hx;exact(My.1 (h5 m (by omega))).2
 unfold Qu;rw[ad,ad,Ml,Z3,ao];constructor
 ·rintro⟨⟨h1,h2⟩,h3⟩;exact⟨h2,fun i hi=>(key i hi).1 ⟨h1 i hi,h3 i hi⟩⟩
 ·rintro⟨h1,h2⟩;exact⟨⟨fun i hi=>((key i hi).2 (h2 i hi)).1,h1⟩,fun i hi=>((key i hi).2 (h2 i hi)).2⟩
theorem Es {p:Pl} {i:Nat} (hi:i<p.sgs.length) (h:Fb p p.sgs[i]=false):Qu p=false:=by
 rw[cv];intro h';rw[((Mz.1 h').2 i hi).1] at h;cases h
theorem Et {p:Pl} {i m:Nat} (hi:i<p.sgs.length) (hm:m<i) (h:Ki (p.sgs[m]'(by omega)) p.sgs[i]=false):Qu p=false:=by
 rw[cv];intro h';rw[((Mz.1 h').2 i hi).2 m hm] at h;cases h
theorem Hc {p:Pl} (h:∀i (hi:i<p.sgs.length),Fb p p.sgs[i]=true∧∀m (hm:m<i),Ki (p.sgs[m]'(by omega)) p.sgs[i]=true):Qu p=decide ((p.sgs.length:Int)<=10):=by
 rw[ar,Mz,ao];exact⟨fun h'=>by omega,fun h'=>⟨by omega,h⟩⟩
theorem Eu {p:Pl} {x:Int×Int×Int} {s:Sec} (h:Qt p.secs x.2.1=some s):Fb p x=(!decide (x.1<1)&& !decide (x.1>99)&&(!decide (x.2.2<0)&& !decide (x.2.2>=(s.ends.length:Int)))):=by
 unfold Fb;rw[h,Bq]
 congr 1
 rw[ar];simp
theorem Ev (p:Pl) (hs:SmB p):Xr Tryz.prog 148 [plA p] [] (bool (Qu p)) []:=by
 have h1:=hs.sgs;have h2:=hs.secs;refine Xc 3 Tryz.func148 rfl fun n out _ _=> ?_;simp only[sn,Tryz.ntmps148,simprocAttr];have hg:=Nat.le_refl 0;repeat' (first|refine Vk fun K hK=> ?_|apply V0|((first|apply gE|apply gS);simp only[zA,simprocAttr,plA,plC])|(refine hK _ ?_;clear hK K))
 apply V5;refine Xpw (p.sgs.length) (fun i=>(∀j (hj:j<p.sgs.length),j<i->Fb p p.sgs[j]=true∧∀m (hm:m<j),Ki (p.sgs[m]'(by omega)) p.sgs[j]=true)) (fun m i=>tp [2] (tr 4 79 [(3,i64 (i:Int)),(1,.ptr (m+0) 0)])) (fun m i=>[some (.box 28 (plC p)),none,none]) (by intros;omega) ?_ fun m i hm hi=> ?_
 ·refine X2 ?_ ?_ (by first|rfl|(simp only[plC,ai];rfl)|simp only[plC,ai]) rfl rfl rfl<;>simp only[sL,plC]
 obtain⟨hi,hq⟩:=hi;simp only[pt];have hw:=Yl (n:=i) 1 1 rfl (by omega);by_cases hlt:i<p.sgs.length
 ·have gi:=Xg sgC p.sgs i [] hlt;have ca:=X39 p.secs p.sgs[i].2.1 (by omega);have next:Fb p p.sgs[i]=true->(∀m (hm:m<i),Ki (p.sgs[m]'(by omega)) p.sgs[i]=true)->∀j (hj:j<p.sgs.length),j<i+1->Fb p p.sgs[j]=true∧∀m (hm:m<j),Ki (p.sgs[m]'(by omega)) p.sgs[j]=true:=fun a b j hj hji=>by
   by_cases h':j=i
   ·subst h';exact⟨a,b⟩
   ·exact hq j hj (by omega)
  have bad:=Es hlt;clear hq;rcases Ze (fun s:Sec=>s.id==p.sgs[i].2.1) p.secs with ⟨z1,z2,z3⟩|⟨k,hk,z1,z2,z3,z4⟩
  ·have hkn:Fb p p.sgs[i]=false:=by unfold Fb Qt;rw[z2,dm]
   rw[z1] at ca;repeat' (first|refine Vk fun K hK=> ?_|apply V0|apply Vb|apply Vs|refine Vd 6 [] [[],[1],[],[],[],[1],[],[],[],[],[],[],[],[],[1],[],[],[],[],[1],[],[0],[],[],[],[],[],[],[]] [[],[],[],[],[],[],[],[],[],[],[],[],[],[],[],[],[],[],[],[],[],[],[],[],[],[],[],[],[]] (by kernel_rfl) (by decide) (by decide) (by kernel_rfl) ?_|((first|apply gE|apply gR|apply gD|apply gS|refine gS2 ?_);simp only[zA,simprocAttr,hg,sg,Xi hm,plC,hlt,gi,sgC,X0,Int.reduceNeg])|(apply Vz;refine Vo rfl rfl rfl (fun _ _=>rfl) ?_<;>first|rfl|(rw[bad hkn];rfl)|skip)|(refine X3 (ca) ?_)|((first|refine Vg (fun hg=> ?_) (fun hg=> ?_)|refine Y5 (fun hg=> ?_) (fun hg=> ?_))<;>try simp only[nb] at hg)|(refine hK _ ?_;clear hK K)|refine Vt rfl ?_)
  ·have ho:=Eu (p:=p) (x:=p.sgs[i]) (s:=p.secs[k]) z2;have hk0:decide ((k:Int)<0)=false:=ak (by omega);have gk:=Xg Y6 p.secs k [] hk;rw[z1] at ca;clear z1 z2 z3 z4;repeat' (first|refine Vk fun K hK=> ?_|apply V0|apply Vb|apply Vs|refine Vd 6 [] [[],[1],[],[],[],[1],[],[],[],[],[],[],[],[],[1],[],[],[],[],[1],[],[0],[],[],[],[],[],[],[]] [[],[],[],[],[],[],[],[],[],[],[],[],[],[],[],[],[],[],[],[],[],[],[],[],[],[],[],[],[]] (by kernel_rfl) (by decide) (by decide) (by kernel_rfl) ?_|((first|apply gE|apply gR|apply gD|apply gS|refine gS2 ?_);simp only[zA,simprocAttr,hg,sg,Xi hm,plC,hlt,gi,sgC,X0,hk0,hk,gk,Y6])|(apply Vz;refine Vo rfl rfl rfl (fun _ _=>rfl) ?_<;>first|rfl|(rw[bad (by rw[ho];simp_all)];rfl)|skip)|(refine X3 (ca) ?_)|((first|refine Vg (fun hg=> ?_) (fun hg=> ?_)|refine Y5 (fun hg=> ?_) (fun hg=> ?_))<;>try simp only[nb] at hg)|(refine hK _ ?_;clear hK K)|refine Vt rfl ?_|refine Vi rfl (fun hg=> ?_) (fun hg=> ?_))
   have hhead:Fb p p.sgs[i]=true:=by rw[ho];simp_all
   have hlti:=hlt;apply V5;refine Xpw (i) (fun k2=>(∀q (hqk:q<k2) (hqi:q<i),Ki (p.sgs[q]'(by omega)) p.sgs[i]=true)) (fun m k2=>tp [2,7] (tr 54 29 [(6,i64 (k2:Int)),(1,.ptr (m+0) 0),(4,.ptr (m+1) 0)])) (fun m k2=>[some (.box 28 (plC p)),some (.box 92 (sgC p.sgs[i])),none]) (by intros;omega) ?_ fun m k2 hm hk2=> ?_
   ·refine X2 ?_ ?_ (by first|rfl|(simp only[plC,sgC];rfl)|simp only[plC,sgC]) rfl rfl rfl<;>simp only[sL,plC,sgC]
   obtain⟨hk2,hq⟩:=hk2;simp only[pt];have hw2:=Yl (n:=k2) 1 1 rfl (by omega);by_cases hltk:k2<i
   ·have hkl:k2<p.sgs.length:=by omega
    have gk2:=Xg sgC p.sgs k2 [] hkl;have pe:Ki p.sgs[k2] p.sgs[i]= !(decide (p.sgs[k2].1>=p.sgs[i].1)||(p.sgs[k2].2.1==p.sgs[i].2.1&&p.sgs[k2].2.2==p.sgs[i].2.2)):=rfl;have pbad:=Et hlti hltk;have pnext:Ki p.sgs[k2] p.sgs[i]=true->∀q (hqk:q<k2+1) (hqi:q<i),Ki (p.sgs[q]'(by omega)) p.sgs[i]=true:=fun a q h1 h2=>by
     by_cases h':q=k2
     ·subst h';exact a
     ·exact hq q (by omega) h2
    clear hq next bad
    generalize Ki p.sgs[k2] p.sgs[i]=PG at*;repeat' (first|refine Vk fun K hK=> ?_|apply V0|apply Vb|apply Vs|((first|apply gE|apply gS);simp only[zA,simprocAttr,hg,Xi hm,plC,hltk,hkl,gk2,sgC,X0,hw2])|(apply Vz;refine Vo rfl rfl rfl (fun _ _=>rfl) ?_<;>first|rfl|(rw[pbad (by rw[pe];simp_all)];rfl)|skip)|((refine Vg (fun hg=> ?_) (fun hg=> ?_))<;>try simp only[nb] at hg)|(refine hK _ ?_;clear hK K)|refine Vt rfl ?_|refine Vf rfl ?_|refine Vi rfl (fun hg=> ?_) (fun hg=> ?_)|clear hK K)
    ·refine⟨k2+1,⟨by omega,pnext (by rw[pe];simp_all)⟩,by omega,?_⟩;refine Xx [true,true,false] ?_ ?_<;>intro n_<;>simp only[sM]
    ·refine⟨k2+1,⟨by omega,pnext (by rw[pe];simp_all)⟩,by omega,?_⟩;refine Xx [true,true,false] ?_ ?_<;>intro n_<;>simp only[sM]
   ·obtain rfl:k2=i:=by omega
    repeat' (first|refine Vk fun K hK=> ?_|apply V0|((first|apply gE|apply gS);simp only[zA,simprocAttr,plC,hltk,hw])|(apply Vx;simp only[sb,Nat.reduceEqDiff])|(refine hK _ ?_;clear hK K)|refine Vf rfl ?_|clear hK K)
    refine⟨k2+1,⟨by omega,next hhead fun m hm=>hq m hm hm⟩,by omega,?_⟩;refine Xx [true,false,false] ?_ ?_<;>intro n_<;>simp only[sM]
 ·have e:=Hc fun j hj=>hq j hj (by omega);obtain rfl:i=p.sgs.length:=by omega
  clear hq;repeat' (first|refine Vk fun K hK=> ?_|apply V0|((first|apply gE|apply gS);simp only[zA,simprocAttr,Xi hm,plC,hlt])|(apply Vz;refine Vo rfl rfl rfl (fun _ _=>rfl) ?_<;>first|rfl|(rw[e];rfl)|skip)|(apply Vx;simp only[sb])|(refine hK _ ?_;clear hK K)|refine Vf rfl ?_|clear hK K)
end Go.Proofs.YtdngdjbgmojcoaaGreat.Pln
