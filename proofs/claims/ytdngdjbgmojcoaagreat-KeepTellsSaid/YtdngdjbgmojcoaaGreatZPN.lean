/- The layer of abstract values, joined. -/
import Derived.Test.YtdngdjbgmojcoaaGreatZPR
import Derived.Test.YtdngdjbgmojcoaaGreatZWC
import Derived.Test.YtdngdjbgmojcoaaGreatZP5
namespace Go.Proofs.YtdngdjbgmojcoaaGreat.Pln
set_option linter.all false
set_option maxHeartbeats 8000000
set_option maxRecDepth 4000
open Go Go.VS Tab
attribute [local irreducible] AWp Xp0 Pg X5c Qy Lt Tp FdT Eb
theorem Xyz (a b:Int×Int):Nk [i64 a.1,i64 a.2] [i64 b.1,i64 b.2]=some (a==b):=by
 have:(a==b)=(a.1==b.1&&a.2==b.2):=rfl;rw[this];simp [Nk]
theorem Xxk (e:Int) (j:Int×Int):Xr Tryz.prog 160 [i64 e,jnA j] [] (bool (j==(0,0))) []:=by
 have h:=Xyz j (0,0);dsimp only at h;refine Xc 1 Tryz.func160 rfl fun n out _ _=> ?_;simp only[sn,Tryz.ntmps160,simprocAttr];repeat' (first|refine Vk fun K hK=> ?_|apply V0|apply Vs|with_reducible apply ab|((first|apply gE|apply gR);simp only[zA,simprocAttr,jnA,jnC,h])|exact Vn|(apply Vz;refine Vo rfl rfl rfl (fun _ _=>rfl) ?_<;>first|rfl|skip)|(refine hK _ ?_;clear hK K)|((first|show Program.eqGuardType _ _ _=false|show Xs _ _ _=true|show Program.stoodInHeld _ _=false);kernel_rfl)|clear hK K)
theorem Xxl (s:Int) (x:Int×Int×Int) (e:Int) (j:Int×Int):Xr Tryz.prog 161 [i64 e,jnA j,.ref [i64 s],.ref (sgC x)] [] (bool (s==x.2.1&&e==x.2.2)) []:=by
 refine Xc 1 Tryz.func161 rfl fun n out _ _=> ?_;simp only[sn,Tryz.ntmps161,simprocAttr];have hg:=Nat.le_refl 0;repeat' (first|refine Vk fun K hK=> ?_|apply V0|apply Vs|with_reducible apply ab|((first|apply gE|apply gR|apply gS);simp only[zA,simprocAttr,hg,jnA,jnC,sgC])|exact Vn|(apply Vz;refine Vo rfl rfl rfl (fun _ _=>rfl) ?_<;>first|rfl|(first|rfl|(simp only[g_0,g_s];refine congrArg VS.bool ?_;rw[ar];first|(simp [] at* <;>omega)|(simp_all []<;>omega)))|skip)|((refine Vg (fun hg=> ?_) (fun hg=> ?_))<;>try simp only[nb] at hg)|(refine hK _ ?_;clear hK K)|clear hK K)
theorem Xxm (l:List Int) (i:Nat) (hi:i+1<l.length) (hl:l.length<=1000000) (e:Int) (j:Int×Int):Xr Tryz.prog 163 [i64 e,jnA j,.ref [X62 l],.ref [i64 (i:Int)]] [] (bool (j.1==l.getD (i+1) 0)) []:=by
 have gi:=Xg Ym l (i+1) [] hi;have gd:l.getD (i+1) 0=l[i+1]:=by simp [af,hi]
 have hw:=Yl (n:=i) 1 1 rfl (by omega);rw[gd];refine Xc 1 Tryz.func163 rfl fun n out _ _=> ?_;simp only[sn,Tryz.ntmps163,simprocAttr];repeat' (first|refine Vk fun K hK=> ?_|apply V0|apply Vs|with_reducible apply ab|refine Vd 1 [] [[],[0],[],[],[],[],[],[],[]] [[],[],[],[],[],[],[],[],[]] (by kernel_rfl) (by decide) (by decide) (by kernel_rfl) ?_|refine Vq (by kernel_rfl) ?_|((first|apply gE|apply gR|apply gD|apply gF);simp only[zA,simprocAttr,jnA,jnC,Ym,hi,gi,hw])|exact Vn|(apply Vz;refine Vo rfl rfl rfl (fun _ _=>rfl) ?_<;>first|rfl|skip)|(refine hK _ ?_;clear hK K)|clear hK K)
def Xl0 (l:List (Int×Int×Int)) (n:Int):Int×Int×Int:=l.foldl (fun o x=>if (x.1==n)=true then x else o) (0,0,0)
theorem Xra {l:List (Int×Int×Int)} {i:Nat} (hi:i<l.length) (n:Int):Xl0 (l.take (i+1)) n=if (l[i].1==n)=true then l[i] else Xl0 (l.take i) n:=by
 unfold Xl0;rw[aj hi,dp];rfl
theorem Xqw (n:Int):Xl0 [] n=(0,0,0):=rfl
theorem Xu0 (p:Pl) (n':Int) (hl:p.sgs.length<=1000000):Xr Tryz.prog 157 [plA p,i64 n'] [] (sgA (Xl0 p.sgs n')) []:=by
 refine Xc 3 Tryz.func157 rfl fun n out _ _=> ?_;simp only[sn,Tryz.ntmps157,simprocAttr];repeat' (first|refine Vk fun K hK=> ?_|apply V0|apply Vb|apply Vc|apply Vr|apply Vs|with_reducible apply ab|((first|apply gE|apply gR);simp only[zA,simprocAttr,plA,plC])|exact Vn|(apply Vz;(first|refine Xu (.inr rfl) rfl rfl rfl (fun _ _=>rfl) ok92 (k:=n+1) (off:=0) rfl (Xb _ (by simp)) (X6 _ (Nat.le_refl _) 1) rfl ?_|refine Xu (.inr rfl) rfl rfl rfl (fun _ _=>rfl) ok92 (k:=m+1) (off:=0) rfl (Xb _ (by simp)) (X6 _ hm 1) rfl ?_)<;>first|rfl|exact AV.le.rfl _|(simp only[sL,ti92,ag,plA,plC,ai];done)|rfl|skip)|(apply Vx;simp only[sb,reduceIte,Nat.reduceEqDiff])|(refine hK _ ?_;clear hK K)|refine Vt rfl ?_|refine Vf rfl ?_|refine Vi rfl (fun hg=> ?_) (fun hg=> ?_)|clear hK K)
 apply V5;refine Xrd (p.sgs.length) (fun m i=>tp [6] (tr 11 9 [(10,i64 (i:Int)),(2,.ptr (m+0) 0),(4,.ptr (m+1) 0)])) (fun m i=>[some (.box 28 (plC p)),some (.box 92 (sgC (Xl0 (p.sgs.take i) n'))),none]) ?_ fun m i hm hi=> ?_
 ·refine X2 ?_ ?_ (by first|rfl|(simp only[plC,sgC,List.take_zero,Xqw,ai];rfl)|simp only[plC,sgC,List.take_zero,Xqw,ai]) rfl rfl rfl<;>simp only[sL,plC,sgC,Xqw]
 simp only[pt];have hw:=Yl (n:=i) 1 1 rfl (by omega);by_cases hlt:i<p.sgs.length
 ·have gi:=Xg sgC p.sgs i [] hlt;have hsu:=Xra hlt n';cases hb:(p.sgs[i].1==n') with
  |false=>
   rw[hb,if_neg (by decide)] at hsu;repeat' (first|refine Vk fun K hK=> ?_|apply V0|apply Vb|apply Vc|apply Vr|apply Vs|with_reducible apply ab|((first|apply gE|apply gR);simp only[zA,simprocAttr,Xi hm,plC,sgC,hlt,gi,X0,hb,hw])|exact Vn|(apply Vz;(first|refine Xu (.inr rfl) rfl rfl rfl (fun _ _=>rfl) ok92 (k:=n+1) (off:=0) rfl (Xb _ (by simp)) (X6 _ (Nat.le_refl _) 1) rfl ?_|refine Xu (.inr rfl) rfl rfl rfl (fun _ _=>rfl) ok92 (k:=m+1) (off:=0) rfl (Xb _ (by simp)) (X6 _ hm 1) rfl ?_)<;>first|rfl|exact AV.le.rfl _|(simp only[sL,ti92,ag,Xi hm,plC,sgC,ai,hlt,gi,X0,hb,hw];done)|rfl|skip)|(apply Vx;simp only[sb,reduceIte,Nat.reduceEqDiff])|(refine hK _ ?_;clear hK K)|refine Vt rfl ?_|refine Vf rfl ?_|refine Vi rfl (fun hg=> ?_) (fun hg=> ?_)|clear hK K)
   refine⟨i+1,by omega,by omega,?_⟩;rw[hsu];refine Xx [true,true,false] ?_ ?_<;>intro n_<;>simp only[sM]
  |true=>
   rw[hb,if_pos rfl] at hsu;repeat' (first|refine Vk fun K hK=> ?_|apply V0|apply Vb|apply Vc|apply Vr|apply Vs|with_reducible apply ab|((first|apply gE|apply gR);simp only[zA,simprocAttr,Xi hm,plC,sgC,hlt,gi,X0,hb,hw])|exact Vn|(apply Vz;(first|refine Xu (.inr rfl) rfl rfl rfl (fun _ _=>rfl) ok92 (k:=n+1) (off:=0) rfl (Xb _ (by simp)) (X6 _ (Nat.le_refl _) 1) rfl ?_|refine Xu (.inr rfl) rfl rfl rfl (fun _ _=>rfl) ok92 (k:=m+1) (off:=0) rfl (Xb _ (by simp)) (X6 _ hm 1) rfl ?_)<;>first|rfl|exact AV.le.rfl _|(simp only[sL,ti92,ag,Xi hm,plC,sgC,ai,hlt,gi,X0,hb,hw];done)|rfl|skip)|(apply Vx;simp only[sb,reduceIte,Nat.reduceEqDiff])|(refine hK _ ?_;clear hK K)|refine Vt rfl ?_|refine Vf rfl ?_|refine Vi rfl (fun hg=> ?_) (fun hg=> ?_)|clear hK K)
   refine⟨i+1,by omega,by omega,?_⟩;rw[hsu];refine Xx [true,true,false] ?_ ?_<;>intro n_<;>simp only[sM]
 ·obtain rfl:i=p.sgs.length:=by omega
  rw[bi];repeat' (first|refine Vk fun K hK=> ?_|apply V0|apply Vb|apply Vc|apply Vr|apply Vs|with_reducible apply ab|((first|apply gE|apply gR);simp only[zA,simprocAttr,plC,sgC,sgA,hlt])|exact Vn|(apply Vz;(first|refine Xu (.inr rfl) rfl rfl rfl (fun _ _=>rfl) ok92 (k:=n+1) (off:=0) rfl (Xb _ (by simp)) (X6 _ (Nat.le_refl _) 1) rfl ?_|refine Xu (.inr rfl) rfl rfl rfl (fun _ _=>rfl) ok92 (k:=m+1) (off:=0) rfl (Xb _ (by simp)) (X6 _ hm 1) rfl ?_)<;>first|rfl|exact AV.le.rfl _|(simp only[sL,ti92,ag,Xi hm,plC,sgC,sgA,ai,hlt];done)|rfl|skip)|(apply Vx;simp only[sb])|(refine hK _ ?_;clear hK K)|refine Vt rfl ?_|refine Vf rfl ?_|refine Vi rfl (fun hg=> ?_) (fun hg=> ?_)|clear hK K)
  all_goals (apply Vz;exact Xu (.inr rfl) rfl rfl rfl (fun _ _=>rfl) ok92 (k:=m+1) (off:=0) rfl (Xb _ (by simp)) (X6 _ hm 1) rfl (AV.le.rfl _))
theorem W3 (a b c d:Int):Nk [i64 a,i64 b] [i64 c,i64 d]=some (a==c&&b==d):=by simp [Nk]
theorem Qg (n:Nat):(List.replicate n (Value.bool false)).map Yq=List.replicate n (bool false):=by simp [X29]
theorem W4 {α:Type} (n:Nat) (a:α):List.replicate n a=(List.range n).map fun _=>a:=by rw[List.map_const',List.length_range]
theorem Q0 (f:Nat->AV) (n j:Nat) (h:j<n) (x:AV):Yf ((List.range n).map f) j [x]=(List.range n).map fun k=>if k=j then x else f k:=by
 have e:=F7 (fun x:AV=>x) ((List.range n).map f) j x (by simpa using h);simp only[List.map_id'] at e;rw[e,Ho]
theorem Uu (f:Nat->AV) (n j s:Nat) (h:j<n):pick false s (List.drop j ((List.range n).map f))=some (f j):=by
 have e:=X0z s f (List.range n) j 0 (by simpa using h);rw[e];simp [af,h]
def Fw (pre:List Sec) (k:Nat):Bool:=decide (0<k)&&pre.any fun t=>t.pt==(k:Int)
def Mb (pre:List Sec):List AV:=(List.range 100).map fun k=>bool (Fw pre k)
theorem N2:Mb []=List.replicate 100 (bool false):=by
 rw[W4,Mb];simp [Fw]
theorem Kj (pre:List Sec):(Mb pre).length=100:=by simp [Mb]
theorem Wj (pre:List Sec) (j s:Nat) (h:j<100):pick false s (List.drop j (Mb pre))=some (bool (Fw pre j)):=Uu _ _ _ _ h
theorem So (l:List Sec) (i:Nat) (hi:i<l.length) (j:Nat) (hj:j<100) (hp:l[i].pt=j) (hf:Fw (l.take i) j=false):Yf (Mb (l.take i)) j [.val (.bool (decide ((j:Int)>0)))]=Mb (l.take (i+1)):=by
 rw[Mb,Q0 _ _ _ hj,Mb];apply er;intro k hk;have e:Fw (l.take (i+1)) k=(Fw (l.take i) k||(decide (0<k)&&l[i].pt==(k:Int))):=by
  rw[Fw,Fw,aj hi,iu];cases decide (0<k)<;>simp
 by_cases hkj:k=j
 ·subst hkj;rw[if_pos rfl,e,hf,hp]
  congr 2;simp
 ·rw[if_neg hkj,e,hp];have:((j:Int)==(k:Int))=false:=by simp;omega
  rw[this];simp
theorem X5x {l:List Sec} {i:Nat} (hi:i<l.length) (hq:∀j (hj:j<l.length),j<i->okS (l.take j) l[j]=true) {j:Nat} (hp:l[i].pt=j):okS (l.take i) l[i]=(Uk l[i].id&&Qc l[i]&&(decide (i=0)||decide ((l[i - 1]'(by omega)).id<l[i].id))&& !Fw (l.take i) j):=by
 have h1:=Bs Sec.id l i hi fun j hj k hk=>((Ui (by omega)).1 (hq j (by omega) hj)).2.2 k hk|>.1
 unfold okS;rw[h1];have e:(decide (l[i].pt=0)||(l.take i).all fun k=> !(k.pt==l[i].pt))= !Fw (l.take i) j:=by
  unfold Fw;rw[hp];cases j with
  |zero=>simp
  |succ j=>
   have:decide (((j+1:Nat):Int)=0)=false:=ak (by omega);rw[this];simp [ig]
 rw[e]
theorem Sp {l:List Sec} (hq:∀j (hj:j<l.length),okS (l.take j) l[j]=true):Pk l:=fun i hi j hj=>((Ui hi).1 (hq i hi)).2.2 j hj|>.1
theorem Y3h {pre:List Sec} {s:Sec} (h:okS pre s=true):s.ends.length<=3:=by
 unfold okS at h;simp only[ad] at h;have:=Uv.1 h.1.1.2;omega
theorem X06 (l:List Sec) (hl:l.length<=1000):Xr Tryz.prog 76 [P9 l] [] (i64 (if Uq l then 0 else 8)) []:=by
 refine Xc 5 Tryz.func76 rfl fun n out _ _=> ?_;simp only[sn,Tryz.ntmps76,simprocAttr];have hg:=Nat.le_refl 0;repeat' (first|refine Vk fun K hK=> ?_|apply V0|apply Vs|((first|apply gE|apply gS);simp only[zA,simprocAttr, -List.reduceReplicate,hg,Qg])|(apply Vz;refine Vo rfl rfl rfl (fun _ _=>rfl) ?_<;>first|rfl|(rw[Sv (by simp at hg;omega)];rfl)|skip)|(refine hK _ ?_;clear hK K)|refine Vi rfl (fun hg=> ?_) (fun hg=> ?_))
 have hl16:l.length<=16:=by simp at hg;omega
 apply V5;refine Xpw (l.length) (fun i=>(∀j (hj:j<l.length),j<i->okS (l.take j) l[j]=true)) (fun m i=>tp [2,4,5] (tr 19 41 [(18,i64 (i:Int)),(3,.ptr (m+0) 0)])) (fun m i=>[some (.box 175 (Mb (l.take i))),none,none,none,none]) (by intros;omega) ?_ fun m i hm hi=> ?_
 ·refine X2 ?_ ?_ (by first|rfl|(simp only[ai,List.take_zero,N2,Qg];rfl)|simp only[ai,List.take_zero,N2,Qg]) rfl rfl rfl<;>simp only[sL,N2]
 obtain⟨hi,hq⟩:=hi;simp only[pt];have hw:=Yl (n:=i) 1 1 rfl (by omega);by_cases hlt:i<l.length
 ·have gi:=Xg Y6 l i [] hlt;cases hs:Qc l[i] with
  |false=>
   repeat' (first|refine Vk fun K hK=> ?_|apply V0|apply Vb|apply Vs|refine Vq (by kernel_rfl) ?_|((first|apply gE|apply gR|apply gS);simp only[zA,simprocAttr, -List.reduceReplicate,hg,Xi hm,hlt,gi,Y6,X0,hs])|(apply Vz;refine Vo rfl rfl rfl (fun _ _=>rfl) ?_<;>first|rfl|(rw[Kr hlt (by rw[cv,Ne,Hp];intro h;simp_all)];rfl)|skip)|(refine X3 (Wh _) ?_)|(refine X3 (Di _) ?_)|((refine Vg (fun hg=> ?_) (fun hg=> ?_))<;>try simp only[nb] at hg)|(refine hK _ ?_;clear hK K)|refine Vt rfl ?_)
  |true=>
   obtain⟨np,hnp,hpt⟩:∃np:Nat,np<100∧l[i].pt=np:=by
    rw[Uv] at hs;obtain⟨np,h⟩:=bj (a:=l[i].pt) (by omega);exact⟨np,by omega,h⟩
   have key:=X5x hlt hq hpt;rw[hs,di] at key;have hnp':(np:Int)<100:=by omega
   have csh:=Di l[i];simp only[Qh,Y6,hpt,hs] at csh;have hnp9:np<=99:=by omega
   have next:Fw (l.take i) np=false->Uk l[i].id=true->(decide (i=0)||decide ((l[i - 1]'(by omega)).id<l[i].id))=true->∀j (hj:j<l.length),j<i+1->okS (l.take j) l[j]=true:=fun h1 h2 h3 j hj hji=>by
    by_cases h:j=i
    ·subst h;rw[key,h1,h2,h3];rfl
    ·exact hq j hj (by omega)
   by_cases h0:i=0
   ·have hd0:decide ((i:Int)>0)=false:=ak (by omega);rw[ax h0,dx,di] at key;repeat' (first|refine Vk fun K hK=> ?_|apply V0|apply Vb|apply Vs|refine Vq (by kernel_rfl) ?_|((first|apply gE|apply gR|apply gS);simp only[zA,simprocAttr, -List.reduceReplicate,hg,Xi hm,hlt,gi,Y6,X0,hd0,hpt,hnp',hnp9,Wj _ np 1 hnp,Kj,hw])|(apply Vz;refine Vo rfl rfl rfl (fun _ _=>rfl) ?_<;>first|rfl|(rw[Kr hlt (by rw[key];simp_all)];rfl)|skip)|(refine X3 (Wh _) ?_)|(refine X3 (csh) ?_)|((refine Vg (fun hg=> ?_) (fun hg=> ?_))<;>try simp only[nb] at hg)|(refine hK _ ?_;clear hK K)|refine Vt rfl ?_|refine Vi rfl (fun hg=> ?_) (fun hg=> ?_)|clear hK K)
    rw[So l i hlt np hnp hpt hg];refine⟨i+1,⟨by omega,next hg (by simp_all) (by simp [h0])⟩,by omega,?_⟩;refine Xx [true,false,false,false,false] ?_ ?_<;>intro n_<;>simp only[sM]
   ·have hd0:decide ((i:Int)>0)=true:=ax (by omega);have hs1:=X25 (n:=i) 1 1 rfl (by omega) (by omega);have hl1:i - 1<l.length:=by omega
    have g1:=Xg Y6 l (i - 1) [] hl1;rw[ak h0,ee] at key;repeat' (first|refine Vk fun K hK=> ?_|apply V0|apply Vb|apply Vs|refine Vq (by kernel_rfl) ?_|((first|apply gE|apply gR|apply gS);simp only[zA,simprocAttr, -List.reduceReplicate,hg,Xi hm,hlt,gi,Y6,X0,hd0,hs1,hl1,g1,hpt,hnp',hnp9,Wj _ np 1 hnp,Kj,hw])|(apply Vz;refine Vo rfl rfl rfl (fun _ _=>rfl) ?_<;>first|rfl|(rw[Kr hlt (by rw[key];simp at*;first|(simp_all;done)|(intros;omega))];rfl)|skip)|(refine X3 (Wh _) ?_)|(refine X3 (csh) ?_)|((refine Vg (fun hg=> ?_) (fun hg=> ?_))<;>try simp only[nb] at hg)|(refine hK _ ?_;clear hK K)|refine Vt rfl ?_|refine Vi rfl (fun hg=> ?_) (fun hg=> ?_)|clear hK K)
    rw[So l i hlt np hnp hpt hg];refine⟨i+1,⟨by omega,next hg (by simp_all) (by simp at*;omega)⟩,by omega,?_⟩;refine Xx [true,false,false,false,false] ?_ ?_<;>intro n_<;>simp only[sM]
 ·obtain rfl:i=l.length:=by omega
  have hok:∀j (hj:j<l.length),okS (l.take j) l[j]=true:=fun j hj=>hq j hj hj;have hr:=Sp hok;clear hq;repeat' (first|refine Vk fun K hK=> ?_|apply V0|((first|apply gE|apply gS);simp only[zA,simprocAttr, -List.reduceReplicate,hlt])|(apply Vx;simp only[sb])|(refine hK _ ?_;clear hK K)|refine Vf rfl ?_|clear hK K)
  apply V5;refine Xpw (l.length) (fun i=>(∀j (hj:j<l.length),j<i->∀e,e<l[j].ends.length->Yb l l[j] e=true)) (fun m i=>tp [2] (tr 63 63 (tr 7 6 [(62,i64 (i:Int)),(3,.top)]))) (fun m i=>[some (.box 175 (Mb l)),none,none,none,none]) (by intros;omega) ?_ fun m i hm hi=> ?_
  ·refine X2 ?_ ?_ (by first|rfl|(simp only[ai,bi];rfl)|simp only[ai,bi]) rfl rfl rfl<;>simp only[sL,bi]
  obtain⟨hi,hq⟩:=hi;simp only[pt];have hw:=Yl (n:=i) 1 1 rfl (by omega);by_cases hlti:i<l.length
  ·have gi:=Xg Y6 l i [] hlti;have hel:=Y3h (hok i hlti);have hq0:=hq;clear hq;repeat' (first|refine Vk fun K hK=> ?_|apply V0|apply Vb|apply Vs|((first|apply gE|apply gS);simp only[zA,simprocAttr, -List.reduceReplicate,Xi hm,hlti,gi,Y6,X0])|(refine hK _ ?_;clear hK K)|refine Vt rfl ?_)
   apply V5;refine Xpw (l[i].ends.length) (fun e=>(∀e',e'<e->Yb l l[i] e'=true)) (fun m e=>tp [2] (tr 70 55 (tr 8 5 [(69,i64 (e:Int)),(7,.ptr (m+1) 0)]))) (fun m e=>[some (.box 175 (Mb l)),some (.box 75 [i64 l[i].id,i64 l[i].pt,.sl 2 (l[i].ends.map jnC) .sh]),none,none,none]) (by intros;omega) ?_ fun m e hm he=> ?_
   ·refine La rfl ?_ ?_<;>simp only[sL]
   obtain⟨he,hq⟩:=he;simp only[pt];have hw2:=Yl (n:=e) 1 1 rfl (by omega);by_cases hlte:e<l[i].ends.length
   ·obtain⟨a,b,hj⟩:∃a b,l[i].ends[e]=(a,b):=⟨_,_,rfl⟩
    have hje:=Su (l:=l) hlte hj;have ge:=Xg jnC l[i].ends e [] hlte;have fin:Yb l l[i] e=true->∀e',e'<e+1->Yb l l[i] e'=true:=fun h e' he'=>by
     by_cases h':e'=e
     ·subst h';exact h
     ·exact hq e' (by omega)
    by_cases h0:a=0∧b=0
    ·have hz:(a==0&&b==0)=true:=by simp [h0]
     repeat' (first|refine Vk fun K hK=> ?_|apply V0|apply Vb|apply Vs|with_reducible apply ab|((first|apply gE|apply gS);simp only[zA,simprocAttr, -List.reduceReplicate,Xi hm,hlte,ge,jnC,hj,X0,W3,hz,hw2])|exact Vn|(apply Vx;simp only[sb,Nat.reduceEqDiff])|(refine hK _ ?_;clear hK K)|refine Vt rfl ?_|((first|show Program.eqGuardType _ _ _=false|show Xs _ _ _=true|show Program.stoodInHeld _ _=false);kernel_rfl)|clear hK K)
     refine⟨e+1,⟨by omega,fin (by rw[hje,ax h0,dx])⟩,by omega,?_⟩;refine Xx [true,true,false,false,false] ?_ ?_<;>intro n_<;>simp only[sM]
    ·have hz:(a==0&&b==0)=false:=by rw[cv];intro h;exact h0 (by simpa using h)
     have ho:decide (a=l[i].id∧b=(e:Int))=(a==l[i].id&&b==(e:Int)):=by rw[ar];simp
     rw[ak h0,ee,En hr] at hje;simp only[ho] at hje;clear ho;have cp:=X36 l a (by omega) hr;by_cases hf:Qz l a<l.length∧(l.getD (Qz l a) Xp2).id=a
     ·rw[if_pos hf] at hje;rw[ax hf] at cp;obtain⟨k,hk⟩:∃k,k=Qz l a:=⟨_,rfl⟩
      rw[<- hk] at hf hje cp;have hkl:k<l.length:=hf.1;have hkg:l.getD k Xp2=l[k]:=by simp [af,hkl]
      rw[hkg] at hf hje;have gk:=Xg Y6 l k [] hkl;have hk9:(k:Int)<(l.length:Int):=by omega
      by_cases hb:0<=b∧b<l[k].ends.length
      ·obtain⟨nb,rfl⟩:=bj hb.1;have hnb:nb<l[k].ends.length:=by omega
       have gb:=Xg jnC l[k].ends nb [] hnb;have gd:l[k].ends.getD (nb:Int).toNat (0,0)=l[k].ends[nb]:=by simp [af,hnb]
       have hb0:decide ((nb:Int)<0)=false:=ak (by omega);have hb1:decide ((nb:Int)>=(l[k].ends.length:Int))=false:=ak (by omega);simp only[gd,X32,ax hb.1,ax hb.2,bo] at hje;obtain⟨O,hO⟩:∃O,(a==l[i].id&&(nb:Int)==(e:Int))=O:=⟨_,rfl⟩
       obtain⟨B,hB⟩:∃B,(l[k].ends[nb].1==l[i].id&&l[k].ends[nb].2==(e:Int))=B:=⟨_,rfl⟩
       rw[hO,hB] at hje;repeat' (first|refine Vk fun K hK=> ?_|apply V0|apply Vb|apply Vs|with_reducible apply ab|refine Vq (by kernel_rfl) ?_|((first|apply gE|apply gR|apply gS);simp only[zA,simprocAttr, -List.reduceReplicate,hg,Xi hm,hlte,ge,jnC,hj,X0,W3,hz,hw2,hkl,gk,Y6,hb0,hb1,hnb,gb,hO,hB])|exact Vn|(apply Vz;refine Vo rfl rfl rfl (fun _ _=>rfl) ?_<;>first|rfl|(rw[U2 hlti hlte (by rw[hje];clear hO hB;simp at*;simp_all)];rfl)|skip)|(refine X3 (cp) ?_)|((refine Vg (fun hg=> ?_) (fun hg=> ?_))<;>try simp only[nb] at hg)|(refine hK _ ?_;clear hK K)|refine Vt rfl ?_|refine Vf rfl ?_|refine Vi rfl (fun hg=> ?_) (fun hg=> ?_)|((first|show Program.eqGuardType _ _ _=false|show Xs _ _ _=true|show Program.stoodInHeld _ _=false);kernel_rfl)|clear hK K)
       refine⟨e+1,⟨by omega,fin (by rw[hje];clear hO hB;simp at*;simp_all)⟩,by omega,?_⟩;refine Xx [true,true,false,false,false] ?_ ?_<;>intro n_<;>simp only[sM]
      ·have hb2:(decide (0<=b)&&decide (b<(l[k].ends.length:Int)))=false:=by rw[cv];intro h;exact hb (by simpa using h)
       dsimp only at hje;rw[hb2,dc,dc] at hje;repeat' (first|refine Vk fun K hK=> ?_|apply V0|apply Vb|apply Vs|with_reducible apply ab|refine Vq (by kernel_rfl) ?_|((first|apply gE|apply gR|apply gS);simp only[zA,simprocAttr, -List.reduceReplicate,hg,Xi hm,hlte,ge,jnC,hj,X0,W3,hz,hkl,gk,Y6])|exact Vn|(apply Vz;refine Vo rfl rfl rfl (fun _ _=>rfl) ?_<;>first|rfl|(rw[U2 hlti hlte hje];rfl)|skip)|(refine X3 (cp) ?_)|((refine Vg (fun hg=> ?_) (fun hg=> ?_))<;>try simp only[nb] at hg)|(refine hK _ ?_;clear hK K)|refine Vt rfl ?_|refine Vf rfl ?_|((first|show Program.eqGuardType _ _ _=false|show Xs _ _ _=true|show Program.stoodInHeld _ _=false);kernel_rfl)|clear hK K)
       all_goals (exfalso;simp at*;omega)
     ·rw[if_neg hf] at hje;rw[ak hf] at cp;have hje':Yb l l[i] e=false:=hje;repeat' (first|refine Vk fun K hK=> ?_|apply V0|apply Vb|apply Vs|with_reducible apply ab|refine Vq (by kernel_rfl) ?_|((first|apply gE|apply gR|apply gS);simp only[zA,simprocAttr, -List.reduceReplicate,Xi hm,hlte,ge,jnC,hj,X0,W3,hz])|exact Vn|(apply Vz;refine Vo rfl rfl rfl (fun _ _=>rfl) ?_<;>first|rfl|(rw[U2 hlti hlte hje'];rfl)|skip)|(refine X3 (cp) ?_)|(refine hK _ ?_;clear hK K)|refine Vt rfl ?_|refine Vf rfl ?_|((first|show Program.eqGuardType _ _ _=false|show Xs _ _ _=true|show Program.stoodInHeld _ _=false);kernel_rfl))
   ·obtain rfl:e=l[i].ends.length:=by omega
    repeat' (first|refine Vk fun K hK=> ?_|apply V0|((first|apply gE|apply gS);simp only[zA,simprocAttr, -List.reduceReplicate,hlte,hw])|(apply Vx;simp only[sb,Nat.reduceEqDiff])|(refine hK _ ?_;clear hK K)|refine Vf rfl ?_|clear hK K)
    refine⟨i+1,⟨by omega,fun j hj hji=> ?_⟩,by omega,?_⟩
    ·by_cases h:j=i
     ·subst h;exact hq
     ·exact hq0 j hj (by omega)
    refine Xx [true,false,false,false,false] ?_ ?_<;>intro n_<;>simp only[sM]
  ·obtain rfl:i=l.length:=by omega
   have hmay:=Sw hl16 hok fun j hj=>hq j hj hj;repeat' (first|refine Vk fun K hK=> ?_|apply V0|((first|apply gE|apply gS);simp only[zA,simprocAttr, -List.reduceReplicate,hlti])|(apply Vz;refine Vo rfl rfl rfl (fun _ _=>rfl) ?_<;>first|rfl|(rw[hmay];rfl)|skip)|(apply Vx;simp only[sb])|(refine hK _ ?_;clear hK K)|refine Vf rfl ?_|clear hK K)
end Go.Proofs.YtdngdjbgmojcoaaGreat.Pln
namespace Go.Proofs.YtdngdjbgmojcoaaGreat.Pln
set_option linter.all false
set_option maxHeartbeats 4000000
set_option maxRecDepth 4000
open Go Go.VS Tab
theorem Kk {l:List Sec}:Uq l=true↔l.length<=16∧(∀i (hi:i<l.length),okS (l.take i) l[i]=true)∧∀s,s∈l->∀e,e<s.ends.length->Yb l s e=true:=by
 unfold Uq;rw[ad,ad,ao,Z3,az,and_assoc];refine and_congr_right fun _=>and_congr_right fun _=> ?_;simp only[az,dq]
theorem N3 {l:List Sec} (h:Uq l=true):Pk l:=Sp (Kk.1 h).2.1
theorem U0 {l:List Sec} (h:Uq l=true) {s:Sec} (hs:s∈l):Uk s.id=true∧Qc s=true:=by
 obtain⟨i,hi,rfl⟩:=am hs;have:=(Ui hi).1 ((Kk.1 h).2.1 i hi);exact⟨this.1,this.2.1⟩
end Go.Proofs.YtdngdjbgmojcoaaGreat.Pln
