/- The layer of abstract values, joined. -/
import Derived.Test.YtgpdghbmiihfbaaGreatZP5
import Derived.Test.YtgpdghbmiihfbaaGreatZS7
import Derived.Test.YtgpdghbmiihfbaaGreatZP49
namespace Go.Proofs.YtgpdghbmiihfbaaGreat.Pln
set_option linter.all false
open Go Go.VS Tab
attribute [local irreducible] AWp Xp0 Pg X5c Qy Lt Tp FdT Eb
set_option maxHeartbeats 8000000
set_option maxRecDepth 4000
def tkR (l:List (List AV)):Res:=bxD 156 l
def swR (l:List (List AV)):Res:=bxD 131 l
def lkR (l:List (List AV)):Res:=bxD 95 l
def stX (B:Nat) (s:St):List AV:=[.bsl B 0 s.tr.length false,.bsl (B+1) 0 s.sw.length false,.bsl (B+2) 0 s.lk.length false]
theorem Xys {n B:Nat} (h:B+2<n):Xj1 n [(B,1),(B+1,1),(B+2,1)]:=by
 refine⟨fun p hp k hk=> ?_,fun i j p q k hi hj hk hk'=> ?_⟩
 ·rw[Xii] at hk;simp at hp;rcases hp with rfl|rfl|rfl<;>(dsimp only at hk;omega)
 ·rw[Xii] at hk hk'
  match i,j,hi,hj with
  |0,0,_,_=>rfl
  |1,1,_,_=>rfl
  |2,2,_,_=>rfl
  |0,1,hi,hj=>simp at hi hj;subst hi;subst hj;dsimp only at hk hk';omega
  |0,2,hi,hj=>simp at hi hj;subst hi;subst hj;dsimp only at hk hk';omega
  |1,0,hi,hj=>simp at hi hj;subst hi;subst hj;dsimp only at hk hk';omega
  |1,2,hi,hj=>simp at hi hj;subst hi;subst hj;dsimp only at hk hk';omega
  |2,0,hi,hj=>simp at hi hj;subst hi;subst hj;dsimp only at hk hk';omega
  |2,1,hi,hj=>simp at hi hj;subst hi;subst hj;dsimp only at hk hk';omega
  |i+3,_,hi,_=>simp at hi
  |0,j+3,_,hj=>simp at hj
  |1,j+3,_,hj=>simp at hj
  |2,j+3,_,hj=>simp at hj
theorem Xyt (B:Nat) (s:St) (hS:SmS s):Xr Tryz.prog 86 [stA s] [(B,none),(B+1,none),(B+2,none)] (.agg (stX B s)) [(B,tkR (s.tr.map tkC)),(B+1,swR (s.sw.map sgC)),(B+2,lkR (s.lk.map lkC))]:=by
 have h1:=hS.t;have h2:=hS.w;have h3:=hS.l;have c1:=Xsz B (s.tr.map tkC) (by simp;omega);have c2:=Xt0 (B+1) (s.sw.map sgC) (by simp;omega);have c3:=Xt1 (B+2) (s.lk.map lkC) (by simp;omega);rw[af] at c1 c2 c3;rw[show bxD 156 (s.tr.map tkC)=tkR (s.tr.map tkC) from rfl] at c1;rw[show bxD 131 (s.sw.map sgC)=swR (s.sw.map sgC) from rfl] at c2;rw[show bxD 95 (s.lk.map lkC)=lkR (s.lk.map lkC) from rfl] at c3;generalize tkR (s.tr.map tkC)=T at*;generalize swR (s.sw.map sgC)=W at*;generalize lkR (s.lk.map lkC)=L at*;refine Xc 2 Tryz.func86 rfl fun n out _ _=> ?_;simp only[sn,Tryz.ntmps86,simprocAttr];rename_i hneeds hgv;obtain⟨hB0,hB1,hB2,_⟩:=hneeds;obtain⟨hB0n,hB1n,hB2n,_⟩:=hgv;have hoA:=Xys hB2n;refine Vy fun K hK=> ?_;simp only[zA,simprocAttr,stA,stC];repeat' (first|(refine hK _ ?_;clear hK K)|with_reducible apply aa)
 refine Vk fun K hK=>Xib Xj [] [(B,1),(B+1,1),(B+2,1)] [[],[0],[100],[],[0],[101],[],[0],[102],[],[1]] [[],[],[100],[],[],[101],[],[],[102],[],[1]] hoA follows (by kernel_rfl) (by decide) (by decide) (by kernel_rfl) ?_;simp only[zA,simprocAttr,sf];repeat' (first|(refine hK _ ?_;clear hK K)|with_reducible apply aa)
 refine Sb c1 (by rw[X8 hB0n,Xlg (x:=100) (by decide) (by decide) rfl (by dsimp only;omega)];exact hB0) (by rw[X7 hB0n];trivial) (by simp) ?_;refine Xmb (z:=100) (by decide) (by decide) rfl ?_;simp only[zA,simprocAttr,sf,Xa hB0n];repeat' (first|(refine hK _ ?_;clear hK K)|with_reducible apply aa)
 refine Sb c2 (by rw[X8 hB1n,Xlg (x:=101) (by decide) (by decide) rfl (by dsimp only;omega),Zp _ _ (by omega)];exact hB1) (by rw[X7 hB1n];trivial) (by simp) ?_;refine Xmb (z:=101) (by decide) (by decide) rfl ?_;simp only[zA,simprocAttr,sf,Xa hB1n];repeat' (first|(refine hK _ ?_;clear hK K)|with_reducible apply aa)
 refine Sb c3 (by rw[X8 hB2n,Xlg (x:=102) (by decide) (by decide) rfl (by dsimp only;omega),Zp _ _ (by omega),Zp _ _ (by omega)];exact hB2) (by rw[X7 hB2n];trivial) (by simp) ?_;refine Xmb (z:=102) (by decide) (by decide) rfl ?_;simp only[zA,simprocAttr,sf,Xa hB2n];repeat' (first|(refine hK _ ?_;clear hK K)|with_reducible apply aa)
 apply Vz;exact Xu (.inr rfl) rfl rfl rfl (fun _ _=>rfl) ok33 (k:=n+1) (off:=0) rfl (Xb _ (by simp)) (X6 _ (Nat.le_refl _) 1) rfl (AV.le.rfl _)
def Xuh (t:Int×UInt8):Int×UInt8:=(t.1,2)
def Xpo (w:Int×Int×Int):Int×Int×Int:=(w.1,0,w.2.2)
def Xr0 (p:Pl) (i:Nat) (l:Int×UInt8×Int×Int):Int×UInt8×Int×Int:=if 0<l.2.2.2 then(l.1,l.2.1,l.2.2.1,(p.rts.getD i X7o).timer) else l
def Xjm (p:Pl) (s:St):St:=⟨s.tr.map Xuh,s.sw.map Xpo,s.lk.mapIdx (Xr0 p)⟩
theorem Xt2 {α:Type} {f g:Nat->α->List AV} {l:List α} {i sz j:Nat} {x:α} {c d:AV} (hf:∀i x,(f i x).length=sz) (hg:∀i x,(g i x).length=sz) (hx:l[i]? =some x) (hc:(g i x)[j]? =some c) (hd:(g i x).set j d=f i x):Yf (stg i f g l).flatten (i*sz+j) [d]=(stg (i+1) f g l).flatten:=by
 rw[Xul (Xqs hf hg) (Rf hx (Nat.le_refl _)) hc,hd,Xuz hx]
theorem Xxa (B:Nat) (p:Pl) (s:St) (hs:Sm p) (hS:SmS s) (hE:Xrz p s=0):Xr Tryz.prog 54 [plA p,stA s] [(B,none),(B+1,none),(B+2,none)] (.tup [.agg (stX B s),i64 0]) [(B,tkR ((Xjm p s).tr.map tkC)),(B+1,swR ((Xjm p s).sw.map sgC)),(B+2,lkR ((Xjm p s).lk.map lkC))]:=by
 have h1:=hS.t;have h2:=hS.w;have h3:=hS.l;have cC:=Xtq p s hs hS;rw[hE] at cC;have cT:=fun B=>Xyt B s hS;obtain⟨T,hT⟩:∃T:Nat->List (List AV),T=fun i=>stg i (fun _ t=>tkC (Xuh t)) (fun _=>tkC) s.tr:=⟨_,rfl⟩
 have T0:s.tr.map tkC=T 0:=by rw[hT];exact(Xqh _ _ _).symm
 have Tn:(Xjm p s).tr.map tkC=T s.tr.length:=by rw[hT];show _=stg _ _ _ _;rw[Y7d (Nat.le_refl _)];apply dw;intro i;simp [Xjm];rfl
 have Tl:∀i,(T i).length=s.tr.length:=fun i=>by rw[hT];exact V8 _ _ _ _
 have Ts:∀i,i<s.tr.length->Yf (T i).flatten (i*2+1) [.val (.int .u8 2)]=(T (i+1)).flatten:=fun i hi=>by
  rw[hT];exact Xt2 (sz:=2) (fun _ _=>rfl) (fun _ _=>rfl) (ae hi) (c:=b8 (s.tr[i]).2) rfl rfl
 have Tf:∀i,(T i).flatten.length=s.tr.length*2:=fun i=>by rw[Xre (sz:=2) (by rw[hT];exact Xqs (fun _ _=>rfl) (fun _ _=>rfl)),Tl]
 obtain⟨W,hW⟩:∃W:Nat->List (List AV),W=fun i=>stg i (fun _ t=>sgC (Xpo t)) (fun _=>sgC) s.sw:=⟨_,rfl⟩
 have W0:s.sw.map sgC=W 0:=by rw[hW];exact(Xqh _ _ _).symm
 have Wn:(Xjm p s).sw.map sgC=W s.sw.length:=by rw[hW];show _=stg _ _ _ _;rw[Y7d (Nat.le_refl _)];apply dw;intro i;simp [Xjm];rfl
 have Wl:∀i,(W i).length=s.sw.length:=fun i=>by rw[hW];exact V8 _ _ _ _
 have Ws:∀i,i<s.sw.length->Yf (W i).flatten (i*3+1) [i64 0]=(W (i+1)).flatten:=fun i hi=>by
  rw[hW];exact Xt2 (sz:=3) (fun _ _=>rfl) (fun _ _=>rfl) (ae hi) (c:=i64 (s.sw[i]).2.1) rfl rfl
 have Wf:∀i,(W i).flatten.length=s.sw.length*3:=fun i=>by rw[Xre (sz:=3) (by rw[hW];exact Xqs (fun _ _=>rfl) (fun _ _=>rfl)),Wl]
 obtain⟨L,hL⟩:∃L:Nat->List (List AV),L=fun i=>stg i (fun j t=>lkC (Xr0 p j t)) (fun _=>lkC) s.lk:=⟨_,rfl⟩
 have L0:s.lk.map lkC=L 0:=by rw[hL];exact(Xqh _ _ _).symm
 have Ln:(Xjm p s).lk.map lkC=L s.lk.length:=by rw[hL];show _=stg _ _ _ _;rw[Y7d (Nat.le_refl _)];apply dw;intro i;simp [Xjm];rfl
 have Ll:∀i,(L i).length=s.lk.length:=fun i=>by rw[hL];exact V8 _ _ _ _
 have Ls:∀i (hi:i<s.lk.length),0<(s.lk[i]).2.2.2->Yf (L i).flatten (i*4+3) [i64 (p.rts.getD i X7o).timer]=(L (i+1)).flatten:=fun i hi h0=>by
  rw[hL];exact Xt2 (sz:=4) (fun _ _=>rfl) (fun _ _=>rfl) (ae hi) (c:=i64 (s.lk[i]).2.2.2) rfl (by unfold Xr0;rw[if_pos h0];rfl)
 have Lk:∀i (hi:i<s.lk.length),¬0<(s.lk[i]).2.2.2->L i=L (i+1):=fun i hi h0=>by
  rw[hL];exact Xwn (ae hi) (by unfold Xr0;rw[if_neg h0])
 have Lg:∀i (hi:i<s.lk.length) (t:Nat),pick false t ((L i).flatten.drop (i*4+3))=some (i64 (s.lk[i]).2.2.2):=fun i hi t=>by
  rw[hL];exact Hm (sz:=4) (x:=lkC s.lk[i]) (c:=i64 (s.lk[i]).2.2.2) (Xqs (fun _ _=>rfl) (fun _ _=>rfl)) (Rf (ae hi) (Nat.le_refl _)) rfl
 have Lf:∀i,(L i).flatten.length=s.lk.length*4:=fun i=>by rw[Xre (sz:=4) (by rw[hL];exact Xqs (fun _ _=>rfl) (fun _ _=>rfl)),Ll]
 have hlk:s.lk.length<=p.rts.length:=by
  unfold Xrz at hE;split at hE
  ·split at hE
   ·rename_i h;unfold Xqm Xog at h;simp only[ag] at h;rw[Xov h.1.2.2];exact Nat.le_refl _
   ·cases hE
  ·rename_i h;exact(h hE).elim
 rw[Tn,Wn,Ln];rw[T0,W0,L0] at cT;clear hT T0 Tn hW W0 Wn hL L0 Ln;refine Xc 7 Tryz.func54 rfl fun n out _ _=> ?_;simp only[sn,Tryz.ntmps54,simprocAttr];rename_i hneeds hgv;obtain⟨hB0,hB1,hB2,_⟩:=hneeds;obtain⟨hB0n,hB1n,hB2n,_⟩:=hgv;simp only[plA,stA] at cC cT;have cT3:=cT (n+3);simp only[stX,stC,Nat.add_assoc,Nat.reduceAdd] at cT3;repeat' (first|refine Vk fun K hK=> ?_|apply V0|apply Vb|apply Vc|apply Vr|apply Vs|with_reducible apply aa|refine Vq (by kernel_rfl) ?_|((first|apply gE|apply gR);simp only[zA,simprocAttr,plA,plC,stA,stC,X0,Xjn (Nat.le_refl n)])|exact Vn|(apply Vz;(first|refine Xp (.inr rfl) rfl rfl rfl (fun _ _=>rfl) ok33 (k:=n+2) (off:=0) rfl (Xb _ (by simp)) (X6 _ (Nat.le_refl _) 2) rfl rfl ?_|refine Xp (.inr rfl) rfl rfl rfl (fun _ _=>rfl) ok33 (k:=m+2) (off:=0) rfl (Xb _ (by simp)) (X6 _ hm 2) rfl rfl ?_)<;>first|rfl|exact AV.le.rfl _|(simp only[sL,ti33,ad,plA,plC,stA,stC,X0,Xjn (Nat.le_refl n)];done)|rfl|skip)|(refine X3 (cC) ?_)|(refine Xpb cT3 (X6 _ (Nat.le_refl _) 3) (X6 _ (Nat.le_refl _) 4) (X6 _ (Nat.le_refl _) 5) (Xb _ (by simp)) (Xb _ (by simp)) (Xb _ (by simp)) (by simp) (by simp) (by simp) ?_)|(apply Vx;simp only[sb,reduceIte,Nat.reduceEqDiff])|(refine hK _ ?_;clear hK K)|refine Vt rfl ?_|refine Vf rfl ?_|refine Vi rfl (fun hg=> ?_) (fun hg=> ?_)|clear hK K)
 apply V5;refine Xwm (s.tr.length) (fun i=>tp [7] (tr 23 8 [(22,i64 (i:Int))])) (fun i=>[some (.box 28 (plC p)),some (.box 33 [.bsl (n+3) 0 s.tr.length false,.bsl (n+4) 0 s.sw.length false,.bsl (n+5) 0 s.lk.length false]),some (.box 33 [.sl 0 [] .nil,.sl 0 [] .nil,.sl 0 [] .nil]),some (tkR (T i)),some (swR (W 0)),some (lkR (L 0)),none]) ?_ fun i hi=> ?_
 ·refine X2 ?_ ?_ (by first|rfl|(simp only[plC];rfl)|simp only[plC]) rfl rfl rfl<;>simp only[sL,plC]
 simp only[pt];have hw:=Yl (n:=i) 1 1 rfl (by omega);by_cases hlt:i<s.tr.length
 ·have e1:tkR (T i)= .box 156 (T i).flatten:=K1 (by rw[Tl];omega);have e2:tkR (T (i+1))= .box 156 (T (i+1)).flatten:=K1 (by rw[Tl];omega);have t1:=Ts i hlt;have t2:=Tf i;rw[e1];repeat' (first|refine Vk fun K hK=> ?_|apply V0|apply Vb|apply Vc|apply Vr|apply Vs|with_reducible apply aa|refine Vq (by kernel_rfl) ?_|((first|apply gE|apply gR);simp only[zA,simprocAttr,plC,hlt,hw,t1,t2,show i*2+1+1<=s.tr.length*2 by omega])|exact Vn|(apply Vz;(first|refine Xp (.inr rfl) rfl rfl rfl (fun _ _=>rfl) ok33 (k:=n+2) (off:=0) rfl (Xb _ (by simp)) (X6 _ (Nat.le_refl _) 2) rfl rfl ?_|refine Xp (.inr rfl) rfl rfl rfl (fun _ _=>rfl) ok33 (k:=m+2) (off:=0) rfl (Xb _ (by simp)) (X6 _ hm 2) rfl rfl ?_)<;>first|rfl|exact AV.le.rfl _|(simp only[sL,ti33,ad,plC,hlt,hw,t1,t2,show i*2+1+1<=s.tr.length*2 by omega];done)|rfl|skip)|(apply Vx;simp only[sb,reduceIte,Nat.reduceEqDiff])|(refine hK _ ?_;clear hK K)|refine Vt rfl ?_|refine Vf rfl ?_|refine Vi rfl (fun hg=> ?_) (fun hg=> ?_)|clear hK K)
  refine⟨i+1,by omega,by omega,?_⟩;rw[e2];refine La rfl ?_ ?_<;>simp only[sL]
 obtain rfl:i=s.tr.length:=by omega
 clear hw hi hlt Ts Tf;repeat' (first|refine Vk fun K hK=> ?_|apply V0|apply Vb|apply Vc|apply Vr|apply Vs|with_reducible apply aa|refine Vq (by kernel_rfl) ?_|((first|apply gE|apply gR);simp only[zA,simprocAttr,plC,Nat.lt_irrefl])|exact Vn|(apply Vz;(first|refine Xp (.inr rfl) rfl rfl rfl (fun _ _=>rfl) ok33 (k:=n+2) (off:=0) rfl (Xb _ (by simp)) (X6 _ (Nat.le_refl _) 2) rfl rfl ?_|refine Xp (.inr rfl) rfl rfl rfl (fun _ _=>rfl) ok33 (k:=m+2) (off:=0) rfl (Xb _ (by simp)) (X6 _ hm 2) rfl rfl ?_)<;>first|rfl|exact AV.le.rfl _|(simp only[sL,ti33,ad,plC,dx,Nat.lt_irrefl];done)|rfl|skip)|(apply Vx;simp only[sb])|(refine hK _ ?_;clear hK K)|refine Vt rfl ?_|refine Vf rfl ?_|refine Vi rfl (fun hg=> ?_) (fun hg=> ?_)|clear hK K)
 apply V5;refine Xwm (s.sw.length) (fun i=>tp [8] (tr 35 8 [(34,i64 (i:Int))])) (fun i=>[some (.box 28 (plC p)),some (.box 33 [.bsl (n+3) 0 s.tr.length false,.bsl (n+4) 0 s.sw.length false,.bsl (n+5) 0 s.lk.length false]),some (.box 33 [.sl 0 [] .nil,.sl 0 [] .nil,.sl 0 [] .nil]),some (tkR (T s.tr.length)),some (swR (W i)),some (lkR (L 0)),none]) ?_ fun i hi=> ?_
 ·refine X2 ?_ ?_ (by first|rfl|(simp only[plC];rfl)|simp only[plC]) rfl rfl rfl<;>simp only[sL,plC]
 simp only[pt];have hw:=Yl (n:=i) 1 1 rfl (by omega);by_cases hlt:i<s.sw.length
 ·have e1:swR (W i)= .box 131 (W i).flatten:=K1 (by rw[Wl];omega);have e2:swR (W (i+1))= .box 131 (W (i+1)).flatten:=K1 (by rw[Wl];omega);have t1:=Ws i hlt;have t2:=Wf i;rw[e1];repeat' (first|refine Vk fun K hK=> ?_|apply V0|apply Vb|apply Vc|apply Vr|apply Vs|with_reducible apply aa|refine Vq (by kernel_rfl) ?_|((first|apply gE|apply gR);simp only[zA,simprocAttr,plC,hlt,hw,t1,t2,show i*3+1+1<=s.sw.length*3 by omega])|exact Vn|(apply Vz;(first|refine Xp (.inr rfl) rfl rfl rfl (fun _ _=>rfl) ok33 (k:=n+2) (off:=0) rfl (Xb _ (by simp)) (X6 _ (Nat.le_refl _) 2) rfl rfl ?_|refine Xp (.inr rfl) rfl rfl rfl (fun _ _=>rfl) ok33 (k:=m+2) (off:=0) rfl (Xb _ (by simp)) (X6 _ hm 2) rfl rfl ?_)<;>first|rfl|exact AV.le.rfl _|(simp only[sL,ti33,ad,plC,hlt,hw,t1,t2,show i*3+1+1<=s.sw.length*3 by omega];done)|rfl|skip)|(apply Vx;simp only[sb,reduceIte,Nat.reduceEqDiff])|(refine hK _ ?_;clear hK K)|refine Vt rfl ?_|refine Vf rfl ?_|refine Vi rfl (fun hg=> ?_) (fun hg=> ?_)|clear hK K)
  refine⟨i+1,by omega,by omega,?_⟩;rw[e2];refine La rfl ?_ ?_<;>simp only[sL]
 obtain rfl:i=s.sw.length:=by omega
 clear hw hi hlt Ws Wf;repeat' (first|refine Vk fun K hK=> ?_|apply V0|apply Vb|apply Vc|apply Vr|apply Vs|with_reducible apply aa|refine Vq (by kernel_rfl) ?_|((first|apply gE|apply gR);simp only[zA,simprocAttr,plC,Nat.lt_irrefl])|exact Vn|(apply Vz;(first|refine Xp (.inr rfl) rfl rfl rfl (fun _ _=>rfl) ok33 (k:=n+2) (off:=0) rfl (Xb _ (by simp)) (X6 _ (Nat.le_refl _) 2) rfl rfl ?_|refine Xp (.inr rfl) rfl rfl rfl (fun _ _=>rfl) ok33 (k:=m+2) (off:=0) rfl (Xb _ (by simp)) (X6 _ hm 2) rfl rfl ?_)<;>first|rfl|exact AV.le.rfl _|(simp only[sL,ti33,ad,plC,dx,Nat.lt_irrefl];done)|rfl|skip)|(apply Vx;simp only[sb])|(refine hK _ ?_;clear hK K)|refine Vt rfl ?_|refine Vf rfl ?_|refine Vi rfl (fun hg=> ?_) (fun hg=> ?_)|clear hK K)
 apply V5;refine Xwm (s.lk.length) (fun i=>tp [9] (tr 47 21 [(46,i64 (i:Int))])) (fun i=>[some (.box 28 (plC p)),some (.box 33 [.bsl (n+3) 0 s.tr.length false,.bsl (n+4) 0 s.sw.length false,.bsl (n+5) 0 s.lk.length false]),some (.box 33 [.sl 0 [] .nil,.sl 0 [] .nil,.sl 0 [] .nil]),some (tkR (T s.tr.length)),some (swR (W s.sw.length)),some (lkR (L i)),none]) ?_ fun i hi=> ?_
 ·refine X2 ?_ ?_ (by first|rfl|(simp only[plC];rfl)|simp only[plC]) rfl rfl rfl<;>simp only[sL,plC]
 simp only[pt];have hw:=Yl (n:=i) 1 1 rfl (by omega);by_cases hlt:i<s.lk.length
 ·have e1:lkR (L i)= .box 95 (L i).flatten:=K1 (by rw[Ll];omega);have e2:lkR (L (i+1))= .box 95 (L (i+1)).flatten:=K1 (by rw[Ll];omega);have t2:=Lf i;have t3:=Lg i hlt;have hlr:i<p.rts.length:=by omega
  have gr:=Xg rtC p.rts i [] hlr;have e3:p.rts.getD i X7o=p.rts[i]:=by simp [ah,hlr]
  by_cases h0:0<(s.lk[i]).2.2.2
  ·have t1:=Ls i hlt h0;rw[e3] at t1;have z0:decide (0<(s.lk[i]).2.2.2)=true:=by simpa using h0
   rw[e1];generalize (s.lk[i]).2.2.2=z at*;repeat' (first|refine Vk fun K hK=> ?_|apply V0|apply Vb|apply Vc|apply Vr|apply Vs|with_reducible apply aa|refine Vd 19 [] [[],[1],[],[],[0],[],[],[],[],[],[],[5]] [[],[],[],[],[],[],[],[],[],[],[],[5]] (by kernel_rfl) (by decide) (by decide) (by kernel_rfl) ?_|refine Vq (by kernel_rfl) ?_|((first|apply gE|apply gR|apply gD|apply gF);simp only[zA,simprocAttr,plC,rtC,hlt,hlr,gr,hw,t1,t2,t3,z0,gt_iff_lt,show i*4+3+1<=s.lk.length*4 by omega])|exact Vn|(apply Vz;(first|refine Xp (.inr rfl) rfl rfl rfl (fun _ _=>rfl) ok33 (k:=n+2) (off:=0) rfl (Xb _ (by simp)) (X6 _ (Nat.le_refl _) 2) rfl rfl ?_|refine Xp (.inr rfl) rfl rfl rfl (fun _ _=>rfl) ok33 (k:=m+2) (off:=0) rfl (Xb _ (by simp)) (X6 _ hm 2) rfl rfl ?_)<;>first|rfl|exact AV.le.rfl _|(simp only[sL,ti33,ad,plC,rtC,hlt,hlr,gr,hw,t1,t2,t3,z0,gt_iff_lt,af,show i*4+3+1<=s.lk.length*4 by omega,show i*4+3<s.lk.length*4 by omega];done)|rfl|skip)|(apply Vx;simp only[sb,reduceIte,Nat.reduceEqDiff])|(refine hK _ ?_;clear hK K)|refine Vt rfl ?_|refine Vf rfl ?_|refine Vi rfl (fun hg=> ?_) (fun hg=> ?_)|clear hK K)
   refine⟨i+1,by omega,by omega,?_⟩;rw[e2];refine La rfl ?_ ?_<;>simp only[sL]
  ·have t1:=Lk i hlt h0;have z0:decide (0<(s.lk[i]).2.2.2)=false:=by simpa using h0
   rw[e1];generalize (s.lk[i]).2.2.2=z at*;repeat' (first|refine Vk fun K hK=> ?_|apply V0|apply Vb|apply Vc|apply Vr|apply Vs|with_reducible apply aa|refine Vq (by kernel_rfl) ?_|((first|apply gE|apply gR);simp only[zA,simprocAttr,plC,hlt,hw,t3,z0,gt_iff_lt])|exact Vn|(apply Vz;(first|refine Xp (.inr rfl) rfl rfl rfl (fun _ _=>rfl) ok33 (k:=n+2) (off:=0) rfl (Xb _ (by simp)) (X6 _ (Nat.le_refl _) 2) rfl rfl ?_|refine Xp (.inr rfl) rfl rfl rfl (fun _ _=>rfl) ok33 (k:=m+2) (off:=0) rfl (Xb _ (by simp)) (X6 _ hm 2) rfl rfl ?_)<;>first|rfl|exact AV.le.rfl _|(simp only[sL,ti33,ad,plC,hlt,hw,t2,t3,z0,gt_iff_lt,show i*4+3+1<=s.lk.length*4 by omega,show i*4+3<s.lk.length*4 by omega];done)|rfl|skip)|(apply Vx;simp only[sb,reduceIte,Nat.reduceEqDiff])|(refine hK _ ?_;clear hK K)|refine Vt rfl ?_|refine Vf rfl ?_|refine Vi rfl (fun hg=> ?_) (fun hg=> ?_)|clear hK K)
   refine⟨i+1,by omega,by omega,?_⟩;rw[e2,<- t1];refine La rfl ?_ ?_<;>simp only[sL]
 obtain rfl:i=s.lk.length:=by omega
 clear hw hi hlt Ls Lf Lg Lk;repeat' (first|refine Vk fun K hK=> ?_|apply V0|apply Vb|apply Vc|apply Vr|apply Vs|with_reducible apply aa|refine Vq (by kernel_rfl) ?_|((first|apply gE|apply gR);simp only[zA,simprocAttr,plC,Nat.lt_irrefl])|exact Vn|(apply Vz;(first|refine Xp (.inr rfl) rfl rfl rfl (fun _ _=>rfl) ok33 (k:=n+2) (off:=0) rfl (Xb _ (by simp)) (X6 _ (Nat.le_refl _) 2) rfl rfl ?_|refine Xp (.inr rfl) rfl rfl rfl (fun _ _=>rfl) ok33 (k:=m+2) (off:=0) rfl (Xb _ (by simp)) (X6 _ hm 2) rfl rfl ?_)<;>first|rfl|exact AV.le.rfl _|(simp only[sL,ti33,ad,plC,dx,Nat.lt_irrefl];done)|rfl|skip)|(apply Vx;simp only[sb])|(refine hK _ ?_;clear hK K)|refine Vt rfl ?_|refine Vf rfl ?_|refine Vi rfl (fun hg=> ?_) (fun hg=> ?_)|clear hK K)
 generalize tkR (T s.tr.length)=RT at*;generalize swR (W s.sw.length)=RW at*;generalize lkR (L s.lk.length)=RL at*;refine Yy (Il (i:=3) (k:=B) [(18,.top),(20,.top),(32,.top),(44,.top),(68,.top)] (lo1:=[some (.box 28 (plC p)),some (.box 33 [.bsl B 0 s.tr.length false,.bsl (n+4) 0 s.sw.length false,.bsl (n+5) 0 s.lk.length false]),some (.box 33 [.bsl B 0 s.tr.length false,.bsl (n+4) 0 s.sw.length false,.bsl (n+5) 0 s.lk.length false]),some RT,some RW,some RL,none]) rfl hB0n hB0 ?_ ?_) ?_
 ·simp only[Ty,E8,R0,Jb,Jc,Jd,Je,X4,sm,plC]
 ·simp only[Ty,E8,R0,Jb,Jc,Jd,Je,X4,sm,plC]
 simp only[pt];refine Yy (Il (i:=4) (k:=B+1) [] (lo1:=[some (.box 28 (plC p)),some (.box 33 [.bsl B 0 s.tr.length false,.bsl (B+1) 0 s.sw.length false,.bsl (n+5) 0 s.lk.length false]),some (.box 33 [.bsl B 0 s.tr.length false,.bsl (B+1) 0 s.sw.length false,.bsl (n+5) 0 s.lk.length false]),Xoe (some RT),some RW,some RL,none]) rfl hB1n (by show Xw _ _ _ _= _;rw[Zp _ _ (by omega)];exact hB1) ?_ ?_) ?_
 ·simp only[Ty,E8,R0,Jb,Jc,Jd,Je,X4,sm,plC]
 ·simp only[Ty,E8,R0,Jb,Jc,Jd,Je,X4,sm,plC]
 simp only[pt];refine Yy (Il (i:=5) (k:=B+2) [] (lo1:=[some (.box 28 (plC p)),some (.box 33 [.bsl B 0 s.tr.length false,.bsl (B+1) 0 s.sw.length false,.bsl (B+2) 0 s.lk.length false]),some (.box 33 [.bsl B 0 s.tr.length false,.bsl (B+1) 0 s.sw.length false,.bsl (B+2) 0 s.lk.length false]),Xoe (some RT),Xoe (some RW),some RL,none]) rfl hB2n (by show Xw _ _ _ _= _;rw[Zp _ _ (by omega),Zp _ _ (by omega)];exact hB2) ?_ ?_) ?_
 ·simp only[Ty,E8,R0,Jb,Jc,Jd,Je,X4,sm,plC]
 ·simp only[Ty,E8,R0,Jb,Jc,Jd,Je,X4,sm,plC]
 simp only[pt];exact Yd (Xp (.inr rfl) rfl rfl rfl (fun _ _=>rfl) ok33 (k:=n+2) (off:=0) rfl (Xb _ (by simp)) (X6 _ (Nat.le_refl _) 2) rfl rfl (.rfl _))
theorem Xxb {k:Nat} {s:Nat->Option Res} {t:St} (h:holds s (Xfx k (Xgg [some (tkR (t.tr.map tkC)),some (swR (t.sw.map sgC)),some (lkR (t.lk.map lkC))]))):RV s (.agg (stX k t)) (stA t):=by
 have vT:∀x,x∈t.tr.map tkC->∀c,c∈x->∃v,c= .val v:=fun x hx c hc=>by
  obtain⟨a,_,rfl⟩:=dj.1 hx;simp [tkC] at hc;rcases hc with hc|hc<;>exact⟨_,hc⟩
 have vW:∀x,x∈t.sw.map sgC->∀c,c∈x->∃v,c= .val v:=fun x hx c hc=>by
  obtain⟨a,_,rfl⟩:=dj.1 hx;simp [sgC] at hc;rcases hc with hc|hc|hc<;>exact⟨_,hc⟩
 have vL:∀x,x∈t.lk.map lkC->∀c,c∈x->∃v,c= .val v:=fun x hx c hc=>by
  obtain⟨a,_,rfl⟩:=dj.1 hx;simp [lkC] at hc;rcases hc with hc|hc|hc|hc<;>exact⟨_,hc⟩
 have b1:=Xfm (s:=s) (k:=k) (sz:=2) (e:=156) (els:=t.tr.map tkC) (fun r hr=>Xpz h (j:=0) (Xen (by simp [tkR,(Xet hr).1]) (Xet hr).2)) (E5 (f:=tkC) (fun _=>rfl) _) vT;have b2:=Xfm (s:=s) (k:=k+1) (sz:=3) (e:=131) (els:=t.sw.map sgC) (fun r hr=>Xpz h (j:=1) (Xen (by simp [swR,(Xet hr).1]) (Xet hr).2)) (E5 (f:=sgC) (fun _=>rfl) _) vW;have b3:=Xfm (s:=s) (k:=k+2) (sz:=4) (e:=95) (els:=t.lk.map lkC) (fun r hr=>Xpz h (j:=2) (Xen (by simp [lkR,(Xet hr).1]) (Xet hr).2)) (E5 (f:=lkC) (fun _=>rfl) _) vL;rw[af] at b1 b2 b3;refine .agg _ _ rfl fun i c c' hi hi'=> ?_
 match i,hi,hi' with
 |0,hi,hi'=>simp [stX,stC] at hi hi';subst hi;subst hi';exact b1
 |1,hi,hi'=>simp [stX,stC] at hi hi';subst hi;subst hi';exact b2
 |2,hi,hi'=>simp [stX,stC] at hi hi';subst hi;subst hi';exact b3
 |i+3,hi,_=>simp [stX] at hi
theorem Xyu (p:Pl) (s:St) (hs:Sm p) (hS:SmS s) (hE:Xrz p s=0):Xr Tryz.prog 54 [plA p,stA s] [] (.tup [stA (Xjm p s),i64 0]) []:=by
 refine Xub (l:=[some (tkR ((Xjm p s).tr.map tkC)),some (swR ((Xjm p s).sw.map sgC)),some (lkR ((Xjm p s).lk.map lkC))]) (r:=fun K=>[.agg (stX K s),i64 0]) (fun K=>Xxa K p s hs hS hE) fun K o h=> ?_;have e:stX K s=stX K (Xjm p s):=by simp [stX,Xjm]
 show rvL _ [.agg (stX K s),_] _
 rw[e];exact⟨Xxb h,.val _,trivial⟩
end Go.Proofs.YtgpdghbmiihfbaaGreat.Pln
