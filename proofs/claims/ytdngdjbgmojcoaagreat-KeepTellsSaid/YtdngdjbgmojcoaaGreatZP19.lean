/- The layer of abstract values, joined. -/
import Derived.Test.YtdngdjbgmojcoaaGreatZPR
import Derived.Test.YtdngdjbgmojcoaaGreatZWC
import Derived.Test.YtdngdjbgmojcoaaGreatZW4
namespace Go.Proofs.YtdngdjbgmojcoaaGreat.Pln
set_option linter.all false
set_option maxHeartbeats 16000000
set_option maxRecDepth 8000
open Go Go.VS Tab
attribute [local irreducible] AWp Xp0 Pg X5c Qy Lt Tp FdT Eb
theorem Lb {P:Program} {c:Code} {Q:Exit->AState->Prop} {σ:AState} (lE:List (Nat×AV)) (loE:List (Option Res)) (h1:σ.le {σ with fr:=X4 σ.fr lE,lo:=loE}) (h:AWp P c Q {σ with fr:=X4 σ.fr lE,lo:=loE}):AWp P c Q σ:=Yy h1 h
theorem Y1b (a b c d e f:Bool) (l:List Bool):B7 (a::b::c::d::e::f::true::l) 6↔True:=by simp [B7]
theorem Y1c (a b c d e f g:Bool) (l:List Bool):B7 (a::b::c::d::e::f::g::true::l) 7↔True:=by simp [B7]
theorem Y1d (a b c d e f g h:Bool) (l:List Bool):B7 (a::b::c::d::e::f::g::h::true::l) 8↔True:=by simp [B7]
theorem Y1e (a b c d e f g h i:Bool) (l:List Bool):B7 (a::b::c::d::e::f::g::h::i::true::l) 9↔True:=by simp [B7]
def sk:=ab @Y1b<|ab @Y1c<|ab @Y1d<| @Y1e
theorem Xut (p:Pl) (r:Rt) (hs:Sm p) (h20:r.path.length<=20∧r.over.length<=20∧r.flanks.length<=20) (hpath:1<=r.path.length)
  (hin:∀s,s∈p.secs->(s.id==(Xl0 p.sgs r.entry).2.1)=true->0<=(Xl0 p.sgs r.entry).2.2∧(Xl0 p.sgs r.entry).2.2<s.ends.length):
  Xr Tryz.prog 132 [plA p,rtA r] [] (.tup [wyA (Xop p r),.sl 2 ((Xpv p r).map jnC) .sh,i64 (Xrb p r)]) []:=by
 obtain⟨hp1,hp2,hp3⟩:=h20;have hsl:=hs.sgs;have hsc:=hs.secs;have c1:=Xu0 p r.entry (by omega);have c2:=Xu0 p r.ex (by omega);obtain⟨en,hen⟩:∃en,en=Xl0 p.sgs r.entry:=⟨_,rfl⟩
 obtain⟨ex,hex⟩:∃ex,ex=Xl0 p.sgs r.ex:=⟨_,rfl⟩
 rw[<- hen] at c1 hin;rw[<- hex] at c2;simp only[sgA,sgC,plA,plC] at c1 c2;obtain⟨RW,hRW⟩:∃RW,RW=Xop p r:=⟨_,rfl⟩
 obtain⟨RO,hRO⟩:∃RO,RO=Xpv p r:=⟨_,rfl⟩
 obtain⟨RE,hRE⟩:∃RE,RE=Xrb p r:=⟨_,rfl⟩
 rw[<- hRW,<- hRO,<- hRE];refine Xc 12 Tryz.func132 rfl fun n out _ _=> ?_;simp only[sn,Tryz.ntmps132,simprocAttr];have hg:=Nat.le_refl 0;refine Vy fun K hK=> ?_;simp only[zA,simprocAttr,plA,plC,rtA,rtC];repeat' (first|(refine hK _ ?_;clear hK K)|with_reducible apply ab)
 repeat' (first|refine Vk fun K hK=> ?_|apply V0|apply Vb|apply Vc|apply Vr|apply Vs|with_reducible apply ab|refine Vd 1 [] [[0],[],[1],[],[0],[],[1],[],[3],[4],[3],[4]] [[],[],[],[],[],[],[],[],[3],[4],[3],[4]] (by kernel_rfl) (by decide) (by decide) (by kernel_rfl) ?_|refine Vq (by kernel_rfl) ?_|((first|apply gE|apply gR|apply gD|apply gF|apply gS);simp only[zA,simprocAttr,X0])|exact Vn|(refine X3 (c1) ?_)|(refine X3 (c2) ?_)|((refine Vg (fun hg=> ?_) (fun hg=> ?_))<;>try simp only[nb] at hg)|(apply Vx;simp only[sb,reduceIte,Nat.reduceEqDiff])|(refine hK _ ?_;clear hK K)|refine Vt rfl ?_|refine Vf rfl ?_|refine Vi rfl (fun hg=> ?_) (fun hg=> ?_)|clear hK K)
 refine Yy (Q9 (i:=6) 179 3 rfl) ?_;refine Yy (Q9 (i:=7) 138 2 rfl) ?_;refine Yy (Zi (i:=4) (t:=8) 1 (.ref (sgC ex)) rfl rfl (.ptr 0)) ?_;simp only[s_0,s_s];apply V5;refine Xrd (p.secs.length) (fun m i=>tp [11] (tr 32 18 [(31,i64 (i:Int)),(2,.ptr (m+0) 0),(3,.ptr (m+1) 0),(4,.ptr (m+2) 0),(7,.ptr (m+3) 0),(9,.ptr (m+5) 0)])) (fun m i=>[some (.box 28 (plC p)),some (.box 82 (rtC r)),some (.box 130 [.sl 0 [] .nil,.sl 0 [] .nil,.sl 0 [] .nil,i64 0]),some (.box 92 (sgC en)),some .dead,some (.box 238 (wkC p ⟨Xwg (p.secs.take i) en,[],[],false⟩ (m+6) (m+7))),some (.row 179 3 0),some (.row 138 2 0),none,none,none,none]) ?_ fun m i hm hi=> ?_
 ·refine X2 ?_ ?_ (by first|rfl|(simp only[plC,rtC,sgC,wkC,ai,ag,List.take_zero,Xru];rfl)|simp only[plC,rtC,sgC,wkC,ai,ag,List.take_zero,Xru]) rfl rfl rfl<;>simp only[sL,plC,rtC,sgC,wkC,ag,Xru]
 simp only[pt];have hw:=Yl (n:=i) 1 1 rfl (by omega);by_cases hlt:i<p.secs.length
 ·have gi:=Xg Y6 p.secs i [] hlt;have hsu:=Xsj hlt en;have hii:=hin _ (a8 hlt);cases hb:(p.secs[i].id==en.2.1) with
  |false=>
   rw[hb,if_neg (by decide)] at hsu;repeat' (first|refine Vk fun K hK=> ?_|apply V0|apply Vb|apply Vc|apply Vr|apply Vs|with_reducible apply ab|refine Vq (by kernel_rfl) ?_|((first|apply gE|apply gR|apply gS);simp only[zA,simprocAttr,Xi hm,Y6,sgC,hlt,gi,X0,hb,hw])|exact Vn|((refine Vg (fun hg=> ?_) (fun hg=> ?_))<;>try simp only[nb] at hg)|(apply Vx;simp only[sb,reduceIte,Nat.reduceEqDiff])|(refine hK _ ?_;clear hK K)|refine Vt rfl ?_|refine Vf rfl ?_|refine Vi rfl (fun hg=> ?_) (fun hg=> ?_)|clear hK K)
   refine⟨i+1,by omega,by omega,?_⟩;rw[hsu];refine Xx [true,true,true,true,true,true,true,true,false,false,false,false] ?_ ?_<;>intro n_<;>simp only[sM,plC,rtC,wkC,sk]
  |true=>
   rw[hb,if_pos rfl] at hsu;obtain⟨q1,q2⟩:=hii hb;obtain⟨ne,hne⟩:=bj q1;have hnl:ne<p.secs[i].ends.length:=by omega
   have gn:=Xg jnC p.secs[i].ends ne [] hnl;have gd:p.secs[i].ends.getD en.2.2.toNat (0,0)=p.secs[i].ends[ne]:=by rw[hne];simp [af,hnl]
   rw[gd] at hsu;repeat' (first|refine Vk fun K hK=> ?_|apply V0|apply Vb|apply Vc|apply Vr|apply Vs|with_reducible apply ab|refine Vq (by kernel_rfl) ?_|((first|apply gE|apply gR|apply gS);simp only[zA,simprocAttr,Xi hm,Y6,sgC,jnC,wkC,hlt,gi,X0,hb,hw,hne,hnl,gn])|exact Vn|((refine Vg (fun hg=> ?_) (fun hg=> ?_))<;>try simp only[nb] at hg)|(apply Vx;simp only[sb,reduceIte,Nat.reduceEqDiff])|(refine hK _ ?_;clear hK K)|refine Vt rfl ?_|refine Vf rfl ?_|refine Vi rfl (fun hg=> ?_) (fun hg=> ?_)|clear hK K)
   refine⟨i+1,by omega,by omega,?_⟩;rw[hsu];refine Xx [true,true,true,true,true,true,true,true,false,false,false,false] ?_ ?_<;>intro n_<;>simp only[sM,plC,rtC,sk]
 ·obtain rfl:i=p.secs.length:=by omega
  rw[bi];have cc:=fun k=>Xpu k (r.path.map Ym) (r.over.map Ym) .full .sh .sh (by simp;omega);have lit:∀(σ:AState) (K:AV->List (Nat×Res)->Prop),X1 tab σ K none 224 2 [(0,.sl 1 (r.path.map Ym) .sh),(1,.sl 1 (r.over.map Ym) .sh)]=K (.sl 1 [[.sl 1 (r.path.map Ym) .sh],[.sl 1 (r.over.map Ym) .sh]] .full) []:=fun σ K=>Te (T:=tab) (ti:=ti224) (te:=ti61) rfl rfl rfl rfl rfl rfl;repeat' (first|refine Vk fun K hK=> ?_|apply V0|apply Vb|apply Vc|apply Vr|apply Vs|with_reducible apply ab|refine Vq (by kernel_rfl) ?_|((first|apply gE|apply gR|apply gS);simp only[zB,simprocAttr,lit,Xi hm,plC,rtC,wkC,hlt,X0])|exact Vn|(refine Sb (cc (m+8)) (X6 _ hm 8) (Xb _ (by simp)) (by simp) ?_)|((refine Vg (fun hg=> ?_) (fun hg=> ?_))<;>try simp only[nb] at hg)|(apply Vx;simp only[sb])|(refine hK _ ?_;clear hK K)|refine Vt rfl ?_|refine Vf rfl ?_|refine Vi rfl (fun hg=> ?_) (fun hg=> ?_)|clear hK K)
  obtain⟨L,hL⟩:∃L,L=r.path++r.over:=⟨_,rfl⟩
  have hLm:r.path.map Ym++r.over.map Ym=L.map Ym:=by rw[hL,aw]
  have hLl:L.length=r.path.length+r.over.length:=by rw[hL,ac]
  have hL40:L.length<=40:=by omega
  obtain⟨WK,hWK⟩:∃WK,WK=Xom p r:=⟨_,rfl⟩
  have hW0:WK 0=⟨Xwg p.secs en,[],[],false⟩:=by rw[hWK,hen];rfl
  have hWS:∀i,WK (i+1)=Xp6 p r (WK i) i:=fun i=>by rw[hWK];rfl
  have hWl:∀i,(WK i).asks.length<=i∧(WK i).outs.length<=i:=fun i=>by rw[hWK];exact Xrw p r i
  have hEW:Xt6 p r=WK L.length:=by rw[hWK,hL];rfl
  unfold Xop Xpv Xrb at*;rw[<- hen] at hRW;rw[hEW] at hRW hRO hRE;refine Lb [(56,X62 L),(57,i64 (L.length:Int))] ([some (.box 28 (plC p)),some (.box 82 (rtC r)),some (.box 130 [.sl 0 [] .nil,.sl 0 [] .nil,.sl 0 [] .nil,i64 0]),some (.box 92 (sgC en)),some .dead,some (.box 238 (wkC p ⟨Xwg p.secs en,[],[],false⟩ (m+6) (m+7))),some (.row 179 3 (WK 0).asks.length),some (.row 138 2 (WK 0).outs.length),some (.row 3 1 (r.path.length+r.over.length)),some (.box 61 [X62 L]),none,none]) ?_ ?_
  ·refine La rfl ?_ ?_<;>simp only[sL,hLm,hW0,ai,plC,rtC,sgC,wkC,ag,List.length_nil]
  refine Yy (Zi (i:=9) (t:=12) 1 (.ref [X62 L]) rfl rfl (.ptr 0)) ?_;simp only[pt];apply V5;refine Xrd (L.length) (fun m i=>tp [13,14] (tr 59 48 [(58,i64 (i:Int)),(2,.ptr (m+0) 0),(3,.ptr (m+1) 0),(4,.ptr (m+2) 0),(7,.ptr (m+3) 0),(9,.ptr (m+5) 0)])) (fun m i=>[some (.box 28 (plC p)),some (.box 82 (rtC r)),some (.box 130 [.sl 0 [] .nil,.sl 0 [] .nil,.sl 0 [] .nil,i64 0]),some (.box 92 (sgC en)),some .dead,some (.box 238 (wkC p (WK i) (m+6) (m+7))),some (.row 179 3 (WK i).asks.length),some (.row 138 2 (WK i).outs.length),some (.row 3 1 (r.path.length+r.over.length)),some .dead,none,none]) ?_ fun m i hm hi=> ?_
  ·refine X2 ?_ ?_ (by first|rfl|(simp only[plC,rtC,sgC,wkC,hW0,ai,ag];rfl)|simp only[plC,rtC,sgC,wkC,hW0,ai,ag]) rfl rfl rfl<;>simp only[sL,plC,rtC,sgC,wkC,hW0,ag]
  simp only[pt];have hw:=Yl (n:=i) 1 1 rfl (by omega);by_cases hlt:i<L.length
  ·have gi:=Xg Ym L i [] hlt;have hwp:=X25 (n:=r.path.length) 1 1 rfl (by omega) (by omega);have hwl:=X25 (n:=L.length) 1 1 rfl (by omega) (by omega);obtain⟨ha,ho⟩:=hWl i;have hse:=Xus hs (WK i) L[i];have gd:(r.path++r.over).getD i 0=L[i]:=by rw[<- hL];simp [af,hlt]
   have hst:=hWS i;unfold Xp6 at hst;rw[gd,<- hex,<- hL] at hst;repeat' (first|refine Vk fun K hK=> ?_|apply V0|apply Vb|apply Vc|apply Vr|apply Vs|with_reducible apply ab|refine Vq (by kernel_rfl) ?_|((first|apply gE|apply gR|apply gS);simp only[zA,simprocAttr,Xi hm,hlt])|exact Vn|((refine Vg (fun hg=> ?_) (fun hg=> ?_))<;>try simp only[nb] at hg)|(apply Vx;simp only[sb,reduceIte,Nat.reduceEqDiff])|(refine hK _ ?_;clear hK K)|refine Vt rfl ?_|refine Vf rfl ?_|refine Vi rfl (fun hg=> ?_) (fun hg=> ?_)|clear hK K)
   simp only[zA,simprocAttr,gi,Ym,X0];repeat' (first|(refine hK _ ?_;clear hK K)|with_reducible apply ab)
   refine Yy (Zi (i:=10) (t:=13) 1 (.ref [i64 (i:Int)]) rfl rfl (.ptr 0)) ?_;refine Yy (Zi (i:=11) (t:=14) 1 (.ref [i64 L[i]]) rfl rfl (.ptr 0)) ?_;simp only[s_0,s_s];have hnl:(L.getD (i+1) 0)=L.getD (i+1) 0:=rfl;have hb0f:(Xd Tryz.prog 160)=True:=hb0 _ (by decide) (by decide);by_cases hA:i+1=r.path.length
   ·have bA:((i:Int)==((r.path.length - 1:Nat):Int))=true:=by simp;omega
    rw[if_pos hA] at hst;cases hX:(r.ex==0) with
    |true=>
     rw[if_pos (by simpa using hX)] at hst;have ct:=Xz0 p (WK i) (m+5) (m+6) (m+7) (by omega) (by omega) (by omega) L[i] i 160 [] (fun _ j=>j==(0,0)) (hb0 _ (by decide) (by decide)) (fun e j=>Xxk e j) (by omega) (by omega) (by omega) (by omega);rw[<- hst] at ct;repeat' (first|refine Vk fun K hK=> ?_|apply V0|apply Vb|apply Vc|apply Vr|apply Vs|with_reducible apply ab|refine Vq (by kernel_rfl) ?_|((first|apply gE|apply gR|apply gS);simp only[zA,simprocAttr,Xi hm,rtC,Xjn hm,hwp,hw,bA,hX])|exact Vn|(refine Xpb ct (X6 _ hm 5) (X6 _ hm 6) (X6 _ hm 7) (Xb _ (by simp)) (Xb _ (by simp)) (Xb _ (by simp)) (by simp) (by simp) (by simp) ?_)|((refine Vg (fun hg=> ?_) (fun hg=> ?_))<;>try simp only[nb] at hg)|(apply Vx;simp only[sb,reduceIte,Nat.reduceEqDiff])|(refine hK _ ?_;clear hK K)|refine Vt rfl ?_|refine Vf rfl ?_|(refine Vi rfl (fun hg=> ?_) (fun hg=> ?_))<;>try simp only[hg]|clear hK K)
     refine⟨i+1,by omega,by omega,?_⟩;refine Xx [true,true,true,true,true,true,true,true,true,true,false,false] ?_ ?_<;>intro n_<;>simp only[sM,plC,sgC,wkC,sk]
    |false=>
     rw[if_neg (by simpa using hX)] at hst;have ct:=Xz0 p (WK i) (m+5) (m+6) (m+7) (by omega) (by omega) (by omega) L[i] i 161 [.ref [i64 L[i]],.ref (sgC ex)] (fun e _=>L[i]==ex.2.1&&e==ex.2.2) (hb0 _ (by decide) (by decide)) (fun e j=>Xxl L[i] ex e j) (by omega) (by omega) (by omega) (by omega);rw[<- hst] at ct;repeat' (first|refine Vk fun K hK=> ?_|apply V0|apply Vb|apply Vc|apply Vr|apply Vs|with_reducible apply ab|refine Vq (by kernel_rfl) ?_|((first|apply gE|apply gR|apply gS);simp only[zA,simprocAttr,Xi hm,rtC,Xjn hm,hwp,hw,bA,hX])|exact Vn|(refine Xpb ct (X6 _ hm 5) (X6 _ hm 6) (X6 _ hm 7) (Xb _ (by simp)) (Xb _ (by simp)) (Xb _ (by simp)) (by simp) (by simp) (by simp) ?_)|((refine Vg (fun hg=> ?_) (fun hg=> ?_))<;>try simp only[nb] at hg)|(apply Vx;simp only[sb,reduceIte,Nat.reduceEqDiff])|(refine hK _ ?_;clear hK K)|refine Vt rfl ?_|refine Vf rfl ?_|(refine Vi rfl (fun hg=> ?_) (fun hg=> ?_))<;>try simp only[hg]|clear hK K)
     refine⟨i+1,by omega,by omega,?_⟩;refine Xx [true,true,true,true,true,true,true,true,true,true,false,false] ?_ ?_<;>intro n_<;>simp only[sM,plC,sgC,wkC,sk]
   ·have bA:((i:Int)==((r.path.length - 1:Nat):Int))=false:=by simp;omega
    rw[if_neg hA] at hst;by_cases hB:i+1=L.length
    ·have bB:((i:Int)==((L.length - 1:Nat):Int))=true:=by simp;omega
     rw[if_pos hB] at hst;have ct:=Y1a p (WK i) (m+5) (m+6) (m+7) (by omega) L[i] i (by omega) (by omega);rw[<- hst] at ct;have ho2:(WK (i+1)).outs.length=(WK i).outs.length:=by
      rw[hst];unfold Xpt;obtain⟨s,l,e⟩:=Xox p (WK i) L[i];rw[e];dsimp only;split
      ·rw[(Xqd _ _ _ _).2.1]
      ·rfl
     repeat' (first|refine Vk fun K hK=> ?_|apply V0|apply Vb|apply Vc|apply Vr|apply Vs|with_reducible apply ab|refine Vq (by kernel_rfl) ?_|((first|apply gE|apply gR|apply gS);simp only[zA,simprocAttr,Xi hm,rtC,Xjn hm,hwp,hwl,hw,bA,bB])|exact Vn|(refine Xk ct (X6 _ hm 5) (X6 _ hm 6) (Xb _ (by simp)) (Xb _ (by simp)) (by simp) (by simp) ?_)|((refine Vg (fun hg=> ?_) (fun hg=> ?_))<;>try simp only[nb] at hg)|(apply Vx;simp only[sb,reduceIte,Nat.reduceEqDiff])|(refine hK _ ?_;clear hK K)|refine Vt rfl ?_|refine Vf rfl ?_|(refine Vi rfl (fun hg=> ?_) (fun hg=> ?_))<;>try simp only[hg]|clear hK K)
     rw[<- ho2];refine⟨i+1,by omega,by omega,?_⟩;refine Xx [true,true,true,true,true,true,true,true,true,true,false,false] ?_ ?_<;>intro n_<;>simp only[sM,plC,sgC,wkC,sk]
    ·have bB:((i:Int)==((L.length - 1:Nat):Int))=false:=by simp;omega
     rw[if_neg hB] at hst;have ct:=Xz0 p (WK i) (m+5) (m+6) (m+7) (by omega) (by omega) (by omega) L[i] i 163 [.ref [X62 L],.ref [i64 (i:Int)]] (fun _ j=>j.1==L.getD (i+1) 0) (hb0 _ (by decide) (by decide)) (fun e j=>Xxm L i (by omega) (by omega) e j) (by omega) (by omega) (by omega) (by omega);rw[<- hst] at ct;repeat' (first|refine Vk fun K hK=> ?_|apply V0|apply Vb|apply Vc|apply Vr|apply Vs|with_reducible apply ab|refine Vq (by kernel_rfl) ?_|((first|apply gE|apply gR|apply gS);simp only[zA,simprocAttr,Xi hm,rtC,Xjn hm,hwp,hwl,hw,bA,bB])|exact Vn|(refine Xpb ct (X6 _ hm 5) (X6 _ hm 6) (X6 _ hm 7) (Xb _ (by simp)) (Xb _ (by simp)) (Xb _ (by simp)) (by simp) (by simp) (by simp) ?_)|((refine Vg (fun hg=> ?_) (fun hg=> ?_))<;>try simp only[nb] at hg)|(apply Vx;simp only[sb,reduceIte,Nat.reduceEqDiff])|(refine hK _ ?_;clear hK K)|refine Vt rfl ?_|refine Vf rfl ?_|(refine Vi rfl (fun hg=> ?_) (fun hg=> ?_))<;>try simp only[hg]|clear hK K)
     refine⟨i+1,by omega,by omega,?_⟩;refine Xx [true,true,true,true,true,true,true,true,true,true,false,false] ?_ ?_<;>intro n_<;>simp only[sM,plC,sgC,wkC,sk]
  ·obtain rfl:i=L.length:=by omega
   obtain⟨ha,ho⟩:=hWl L.length;obtain⟨w,hw'⟩:∃w,w=WK L.length:=⟨_,rfl⟩
   rw[<- hw'] at hRW hRO hRE ha ho;simp only[<- hw'];clear hWS hW0 hWl hEW;cases hlost:w.lost with
   |true=>
    rw[hlost,if_pos rfl] at hRW hRO hRE;subst hRW hRO hRE;repeat' (first|refine Vk fun K hK=> ?_|apply V0|apply Vb|apply Vc|apply Vr|apply Vs|with_reducible apply ab|refine Vq (by kernel_rfl) ?_|((first|apply gE|apply gR|apply gS);simp only[zA,simprocAttr,Xi hm,wkC,hlt,hlost,X0])|exact Vn|((refine Vg (fun hg=> ?_) (fun hg=> ?_))<;>try simp only[nb] at hg)|(apply Vx;simp only[sb])|(refine hK _ ?_;clear hK K)|refine Vt rfl ?_|refine Vf rfl ?_|refine Vi rfl (fun hg=> ?_) (fun hg=> ?_)|clear hK K)
    apply Vz;refine Xuy (.inr rfl) rfl rfl rfl (fun _ _=>rfl) ok130 (k:=m+2) (off:=0) rfl (Xb _ (by simp)) (X6 _ hm 2) rfl rfl rfl ?_;simp only[wyA,wyC,Y2w,ag,List.take,sL,ti130]
   |false=>
    rw[hlost,if_neg (by decide)] at hRW hRO hRE;obtain⟨F,hF⟩:∃F:Nat->Wk,F=fun i=>Xsk w (r.flanks.take i):=⟨_,rfl⟩
    have hF0:F 0=w:=by rw[hF];rfl
    have hFS:∀i (hi:i<r.flanks.length),F (i+1)=Xps (F i) r.flanks[i].1 r.flanks[i].2 (-1):=fun i hi=>by rw[hF];exact Xw3 hi w
    have hFl:∀i,(F i).asks.length<=40+i∧(F i).outs=w.outs:=fun i=>by
     rw[hF];have:=Xu1 w (r.flanks.take i);rw[ba] at this;exact⟨by dsimp only;omega,this.2.1⟩
    have hFe:Xsk w r.flanks=F r.flanks.length:=by rw[hF];dsimp only;rw[List.take_length]
    rw[hFe] at hRW;subst hRW hRO hRE;clear hF;repeat' (first|refine Vk fun K hK=> ?_|apply V0|apply Vb|apply Vc|apply Vr|apply Vs|with_reducible apply ab|refine Vq (by kernel_rfl) ?_|((first|apply gE|apply gR|apply gS);simp only[zA,simprocAttr,Xi hm,rtC,wkC,hlt,hlost])|exact Vn|((refine Vg (fun hg=> ?_) (fun hg=> ?_))<;>try simp only[nb] at hg)|(apply Vx;simp only[sb])|(refine hK _ ?_;clear hK K)|refine Vt rfl ?_|refine Vf rfl ?_|refine Vi rfl (fun hg=> ?_) (fun hg=> ?_)|clear hK K)
    apply V5;refine Xrd (r.flanks.length) (fun m i=>tp [16] (tr 116 10 [(115,i64 (i:Int)),(2,.ptr (m+0) 0),(3,.ptr (m+1) 0),(4,.ptr (m+2) 0),(7,.ptr (m+3) 0),(9,.ptr (m+5) 0)])) (fun m i=>[some (.box 28 (plC p)),some (.box 82 (rtC r)),some (.box 130 [.sl 0 [] .nil,.sl 0 [] .nil,.sl 0 [] .nil,i64 0]),some (.box 92 (sgC en)),some .dead,some (.box 238 (wkC p (F i) (m+6) (m+7))),some (.row 179 3 (F i).asks.length),some (.row 138 2 w.outs.length),some (.row 3 1 (r.path.length+r.over.length)),some .dead,none,none]) ?_ fun m i hm hi=> ?_
    ·refine X2 ?_ ?_ (by first|rfl|(simp only[plC,rtC,sgC,wkC,hF0,hlost,ai];rfl)|simp only[plC,rtC,sgC,wkC,hF0,hlost,ai]) rfl rfl rfl<;>simp only[sL,plC,rtC,sgC,wkC,hF0,hlost]
    simp only[pt];have hw2:=Yl (n:=i) 1 1 rfl (by omega);by_cases hltf:i<r.flanks.length
    ·have gf:=Xg jnC r.flanks i [] hltf;have cA:=Xxj p (F i) (m+5) (m+6) (m+7) (by omega) r.flanks[i].1 r.flanks[i].2 (-1) (by have:=(hFl i).1;omega);rw[<- hFS i hltf] at cA;repeat' (first|refine Vk fun K hK=> ?_|apply V0|apply Vb|apply Vc|apply Vr|apply Vs|with_reducible apply ab|refine Vq (by kernel_rfl) ?_|((first|apply gE|apply gR|apply gS);simp only[zA,simprocAttr,Xi hm,rtC,jnC,X0,Xjn hm,hltf,gf,hw2])|exact Vn|(refine Xk cA (X6 _ hm 5) (X6 _ hm 6) (Xb _ (by simp)) (Xb _ (by simp)) (by simp) (by simp) ?_)|((refine Vg (fun hg=> ?_) (fun hg=> ?_))<;>try simp only[nb] at hg)|(apply Vx;simp only[sb,reduceIte,Nat.reduceEqDiff])|(refine hK _ ?_;clear hK K)|refine Vt rfl ?_|refine Vf rfl ?_|refine Vi rfl (fun hg=> ?_) (fun hg=> ?_)|clear hK K)
     refine⟨i+1,by omega,by omega,?_⟩;refine Xx [true,true,true,true,true,true,true,true,true,true,false,false] ?_ ?_<;>intro n_<;>simp only[sM,plC,sgC,wkC,sk]
    ·obtain rfl:i=r.flanks.length:=by omega
     have k1:=Xez (r.path.map Ym) (by simp;omega);have k2:=Xez (r.over.map Ym) (by simp;omega);have ho3:=(hFl r.flanks.length).2;repeat' (first|refine Vk fun K hK=> ?_|apply V0|apply Vb|apply Vc|apply Vr|apply Vs|with_reducible apply ab|refine Vd 28 [] [[],[1],[],[],[1],[],[],[],[],[5],[],[3],[],[],[],[],[5],[2],[],[]] [[],[],[],[],[],[],[],[],[],[],[],[],[],[],[],[],[],[2],[],[]] (by kernel_rfl) (by decide) (by decide) (by kernel_rfl) ?_|refine Vq (by kernel_rfl) ?_|((first|apply gE|apply gR|apply gD|apply gF|apply gS);simp only[zA,simprocAttr,Xi hm,rtC,wkC,sgC,hltf,X0])|exact Vn|(refine X3 (k1) ?_)|(refine X3 (k2) ?_)|((refine Vg (fun hg=> ?_) (fun hg=> ?_))<;>try simp only[nb] at hg)|(apply Vx;simp only[sb])|(refine hK _ ?_;clear hK K)|refine Vt rfl ?_|refine Vf rfl ?_|refine Vi rfl (fun hg=> ?_) (fun hg=> ?_)|clear hK K)
     apply Vz;refine Xuy (.inr rfl) rfl rfl rfl (fun _ _=>rfl) ok130 (k:=m+2) (off:=0) rfl (Xb _ (by simp)) (X6 _ hm 2) rfl rfl rfl ?_;simp only[wyA,wyC,ho3,List.take,sL,ti130]
theorem Au {α:Type} (f:List α->α->Bool) (a b:List α):Ue f (a++b)=(Ue f a&&Ue (fun pre x=>f (a++pre) x) b):=by
 rw[ar,ad,Z3,Z3,Z3];constructor
 ·intro h;constructor
  ·intro i hi;have:=h i (by simp;omega);rwa [dk hi,ir (by omega)] at this
  ·intro i hi;have:=h (a.length+i) (by simp;omega);rw[dw (by omega)] at this;simp only[Nat.add_sub_cancel_left] at this;rwa [List.take_length_add_append] at this
 ·rintro⟨h1,h2⟩ i hi;by_cases hlt:i<a.length
  ·rw[dk hlt,ir (by omega)];exact h1 i hlt
  ·have hi':i - a.length<b.length:=by simp at hi;omega
   have:=h2 (i - a.length) hi';rw[dw (by omega)];obtain⟨j,rfl⟩:∃j,i=a.length+j:=⟨i - a.length,by omega⟩
   simp only[Nat.add_sub_cancel_left] at this⊢;rwa [List.take_length_add_append]
def Ma (p:Pl) (r:Rt):Bool:=(decide (r.ex=0)||((Xpe p.sgs r.ex).isSome&& !(r.ex==r.entry)))&& !(decide (r.ex=0)&& !r.over.isEmpty)&&
  decide (1<=r.path.length)&&decide (r.path.length<=6)&&decide (r.over.length<=2)&&decide (r.flanks.length<=3)&&decide (1<=r.timer)&&decide (r.timer<=9)
def okQ (p:Pl) (own:Int) (B L:List Int):Bool:=Ue (fun pre x=>okL p own (B++pre) x) L
theorem Rh {p:Pl} {r:Rt} {en:Int×Int×Int} (h:Xpe p.sgs r.entry=some en):okR p r=(Ma p r&&okQ p en.2.1 [] r.path&&okQ p en.2.1 r.path r.over&&Ue (okF p) r.flanks):=by
 unfold okR okQ Ma;rw[h];simp only[Au,List.nil_append,ik]
theorem Dj {p:Pl} {r:Rt} (h:Xpe p.sgs r.entry=none):okR p r=false:=by unfold okR;rw[h]
theorem Dk {p:Pl} {r:Rt} {en:Int×Int×Int} (h:Xpe p.sgs r.entry=some en) (hh:Ma p r=false):okR p r=false:=by rw[Rh h,hh];rfl
theorem H2 {p:Pl} (hmay:Uq p.secs=true) (h:Qu p=true) {g:Int×Int×Int} (hg:g∈p.sgs):1<=g.2.1∧g.2.1<=99∧(Qt p.secs g.2.1).isSome=true:=by
 obtain⟨i,hi,rfl⟩:=am hg;unfold Qu at h;rw[ad] at h;have:=Z3.1 h.2 i hi;unfold okG at this;cases hs:Qt p.secs p.sgs[i].2.1 with
 |none=>rw[hs] at this;simp at this
 |some s=>
  obtain⟨h1,h2⟩:=W5 hs;have:=U1.1 (U0 hmay h1).1;exact⟨by omega,by omega,rfl⟩
def met (own:Int) (pre:List Int) (k:Nat):Bool:=own==(k:Int)||pre.any fun x=>x==(k:Int)
def Fu (own:Int) (pre:List Int):List AV:=(List.range 100).map fun k=>bool (met own pre k)
theorem Ri (own:Int) (pre:List Int):(Fu own pre).length=100:=by simp [Fu]
theorem Mt (own:Int) (pre:List Int) (j s:Nat) (h:j<100):pick false s (List.drop j (Fu own pre))=some (bool (met own pre j)):=Uu _ _ _ _ h
theorem Xuk (j:Nat) (h:j<100):Yf (List.replicate 100 (bool false)) j [bool true]=Fu j []:=by
 rw[W4,Q0 _ _ _ h,Fu];apply er;intro k hk;unfold met;by_cases e:k=j
 ·subst e;simp
 ·rw[if_neg e];have:((j:Int)==(k:Int))=false:=by simp;omega
  rw[this];rfl
theorem Av (own:Int) (pre:List Int) (j:Nat) (h:j<100):Yf (Fu own pre) j [bool true]=Fu own (pre++[(j:Int)]):=by
 rw[Fu,Q0 _ _ _ h,Fu];apply er;intro k hk;unfold met;rw[iu];by_cases e:k=j
 ·subst e;simp
 ·rw[if_neg e];have:((j:Int)==(k:Int))=false:=by simp;omega
  simp [this]
theorem X5u (p:Pl) (own:Int) (pre:List Int) (k:Nat):okL p own pre k=((Qt p.secs k).isSome&& !met own pre k):=by
 unfold okL met;have e:((k:Int)==own)=(own==(k:Int)):=by rw[ar];simp;omega
 rw[e];simp [ig,ik]
def X5v (l:List Int):List AV:=[X62 l]
theorem Xtc (p:Pl) (r:Rt) (hs:SmV p) (h20:r.path.length<=140737488355328∧r.over.length<=140737488355328∧r.flanks.length<=140737488355328) (hmay:Uq p.secs=true) (hsg:Qu p=true) (hno:Xpe p.sgs r.entry=none∨Ma p r=false):Xr Tryz.prog 81 [plA p,rtA r,.agg (Uj p.secs)] [] (bool (okR p r)) []:=by
 obtain⟨hp1,hp2,hp3⟩:=h20;have hsl:=hs.sgs;have hpl:=hs.pts;have c1:=Kl p.sgs r.entry (by omega);have c2:=Kl p.sgs r.ex (by omega);cases hg:Xpe p.sgs r.entry with
 |none=>
  rw[Dj hg];rw[hg] at c1;refine Xc 8 Tryz.func81 rfl fun n out _ _=> ?_;simp only[sn,Tryz.ntmps81,simprocAttr];repeat' (first|refine Vk fun K hK=> ?_|apply V0|apply Vb|apply Vs|((first|apply gE|apply gR);simp only[zA,simprocAttr, -List.reduceReplicate,plA,plC,rtA,rtC,sgA,sgC,X0,Option.getD_none,Option.isSome_none])|(apply Vz;refine Vo rfl rfl rfl (fun _ _=>rfl) ?_<;>first|rfl|skip)|(refine X3 (c1) ?_)|(refine X3 (c2) ?_)|(refine hK _ ?_;clear hK K)|refine Vt rfl ?_)
 |some en=>
  rw[hg] at c1;have hen:en∈p.sgs:=bg hg;obtain⟨hn1,hn2,hn3⟩:=H2 hmay hsg hen;obtain⟨ne,hne⟩:=bj (a:=en.2.1) (by omega);have hn:ne<100:=by omega
  have hn':(ne:Int)<100:=by omega
  have hn9:ne<=99:=by omega
  have hok:=Rh hg;rw[hne] at hok;have hh:Ma p r=false:=hno.resolve_left (by rw[hg];simp)
  ·have hbad:=Dk hg hh;rw[hbad];unfold Ma at hh;generalize hB:(Xpe p.sgs r.ex).isSome=B at c2 hh;generalize (Xpe p.sgs r.ex).getD (0,0,0)=ex at c2;have fin:decide ((r.path.length:Int)<1)=false->decide ((r.path.length:Int)>6)=false->decide ((r.over.length:Int)>2)=false->decide ((r.flanks.length:Int)>3)=false->decide (r.timer<1)=false->decide (r.timer>9)=false→
     ((decide (r.ex=0)||(B&& !(r.ex==r.entry)))&& !(decide (r.ex=0)&& !r.over.isEmpty))=true->False:=fun e1 e2 e3 e4 e5 e6 e7=>by
    rw[e7] at hh;simp only[dt] at e1 e2 e3 e4 e5 e6;rw[show decide (1<=r.path.length)=true from ax (by omega),show decide (r.path.length<=6)=true from ax (by omega),show decide (r.over.length<=2)=true from ax (by omega),show decide (r.flanks.length<=3)=true from ax (by omega),
     show decide (1<=r.timer)=true from ax (by omega),show decide (r.timer<=9)=true from ax (by omega)] at hh
    cases hh
   clear hh hok;by_cases hx:r.ex=0
   ·have x1:(r.ex !=0)=false:=by simp [hx]
    have x2:(r.ex==0)=true:=by simp [hx]
    by_cases ho:r.over=[]
    ·have x3:decide ((r.over.length:Int)>0)=false:=by simp [ho]
     refine Xc 8 Tryz.func81 rfl fun n out _ _=> ?_;simp only[sn,Tryz.ntmps81,simprocAttr];repeat' (first|refine Vk fun K hK=> ?_|apply V0|apply Vb|apply Vs|with_reducible apply ab|((first|apply gE|apply gR);simp only[zB,simprocAttr, -List.reduceReplicate,plA,plC,rtA,rtC,sgA,sgC,X0,Option.getD_some,hne,x1,x2,x3])|(apply Vz;refine Vo rfl rfl rfl (fun _ _=>rfl) ?_<;>first|rfl|skip)|(refine X3 (c1) ?_)|(refine X3 (c2) ?_)|(refine hK _ ?_;clear hK K)|refine Vt rfl ?_|refine Vf rfl ?_|(refine Vi rfl (fun hg=> ?_) (fun hg=> ?_))<;>try simp only[hg]|clear hK K)
     all_goals (exfalso;refine fin (by assumption) (by assumption) (by assumption) (by assumption) (by assumption) (by assumption) ?_;rw[ax hx,ho];rfl)
    ·have x3:decide ((r.over.length:Int)>0)=true:=ax (by have:=eh.2 ho;omega);refine Xc 8 Tryz.func81 rfl fun n out _ _=> ?_;simp only[sn,Tryz.ntmps81,simprocAttr];repeat' (first|refine Vk fun K hK=> ?_|apply V0|apply Vb|((first|apply gE|apply gR);simp only[zB,simprocAttr, -List.reduceReplicate,plA,plC,rtA,rtC,sgA,sgC,X0,Option.getD_some,hne,x1,x2,x3])|(apply Vz;refine Vo rfl rfl rfl (fun _ _=>rfl) ?_<;>first|rfl|skip)|(refine X3 (c1) ?_)|(refine X3 (c2) ?_)|(refine hK _ ?_;clear hK K)|refine Vt rfl ?_|refine Vf rfl ?_)
   ·have x1:(r.ex !=0)=true:=by simpa using hx
    have x2:(r.ex==0)=false:=by simpa using hx
    cases B with
    |false=>
     refine Xc 8 Tryz.func81 rfl fun n out _ _=> ?_;simp only[sn,Tryz.ntmps81,simprocAttr];repeat' (first|refine Vk fun K hK=> ?_|apply V0|apply Vb|apply Vs|((first|apply gE|apply gR);simp only[zB,simprocAttr, -List.reduceReplicate,plA,plC,rtA,rtC,sgA,sgC,X0,Option.getD_some,hne,x1])|(apply Vz;refine Vo rfl rfl rfl (fun _ _=>rfl) ?_<;>first|rfl|skip)|(refine X3 (c1) ?_)|(refine X3 (c2) ?_)|(refine hK _ ?_;clear hK K)|refine Vt rfl ?_|refine Vf rfl ?_)
    |true=>
     cases x5:(r.ex==r.entry) with
     |true=>
      refine Xc 8 Tryz.func81 rfl fun n out _ _=> ?_;simp only[sn,Tryz.ntmps81,simprocAttr];repeat' (first|refine Vk fun K hK=> ?_|apply V0|apply Vb|apply Vs|((first|apply gE|apply gR);simp only[zB,simprocAttr, -List.reduceReplicate,plA,plC,rtA,rtC,sgA,sgC,X0,Option.getD_some,hne,x1,x5])|(apply Vz;refine Vo rfl rfl rfl (fun _ _=>rfl) ?_<;>first|rfl|skip)|(refine X3 (c1) ?_)|(refine X3 (c2) ?_)|(refine hK _ ?_;clear hK K)|refine Vt rfl ?_|refine Vf rfl ?_)
     |false=>
      refine Xc 8 Tryz.func81 rfl fun n out _ _=> ?_;simp only[sn,Tryz.ntmps81,simprocAttr];repeat' (first|refine Vk fun K hK=> ?_|apply V0|apply Vb|apply Vs|with_reducible apply ab|((first|apply gE|apply gR);simp only[zB,simprocAttr, -List.reduceReplicate,plA,plC,rtA,rtC,sgA,sgC,X0,Option.getD_some,hne,x1,x2,x5])|(apply Vz;refine Vo rfl rfl rfl (fun _ _=>rfl) ?_<;>first|rfl|skip)|(refine X3 (c1) ?_)|(refine X3 (c2) ?_)|(refine hK _ ?_;clear hK K)|refine Vt rfl ?_|refine Vf rfl ?_|(refine Vi rfl (fun hg=> ?_) (fun hg=> ?_))<;>try simp only[hg]|clear hK K)
      all_goals (exfalso;refine fin (by assumption) (by assumption) (by assumption) (by assumption) (by assumption) (by assumption) ?_;rw[ak hx,x5];rfl)
end Go.Proofs.YtdngdjbgmojcoaaGreat.Pln
