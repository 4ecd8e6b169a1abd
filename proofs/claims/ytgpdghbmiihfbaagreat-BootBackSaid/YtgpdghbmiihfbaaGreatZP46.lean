/- The layer of abstract values, joined. -/
import Derived.Test.YtgpdghbmiihfbaaGreatZP5
import Derived.Test.YtgpdghbmiihfbaaGreatZQE
import Derived.Test.YtgpdghbmiihfbaaGreatZQ3
import Derived.Test.YtgpdghbmiihfbaaGreatZP49
import Derived.Test.YtgpdghbmiihfbaaGreatZK32
import Derived.Test.YtgpdghbmiihfbaaGreatZS8
namespace Go.Proofs.YtgpdghbmiihfbaaGreat.Pln
set_option linter.all false
set_option maxHeartbeats 8000000
set_option maxRecDepth 4000
open Go Go.VS Tab
attribute [local irreducible] AWp Xp0 Pg X5c Qy Lt Tp FdT Eb
theorem Xxs (p:Pl) (hs:Sm p):Xr Tryz.prog 79 [plA p] [] (bool (Xp3 p)) []:=by
 have c0:=Xgf p Aq hs;rw[show Sy p Aq=Xp3 p from rfl] at c0;have c1:=Xdb (args':=[plA p,.agg [i64 0,i64 0,.sl 0 [] .nil,.sl 0 [] .nil,.sl 0 [] .nil,.sl 0 [] .nil]]) c0 (by simp only[plA,plC,Aq,ad,sL]);simp only[plA,plC] at c1;refine Xc 1 Tryz.func79 rfl fun n out _ _=> ?_;simp only[sn,Tryz.ntmps79,simprocAttr];repeat' (first|refine Vk fun K hK=> ?_|apply V0|apply Vs|with_reducible apply aa|((first|apply gE|apply gR);simp only[zA,simprocAttr,plA,plC])|exact Vn|(apply Vz;refine Vo rfl rfl rfl (fun _ _=>rfl) ?_<;>first|rfl|skip)|(refine X3 (c1) ?_)|(refine hK _ ?_;clear hK K)|clear hK K)
theorem Xqb (h:Hs) (hs:SmH h):Xr Tryz.prog 77 [hsA h] [] (i64 (Xoc h)) []:=by
 have c1:=Xxs h.back hs.back;have c2:=Xrp h.back hs.back;have c3:=Xtq h.plan h.st hs.plan hs.st;unfold Xoc Xo9 Xy6;simp only[plA,plC,stA,stC] at c1 c2 c3;generalize Xp3 h.back=N1 at*;generalize Xo3 h.back=S1 at*;generalize Xrz h.plan h.st=S2 at*;refine Xc 1 Tryz.func77 rfl fun n out _ _=> ?_;simp only[sn,Tryz.ntmps77,simprocAttr];have hg:=Nat.le_refl 0;repeat' (first|refine Vk fun K hK=> ?_|apply V0|apply Vs|with_reducible apply aa|((first|apply gE|apply gR|apply gS);simp only[zA,simprocAttr,hg,hsA,hsC])|exact Vn|(apply Vz;refine Vo rfl rfl rfl (fun _ _=>rfl) ?_<;>first|rfl|(simp only[g_0,g_s];refine congrArg i64 ?_;simp_all;done)|skip)|(refine X3 (c1) ?_)|(refine X3 (c2) ?_)|(refine X3 (c3) ?_)|((refine Vg (fun hg=> ?_) (fun hg=> ?_))<;>try simp only[nb] at hg)|(refine hK _ ?_;clear hK K)|refine Vt rfl ?_|refine Vf rfl ?_|refine Vi rfl (fun hg=> ?_) (fun hg=> ?_)|clear hK K)
theorem Xsr:∀(s:List (Int×UInt8×Int×Int)),(lkN s).length=2*s.length
 |[]=>rfl
 |l::s=>by
  have e:lkN (l::s)=(l.2.1.toNat:Int)::l.2.2.1::lkN s:=rfl;rw[e,List.length_cons,List.length_cons,Xsr s,List.length_cons];omega
theorem Xp9 (h:Hs) (hs:SmH h):Xr Tryz.prog 31 [hsA h] [] (.tup [.sl 1 (Xo (Xlr h)) .sh,i64 (Xoc h)]) []:=by
 have cC:=Xqb h hs;cases hc:Xo9 h with
 |false=>
  have e1:Xlr h=[]:=by unfold Xlr;rw[hc];rfl
  have e2:Xoc h=8:=by unfold Xoc;rw[hc];rfl
  rw[e2] at cC;rw[e1,e2];simp only[hsA,hsC] at cC;have bn:Xo []=[]:=rfl;refine Xc 1 Tryz.func31 rfl fun n out _ _=> ?_;simp only[sn,Tryz.ntmps31,simprocAttr];repeat' (first|refine Vk fun K hK=> ?_|apply V0|apply Vb|apply Vc|apply Vr|apply Vs|with_reducible apply aa|((first|apply gE|apply gR);simp only[zA,simprocAttr, -List.reduceReplicate,hsA,hsC,bn])|exact Vn|(apply Vz;refine Za (.inr rfl) rfl rfl rfl (fun _ _=>rfl) rfl rfl ?_ ?_<;>first|rfl|(exact AV.le.rfl _)|(simp only[sL,bn];done)|rfl|skip)|(refine X3 (cC) ?_)|(apply Vx;simp only[sb,reduceIte,Nat.reduceEqDiff])|(refine hK _ ?_;clear hK K)|refine Vt rfl ?_|refine Vf rfl ?_|refine Vi rfl (fun hg=> ?_) (fun hg=> ?_)|clear hK K)
 |true=>
  have e1:Xlr h=Xp7 h:=by unfold Xlr;rw[hc];rfl
  have e2:Xoc h=0:=by unfold Xoc;rw[hc];rfl
  obtain⟨k1,k2,k3,k4⟩:=Xor.1 hc;obtain⟨s1,s2,s3,s4,_⟩:=Xp8 k4;have hm:=(Xoa s1).1;have t1:=R7 hm;have cN:=Xxs h.back hs.back;have cT:=X5q h.plan hs.plan;have cU:=X5q h.back hs.back;rw[show Bm h.plan=Wg h.plan from if_pos hm] at cT;have t2:(Xpf h).length<=700:=by
   unfold Xpf;cases hn:Xp3 h.back with
   |true=>rw[if_pos rfl];simp
   |false=>
    rw[if_neg (by decide)];rcases k2 with k2|k2
    ·rw[hn] at k2;cases k2
    ·exact R7 (Xoa k2.1).1
  have cB:=fun md'=>Xyb [Wg h.plan,Xpf h] (Xrf h) .sh md' (fun t ht=>by simp at ht;rcases ht with rfl|rfl<;>omega) (by simp) (by
   have h1:=hs.st.w;have h2:=hs.st.l;have h3:=Xsr h.st.lk;simp [Xrf,swN];omega)
  have e3:[Wg h.plan,Xpf h].flatMap Xoh++(Xrf h).flatMap Y3m=Xp7 h:=by
   unfold Xp7;simp
  simp only[e3] at cB;rw[e1,e2];rw[e2] at cC;have hwl:=hs.st.w;have hll:=hs.st.l;obtain⟨A,hA⟩:∃A:Nat->List Int,A=fun i=>h.high::swN (h.st.sw.take i):=⟨_,rfl⟩
  obtain⟨D,hD⟩:∃D:Nat->List Int,D=fun i=>h.high::(swN h.st.sw++lkN (h.st.lk.take i)):=⟨_,rfl⟩
  have A0:A 0=[h.high]:=by rw[hA];rfl
  have As:∀i (hi:i<h.st.sw.length),(A i).map Ym++[[i64 h.st.sw[i].2.2]]=(A (i+1)).map Ym:=fun i hi=>by
   rw[hA];dsimp only;rw[ai hi];simp only[swN,bg,cu,ad,List.cons_append,Ym]
  have Al:∀i,i<=h.st.sw.length->(A i).length=i+1:=fun i hi=>by rw[hA];simp [swN];omega
  have AD:A h.st.sw.length=D 0:=by rw[hA,hD];simp [lkN]
  have Ds:∀i (hi:i<h.st.lk.length),(D i).map Ym++[[i64 (h.st.lk[i].2.1.toNat:Int)],[i64 h.st.lk[i].2.2.1]]=(D (i+1)).map Ym:=fun i hi=>by
   rw[hD];dsimp only;rw[ai hi];simp only[lkN,du,dp,ep,b9,bg,cu,ad,List.cons_append,aw,Ym]
  have Dl:∀i,i<=h.st.lk.length->(D i).length=h.st.sw.length+2*i+1:=fun i hi=>by rw[hD];simp [swN,Xsr];omega
  have Dn:D h.st.lk.length=Xrf h:=by rw[hD];simp [Xrf]
  simp only[<- Dn] at cB;clear hA hD Dn e3;have Mr:∀(σ:AState) (K:AV->List (Nat×Res)->Prop) (x:Int),X1 tab σ K none 99 1 [(0,i64 x)]=K (.sl 1 [[i64 x]] .full) []:=fun σ K x=>Yk (T:=tab) (ti:=ti99) (te:=ti3) rfl rfl rfl (by decide) (by decide) rfl rfl;have B6:∀(σ:AState) (K:AV->List (Nat×Res)->Prop) (x y:Int),X1 tab σ K none 99 2 [(0,i64 x),(1,i64 y)]=K (.sl 1 [[i64 x],[i64 y]] .full) []:=fun σ K x y=>Te (T:=tab) (ti:=ti99) (te:=ti3) rfl rfl rfl rfl rfl rfl;have rp:Y7 [Value.slice none 0 0] 2=[.sl 0 [] .nil,.sl 0 [] .nil]:=rfl;have sp0:∀x a b:AV,Yf [a,b] 0 [x]=[x,b]:=fun _ _ _=>rfl;have sp1:∀x a b:AV,Yf [a,b] 1 [x]=[a,x]:=fun _ _ _=>rfl;simp only[hsA,hsC] at cC;simp only[plA,plC] at cT cN;have cU:Xp3 h.back=false->Xr Tryz.prog 78 [plA h.back] [] (.tup [.sl 1 (Xo (Wg h.back)) .sh,i64 (Bl h.back)]) []:=fun hn=>by
   rw[show Bm h.back=Wg h.back from if_pos (by
    rcases k2 with k2|k2
    ·rw[hn] at k2;cases k2
    ·exact(Xoa k2.1).1)] at cU
   exact cU
  simp only[plA,plC] at cU;cases hn:Xp3 h.back
  ·have eb:Xpf h=Wg h.back:=by unfold Xpf;rw[hn];rfl
   rw[hn] at cN;simp only[eb] at cB;have cD:=fun md'=>Xdb (args':=[.sl 1 [[.sl 1 (Xo (Wg h.plan)) .sh],[.sl 1 (Xo (Wg h.back)) .sh]] .sh,.sl 1 ((D h.st.lk.length).map Ym) md']) (cB md') (by simp only[bg,ad,txC,Wb,sL]);refine Xc 5 Tryz.func31 rfl fun n out _ _=> ?_;simp only[sn,Tryz.ntmps31,simprocAttr];repeat' (first|refine Vk fun K hK=> ?_|refine Ve [(16,none)] ?_|apply Vb|apply Vc|apply Vr|apply Vs|with_reducible apply aa|((first|apply gE|apply gR);simp only[zB,simprocAttr, -List.reduceReplicate,Mr,hsA,hsC,rp,sp0,sp1])|exact Vn|(apply Vz;refine Vp rfl rfl rfl (fun _ _=>rfl) ?_ ?_<;>first|rfl|skip)|(refine X3 (cC) ?_)|(refine X3 (cT) ?_)|(refine X3 (cN) ?_)|(refine X3 (cU hn) ?_)|(apply Vx;simp only[sb,reduceIte,Nat.reduceEqDiff])|(refine hK _ ?_;clear hK K)|refine Vt rfl ?_|refine Vf rfl ?_|refine Vi rfl (fun hg=> ?_) (fun hg=> ?_)|clear hK K)
   refine Yy (Zi (i:=1) (t:=5) 1 (.sl 1 [[.sl 1 (Xo (Wg h.plan)) .sh],[.sl 1 (Xo (Wg h.back)) .sh]] .sh) rfl rfl (.bsl 0 2 true ⟨by decide,Nat.le_refl _⟩)) ?_;simp only[s_0,s_s];apply V5;refine Xrd (h.st.sw.length) (fun m i=>tr 45 9 [(44,i64 (i:Int)),(1,.ptr (m+0) 0),(6,if i=0 then .sl 1 [[i64 h.high]] .full else .sl 1 ((A i).map Ym) (.own (m+3))),(8,.top)]) (fun m i=>[some (.box 35 (hsC h)),some .dead,none,if i=0 then none else some (.row 3 1 (A i).length),none]) ?_ fun m i hm hi=> ?_
   ·refine X2 ?_ ?_ (by first|rfl|(simp only[hsC,if_true];rfl)|simp only[hsC,if_true]) rfl rfl rfl<;>simp only[sL,hsC,if_true]
   simp only[pt];have hw:=Yl (n:=i) 1 1 rfl (by omega);by_cases hlt:i<h.st.sw.length
   ·have gi:=Xg sgC h.st.sw i [] hlt;have ast:=As i hlt;have al:=Al (i+1) hlt;have al0:=Al i (by omega);have n1:¬i+1=0:=by omega
    by_cases h0:i=0
    ·have eA:(A i).map Ym=[[i64 h.high]]:=by rw[h0,A0];rfl
     rw[eA] at ast;rw[if_pos h0,if_pos h0];have e2:(A (i+1)).length=2:=by omega
     repeat' (first|refine Vk fun K hK=> ?_|refine Ve [(52,none)] ?_|apply Vb|apply Vc|apply Vr|apply Vs|with_reducible apply aa|((first|apply gE|apply gR);simp only[zB,simprocAttr, -List.reduceReplicate,Mr,Xi hm,hsC,sgC,hlt,gi,X0,hw,ast])|exact Vn|(apply Vz;refine Vp rfl rfl rfl (fun _ _=>rfl) ?_ ?_<;>first|rfl|skip)|(apply Vx;simp only[sb,reduceIte,Nat.reduceEqDiff])|(refine hK _ ?_;clear hK K)|refine Vt rfl ?_|refine Vf rfl ?_|refine Vi rfl (fun hg=> ?_) (fun hg=> ?_)|clear hK K)
     refine⟨i+1,by omega,by omega,?_⟩;refine Xx [true,true,false,true,false] ?_ ?_<;>intro n_<;>simp only[sM,iq,if_false,e2]
    ·rw[if_neg h0,if_neg h0];have y2:((A i).length+1)*8<=140737488355328:=by omega
     have y3:(A i).length<=9223372036854775806:=by omega
     have e2:(A (i+1)).length=(A i).length+1:=by omega
     repeat' (first|refine Vk fun K hK=> ?_|apply V0|apply Vb|apply Vc|apply Vr|apply Vs|with_reducible apply aa|((first|apply gE|apply gR);simp only[zB,simprocAttr, -List.reduceReplicate,Mr,Xi hm,hsC,sgC,hlt,gi,X0,hw,y2,y3,ast])|exact Vn|(apply Vz;refine Vp rfl rfl rfl (fun _ _=>rfl) ?_ ?_<;>first|rfl|skip)|(apply Vx;simp only[sb,reduceIte,Nat.reduceEqDiff])|(refine hK _ ?_;clear hK K)|refine Vt rfl ?_|refine Vf rfl ?_|refine Vi rfl (fun hg=> ?_) (fun hg=> ?_)|clear hK K)
     refine⟨i+1,by omega,by omega,?_⟩;refine Xx [true,true,false,true,false] ?_ ?_<;>intro n_<;>simp only[sM,iq,if_false,e2]
   obtain rfl:i=h.st.sw.length:=by omega
   rw[AD];clear hw hlt hi;repeat' (first|refine Vk fun K hK=> ?_|apply V0|apply Vb|apply Vc|apply Vr|apply Vs|with_reducible apply aa|((first|apply gE|apply gR);simp only[zA,simprocAttr, -List.reduceReplicate,Xi hm,hsC,Nat.lt_irrefl])|exact Vn|(apply Vz;refine Vp rfl rfl rfl (fun _ _=>rfl) ?_ ?_<;>first|rfl|skip)|(apply Vx;simp only[sb])|(refine hK _ ?_;clear hK K)|refine Vt rfl ?_|refine Vf rfl ?_|refine Vi rfl (fun hg=> ?_) (fun hg=> ?_)|clear hK K)
   obtain⟨W,hW⟩:∃W,W=h.st.sw.length:=⟨_,rfl⟩
   rw[<- hW];rw[<- hW] at Dl hwl;apply V5;refine Xrd (h.st.lk.length) (fun m i=>tr 59 12 [(58,i64 (i:Int)),(1,.ptr (m+0) 0),(6,if W+i=0 then .sl 1 [[i64 h.high]] .full else .sl 1 ((D i).map Ym) (.own (m+3))),(8,.top),(10,.top)]) (fun m i=>[some (.box 35 (hsC h)),some .dead,none,if W+i=0 then none else some (.row 3 1 (D i).length),none]) ?_ fun m i hm hi=> ?_
   ·refine X2 ?_ ?_ (by first|rfl|(simp only[hsC,Nat.add_zero];rfl)|simp only[hsC,Nat.add_zero]) rfl rfl rfl<;>simp only[sL,hsC,Nat.add_zero]
   simp only[pt];have hw:=Yl (n:=i) 1 1 rfl (by omega);by_cases hlt:i<h.st.lk.length
   ·have gi:=Xg lkC h.st.lk i [] hlt;have ast:=Ds i hlt;have al:=Dl (i+1) hlt;have al0:=Dl i (by omega);have n1:(W+(i+1)=0)=False:=dc (by omega);have w8:IntKind.i64.wrap (h.st.lk[i].2.1.toNat:Int)=(h.st.lk[i].2.1.toNat:Int):=by
     have:=jr h.st.lk[i].2.1;rw[wrap_i64]<;>omega
    by_cases h0:W+i=0
    ·have eA:(D i).map Ym=[[i64 h.high]]:=by rw[show i=0 by omega,<- AD,show h.st.sw.length=0 by omega,A0];rfl
     rw[eA] at ast;rw[if_pos h0,if_pos h0];have e2:(D (i+1)).length=3:=by omega
     repeat' (first|refine Vk fun K hK=> ?_|refine Ve [(69,none)] ?_|apply Vb|apply Vc|apply Vr|apply Vs|with_reducible apply aa|((first|apply gE|apply gR);simp only[zB,simprocAttr, -List.reduceReplicate,B6,Xi hm,hsC,lkC,hlt,gi,X0,hw,ast,w8])|exact Vn|(apply Vz;refine Vp rfl rfl rfl (fun _ _=>rfl) ?_ ?_<;>first|rfl|skip)|(apply Vx;simp only[sb,reduceIte,Nat.reduceEqDiff])|(refine hK _ ?_;clear hK K)|refine Vt rfl ?_|refine Vf rfl ?_|refine Vi rfl (fun hg=> ?_) (fun hg=> ?_)|clear hK K)
     refine⟨i+1,by omega,by omega,?_⟩;refine Xx [true,true,false,true,false] ?_ ?_<;>intro n_<;>simp only[sM,n1,if_false,e2]
    ·rw[if_neg h0,if_neg h0];have y2:((D i).length+2)*8<=140737488355328:=by omega
     have y3:(D i).length<=9223372036854775805:=by omega
     have e2:(D (i+1)).length=(D i).length+2:=by omega
     repeat' (first|refine Vk fun K hK=> ?_|apply V0|apply Vb|apply Vc|apply Vr|apply Vs|with_reducible apply aa|((first|apply gE|apply gR);simp only[zB,simprocAttr, -List.reduceReplicate,B6,Xi hm,hsC,lkC,hlt,gi,X0,hw,y2,y3,ast,w8])|exact Vn|(apply Vz;refine Vp rfl rfl rfl (fun _ _=>rfl) ?_ ?_<;>first|rfl|skip)|(apply Vx;simp only[sb,reduceIte,Nat.reduceEqDiff])|(refine hK _ ?_;clear hK K)|refine Vt rfl ?_|refine Vf rfl ?_|refine Vi rfl (fun hg=> ?_) (fun hg=> ?_)|clear hK K)
     refine⟨i+1,by omega,by omega,?_⟩;refine Xx [true,true,false,true,false] ?_ ?_<;>intro n_<;>simp only[sM,n1,if_false,e2]
   obtain rfl:i=h.st.lk.length:=by omega
   clear hw hlt hi;by_cases h0:W+h.st.lk.length=0
   ·have eA:(D h.st.lk.length).map Ym=[[i64 h.high]]:=by rw[show h.st.lk.length=0 by omega,<- AD,show h.st.sw.length=0 by omega,A0];rfl
    rw[if_pos h0,if_pos h0];have cE:=cD .full;rw[eA] at cE;repeat' (first|refine Vk fun K hK=> ?_|apply V0|apply Vb|apply Vc|apply Vr|apply Vs|with_reducible apply aa|((first|apply gE|apply gR);simp only[zA,simprocAttr, -List.reduceReplicate,hsC,Nat.lt_irrefl])|exact Vn|(apply Vz;refine Za (.inr rfl) rfl rfl rfl (fun _ _=>rfl) rfl rfl ?_ ?_<;>first|rfl|(exact AV.le.rfl _)|(simp only[sL,Xi hm,hsC,af,dx,Nat.lt_irrefl];done)|rfl|skip)|(refine X3 (cE) ?_)|(apply Vx;simp only[sb])|(refine hK _ ?_;clear hK K)|refine Vt rfl ?_|refine Vf rfl ?_|refine Vi rfl (fun hg=> ?_) (fun hg=> ?_)|clear hK K)
   ·rw[if_neg h0,if_neg h0];have cE:=cD (.own (m+3));repeat' (first|refine Vk fun K hK=> ?_|apply V0|apply Vb|apply Vc|apply Vr|apply Vs|with_reducible apply aa|((first|apply gE|apply gR);simp only[zA,simprocAttr, -List.reduceReplicate,hsC,Nat.lt_irrefl])|exact Vn|(apply Vz;refine Za (.inr rfl) rfl rfl rfl (fun _ _=>rfl) rfl rfl ?_ ?_<;>first|rfl|(exact AV.le.rfl _)|(simp only[sL,Xi hm,hsC,af,dx,Nat.lt_irrefl];done)|rfl|skip)|(refine X3 (cE) ?_)|(apply Vx;simp only[sb])|(refine hK _ ?_;clear hK K)|refine Vt rfl ?_|refine Vf rfl ?_|refine Vi rfl (fun hg=> ?_) (fun hg=> ?_)|clear hK K)
  ·have eb:Xpf h=[]:=by unfold Xpf;rw[hn];rfl
   rw[hn] at cN;simp only[eb] at cB;have cD:=fun md'=>Xdb (args':=[.sl 1 [[.sl 1 (Xo (Wg h.plan)) .sh],[.sl 0 [] .nil]] .sh,.sl 1 ((D h.st.lk.length).map Ym) md']) (cB md') (by simp only[bg,ad,txC,Wb,sL]);refine Xc 5 Tryz.func31 rfl fun n out _ _=> ?_;simp only[sn,Tryz.ntmps31,simprocAttr];repeat' (first|refine Vk fun K hK=> ?_|refine Ve [(16,none)] ?_|apply Vb|apply Vc|apply Vr|apply Vs|with_reducible apply aa|((first|apply gE|apply gR);simp only[zB,simprocAttr, -List.reduceReplicate,Mr,hsA,hsC,rp,sp0])|exact Vn|(apply Vz;refine Vp rfl rfl rfl (fun _ _=>rfl) ?_ ?_<;>first|rfl|skip)|(refine X3 (cC) ?_)|(refine X3 (cT) ?_)|(refine X3 (cN) ?_)|(refine X3 (cU hn) ?_)|(apply Vx;simp only[sb,reduceIte,Nat.reduceEqDiff])|(refine hK _ ?_;clear hK K)|refine Vt rfl ?_|refine Vf rfl ?_|refine Vi rfl (fun hg=> ?_) (fun hg=> ?_)|clear hK K)
   refine Yy (Zi (i:=1) (t:=5) 1 (.sl 1 [[.sl 1 (Xo (Wg h.plan)) .sh],[.sl 0 [] .nil]] .sh) rfl rfl (.bsl 0 2 true ⟨by decide,Nat.le_refl _⟩)) ?_;simp only[s_0,s_s];apply V5;refine Xrd (h.st.sw.length) (fun m i=>tr 45 9 [(44,i64 (i:Int)),(1,.ptr (m+0) 0),(6,if i=0 then .sl 1 [[i64 h.high]] .full else .sl 1 ((A i).map Ym) (.own (m+3))),(8,.top)]) (fun m i=>[some (.box 35 (hsC h)),some .dead,none,if i=0 then none else some (.row 3 1 (A i).length),none]) ?_ fun m i hm hi=> ?_
   ·refine X2 ?_ ?_ (by first|rfl|(simp only[hsC,if_true];rfl)|simp only[hsC,if_true]) rfl rfl rfl<;>simp only[sL,hsC,if_true]
   simp only[pt];have hw:=Yl (n:=i) 1 1 rfl (by omega);by_cases hlt:i<h.st.sw.length
   ·have gi:=Xg sgC h.st.sw i [] hlt;have ast:=As i hlt;have al:=Al (i+1) hlt;have al0:=Al i (by omega);have n1:¬i+1=0:=by omega
    by_cases h0:i=0
    ·have eA:(A i).map Ym=[[i64 h.high]]:=by rw[h0,A0];rfl
     rw[eA] at ast;rw[if_pos h0,if_pos h0];have e2:(A (i+1)).length=2:=by omega
     repeat' (first|refine Vk fun K hK=> ?_|refine Ve [(52,none)] ?_|apply Vb|apply Vc|apply Vr|apply Vs|with_reducible apply aa|((first|apply gE|apply gR);simp only[zB,simprocAttr, -List.reduceReplicate,Mr,Xi hm,hsC,sgC,hlt,gi,X0,hw,ast])|exact Vn|(apply Vz;refine Vp rfl rfl rfl (fun _ _=>rfl) ?_ ?_<;>first|rfl|skip)|(apply Vx;simp only[sb,reduceIte,Nat.reduceEqDiff])|(refine hK _ ?_;clear hK K)|refine Vt rfl ?_|refine Vf rfl ?_|refine Vi rfl (fun hg=> ?_) (fun hg=> ?_)|clear hK K)
     refine⟨i+1,by omega,by omega,?_⟩;refine Xx [true,true,false,true,false] ?_ ?_<;>intro n_<;>simp only[sM,iq,if_false,e2]
    ·rw[if_neg h0,if_neg h0];have y2:((A i).length+1)*8<=140737488355328:=by omega
     have y3:(A i).length<=9223372036854775806:=by omega
     have e2:(A (i+1)).length=(A i).length+1:=by omega
     repeat' (first|refine Vk fun K hK=> ?_|apply V0|apply Vb|apply Vc|apply Vr|apply Vs|with_reducible apply aa|((first|apply gE|apply gR);simp only[zB,simprocAttr, -List.reduceReplicate,Mr,Xi hm,hsC,sgC,hlt,gi,X0,hw,y2,y3,ast])|exact Vn|(apply Vz;refine Vp rfl rfl rfl (fun _ _=>rfl) ?_ ?_<;>first|rfl|skip)|(apply Vx;simp only[sb,reduceIte,Nat.reduceEqDiff])|(refine hK _ ?_;clear hK K)|refine Vt rfl ?_|refine Vf rfl ?_|refine Vi rfl (fun hg=> ?_) (fun hg=> ?_)|clear hK K)
     refine⟨i+1,by omega,by omega,?_⟩;refine Xx [true,true,false,true,false] ?_ ?_<;>intro n_<;>simp only[sM,iq,if_false,e2]
   obtain rfl:i=h.st.sw.length:=by omega
   rw[AD];clear hw hlt hi;repeat' (first|refine Vk fun K hK=> ?_|apply V0|apply Vb|apply Vc|apply Vr|apply Vs|with_reducible apply aa|((first|apply gE|apply gR);simp only[zA,simprocAttr, -List.reduceReplicate,Xi hm,hsC,Nat.lt_irrefl])|exact Vn|(apply Vz;refine Vp rfl rfl rfl (fun _ _=>rfl) ?_ ?_<;>first|rfl|skip)|(apply Vx;simp only[sb])|(refine hK _ ?_;clear hK K)|refine Vt rfl ?_|refine Vf rfl ?_|refine Vi rfl (fun hg=> ?_) (fun hg=> ?_)|clear hK K)
   obtain⟨W,hW⟩:∃W,W=h.st.sw.length:=⟨_,rfl⟩
   rw[<- hW];rw[<- hW] at Dl hwl;apply V5;refine Xrd (h.st.lk.length) (fun m i=>tr 59 12 [(58,i64 (i:Int)),(1,.ptr (m+0) 0),(6,if W+i=0 then .sl 1 [[i64 h.high]] .full else .sl 1 ((D i).map Ym) (.own (m+3))),(8,.top),(10,.top)]) (fun m i=>[some (.box 35 (hsC h)),some .dead,none,if W+i=0 then none else some (.row 3 1 (D i).length),none]) ?_ fun m i hm hi=> ?_
   ·refine X2 ?_ ?_ (by first|rfl|(simp only[hsC,Nat.add_zero];rfl)|simp only[hsC,Nat.add_zero]) rfl rfl rfl<;>simp only[sL,hsC,Nat.add_zero]
   simp only[pt];have hw:=Yl (n:=i) 1 1 rfl (by omega);by_cases hlt:i<h.st.lk.length
   ·have gi:=Xg lkC h.st.lk i [] hlt;have ast:=Ds i hlt;have al:=Dl (i+1) hlt;have al0:=Dl i (by omega);have n1:(W+(i+1)=0)=False:=dc (by omega);have w8:IntKind.i64.wrap (h.st.lk[i].2.1.toNat:Int)=(h.st.lk[i].2.1.toNat:Int):=by
     have:=jr h.st.lk[i].2.1;rw[wrap_i64]<;>omega
    by_cases h0:W+i=0
    ·have eA:(D i).map Ym=[[i64 h.high]]:=by rw[show i=0 by omega,<- AD,show h.st.sw.length=0 by omega,A0];rfl
     rw[eA] at ast;rw[if_pos h0,if_pos h0];have e2:(D (i+1)).length=3:=by omega
     repeat' (first|refine Vk fun K hK=> ?_|refine Ve [(69,none)] ?_|apply Vb|apply Vc|apply Vr|apply Vs|with_reducible apply aa|((first|apply gE|apply gR);simp only[zB,simprocAttr, -List.reduceReplicate,B6,Xi hm,hsC,lkC,hlt,gi,X0,hw,ast,w8])|exact Vn|(apply Vz;refine Vp rfl rfl rfl (fun _ _=>rfl) ?_ ?_<;>first|rfl|skip)|(apply Vx;simp only[sb,reduceIte,Nat.reduceEqDiff])|(refine hK _ ?_;clear hK K)|refine Vt rfl ?_|refine Vf rfl ?_|refine Vi rfl (fun hg=> ?_) (fun hg=> ?_)|clear hK K)
     refine⟨i+1,by omega,by omega,?_⟩;refine Xx [true,true,false,true,false] ?_ ?_<;>intro n_<;>simp only[sM,n1,if_false,e2]
    ·rw[if_neg h0,if_neg h0];have y2:((D i).length+2)*8<=140737488355328:=by omega
     have y3:(D i).length<=9223372036854775805:=by omega
     have e2:(D (i+1)).length=(D i).length+2:=by omega
     repeat' (first|refine Vk fun K hK=> ?_|apply V0|apply Vb|apply Vc|apply Vr|apply Vs|with_reducible apply aa|((first|apply gE|apply gR);simp only[zB,simprocAttr, -List.reduceReplicate,B6,Xi hm,hsC,lkC,hlt,gi,X0,hw,y2,y3,ast,w8])|exact Vn|(apply Vz;refine Vp rfl rfl rfl (fun _ _=>rfl) ?_ ?_<;>first|rfl|skip)|(apply Vx;simp only[sb,reduceIte,Nat.reduceEqDiff])|(refine hK _ ?_;clear hK K)|refine Vt rfl ?_|refine Vf rfl ?_|refine Vi rfl (fun hg=> ?_) (fun hg=> ?_)|clear hK K)
     refine⟨i+1,by omega,by omega,?_⟩;refine Xx [true,true,false,true,false] ?_ ?_<;>intro n_<;>simp only[sM,n1,if_false,e2]
   obtain rfl:i=h.st.lk.length:=by omega
   clear hw hlt hi;by_cases h0:W+h.st.lk.length=0
   ·have eA:(D h.st.lk.length).map Ym=[[i64 h.high]]:=by rw[show h.st.lk.length=0 by omega,<- AD,show h.st.sw.length=0 by omega,A0];rfl
    rw[if_pos h0,if_pos h0];have cE:=cD .full;rw[eA] at cE;repeat' (first|refine Vk fun K hK=> ?_|apply V0|apply Vb|apply Vc|apply Vr|apply Vs|with_reducible apply aa|((first|apply gE|apply gR);simp only[zA,simprocAttr, -List.reduceReplicate,hsC,Nat.lt_irrefl])|exact Vn|(apply Vz;refine Za (.inr rfl) rfl rfl rfl (fun _ _=>rfl) rfl rfl ?_ ?_<;>first|rfl|(exact AV.le.rfl _)|(simp only[sL,Xi hm,hsC,af,dx,Nat.lt_irrefl];done)|rfl|skip)|(refine X3 (cE) ?_)|(apply Vx;simp only[sb])|(refine hK _ ?_;clear hK K)|refine Vt rfl ?_|refine Vf rfl ?_|refine Vi rfl (fun hg=> ?_) (fun hg=> ?_)|clear hK K)
   ·rw[if_neg h0,if_neg h0];have cE:=cD (.own (m+3));repeat' (first|refine Vk fun K hK=> ?_|apply V0|apply Vb|apply Vc|apply Vr|apply Vs|with_reducible apply aa|((first|apply gE|apply gR);simp only[zA,simprocAttr, -List.reduceReplicate,hsC,Nat.lt_irrefl])|exact Vn|(apply Vz;refine Za (.inr rfl) rfl rfl rfl (fun _ _=>rfl) rfl rfl ?_ ?_<;>first|rfl|(exact AV.le.rfl _)|(simp only[sL,Xi hm,hsC,af,dx,Nat.lt_irrefl];done)|rfl|skip)|(refine X3 (cE) ?_)|(apply Vx;simp only[sb])|(refine hK _ ?_;clear hK K)|refine Vt rfl ?_|refine Vf rfl ?_|refine Vi rfl (fun hg=> ?_) (fun hg=> ?_)|clear hK K)
theorem Yb3 (p:Pl) (hs:SmV p) (hm:Uf p=false):∃A B:AV,Xr Tryz.prog 183 [plA p] [] (.tup [A,B,i64 8]) []:=by
 have cp:=Y3g p hs;rw[hm] at cp;simp only[bf,if_false,plA,plC] at cp;refine⟨.sl 0 [] .nil,.sl 0 [] .nil,?_⟩;refine Xc 2 Tryz.func183 rfl fun n out _ _=> ?_;simp only[sn,Tryz.ntmps183,simprocAttr];repeat' (first|refine Vk fun K hK=> ?_|apply V0|((first|apply gE|apply gR);simp only[zA,simprocAttr,plA,plC])|(apply Vz;refine Zv (.inr rfl) rfl rfl rfl (fun _ _=>rfl) rfl rfl rfl ?_ ?_ ?_<;>first|rfl|(exact AV.le.rfl _)|(simp only[sL,plA,plC,Int.reduceBNe];done)|rfl|skip)|(refine X3 (cp) ?_)|(refine hK _ ?_;clear hK K)|refine Vt rfl ?_)
theorem Y87 {p:Pl} (h:Uf p=false):Xo3 p=100:=by
 unfold Xo3;rw[if_neg];rintro⟨h1,_⟩;rw[(Xsb h1).1] at h;cases h
theorem Y6g (p:Pl) (hs:SmV p):Xr Tryz.prog 109 [plA p] [] (i64 (Xo3 p)) []:=by
 cases hm:Uf p with
 |true=>exact Xrp p (X20 hm)
 |false=>
  obtain⟨A,B,cw⟩:=Yb3 p hs hm;rw[Y87 hm];simp only[plA,plC] at cw;refine Xc 2 Tryz.func109 rfl fun n out _ _=> ?_;simp only[sn,Tryz.ntmps109,simprocAttr];repeat' (first|refine Vk fun K hK=> ?_|apply V0|((first|apply gE|apply gR);simp only[zA,simprocAttr,plA,plC])|(apply Vz;refine Vo rfl rfl rfl (fun _ _=>rfl) ?_<;>first|rfl|skip)|(refine X3 (cw) ?_)|(refine hK _ ?_;clear hK K)|refine Vt rfl ?_)
theorem Yaf (a:Pl) (ha:SmV a):Xr Tryz.prog 55 [plA a,.agg [i64 0,i64 0,.sl 0 [] .nil,.sl 0 [] .nil,.sl 0 [] .nil,.sl 0 [] .nil]] [] (bool (Xp3 a)) []:=by
 have hB1:Xd Tryz.prog 114=True:=hb0 _ (by decide) (by decide);have hB2:Xd Tryz.prog 117=True:=hb0 _ (by decide) (by decide);have q1:=ha.secs;have q2:=ha.pts;have q3:=ha.sgs;have q4:=ha.rts;have c1:=Xeq a.secs [] 114 [] Mw hB1 (by omega) fun x hx y hy=>by cases hy
 have c2:=Xf0 a.rts [] 117 [] Ks hB2 (by omega) fun x hx y hy=>by cases hy
 have c3:=Xgb a.pts [] (by omega);have c4:=Xgd a.sgs [] (by omega);have key:Xr Tryz.prog 55 [plA a,plA Aq] [] (bool (Xp3 a)) []:=by
  unfold Xp3 Sy Lw Aq;dsimp only;generalize (Fv Mw a.secs [])=P1 at*;generalize (Fv Ks a.rts [])=P2 at*;generalize (a.pts==[])=P3 at*;generalize (a.sgs==[])=P4 at*;refine Xc 2 Tryz.func55 rfl fun n out _ _=> ?_;simp only[sn,Tryz.ntmps55,simprocAttr];have hg:=Nat.le_refl 0;repeat' (first|refine Vk fun K hK=> ?_|apply V0|((first|apply gE|apply gR|apply gS);simp only[zA,simprocAttr,hg,plA,plC])|(apply Vz;refine Vo rfl rfl rfl (fun _ _=>rfl) ?_<;>first|rfl|(simp only[g_0,g_s];refine congrArg VS.bool ?_;simp_all;done)|skip)|(refine X3 (c1) ?_)|(refine X3 (c2) ?_)|(refine X3 (c3) ?_)|(refine X3 (c4) ?_)|((refine Vg (fun hg=> ?_) (fun hg=> ?_))<;>try simp only[nb] at hg)|(refine hK _ ?_;clear hK K))
 exact Xdb key (by simp only[plA,plC,Aq,ad,sL])
theorem Y61 (p:Pl):Xo3 p=0∨Xo3 p=100:=by
 unfold Xo3;split
 ·exact .inl rfl
 ·exact .inr rfl
theorem Yag {p:Pl} {s:St} (h:¬Xo3 p=0):Xrz p s=100:=by
 unfold Xrz;rw[if_neg h];exact(Y61 p).resolve_left h
theorem Ybt (p:Pl) (s:St) (hs:SmV p) (hS:SmS s):Xr Tryz.prog 186 [plA p,stA s] [] (.tup [Xzk p s,i64 (Xrz p s)]) []:=by
 by_cases hE:Xo3 p=0
 ·exact Y1i p s (X20 (Xoa hE).1) hS
 ·have cS:=Y6g p hs;have zl:=Xxx;have zb:=Xx9;have e1:Xo3 p=100:=(Y61 p).resolve_left hE;rw[e1] at cS;unfold Xzk;rw[Yag hE];simp only[show((100:Int)=0)=False from by simp,if_false];refine Xc 4 Tryz.func186 rfl fun n out _ _=> ?_;simp only[sn,Tryz.ntmps186,simprocAttr];refine Vy fun K hK=> ?_;simp only[zA,simprocAttr,plA,plC,stA,stC]
  (refine hK _ ?_;clear hK K)
  refine Xr9 [some (.box 28 (plC p)),some (.box 33 (stC s)),some (.box 261 zg),none] rfl ?_;generalize zg=Z at*;simp only[plA,stA] at cS;repeat' (first|refine Vk fun K hK=> ?_|apply V0|((first|apply gE|apply gR);simp (maxSteps:=4000000) only[sx,sy,eq_self,hbT,tab,Cl,Qd,Nat.reduceAdd,Nat.reduceLT,zb,plC,stC,zl,E6,X0])|(refine X3 (cS) ?_)|(refine hK _ ?_;clear hK K)|refine Vt rfl ?_)
  exact Yd (Xp (.inr rfl) rfl rfl rfl (fun _ _=>rfl) ok261 (k:=n+2) (off:=0) rfl (Xb _ (by simp)) (X6 _ (Nat.le_refl _) 2) (E6 zl) rfl (.rfl _))
theorem Y99 (p:Pl) (s:St) (hs:SmV p) (hS:SmS s):Xr Tryz.prog 112 [plA p,stA s] [] (i64 (Xrz p s)) []:=by
 have cO:=Ybt p s hs hS;obtain⟨X,hX,xl⟩:∃X,Xzk p s= .agg X∧X.length=201:=by
  unfold Xzk;split
  ·obtain⟨h1,h2⟩:=Xpn (Xjs s.sw) ((p.rts.map (Xop p)).zip s.lk) g00;exact⟨_,rfl,Xou (h1.trans (by simp [g00])) (h2.trans (by simp [g00]))⟩
  ·exact⟨_,rfl,Xxx⟩
 rw[hX] at cO;simp only[plA,stA] at cO;refine Xc 3 Tryz.func112 rfl fun n out _ _=> ?_;simp only[sn,Tryz.ntmps112,simprocAttr];repeat' (first|refine Vk fun K hK=> ?_|apply V0|((first|apply gE|apply gR);simp only[zA,simprocAttr,plA,plC,stA,stC,xl,X0])|(apply Vz;refine Vo rfl rfl rfl (fun _ _=>rfl) ?_<;>first|rfl|skip)|(refine X3 (cO) ?_)|(refine hK _ ?_;clear hK K))
structure SmX (h:Hs):Prop where
 plan:SmV h.plan
 back:SmV h.back
 next:SmV h.next
 st:SmS h.st
 key:h.key.length<=1000
 buf:h.buf.length<=5000
def Yb4 (h:Hs):Bool:=Xp3 h.next||Xo3 h.next==0
def Yb5 (h:Hs):Bool:=Xp3 h.plan&&(Xp3 h.back&&(Xp3 h.next&&(h.high==0&&((h.buf.length:Int)==0&&Xqz h.st Y2v))))
def Y6h (h:Hs):Bool:=decide (0<(h.key.length:Int))&&(Xo3 h.plan==0&&(decide (h.plan.ver<=h.high)&&(decide (h.high<=2147483647)&&(decide ((h.buf.length:Int)<=2048)&&(Xrz h.plan h.st==0&&(Xy6 h&&Yb4 h))))))
def Y6l (h:Hs):Bool:=decide ((h.key.length:Int)<=64)&&(if h.halt then Yb5 h else Y6h h)
def Yah (h:Hs):Int:=if Y6l h then 0 else 8
theorem Y6i (p:Pl) (hs:SmV p):Xr Tryz.prog 126 [plA p] [] (bool (Xp3 p)) []:=by
 have c1:=Yaf p hs;simp only[plA,plC] at c1;refine Xc 1 Tryz.func126 rfl fun n out _ _=> ?_;simp only[sn,Tryz.ntmps126,simprocAttr];repeat' (first|refine Vk fun K hK=> ?_|apply V0|((first|apply gE|apply gR);simp only[zA,simprocAttr,plA,plC])|(apply Vz;refine Vo rfl rfl rfl (fun _ _=>rfl) ?_<;>first|rfl|skip)|(refine X3 (c1) ?_)|(refine hK _ ?_;clear hK K))
theorem Y6j (p:Pl) (hs:SmV p):Xr Tryz.prog 125 [plA p] [] (bool (Xo3 p==0)) []:=by
 have c1:=Y6g p hs;simp only[plA,plC] at c1;refine Xc 1 Tryz.func125 rfl fun n out _ _=> ?_;simp only[sn,Tryz.ntmps125,simprocAttr];repeat' (first|refine Vk fun K hK=> ?_|apply V0|((first|apply gE|apply gR);simp only[zA,simprocAttr,plA,plC])|(apply Vz;refine Vo rfl rfl rfl (fun _ _=>rfl) ?_<;>first|rfl|skip)|(refine X3 (c1) ?_)|(refine hK _ ?_;clear hK K))
theorem Y9a (h:Hs) (hs:SmX h):Xr Tryz.prog 61 [hsA h] [] (i64 (Yah h)) []:=by
 have hb:Xd Tryz.prog 125=True:=hb0 _ (by decide) (by decide);have n1:=Y6i h.plan hs.plan;have n2:=Y6i h.back hs.back;have n3:=Y6i h.next hs.next;have r1:=Y6j h.plan hs.plan;have r2:=Y6j h.back hs.back;have r3:=Y6j h.next hs.next;have s1:=Y99 h.plan h.st hs.plan hs.st;have s2:=Xdb (args':=[stA h.st,.agg [.sl 0 [] .nil,.sl 0 [] .nil,.sl 0 [] .nil]]) (Xyr h.st Y2v hs.st) (by simp only[stA,stC,Y2v,ad,sL]);have x1:=hs.key;have x2:=hs.buf;unfold Yah Y6l;simp only[plA,plC,stA,stC] at n1 n2 n3 r1 r2 r3 s1 s2;cases hh:h.halt with
 |true=>
  simp only[if_true];unfold Yb5;generalize Xp3 h.plan=A1 at*;generalize Xp3 h.back=A2 at*;generalize Xp3 h.next=A3 at*;generalize Xqz h.st Y2v=A4 at*;refine Xc 2 Tryz.func61 rfl fun n out _ _=> ?_;simp only[sn,Tryz.ntmps61,simprocAttr];have hg:=Nat.le_refl 0;repeat' (first|refine Vk fun K hK=> ?_|apply V0|apply Vs|((first|apply gE|apply gR|apply gS);simp only[zA,simprocAttr,hg,hsA,hsC,X5,hh])|(apply Vz;refine Vo rfl rfl rfl (fun _ _=>rfl) ?_<;>first|rfl|(simp only[g_0,g_s];refine congrArg i64 ?_;first|(simp_all;done)|(simp_all;omega))|skip)|(refine X3 (n1) ?_)|(refine X3 (n2) ?_)|(refine X3 (n3) ?_)|(refine X3 (s2) ?_)|((refine Vg (fun hg=> ?_) (fun hg=> ?_))<;>try simp only[nb] at hg)|(refine hK _ ?_;clear hK K)|refine Vt rfl ?_|refine Vi rfl (fun hg=> ?_) (fun hg=> ?_))
 |false=>
  simp only[bf,if_false];unfold Y6h Xy6 Yb4;generalize Xp3 h.back=A2 at*;generalize Xp3 h.next=A3 at*;generalize (Xo3 h.plan==0)=B1 at*;generalize (Xo3 h.back==0)=B2 at*;generalize (Xo3 h.next==0)=B3 at*;generalize Xrz h.plan h.st=S1 at*;refine Xc 2 Tryz.func61 rfl fun n out _ _=> ?_;simp only[sn,Tryz.ntmps61,simprocAttr];have hg:=Nat.le_refl 0;repeat' (first|refine Vk fun K hK=> ?_|apply V0|apply Vs|((first|apply gE|apply gR|apply gS);simp only[zA,simprocAttr,hg,hsA,hsC,X5,hb,hh,List.append_eq,List.cons_append])|(apply Vz;refine Vo rfl rfl rfl (fun _ _=>rfl) ?_<;>first|rfl|(simp only[g_0,g_s];refine congrArg i64 ?_;first|(simp_all;done)|(simp_all;omega))|skip)|(refine X3 (n2) ?_)|(refine X3 (n3) ?_)|(refine X3 (r1) ?_)|(refine X3 (r2) ?_)|(refine X3 (r3) ?_)|(refine X3 (s1) ?_)|((refine Vg (fun hg=> ?_) (fun hg=> ?_))<;>try simp only[nb] at hg)|(refine hK _ ?_;clear hK K)|refine Vt rfl ?_|refine Vf rfl ?_|refine Vi rfl (fun hg=> ?_) (fun hg=> ?_))
theorem Y4t (h:Hs) (hs:SmX h):Xr Tryz.prog 26 [hsA h] [] (i64 (Yah h)) []:=by
 have c1:=Y9a h hs;simp only[hsA,hsC] at c1;refine Xc 1 Tryz.func26 rfl fun n out _ _=> ?_;simp only[sn,Tryz.ntmps26,simprocAttr];repeat' (first|refine Vk fun K hK=> ?_|apply V0|((first|apply gE|apply gR);simp only[zA,simprocAttr,hsA,hsC])|(apply Vz;refine Vo rfl rfl rfl (fun _ _=>rfl) ?_<;>first|rfl|skip)|(refine X3 (c1) ?_)|(refine hK _ ?_;clear hK K))
end Go.Proofs.YtgpdghbmiihfbaaGreat.Pln
namespace Go.Proofs.YtgpdghbmiihfbaaGreat.Pln
set_option linter.all false
set_option maxHeartbeats 1000000
open Go Go.VS Tab
def Xgq (k:Nat) (s:Sec):List AV:=[i64 s.id,i64 s.pt,.bsl k 0 s.ends.length false]
def Xgh (K i:Nat) (s:Sec):List AV:=Xgq (K+i) s
def rtX (k:Nat) (r:Rt):List AV:=[i64 r.id,i64 r.entry,i64 r.ex,.bsl k 0 r.path.length false,.sl 1 (r.over.map Ym) .sh,.sl 2 (r.flanks.map jnC) .sh,i64 r.timer]
def Xgw (s:Sec):Option Res:=some (bxD 167 (s.ends.map jnC))
def Xg2 (r:Rt):Option Res:=some (bxD 3 (r.path.map Ym))
def rtB (K j:Nat) (r:Rt):List AV:=rtX (K+j) r
def Y47 (S R:List (List AV)) (E T:List (Option Res)):List (Option Res):=some (bxD 154 S)::some (bxD 161 R)::(E++T)
abbrev sS (K a:Nat) (p:Pl):List (List AV):=stg a (Xgh (K+2)) (fun _=>secC) p.secs
abbrev sR (K b:Nat) (p:Pl):List (List AV):=stg b (rtB (K+2+p.secs.length)) (fun _=>rtC) p.rts
abbrev sE (a:Nat) (p:Pl):List (Option Res):=stg a (fun _=>Xgw) (fun _ _=>none) p.secs
abbrev sT (b:Nat) (p:Pl):List (Option Res):=stg b (fun _=>Xg2) (fun _ _=>none) p.rts
def Y4k (K:Nat) (p:Pl) (a b:Nat):List (Option Res):=Y47 (sS K a p) (sR K b p) (sE a p) (sT b p)
def tC (K:Nat) (p:Pl):List AV:=[i64 p.ver,i64 p.par,.bsl K 0 p.secs.length false,.sl 2 (p.pts.map jnC) .sh,.sl 3 (p.sgs.map sgC) .sh,.bsl (K+1) 0 p.rts.length false]
section
variable {s:Nat->Option Res} {K i:Nat} {S S' R R':List (List AV)} {E T:List (Option Res)} {o:Option Res} {r:Res}
theorem Xh4 (h:0<S.length):ofL s K (Y47 S R E T) K=some (.box 154 S.flatten):=
 Xrq (j:=0) (by simp [Y47,K1 h])
theorem Xgz (h:0<R.length):ofL s K (Y47 S R E T) (K+1)=some (.box 161 R.flatten):=
 Xrq (j:=1) (by simp [Y47,K1 h])
theorem Xfo (h:i<E.length):(Y47 S R E T)[2+i]? =E[i]? :=by
 rw[Nat.add_comm];simp only[Y47,List.getElem?_cons_succ];exact ap h
theorem Xfp:(Y47 S R E T)[2+E.length+i]? =T[i]? :=by
 rw[show 2+E.length+i=E.length+i+1+1 from by omega];simp only[Y47,List.getElem?_cons_succ];rw[ao (by omega),Nat.add_sub_cancel_left]
theorem Xgi (h:0<S'.length):Xw (ofL s K (Y47 S R E T)) K (.box 154 S'.flatten)=ofL s K (Y47 S' R E T):=by
 have:=Y6k (s:=s) (K:=K) (j:=0) (l:=Y47 S R E T) (r:= .box 154 S'.flatten) (by simp [Y47]);rw[Nat.add_zero] at this;rw[this];simp [Y47,K1 h]
theorem Xfq (h:0<R'.length):Xw (ofL s K (Y47 S R E T)) (K+1) (.box 161 R'.flatten)=ofL s K (Y47 S R' E T):=by
 rw[Y6k (by simp [Y47])];simp [Y47,K1 h]
theorem Xh0 (h:i<E.length):(Y47 S R E T).set (2+i) o=Y47 S R (E.set i o) T:=by
 rw[Nat.add_comm];simp only[Y47,List.set_cons_succ];rw[jk _ _ h]
theorem Xh1:(Y47 S R E T).set (2+E.length+i) o=Y47 S R E (T.set i o):=by
 rw[show 2+E.length+i=E.length+i+1+1 from by omega];simp only[Y47,List.set_cons_succ];rw[d8 _ _ (by omega),Nat.add_sub_cancel_left]
theorem Xfr:(Y47 S R E T).length=2+E.length+T.length:=by simp [Y47];omega
theorem Xfs (h:i<E.length):Xw (ofL s K (Y47 S R E T)) (K+2+i) r=ofL s K (Y47 S R (E.set i (some r)) T):=by
 rw[Nat.add_assoc,Y6k (by rw[Xfr];omega),Xh0 h]
theorem Xft {m:Nat} (hE:E.length=m) (h:i<T.length):Xw (ofL s K (Y47 S R E T)) (K+2+m+i) r=ofL s K (Y47 S R E (T.set i (some r))):=by
 subst hE;rw[show K+2+E.length+i=K+(2+E.length+i) from by omega,Y6k (by rw[Xfr];omega),Xh1]
theorem Xgr {n:Nat} (hu:Mc n (Y62 K (Y47 S R E T))) (h:E[i]? =some (some r)):K+2+i<n:=by
 have:=K2 hu (j:=2+i) (by rw[Xfo (ab.1 h).1];exact h);omega
theorem Xgs {n m:Nat} (hE:E.length=m) (hu:Mc n (Y62 K (Y47 S R E T))) (h:T[i]? =some (some r)):K+2+m+i<n:=by
 subst hE;have:=K2 hu (j:=2+E.length+i) (by rw[Xfp];exact h);omega
theorem Xgt {n:Nat} (hu:Mc n (Y62 K (Y47 S R E T))):K<n:=
 K2 hu (j:=0) (r:=bxD 154 S) (by simp [Y47])
theorem Xgu {n:Nat} (hu:Mc n (Y62 K (Y47 S R E T))):K+1<n:=
 K2 hu (j:=1) (r:=bxD 161 R) (by simp [Y47])
end
theorem Xgj {s:Nat->Option Res} {K:Nat} {p:Pl} (h:holds s (Xfx K (Xgg (Y4k K p p.secs.length p.rts.length)))):RV s (.agg (tC K p)) (plA p):=by
 have h0:∀r,bxR 154 (sS K p.secs.length p)=some r->s K=some r:=fun r hr=>Xpz h (j:=0) (Xen (by simp [Y4k,Y47,(Xet hr).1]) (Xet hr).2);have h1:∀r,bxR 161 (sR K p.rts.length p)=some r->s (K+1)=some r:=fun r hr=>Xpz h (j:=1) (Xen (by simp [Y4k,Y47,(Xet hr).1]) (Xet hr).2);have h2:∀i x,p.secs[i]? =some x->∀r,bxR 167 (x.ends.map jnC)=some r->s (K+2+i)=some r:=fun i x hx r hr=>by
  have hi:=(ab.1 hx).1;rw[Nat.add_assoc];refine Xpz h (j:=2+i) (Xen ?_ (Xet hr).2);rw[Y4k,Xfo (by rw[V8];exact hi),Y3e hx hi,Xgw,(Xet hr).1]
 have h3:∀j x,p.rts[j]? =some x->∀r,bxR 3 (x.path.map Ym)=some r->s (K+2+p.secs.length+j)=some r:=fun j x hx r hr=>by
  have hj:=(ab.1 hx).1;rw[show K+2+p.secs.length+j=K+(2+(sE p.secs.length p).length+j) from by rw[V8];omega];refine Xpz h (j:=2+(sE p.secs.length p).length+j) (Xen ?_ (Xet hr).2);rw[Y4k,Xfp,Y3e hx hj,Xg2,(Xet hr).1]
 have vI:∀(l:List Int) x,x∈l.map Ym->∀c,c∈x->∃v,c= .val v:=fun l x hx c hc=>by
  obtain⟨a,_,rfl⟩:=dj.1 hx;simp [Ym] at hc;exact⟨_,hc⟩
 have vJ:∀(l:List (Int×Int)) x,x∈l.map jnC->∀c,c∈x->∃v,c= .val v:=fun l x hx c hc=>by
  obtain⟨a,_,rfl⟩:=dj.1 hx;simp [jnC] at hc;rcases hc with hc|hc<;>exact⟨_,hc⟩
 have vG:∀(l:List (Int×Int×Int)) x,x∈l.map sgC->∀c,c∈x->∃v,c= .val v:=fun l x hx c hc=>by
  obtain⟨a,_,rfl⟩:=dj.1 hx;simp [sgC] at hc;rcases hc with hc|hc|hc<;>exact⟨_,hc⟩
 have zS:szL 3 (p.secs.map secC):=E5 (f:=secC) (fun _=>rfl) _;have zR:szL 7 (p.rts.map rtC):=E5 (f:=rtC) (fun _=>rfl) _;have bS:=Xfl (sz:=3) h0 (Xqs (fun _ _=>rfl) (fun _ _=>rfl)) zS (by rw[V8,af]) fun i j x x' c c' hx hx' hc hc'=>by
  rw[bw] at hx';cases hs:p.secs[i]? with
  |none=>rw[hs] at hx';cases hx'
  |some y=>
   rw[hs,Option.map_some] at hx';rw[Y3e hs (ab.1 hs).1] at hx;injection hx with hx;injection hx' with hx'
   subst hx;subst hx'
   match j,hc,hc' with
   |0,hc,hc'=>simp [Xgh,Xgq,secC] at hc hc';subst hc;subst hc';exact .val _
   |1,hc,hc'=>simp [Xgh,Xgq,secC] at hc hc';subst hc;subst hc';exact .val _
   |2,hc,hc'=>
    simp [Xgh,Xgq,secC] at hc hc';subst hc;subst hc';have:=Xfm (s:=s) (k:=K+2+i) (sz:=2) (e:=167) (els:=y.ends.map jnC) (h2 i y hs) (E5 (f:=jnC) (fun _=>rfl) _) (vJ _);rw[af] at this;exact this
   |j+3,hc,hc'=>simp [Xgh,Xgq] at hc
 have bR:=Xfl (sz:=7) h1 (Xqs (fun _ _=>rfl) (fun _ _=>rfl)) zR (by rw[V8,af]) fun i j x x' c c' hx hx' hc hc'=>by
  rw[bw] at hx';cases hs:p.rts[i]? with
  |none=>rw[hs] at hx';cases hx'
  |some y=>
   rw[hs,Option.map_some] at hx';rw[Y3e hs (ab.1 hs).1] at hx;injection hx with hx;injection hx' with hx'
   subst hx;subst hx'
   match j,hc,hc' with
   |0,hc,hc'=>simp [rtB,rtX,rtC] at hc hc';subst hc;subst hc';exact .val _
   |1,hc,hc'=>simp [rtB,rtX,rtC] at hc hc';subst hc;subst hc';exact .val _
   |2,hc,hc'=>simp [rtB,rtX,rtC] at hc hc';subst hc;subst hc';exact .val _
   |3,hc,hc'=>
    simp [rtB,rtX,rtC] at hc hc';subst hc;subst hc';have:=Xfm (s:=s) (k:=K+2+p.secs.length+i) (sz:=1) (e:=3) (els:=y.path.map Ym) (h3 i y hs) (E5 (f:=Ym) (fun _=>rfl) _) (vI _);rw[af] at this;exact this
   |4,hc,hc'=>simp [rtB,rtX,rtC] at hc hc';subst hc;subst hc';exact Y4j _ (vI _)
   |5,hc,hc'=>simp [rtB,rtX,rtC] at hc hc';subst hc;subst hc';exact Y4j _ (vJ _)
   |6,hc,hc'=>simp [rtB,rtX,rtC] at hc hc';subst hc;subst hc';exact .val _
   |j+7,hc,hc'=>simp [rtB,rtX] at hc
 rw[V8] at bS bR;refine .agg _ _ rfl fun i c c' hc hc'=> ?_
 match i,hc,hc' with
 |0,hc,hc'=>simp [tC,plC] at hc hc';subst hc;subst hc';exact .val _
 |1,hc,hc'=>simp [tC,plC] at hc hc';subst hc;subst hc';exact .val _
 |2,hc,hc'=>simp [tC,plC] at hc hc';subst hc;subst hc';exact bS
 |3,hc,hc'=>simp [tC,plC] at hc hc';subst hc;subst hc';exact Y4j _ (vJ _)
 |4,hc,hc'=>simp [tC,plC] at hc hc';subst hc;subst hc';exact Y4j _ (vG _)
 |5,hc,hc'=>simp [tC,plC] at hc hc';subst hc;subst hc';exact bR
 |i+6,hc,hc'=>simp [tC] at hc
end Go.Proofs.YtgpdghbmiihfbaaGreat.Pln
