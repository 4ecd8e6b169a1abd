/- The layer of abstract values, joined. -/
import Derived.Test.YtdngdjbgmojcoaaGreatZPR
import Derived.Test.YtdngdjbgmojcoaaGreatZQD
import Derived.Test.YtdngdjbgmojcoaaGreatZQ3
import Derived.Test.YtdngdjbgmojcoaaGreatZK32
import Derived.Test.YtdngdjbgmojcoaaGreatZQL
namespace Go.Proofs.YtdngdjbgmojcoaaGreat.Pln
set_option linter.all false
set_option maxHeartbeats 8000000
set_option maxRecDepth 4000
open Go Go.VS Tab
attribute [local irreducible] AWp Xp0 Pg X5c Qy Lt Tp FdT Eb
theorem Xxs (p:Pl) (hs:Sm p):Xr Tryz.prog 26 [plA p] [] (bool (Xp3 p)) []:=by
 have c0:=Xgf p Aq hs;rw[show Sy p Aq=Xp3 p from rfl] at c0;have c1:=Xdb (args':=[plA p,.agg [i64 0,i64 0,.sl 0 [] .nil,.sl 0 [] .nil,.sl 0 [] .nil,.sl 0 [] .nil]]) c0 (by simp only[plA,plC,Aq,ag,sL]);simp only[plA,plC] at c1;refine Xc 1 Tryz.func26 rfl fun n out _ _=> ?_;simp only[sn,Tryz.ntmps26,simprocAttr];repeat' (first|refine Vk fun K hK=> ?_|apply V0|apply Vs|with_reducible apply ab|((first|apply gE|apply gR);simp only[zA,simprocAttr,plA,plC])|exact Vn|(apply Vz;refine Vo rfl rfl rfl (fun _ _=>rfl) ?_<;>first|rfl|skip)|(refine X3 (c1) ?_)|(refine hK _ ?_;clear hK K)|clear hK K)
theorem Xqb (h:Hs) (hs:SmH h):Xr Tryz.prog 13 [hsA h] [] (i64 (Xoc h)) []:=by
 have c1:=Xxs h.back hs.back;have c2:=Xrp h.back hs.back;have c3:=Xtq h.plan h.st hs.plan hs.st;unfold Xoc Xo9 Xy6;simp only[plA,plC,stA,stC] at c1 c2 c3;generalize Xp3 h.back=N1 at*;generalize Xo3 h.back=S1 at*;generalize Xrz h.plan h.st=S2 at*;refine Xc 1 Tryz.func13 rfl fun n out _ _=> ?_;simp only[sn,Tryz.ntmps13,simprocAttr];have hg:=Nat.le_refl 0;repeat' (first|refine Vk fun K hK=> ?_|apply V0|apply Vs|with_reducible apply ab|((first|apply gE|apply gR|apply gS);simp only[zA,simprocAttr,hg,hsA,hsC])|exact Vn|(apply Vz;refine Vo rfl rfl rfl (fun _ _=>rfl) ?_<;>first|rfl|(simp only[g_0,g_s];refine congrArg i64 ?_;simp_all;done)|skip)|(refine X3 (c1) ?_)|(refine X3 (c2) ?_)|(refine X3 (c3) ?_)|((refine Vg (fun hg=> ?_) (fun hg=> ?_))<;>try simp only[nb] at hg)|(refine hK _ ?_;clear hK K)|refine Vt rfl ?_|refine Vf rfl ?_|refine Vi rfl (fun hg=> ?_) (fun hg=> ?_)|clear hK K)
theorem Xsr:∀(s:List (Int×UInt8×Int×Int)),(lkN s).length=2*s.length
 |[]=>rfl
 |l::s=>by
  have e:lkN (l::s)=(l.2.1.toNat:Int)::l.2.2.1::lkN s:=rfl;rw[e,List.length_cons,List.length_cons,Xsr s,List.length_cons];omega
theorem Xp9 (h:Hs) (hs:SmH h):Xr Tryz.prog 9 [hsA h] [] (.tup [.sl 1 (Xo (Xlr h)) .sh,i64 (Xoc h)]) []:=by
 have cC:=Xqb h hs;cases hc:Xo9 h with
 |false=>
  have e1:Xlr h=[]:=by unfold Xlr;rw[hc];rfl
  have e2:Xoc h=8:=by unfold Xoc;rw[hc];rfl
  rw[e2] at cC;rw[e1,e2];simp only[hsA,hsC] at cC;have bn:Xo []=[]:=rfl;refine Xc 1 Tryz.func9 rfl fun n out _ _=> ?_;simp only[sn,Tryz.ntmps9,simprocAttr];repeat' (first|refine Vk fun K hK=> ?_|apply V0|apply Vb|apply Vc|apply Vr|apply Vs|with_reducible apply ab|((first|apply gE|apply gR);simp only[zA,simprocAttr, -List.reduceReplicate,hsA,hsC,bn])|exact Vn|(apply Vz;refine Za (.inr rfl) rfl rfl rfl (fun _ _=>rfl) rfl rfl ?_ ?_<;>first|rfl|(exact AV.le.rfl _)|(simp only[sL,bn];done)|rfl|skip)|(refine X3 (cC) ?_)|(apply Vx;simp only[sb,reduceIte,Nat.reduceEqDiff])|(refine hK _ ?_;clear hK K)|refine Vt rfl ?_|refine Vf rfl ?_|refine Vi rfl (fun hg=> ?_) (fun hg=> ?_)|clear hK K)
 |true=>
  have e1:Xlr h=Xp7 h:=by unfold Xlr;rw[hc];rfl
  have e2:Xoc h=0:=by unfold Xoc;rw[hc];rfl
  obtain⟨k1,k2,k3,k4⟩:=Xor.1 hc;obtain⟨s1,s2,s3,s4,_⟩:=Xp8 k4;have hm:=(Xoa s1).1;have t1:=R7 hm;have cN:=Xxs h.back hs.back;have cT:=X5q h.plan hs.plan;have cU:=X5q h.back hs.back;rw[show Bm h.plan=Wg h.plan from if_pos hm] at cT;have t2:(Xpf h).length<=700:=by
   unfold Xpf;cases hn:Xp3 h.back with
   |true=>rw[if_pos rfl];simp
   |false=>
    rw[if_neg (by decide)];rcases k2 with k2|k2
    ·rw[hn] at k2;cases k2
    ·exact R7 (Xoa k2.1).1
  have cB:=fun md'=>Xyb [Wg h.plan,Xpf h] (Xrf h) .sh md' (fun t ht=>by simp at ht;rcases ht with rfl|rfl<;>omega) (by simp) (by
   have h1:=hs.st.w;have h2:=hs.st.l;have h3:=Xsr h.st.lk;simp [Xrf,swN];omega)
  have e3:[Wg h.plan,Xpf h].flatMap Xoh++(Xrf h).flatMap Y3m=Xp7 h:=by
   unfold Xp7;simp
  simp only[e3] at cB;rw[e1,e2];rw[e2] at cC;have hwl:=hs.st.w;have hll:=hs.st.l;obtain⟨A,hA⟩:∃A:Nat->List Int,A=fun i=>h.high::swN (h.st.sw.take i):=⟨_,rfl⟩
  obtain⟨D,hD⟩:∃D:Nat->List Int,D=fun i=>h.high::(swN h.st.sw++lkN (h.st.lk.take i)):=⟨_,rfl⟩
  have A0:A 0=[h.high]:=by rw[hA];rfl
  have As:∀i (hi:i<h.st.sw.length),(A i).map Ym++[[i64 h.st.sw[i].2.2]]=(A (i+1)).map Ym:=fun i hi=>by
   rw[hA];dsimp only;rw[aj hi];simp only[swN,bk,aw,ag,List.cons_append,Ym]
  have Al:∀i,i<=h.st.sw.length->(A i).length=i+1:=fun i hi=>by rw[hA];simp [swN];omega
  have AD:A h.st.sw.length=D 0:=by rw[hA,hD];simp [lkN]
  have Ds:∀i (hi:i<h.st.lk.length),(D i).map Ym++[[i64 (h.st.lk[i].2.1.toNat:Int)],[i64 h.st.lk[i].2.2.1]]=(D (i+1)).map Ym:=fun i hi=>by
   rw[hD];dsimp only;rw[aj hi];simp only[lkN,b0,bw,bv,a9,bk,aw,ag,List.cons_append,aq,Ym]
  have Dl:∀i,i<=h.st.lk.length->(D i).length=h.st.sw.length+2*i+1:=fun i hi=>by rw[hD];simp [swN,Xsr];omega
  have Dn:D h.st.lk.length=Xrf h:=by rw[hD];simp [Xrf]
  simp only[<- Dn] at cB;clear hA hD Dn e3;have Mr:∀(σ:AState) (K:AV->List (Nat×Res)->Prop) (x:Int),X1 tab σ K none 61 1 [(0,i64 x)]=K (.sl 1 [[i64 x]] .full) []:=fun σ K x=>Yk (T:=tab) (ti:=ti61) (te:=ti3) rfl rfl rfl (by decide) (by decide) rfl rfl;have B6:∀(σ:AState) (K:AV->List (Nat×Res)->Prop) (x y:Int),X1 tab σ K none 61 2 [(0,i64 x),(1,i64 y)]=K (.sl 1 [[i64 x],[i64 y]] .full) []:=fun σ K x y=>Te (T:=tab) (ti:=ti61) (te:=ti3) rfl rfl rfl rfl rfl rfl;have rp:Y7 [Value.slice none 0 0] 2=[.sl 0 [] .nil,.sl 0 [] .nil]:=rfl;have sp0:∀x a b:AV,Yf [a,b] 0 [x]=[x,b]:=fun _ _ _=>rfl;have sp1:∀x a b:AV,Yf [a,b] 1 [x]=[a,x]:=fun _ _ _=>rfl;simp only[hsA,hsC] at cC;simp only[plA,plC] at cT cN;have cU:Xp3 h.back=false->Xr Tryz.prog 25 [plA h.back] [] (.tup [.sl 1 (Xo (Wg h.back)) .sh,i64 (Bl h.back)]) []:=fun hn=>by
   rw[show Bm h.back=Wg h.back from if_pos (by
    rcases k2 with k2|k2
    ·rw[hn] at k2;cases k2
    ·exact(Xoa k2.1).1)] at cU
   exact cU
  simp only[plA,plC] at cU;cases hn:Xp3 h.back
  ·have eb:Xpf h=Wg h.back:=by unfold Xpf;rw[hn];rfl
   rw[hn] at cN;simp only[eb] at cB;have cD:=fun md'=>Xdb (args':=[.sl 1 [[.sl 1 (Xo (Wg h.plan)) .sh],[.sl 1 (Xo (Wg h.back)) .sh]] .sh,.sl 1 ((D h.st.lk.length).map Ym) md']) (cB md') (by simp only[bk,ag,txC,Wb,sL]);refine Xc 5 Tryz.func9 rfl fun n out _ _=> ?_;simp only[sn,Tryz.ntmps9,simprocAttr];repeat' (first|refine Vk fun K hK=> ?_|refine Ve [(16,none)] ?_|apply Vb|apply Vc|apply Vr|apply Vs|with_reducible apply ab|((first|apply gE|apply gR);simp only[zB,simprocAttr, -List.reduceReplicate,Mr,hsA,hsC,rp,sp0,sp1])|exact Vn|(apply Vz;refine Vp rfl rfl rfl (fun _ _=>rfl) ?_ ?_<;>first|rfl|skip)|(refine X3 (cC) ?_)|(refine X3 (cT) ?_)|(refine X3 (cN) ?_)|(refine X3 (cU hn) ?_)|(apply Vx;simp only[sb,reduceIte,Nat.reduceEqDiff])|(refine hK _ ?_;clear hK K)|refine Vt rfl ?_|refine Vf rfl ?_|refine Vi rfl (fun hg=> ?_) (fun hg=> ?_)|clear hK K)
   refine Yy (Zi (i:=1) (t:=5) 1 (.sl 1 [[.sl 1 (Xo (Wg h.plan)) .sh],[.sl 1 (Xo (Wg h.back)) .sh]] .sh) rfl rfl (.bsl 0 2 true ⟨by decide,Nat.le_refl _⟩)) ?_;simp only[s_0,s_s];apply V5;refine Xrd (h.st.sw.length) (fun m i=>tr 45 9 [(44,i64 (i:Int)),(1,.ptr (m+0) 0),(6,if i=0 then .sl 1 [[i64 h.high]] .full else .sl 1 ((A i).map Ym) (.own (m+3))),(8,.top)]) (fun m i=>[some (.box 35 (hsC h)),some .dead,none,if i=0 then none else some (.row 3 1 (A i).length),none]) ?_ fun m i hm hi=> ?_
   ·refine X2 ?_ ?_ (by first|rfl|(simp only[hsC,if_true];rfl)|simp only[hsC,if_true]) rfl rfl rfl<;>simp only[sL,hsC,if_true]
   simp only[pt];have hw:=Yl (n:=i) 1 1 rfl (by omega);by_cases hlt:i<h.st.sw.length
   ·have gi:=Xg sgC h.st.sw i [] hlt;have ast:=As i hlt;have al:=Al (i+1) hlt;have al0:=Al i (by omega);have n1:¬i+1=0:=by omega
    by_cases h0:i=0
    ·have eA:(A i).map Ym=[[i64 h.high]]:=by rw[h0,A0];rfl
     rw[eA] at ast;rw[if_pos h0,if_pos h0];have e2:(A (i+1)).length=2:=by omega
     repeat' (first|refine Vk fun K hK=> ?_|refine Ve [(52,none)] ?_|apply Vb|apply Vc|apply Vr|apply Vs|with_reducible apply ab|((first|apply gE|apply gR);simp only[zB,simprocAttr, -List.reduceReplicate,Mr,Xi hm,hsC,sgC,hlt,gi,X0,hw,ast])|exact Vn|(apply Vz;refine Vp rfl rfl rfl (fun _ _=>rfl) ?_ ?_<;>first|rfl|skip)|(apply Vx;simp only[sb,reduceIte,Nat.reduceEqDiff])|(refine hK _ ?_;clear hK K)|refine Vt rfl ?_|refine Vf rfl ?_|refine Vi rfl (fun hg=> ?_) (fun hg=> ?_)|clear hK K)
     refine⟨i+1,by omega,by omega,?_⟩;refine Xx [true,true,false,true,false] ?_ ?_<;>intro n_<;>simp only[sM,fb,if_false,e2]
    ·rw[if_neg h0,if_neg h0];have y2:((A i).length+1)*8<=140737488355328:=by omega
     have y3:(A i).length<=9223372036854775806:=by omega
     have e2:(A (i+1)).length=(A i).length+1:=by omega
     repeat' (first|refine Vk fun K hK=> ?_|apply V0|apply Vb|apply Vc|apply Vr|apply Vs|with_reducible apply ab|((first|apply gE|apply gR);simp only[zB,simprocAttr, -List.reduceReplicate,Mr,Xi hm,hsC,sgC,hlt,gi,X0,hw,y2,y3,ast])|exact Vn|(apply Vz;refine Vp rfl rfl rfl (fun _ _=>rfl) ?_ ?_<;>first|rfl|skip)|(apply Vx;simp only[sb,reduceIte,Nat.reduceEqDiff])|(refine hK _ ?_;clear hK K)|refine Vt rfl ?_|refine Vf rfl ?_|refine Vi rfl (fun hg=> ?_) (fun hg=> ?_)|clear hK K)
     refine⟨i+1,by omega,by omega,?_⟩;refine Xx [true,true,false,true,false] ?_ ?_<;>intro n_<;>simp only[sM,fb,if_false,e2]
   obtain rfl:i=h.st.sw.length:=by omega
   rw[AD];clear hw hlt hi;repeat' (first|refine Vk fun K hK=> ?_|apply V0|apply Vb|apply Vc|apply Vr|apply Vs|with_reducible apply ab|((first|apply gE|apply gR);simp only[zA,simprocAttr, -List.reduceReplicate,Xi hm,hsC,Nat.lt_irrefl])|exact Vn|(apply Vz;refine Vp rfl rfl rfl (fun _ _=>rfl) ?_ ?_<;>first|rfl|skip)|(apply Vx;simp only[sb])|(refine hK _ ?_;clear hK K)|refine Vt rfl ?_|refine Vf rfl ?_|refine Vi rfl (fun hg=> ?_) (fun hg=> ?_)|clear hK K)
   obtain⟨W,hW⟩:∃W,W=h.st.sw.length:=⟨_,rfl⟩
   rw[<- hW];rw[<- hW] at Dl hwl;apply V5;refine Xrd (h.st.lk.length) (fun m i=>tr 59 12 [(58,i64 (i:Int)),(1,.ptr (m+0) 0),(6,if W+i=0 then .sl 1 [[i64 h.high]] .full else .sl 1 ((D i).map Ym) (.own (m+3))),(8,.top),(10,.top)]) (fun m i=>[some (.box 35 (hsC h)),some .dead,none,if W+i=0 then none else some (.row 3 1 (D i).length),none]) ?_ fun m i hm hi=> ?_
   ·refine X2 ?_ ?_ (by first|rfl|(simp only[hsC,Nat.add_zero];rfl)|simp only[hsC,Nat.add_zero]) rfl rfl rfl<;>simp only[sL,hsC,Nat.add_zero]
   simp only[pt];have hw:=Yl (n:=i) 1 1 rfl (by omega);by_cases hlt:i<h.st.lk.length
   ·have gi:=Xg lkC h.st.lk i [] hlt;have ast:=Ds i hlt;have al:=Dl (i+1) hlt;have al0:=Dl i (by omega);have n1:(W+(i+1)=0)=False:=ef (by omega);have w8:IntKind.i64.wrap (h.st.lk[i].2.1.toNat:Int)=(h.st.lk[i].2.1.toNat:Int):=by
     have:=UInt8.toNat_lt h.st.lk[i].2.1;rw[wrap_i64]<;>omega
    by_cases h0:W+i=0
    ·have eA:(D i).map Ym=[[i64 h.high]]:=by rw[show i=0 by omega,<- AD,show h.st.sw.length=0 by omega,A0];rfl
     rw[eA] at ast;rw[if_pos h0,if_pos h0];have e2:(D (i+1)).length=3:=by omega
     repeat' (first|refine Vk fun K hK=> ?_|refine Ve [(69,none)] ?_|apply Vb|apply Vc|apply Vr|apply Vs|with_reducible apply ab|((first|apply gE|apply gR);simp only[zB,simprocAttr, -List.reduceReplicate,B6,Xi hm,hsC,lkC,hlt,gi,X0,hw,ast,w8])|exact Vn|(apply Vz;refine Vp rfl rfl rfl (fun _ _=>rfl) ?_ ?_<;>first|rfl|skip)|(apply Vx;simp only[sb,reduceIte,Nat.reduceEqDiff])|(refine hK _ ?_;clear hK K)|refine Vt rfl ?_|refine Vf rfl ?_|refine Vi rfl (fun hg=> ?_) (fun hg=> ?_)|clear hK K)
     refine⟨i+1,by omega,by omega,?_⟩;refine Xx [true,true,false,true,false] ?_ ?_<;>intro n_<;>simp only[sM,n1,if_false,e2]
    ·rw[if_neg h0,if_neg h0];have y2:((D i).length+2)*8<=140737488355328:=by omega
     have y3:(D i).length<=9223372036854775805:=by omega
     have e2:(D (i+1)).length=(D i).length+2:=by omega
     repeat' (first|refine Vk fun K hK=> ?_|apply V0|apply Vb|apply Vc|apply Vr|apply Vs|with_reducible apply ab|((first|apply gE|apply gR);simp only[zB,simprocAttr, -List.reduceReplicate,B6,Xi hm,hsC,lkC,hlt,gi,X0,hw,y2,y3,ast,w8])|exact Vn|(apply Vz;refine Vp rfl rfl rfl (fun _ _=>rfl) ?_ ?_<;>first|rfl|skip)|(apply Vx;simp only[sb,reduceIte,Nat.reduceEqDiff])|(refine hK _ ?_;clear hK K)|refine Vt rfl ?_|refine Vf rfl ?_|refine Vi rfl (fun hg=> ?_) (fun hg=> ?_)|clear hK K)
     refine⟨i+1,by omega,by omega,?_⟩;refine Xx [true,true,false,true,false] ?_ ?_<;>intro n_<;>simp only[sM,n1,if_false,e2]
   obtain rfl:i=h.st.lk.length:=by omega
   clear hw hlt hi;by_cases h0:W+h.st.lk.length=0
   ·have eA:(D h.st.lk.length).map Ym=[[i64 h.high]]:=by rw[show h.st.lk.length=0 by omega,<- AD,show h.st.sw.length=0 by omega,A0];rfl
    rw[if_pos h0,if_pos h0];have cE:=cD .full;rw[eA] at cE;repeat' (first|refine Vk fun K hK=> ?_|apply V0|apply Vb|apply Vc|apply Vr|apply Vs|with_reducible apply ab|((first|apply gE|apply gR);simp only[zA,simprocAttr, -List.reduceReplicate,hsC,Nat.lt_irrefl])|exact Vn|(apply Vz;refine Za (.inr rfl) rfl rfl rfl (fun _ _=>rfl) rfl rfl ?_ ?_<;>first|rfl|(exact AV.le.rfl _)|(simp only[sL,Xi hm,hsC,ai,d9,Nat.lt_irrefl];done)|rfl|skip)|(refine X3 (cE) ?_)|(apply Vx;simp only[sb])|(refine hK _ ?_;clear hK K)|refine Vt rfl ?_|refine Vf rfl ?_|refine Vi rfl (fun hg=> ?_) (fun hg=> ?_)|clear hK K)
   ·rw[if_neg h0,if_neg h0];have cE:=cD (.own (m+3));repeat' (first|refine Vk fun K hK=> ?_|apply V0|apply Vb|apply Vc|apply Vr|apply Vs|with_reducible apply ab|((first|apply gE|apply gR);simp only[zA,simprocAttr, -List.reduceReplicate,hsC,Nat.lt_irrefl])|exact Vn|(apply Vz;refine Za (.inr rfl) rfl rfl rfl (fun _ _=>rfl) rfl rfl ?_ ?_<;>first|rfl|(exact AV.le.rfl _)|(simp only[sL,Xi hm,hsC,ai,d9,Nat.lt_irrefl];done)|rfl|skip)|(refine X3 (cE) ?_)|(apply Vx;simp only[sb])|(refine hK _ ?_;clear hK K)|refine Vt rfl ?_|refine Vf rfl ?_|refine Vi rfl (fun hg=> ?_) (fun hg=> ?_)|clear hK K)
  ·have eb:Xpf h=[]:=by unfold Xpf;rw[hn];rfl
   rw[hn] at cN;simp only[eb] at cB;have cD:=fun md'=>Xdb (args':=[.sl 1 [[.sl 1 (Xo (Wg h.plan)) .sh],[.sl 0 [] .nil]] .sh,.sl 1 ((D h.st.lk.length).map Ym) md']) (cB md') (by simp only[bk,ag,txC,Wb,sL]);refine Xc 5 Tryz.func9 rfl fun n out _ _=> ?_;simp only[sn,Tryz.ntmps9,simprocAttr];repeat' (first|refine Vk fun K hK=> ?_|refine Ve [(16,none)] ?_|apply Vb|apply Vc|apply Vr|apply Vs|with_reducible apply ab|((first|apply gE|apply gR);simp only[zB,simprocAttr, -List.reduceReplicate,Mr,hsA,hsC,rp,sp0])|exact Vn|(apply Vz;refine Vp rfl rfl rfl (fun _ _=>rfl) ?_ ?_<;>first|rfl|skip)|(refine X3 (cC) ?_)|(refine X3 (cT) ?_)|(refine X3 (cN) ?_)|(refine X3 (cU hn) ?_)|(apply Vx;simp only[sb,reduceIte,Nat.reduceEqDiff])|(refine hK _ ?_;clear hK K)|refine Vt rfl ?_|refine Vf rfl ?_|refine Vi rfl (fun hg=> ?_) (fun hg=> ?_)|clear hK K)
   refine Yy (Zi (i:=1) (t:=5) 1 (.sl 1 [[.sl 1 (Xo (Wg h.plan)) .sh],[.sl 0 [] .nil]] .sh) rfl rfl (.bsl 0 2 true ⟨by decide,Nat.le_refl _⟩)) ?_;simp only[s_0,s_s];apply V5;refine Xrd (h.st.sw.length) (fun m i=>tr 45 9 [(44,i64 (i:Int)),(1,.ptr (m+0) 0),(6,if i=0 then .sl 1 [[i64 h.high]] .full else .sl 1 ((A i).map Ym) (.own (m+3))),(8,.top)]) (fun m i=>[some (.box 35 (hsC h)),some .dead,none,if i=0 then none else some (.row 3 1 (A i).length),none]) ?_ fun m i hm hi=> ?_
   ·refine X2 ?_ ?_ (by first|rfl|(simp only[hsC,if_true];rfl)|simp only[hsC,if_true]) rfl rfl rfl<;>simp only[sL,hsC,if_true]
   simp only[pt];have hw:=Yl (n:=i) 1 1 rfl (by omega);by_cases hlt:i<h.st.sw.length
   ·have gi:=Xg sgC h.st.sw i [] hlt;have ast:=As i hlt;have al:=Al (i+1) hlt;have al0:=Al i (by omega);have n1:¬i+1=0:=by omega
    by_cases h0:i=0
    ·have eA:(A i).map Ym=[[i64 h.high]]:=by rw[h0,A0];rfl
     rw[eA] at ast;rw[if_pos h0,if_pos h0];have e2:(A (i+1)).length=2:=by omega
     repeat' (first|refine Vk fun K hK=> ?_|refine Ve [(52,none)] ?_|apply Vb|apply Vc|apply Vr|apply Vs|with_reducible apply ab|((first|apply gE|apply gR);simp only[zB,simprocAttr, -List.reduceReplicate,Mr,Xi hm,hsC,sgC,hlt,gi,X0,hw,ast])|exact Vn|(apply Vz;refine Vp rfl rfl rfl (fun _ _=>rfl) ?_ ?_<;>first|rfl|skip)|(apply Vx;simp only[sb,reduceIte,Nat.reduceEqDiff])|(refine hK _ ?_;clear hK K)|refine Vt rfl ?_|refine Vf rfl ?_|refine Vi rfl (fun hg=> ?_) (fun hg=> ?_)|clear hK K)
     refine⟨i+1,by omega,by omega,?_⟩;refine Xx [true,true,false,true,false] ?_ ?_<;>intro n_<;>simp only[sM,fb,if_false,e2]
    ·rw[if_neg h0,if_neg h0];have y2:((A i).length+1)*8<=140737488355328:=by omega
     have y3:(A i).length<=9223372036854775806:=by omega
     have e2:(A (i+1)).length=(A i).length+1:=by omega
     repeat' (first|refine Vk fun K hK=> ?_|apply V0|apply Vb|apply Vc|apply Vr|apply Vs|with_reducible apply ab|((first|apply gE|apply gR);simp only[zB,simprocAttr, -List.reduceReplicate,Mr,Xi hm,hsC,sgC,hlt,gi,X0,hw,y2,y3,ast])|exact Vn|(apply Vz;refine Vp rfl rfl rfl (fun _ _=>rfl) ?_ ?_<;>first|rfl|skip)|(apply Vx;simp only[sb,reduceIte,Nat.reduceEqDiff])|(refine hK _ ?_;clear hK K)|refine Vt rfl ?_|refine Vf rfl ?_|refine Vi rfl (fun hg=> ?_) (fun hg=> ?_)|clear hK K)
     refine⟨i+1,by omega,by omega,?_⟩;refine Xx [true,true,false,true,false] ?_ ?_<;>intro n_<;>simp only[sM,fb,if_false,e2]
   obtain rfl:i=h.st.sw.length:=by omega
   rw[AD];clear hw hlt hi;repeat' (first|refine Vk fun K hK=> ?_|apply V0|apply Vb|apply Vc|apply Vr|apply Vs|with_reducible apply ab|((first|apply gE|apply gR);simp only[zA,simprocAttr, -List.reduceReplicate,Xi hm,hsC,Nat.lt_irrefl])|exact Vn|(apply Vz;refine Vp rfl rfl rfl (fun _ _=>rfl) ?_ ?_<;>first|rfl|skip)|(apply Vx;simp only[sb])|(refine hK _ ?_;clear hK K)|refine Vt rfl ?_|refine Vf rfl ?_|refine Vi rfl (fun hg=> ?_) (fun hg=> ?_)|clear hK K)
   obtain⟨W,hW⟩:∃W,W=h.st.sw.length:=⟨_,rfl⟩
   rw[<- hW];rw[<- hW] at Dl hwl;apply V5;refine Xrd (h.st.lk.length) (fun m i=>tr 59 12 [(58,i64 (i:Int)),(1,.ptr (m+0) 0),(6,if W+i=0 then .sl 1 [[i64 h.high]] .full else .sl 1 ((D i).map Ym) (.own (m+3))),(8,.top),(10,.top)]) (fun m i=>[some (.box 35 (hsC h)),some .dead,none,if W+i=0 then none else some (.row 3 1 (D i).length),none]) ?_ fun m i hm hi=> ?_
   ·refine X2 ?_ ?_ (by first|rfl|(simp only[hsC,Nat.add_zero];rfl)|simp only[hsC,Nat.add_zero]) rfl rfl rfl<;>simp only[sL,hsC,Nat.add_zero]
   simp only[pt];have hw:=Yl (n:=i) 1 1 rfl (by omega);by_cases hlt:i<h.st.lk.length
   ·have gi:=Xg lkC h.st.lk i [] hlt;have ast:=Ds i hlt;have al:=Dl (i+1) hlt;have al0:=Dl i (by omega);have n1:(W+(i+1)=0)=False:=ef (by omega);have w8:IntKind.i64.wrap (h.st.lk[i].2.1.toNat:Int)=(h.st.lk[i].2.1.toNat:Int):=by
     have:=UInt8.toNat_lt h.st.lk[i].2.1;rw[wrap_i64]<;>omega
    by_cases h0:W+i=0
    ·have eA:(D i).map Ym=[[i64 h.high]]:=by rw[show i=0 by omega,<- AD,show h.st.sw.length=0 by omega,A0];rfl
     rw[eA] at ast;rw[if_pos h0,if_pos h0];have e2:(D (i+1)).length=3:=by omega
     repeat' (first|refine Vk fun K hK=> ?_|refine Ve [(69,none)] ?_|apply Vb|apply Vc|apply Vr|apply Vs|with_reducible apply ab|((first|apply gE|apply gR);simp only[zB,simprocAttr, -List.reduceReplicate,B6,Xi hm,hsC,lkC,hlt,gi,X0,hw,ast,w8])|exact Vn|(apply Vz;refine Vp rfl rfl rfl (fun _ _=>rfl) ?_ ?_<;>first|rfl|skip)|(apply Vx;simp only[sb,reduceIte,Nat.reduceEqDiff])|(refine hK _ ?_;clear hK K)|refine Vt rfl ?_|refine Vf rfl ?_|refine Vi rfl (fun hg=> ?_) (fun hg=> ?_)|clear hK K)
     refine⟨i+1,by omega,by omega,?_⟩;refine Xx [true,true,false,true,false] ?_ ?_<;>intro n_<;>simp only[sM,n1,if_false,e2]
    ·rw[if_neg h0,if_neg h0];have y2:((D i).length+2)*8<=140737488355328:=by omega
     have y3:(D i).length<=9223372036854775805:=by omega
     have e2:(D (i+1)).length=(D i).length+2:=by omega
     repeat' (first|refine Vk fun K hK=> ?_|apply V0|apply Vb|apply Vc|apply Vr|apply Vs|with_reducible apply ab|((first|apply gE|apply gR);simp only[zB,simprocAttr, -List.reduceReplicate,B6,Xi hm,hsC,lkC,hlt,gi,X0,hw,y2,y3,ast,w8])|exact Vn|(apply Vz;refine Vp rfl rfl rfl (fun _ _=>rfl) ?_ ?_<;>first|rfl|skip)|(apply Vx;simp only[sb,reduceIte,Nat.reduceEqDiff])|(refine hK _ ?_;clear hK K)|refine Vt rfl ?_|refine Vf rfl ?_|refine Vi rfl (fun hg=> ?_) (fun hg=> ?_)|clear hK K)
     refine⟨i+1,by omega,by omega,?_⟩;refine Xx [true,true,false,true,false] ?_ ?_<;>intro n_<;>simp only[sM,n1,if_false,e2]
   obtain rfl:i=h.st.lk.length:=by omega
   clear hw hlt hi;by_cases h0:W+h.st.lk.length=0
   ·have eA:(D h.st.lk.length).map Ym=[[i64 h.high]]:=by rw[show h.st.lk.length=0 by omega,<- AD,show h.st.sw.length=0 by omega,A0];rfl
    rw[if_pos h0,if_pos h0];have cE:=cD .full;rw[eA] at cE;repeat' (first|refine Vk fun K hK=> ?_|apply V0|apply Vb|apply Vc|apply Vr|apply Vs|with_reducible apply ab|((first|apply gE|apply gR);simp only[zA,simprocAttr, -List.reduceReplicate,hsC,Nat.lt_irrefl])|exact Vn|(apply Vz;refine Za (.inr rfl) rfl rfl rfl (fun _ _=>rfl) rfl rfl ?_ ?_<;>first|rfl|(exact AV.le.rfl _)|(simp only[sL,Xi hm,hsC,ai,d9,Nat.lt_irrefl];done)|rfl|skip)|(refine X3 (cE) ?_)|(apply Vx;simp only[sb])|(refine hK _ ?_;clear hK K)|refine Vt rfl ?_|refine Vf rfl ?_|refine Vi rfl (fun hg=> ?_) (fun hg=> ?_)|clear hK K)
   ·rw[if_neg h0,if_neg h0];have cE:=cD (.own (m+3));repeat' (first|refine Vk fun K hK=> ?_|apply V0|apply Vb|apply Vc|apply Vr|apply Vs|with_reducible apply ab|((first|apply gE|apply gR);simp only[zA,simprocAttr, -List.reduceReplicate,hsC,Nat.lt_irrefl])|exact Vn|(apply Vz;refine Za (.inr rfl) rfl rfl rfl (fun _ _=>rfl) rfl rfl ?_ ?_<;>first|rfl|(exact AV.le.rfl _)|(simp only[sL,Xi hm,hsC,ai,d9,Nat.lt_irrefl];done)|rfl|skip)|(refine X3 (cE) ?_)|(apply Vx;simp only[sb])|(refine hK _ ?_;clear hK K)|refine Vt rfl ?_|refine Vf rfl ?_|refine Vi rfl (fun hg=> ?_) (fun hg=> ?_)|clear hK K)
theorem Yfc (h:Hs) (hs:SmH h):Xr Tryz.prog 28 [hsA h] [] (bool (Xo9 h)) []:=by
 have c1:=Xsv h.back hs.back;have c2:=Yeg h.plan hs.plan;have c3:=Yeg h.back hs.back;have c4:=Yg1 h.plan h.st hs.plan hs.st;have e2:(Xo3 h.back==0)=Ydw h.back:=by rw[Ydp];cases Ydw h.back<;>rfl
 have e3:(Xrz h.plan h.st==0)=true->Ydw h.plan=true:=fun hz=>by
  have h0:Xrz h.plan h.st=0:=by simpa using hz
  have:=(Xp8 h0).1;rw[Ydp] at this;cases hx:Ydw h.plan with
  |true=>rfl
  |false=>rw[hx] at this;simp at this
 have e4:(Xrz h.plan h.st !=0)= !(Xrz h.plan h.st==0):=rfl;have e5:(h.back.ver !=h.plan.par)= !(h.back.ver==h.plan.par):=rfl;unfold Xo9 Xy6;rw[e2,e4];simp only[plA,plC,stA,stC] at c1 c2 c3 c4;generalize Xp3 h.back=N1 at*;generalize Ydw h.back=S1 at*;generalize Ydw h.plan=S3 at*;generalize (Xrz h.plan h.st==0)=S2 at*;generalize hv:(h.back.ver==h.plan.par)=S4 at*;refine Xc 1 Tryz.func28 rfl fun n out _ _=> ?_;simp only[sn,Tryz.ntmps28,simprocAttr];have hg:=Nat.le_refl 0;repeat' (first|refine Vk fun K hK=> ?_|apply V0|apply Vs|((first|apply gE|apply gR|apply gS);simp only[zA,simprocAttr,hg,hsA,hsC,gt_iff_lt,e5])|(apply Vz;refine Vo rfl rfl rfl (fun _ _=>rfl) ?_<;>first|rfl|(simp only[g_0,g_s];refine congrArg VS.bool ?_;first|(simp_all;done)|(simp_all;rw[ak (by omega:¬h.high<h.plan.ver),ak (by omega:¬2147483647<h.high)];simp))|skip)|(refine X3 (c1) ?_)|(refine X3 (c2) ?_)|(refine X3 (c3) ?_)|(refine X3 (c4) ?_)|((refine Vg (fun hg=> ?_) (fun hg=> ?_))<;>try simp only[nb] at hg)|(refine hK _ ?_;clear hK K)|refine Vt rfl ?_|refine Vf rfl ?_|refine Vi rfl (fun hg=> ?_) (fun hg=> ?_))
theorem Yhq (h:Hs) (hs:SmH h):Xr Tryz.prog 14 [hsA h] [] (i64 (Xoc h)) []:=by
 have c:=Yfc h hs;unfold Xoc;simp only[hsA,hsC] at c;cases hc:Xo9 h
 ·rw[hc] at c;refine Xc 1 Tryz.func14 rfl fun n out _ _=> ?_;simp only[sn,Tryz.ntmps14,simprocAttr];repeat' (first|refine Vk fun K hK=> ?_|apply V0|((first|apply gE|apply gR);simp only[zA,simprocAttr,hsA,hsC])|(apply Vz;refine Vo rfl rfl rfl (fun _ _=>rfl) ?_<;>first|rfl|skip)|(refine X3 (c) ?_)|(refine hK _ ?_;clear hK K)|refine Vt rfl ?_)
 ·rw[hc] at c;refine Xc 1 Tryz.func14 rfl fun n out _ _=> ?_;simp only[sn,Tryz.ntmps14,simprocAttr];repeat' (first|refine Vk fun K hK=> ?_|apply V0|apply Vs|((first|apply gE|apply gR);simp only[zA,simprocAttr,hsA,hsC])|(apply Vz;refine Vo rfl rfl rfl (fun _ _=>rfl) ?_<;>first|rfl|skip)|(refine X3 (c) ?_)|(refine hK _ ?_;clear hK K)|refine Vf rfl ?_)
theorem Yev (h:Hs) (hs:SmH h) (hc:Xo9 h=true):Xr Tryz.prog 29 [hsA h] [] (.sl 1 (Xo (Xp7 h)) .sh) []:=by
 obtain⟨k1,k2,k3,k4⟩:=Xor.1 hc;obtain⟨s1,s2,s3,s4,_⟩:=Xp8 k4;have hm:=(Xoa s1).1;have t1:=R7 hm;have cN:=Xsv h.back hs.back;have cT:=Pi h.plan hm;have cW:=fun k=>Ydr k (Wg h.plan) (Yec hm) (by omega);obtain⟨n1,n2⟩:=Yed hc;have hwl:=hs.st.w;have hll:=hs.st.l;have l3:=Xov s3;have l4:=Xov s4;have cP:=Lc (fun k=>X30 k (Xrf h) n1 (by have:=hs.plan.pts;have:=hs.plan.rts;omega)) fun k=> .sh _ _ _;obtain⟨X,hX⟩:∃X,X=Xoh (Wg h.plan)++Xoh (Xpf h):=⟨_,rfl⟩
 have e3:X++(Xrf h).flatMap Y3m=Xp7 h:=by rw[hX];unfold Xp7;simp
 have hl5:(Xoh (Wg h.plan)).length<=100000:=by
  rw[Yee (by omega),ac];have:=Mj 5 (Wg h.plan).length;omega
 have hXl:X.length<=200000:=by
  obtain⟨_,b2⟩:=Yel hc;have:=Mj 5 (Xpf h).length;rw[hX,ac,Yee (t:=Xpf h) (by omega),ac];omega
 have pl:((Xrf h).flatMap Y3m).length<=5*(Xrf h).length:=by
  generalize Xrf h=l;induction l with
  |nil=>simp
  |cons x l ih=>
   rw[bw,ac,List.length_cons];have:=R5 x;omega
 have hnl:(Xrf h).length<=100000:=by have:=hs.plan.pts;have:=hs.plan.rts;omega
 rw[<- e3];have y6:X.length<=140737488355328:=by omega
 have y7:X.length<=9223372036854775807:=by omega
 obtain⟨A,hA⟩:∃A:Nat->List Int,A=fun i=>h.high::swN (h.st.sw.take i):=⟨_,rfl⟩
 obtain⟨D,hD⟩:∃D:Nat->List Int,D=fun i=>h.high::(swN h.st.sw++lkN (h.st.lk.take i)):=⟨_,rfl⟩
 have A0:A 0=[h.high]:=by rw[hA];rfl
 have As:∀i (hi:i<h.st.sw.length),(A i).map Ym++[[i64 h.st.sw[i].2.2]]=(A (i+1)).map Ym:=fun i hi=>by
  rw[hA];dsimp only;rw[aj hi];simp only[swN,bk,aw,ag,List.cons_append,Ym]
 have Al:∀i,i<=h.st.sw.length->(A i).length=i+1:=fun i hi=>by rw[hA];simp [swN];omega
 have AD:A h.st.sw.length=D 0:=by rw[hA,hD];simp [lkN]
 have Ds:∀i (hi:i<h.st.lk.length),(D i).map Ym++[[i64 (h.st.lk[i].2.1.toNat:Int)],[i64 h.st.lk[i].2.2.1]]=(D (i+1)).map Ym:=fun i hi=>by
  rw[hD];dsimp only;rw[aj hi];simp only[lkN,b0,bw,bv,a9,bk,aw,ag,List.cons_append,aq,Ym]
 have Dl:∀i,i<=h.st.lk.length->(D i).length=h.st.sw.length+2*i+1:=fun i hi=>by rw[hD];simp [swN,Xsr];omega
 have Dn:D h.st.lk.length=Xrf h:=by rw[hD];simp [Xrf]
 rw[<- Dn] at pl hnl;simp only[<- Dn] at cP;rw[<- Dn];clear hA hD Dn e3;have B6:∀(σ:AState) (K:AV->List (Nat×Res)->Prop) (x y:Int),X1 tab σ K none 61 2 [(0,i64 x),(1,i64 y)]=K (.sl 1 [[i64 x],[i64 y]] .full) []:=fun σ K x y=>Te (T:=tab) (ti:=ti61) (te:=ti3) rfl rfl rfl rfl rfl rfl;simp only[plA,plC] at cT cN;refine Xc 3 Tryz.func29 rfl fun n out _ _=> ?_;simp only[sn,Tryz.ntmps29,simprocAttr];refine Vy fun K hK=> ?_;simp only[zA,simprocAttr,hsA,hsC]
 (refine hK _ ?_;clear hK K)
 refine Vy fun K hK=> ?_;simp only[zA,simprocAttr]
 skip
 refine X3 cT ?_;simp only[zA,simprocAttr]
 skip
 refine Sb (cW (n+1)) (X6 _ (Nat.le_refl _) 1) (Xb _ (by simp)) (by simp) ?_;simp only[zA,simprocAttr]
 (refine hK _ ?_;clear hK K)
 refine Qf [(3,.sl 1 (Xo X) (.own (n+1))),(11,.top),(12,.top),(13,.top),(14,.top),(15,.top),(16,.top),(17,.top),(18,.top),(19,.top),(20,.top),(21,.top),(22,.top)] [some (.box 35 (hsC h)),some (.row 5 1 X.length),none] out (id ?_) ?_;rotate_left
 ·cases hn:Xp3 h.back with
  |true=>
   have eb:Xpf h=[]:=by unfold Xpf;rw[hn];rfl
   have eX:Xo (Xoh (Wg h.plan))++[[.val (.int .u8 0)]]=Xo X:=by
    rw[hX,eb,show Xoh []=[0] from rfl,<- L6];rfl
   have eXl:(Xoh (Wg h.plan)).length+1=X.length:=by rw[hX,eb,ac];rfl
   rw[hn] at cN;repeat' (first|refine Vk fun K hK=> ?_|apply V0|((first|apply gE|apply gR);simp only[zB,simprocAttr,X7n,hsC,X5,eX,eXl,y6,y7])|(refine X3 (cN) ?_)|(refine hK _ ?_;clear hK K)|refine Vt rfl ?_)
   all_goals (refine .inl ?_;refine La rfl ?_ ?_<;>simp only[X4,sl,hsC])
  |false=>
   have hbm:Uf h.back=true:=by
    rcases k2 with k2|k2
    ·rw[hn] at k2;cases k2
    ·exact(Xoa k2.1).1
   have eb:Xpf h=Wg h.back:=by unfold Xpf;rw[hn];rfl
   have t2:=R7 hbm;have cU:=Pi h.back hbm;have cV:=Lc (fun k=>Ydr k (Wg h.back) (Yec hbm) (by omega)) fun k=> .sh _ _ _;have eX:Xo (Xoh (Wg h.plan))++Xo (Xoh (Wg h.back))=Xo X:=by rw[hX,eb,L6]
   have eXl:(Xoh (Wg h.plan)).length+(Xoh (Wg h.back)).length=X.length:=by rw[hX,eb,ac]
   rw[hn] at cN;simp only[plA,plC] at cU;repeat' (first|refine Vk fun K hK=> ?_|apply V0|((first|apply gE|apply gR);simp only[zA,simprocAttr,hsC,X5,eX,eXl,y6,y7])|(refine X3 (cN) ?_)|(refine X3 (cU) ?_)|(refine X3 (cV) ?_)|(refine hK _ ?_;clear hK K)|refine Vf rfl ?_)
   all_goals (refine .inl ?_;refine La rfl ?_ ?_<;>simp only[X4,sl,hsC])
 simp only[pt];clear cT cN cW hX;repeat' (first|refine Vk fun K hK=> ?_|apply V0|(apply gE;simp only[zB,simprocAttr,Yfv,hsC])|(refine hK _ ?_;clear hK K))
 apply V5;refine Xwm (h.st.sw.length) (fun i=>tr 26 18 [(5,i64 (i:Int)),(4,if i=0 then .sl 1 [[i64 h.high]] .full else .sl 1 ((A i).map Ym) (.own (n+2)))]) (fun i=>[some (.box 35 (hsC h)),some (.row 5 1 X.length),if i=0 then none else some (.row 3 1 (A i).length)]) ?_ fun i hi=> ?_
 ·refine X2 ?_ ?_ (by first|rfl|(simp only[hsC,if_true];rfl)|simp only[hsC,if_true]) rfl rfl rfl<;>simp only[sL,hsC,if_true]
 simp only[pt];have hw:=Yl (n:=i) 1 1 rfl (by omega);by_cases hlt:i<h.st.sw.length
 ·have gi:=Xg sgC h.st.sw i [] hlt;have ast:=As i hlt;have al:=Al (i+1) hlt;have al0:=Al i (by omega);have n1:¬i+1=0:=by omega
  by_cases h0:i=0
  ·have eA:(A i).map Ym=[[i64 h.high]]:=by rw[h0,A0];rfl
   rw[eA] at ast;rw[if_pos h0,if_pos h0];have e2:(A (i+1)).length=2:=by omega
   repeat' (first|refine Vk fun K hK=> ?_|refine Ve [(43,none)] ?_|apply Vr|apply Vs|(apply gE;simp only[zB,simprocAttr,Yfv,hsC,sgC,hlt,gi,hw,ast])|(refine hK _ ?_;clear hK K)|refine Vt rfl ?_|clear hK K)
   refine⟨i+1,by omega,by omega,?_⟩;refine La rfl ?_ ?_<;>simp only[sL,fb,if_false,e2]
  ·rw[if_neg h0,if_neg h0];have y2:((A i).length+1)*8<=140737488355328:=by omega
   have y3:(A i).length<=9223372036854775806:=by omega
   have e2:(A (i+1)).length=(A i).length+1:=by omega
   repeat' (first|refine Vk fun K hK=> ?_|apply V0|apply Vr|apply Vs|(apply gE;simp only[zB,simprocAttr,Yfv,hsC,sgC,hlt,gi,hw,y2,y3,ast])|(refine hK _ ?_;clear hK K)|refine Vt rfl ?_|clear hK K)
   refine⟨i+1,by omega,by omega,?_⟩;refine La rfl ?_ ?_<;>simp only[sL,fb,if_false,e2]
 obtain rfl:i=h.st.sw.length:=by omega
 rw[AD];clear hw hlt hi;repeat' (first|refine Vk fun K hK=> ?_|apply V0|(apply gE;simp only[zA,simprocAttr,hsC,Nat.lt_irrefl])|(apply Vx;simp only[sb])|(refine hK _ ?_;clear hK K)|refine Vf rfl ?_|clear hK K)
 obtain⟨W,hW⟩:∃W,W=h.st.sw.length:=⟨_,rfl⟩
 rw[<- hW];rw[<- hW] at Dl hwl;apply V5;refine Xwm (h.st.lk.length) (fun i=>tr 44 26 [(6,i64 (i:Int)),(4,if W+i=0 then .sl 1 [[i64 h.high]] .full else .sl 1 ((D i).map Ym) (.own (n+2)))]) (fun i=>[some (.box 35 (hsC h)),some (.row 5 1 X.length),if W+i=0 then none else some (.row 3 1 (D i).length)]) ?_ fun i hi=> ?_
 ·refine X2 ?_ ?_ (by first|rfl|(simp only[hsC,Nat.add_zero];rfl)|simp only[hsC,Nat.add_zero]) rfl rfl rfl<;>simp only[sL,hsC,Nat.add_zero]
 simp only[pt];have hw:=Yl (n:=i) 1 1 rfl (by omega);by_cases hlt:i<h.st.lk.length
 ·have gi:=Xg lkC h.st.lk i [] hlt;have ast:=Ds i hlt;have al:=Dl (i+1) hlt;have al0:=Dl i (by omega);have n1:(W+(i+1)=0)=False:=ef (by omega);have w8:IntKind.i64.wrap (h.st.lk[i].2.1.toNat:Int)=(h.st.lk[i].2.1.toNat:Int):=by
   have:=UInt8.toNat_lt h.st.lk[i].2.1;rw[wrap_i64]<;>omega
  by_cases h0:W+i=0
  ·have eA:(D i).map Ym=[[i64 h.high]]:=by rw[show i=0 by omega,<- AD,show h.st.sw.length=0 by omega,A0];rfl
   rw[eA] at ast;rw[if_pos h0,if_pos h0];have e2:(D (i+1)).length=3:=by omega
   repeat' (first|refine Vk fun K hK=> ?_|refine Ve [(69,none)] ?_|apply Vr|apply Vs|refine Vd 13 [(69,none)] [[],[],[],[0],[],[],[],[],[],[],[],[0],[],[],[],[],[],[2],[]] [[],[],[],[],[],[],[],[],[],[],[],[],[],[],[],[],[],[2],[]] (by kernel_rfl) (by decide) (by decide) (by kernel_rfl) ?_|((first|apply gE|apply gD);simp only[zB,simprocAttr,B6,hsC,lkC,hlt,gi,hw,ast,w8])|(refine hK _ ?_;clear hK K)|refine Vt rfl ?_|clear hK K)
   refine⟨i+1,by omega,by omega,?_⟩;refine La rfl ?_ ?_<;>simp only[sL,n1,if_false,e2]
  ·rw[if_neg h0,if_neg h0];have y2:((D i).length+2)*8<=140737488355328:=by omega
   have y3:(D i).length<=9223372036854775805:=by omega
   have e2:(D (i+1)).length=(D i).length+2:=by omega
   repeat' (first|refine Vk fun K hK=> ?_|apply V0|apply Vr|apply Vs|refine Vd 13 [] [[],[],[],[0],[],[],[],[],[],[],[],[0],[],[],[],[],[],[2],[]] [[],[],[],[],[],[],[],[],[],[],[],[],[],[],[],[],[],[2],[]] (by kernel_rfl) (by decide) (by decide) (by kernel_rfl) ?_|((first|apply gE|apply gD);simp only[zB,simprocAttr,B6,hsC,lkC,hlt,gi,hw,y2,y3,ast,w8])|(refine hK _ ?_;clear hK K)|refine Vt rfl ?_|clear hK K)
   refine⟨i+1,by omega,by omega,?_⟩;refine La rfl ?_ ?_<;>simp only[sL,n1,if_false,e2]
 obtain rfl:i=h.st.lk.length:=by omega
 clear hw hlt hi;have y4:X.length+((D h.st.lk.length).flatMap Y3m).length<=140737488355328:=by omega
 have y5:X.length+((D h.st.lk.length).flatMap Y3m).length<=9223372036854775807:=by omega
 by_cases h0:W+h.st.lk.length=0
 ·have eA:(D h.st.lk.length).map Ym=[[i64 h.high]]:=by rw[show h.st.lk.length=0 by omega,<- AD,show h.st.sw.length=0 by omega,A0];rfl
  rw[if_pos h0,if_pos h0];have cE:=Xdb (args':=[.sl 1 ((D h.st.lk.length).map Ym) .full]) cP (by simp only[sL]);rw[eA] at cE;repeat' (first|refine Vk fun K hK=> ?_|apply V0|((first|apply gE|apply gR);simp only[zA,simprocAttr,hsC,Nat.lt_irrefl,X5,L6,y4,y5])|(apply Vz;(try refine Or.inr ⟨(by intro h;cases h),?_⟩);refine Xv (.inr rfl) rfl rfl rfl (fun _ _=>rfl) ?_ rfl<;>first|rfl|(exact AV.le.rfl _)|(simp only[sL];done)|rfl|skip)|(refine X3 (cE) ?_)|(apply Vx;simp only[sb])|(refine hK _ ?_;clear hK K)|refine Vf rfl ?_|clear hK K)
 ·rw[if_neg h0,if_neg h0];have cE:=Xdb (args':=[.sl 1 ((D h.st.lk.length).map Ym) (.own (n+2))]) cP (by simp only[sL]);repeat' (first|refine Vk fun K hK=> ?_|apply V0|((first|apply gE|apply gR);simp only[zA,simprocAttr,hsC,Nat.lt_irrefl,X5,L6,y4,y5])|(apply Vz;(try refine Or.inr ⟨(by intro h;cases h),?_⟩);refine Xv (.inr rfl) rfl rfl rfl (fun _ _=>rfl) ?_ rfl<;>first|rfl|(exact AV.le.rfl _)|(simp only[sL];done)|rfl|skip)|(refine X3 (cE) ?_)|(apply Vx;simp only[sb])|(refine hK _ ?_;clear hK K)|refine Vf rfl ?_|clear hK K)
theorem Yhr (h:Hs) (hs:SmH h):Xr Tryz.prog 10 [hsA h] [] (.tup [.sl 1 (Xo (Xlr h)) .sh,i64 (Xoc h)]) []:=by
 have c:=Yfc h hs;simp only[hsA,hsC] at c;cases hc:Xo9 h with
 |false=>
  have e1:Xlr h=[]:=by unfold Xlr;rw[hc];rfl
  have e2:Xoc h=8:=by unfold Xoc;rw[hc];rfl
  rw[hc] at c;rw[e1,e2];have bn:Xo []=[]:=rfl;refine Xc 1 Tryz.func10 rfl fun n out _ _=> ?_;simp only[sn,Tryz.ntmps10,simprocAttr];repeat' (first|refine Vk fun K hK=> ?_|apply V0|((first|apply gE|apply gR);simp only[zA,simprocAttr,hsA,hsC,bn])|(apply Vz;refine Za (.inr rfl) rfl rfl rfl (fun _ _=>rfl) rfl rfl ?_ ?_<;>first|rfl|(exact AV.le.rfl _)|(simp only[sL,bn];done)|rfl|skip)|(refine X3 (c) ?_)|(refine hK _ ?_;clear hK K)|refine Vt rfl ?_)
 |true=>
  have e1:Xlr h=Xp7 h:=by unfold Xlr;rw[hc];rfl
  have e2:Xoc h=0:=by unfold Xoc;rw[hc];rfl
  have cB:=Yev h hs hc;rw[hc] at c;rw[e1,e2];simp only[hsA,hsC] at cB;refine Xc 1 Tryz.func10 rfl fun n out _ _=> ?_;simp only[sn,Tryz.ntmps10,simprocAttr];repeat' (first|refine Vk fun K hK=> ?_|apply V0|apply Vs|((first|apply gE|apply gR);simp only[zA,simprocAttr,hsA,hsC])|(apply Vz;refine Za (.inr rfl) rfl rfl rfl (fun _ _=>rfl) rfl rfl ?_ ?_<;>first|rfl|(exact AV.le.rfl _)|(simp only[sL,hsA,hsC,X0];done)|rfl|skip)|(refine X3 (c) ?_)|(refine X3 (cB) ?_)|(refine hK _ ?_;clear hK K)|refine Vf rfl ?_)
end Go.Proofs.YtdngdjbgmojcoaaGreat.Pln
