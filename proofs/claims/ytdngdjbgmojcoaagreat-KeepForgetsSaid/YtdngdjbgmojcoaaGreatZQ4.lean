/- The layer of abstract values, joined. -/
import Derived.Test.YtdngdjbgmojcoaaGreatZPR
import Derived.Test.YtdngdjbgmojcoaaGreatZQ0
import Derived.Test.YtdngdjbgmojcoaaGreatZP44
import Derived.Test.YtdngdjbgmojcoaaGreatZK32
namespace Go.Proofs.YtdngdjbgmojcoaaGreat.Pln
set_option linter.unusedVariables false
set_option linter.unusedSimpArgs false
open Go Go.VS Tab
set_option maxHeartbeats 8000000
set_option maxRecDepth 4000
theorem Xxs (p:Pl) (hs:Sm p):Xr Tryz.prog 26 [plA p] [] (bool (Xp3 p)) []:=by
 have c0:=Xgf p Aq hs
 rw[show Sy p Aq=Xp3 p from rfl] at c0
 have c1:=Xdb (args':=[plA p,.agg [i64 0,i64 0,.sl 0 [] .nil,.sl 0 [] .nil,.sl 0 [] .nil,.sl 0 [] .nil]]) c0 (by simp only[plA,plC,Aq,List.map_nil,sL])
 simp only[plA,plC] at c1
 refine Xc 1 Tryz.func26 rfl fun n out _ _=> ?_
 simp only[sn,Tryz.ntmps26,Nat.reduceAdd,Nat.reduceSub]
 repeat' (first|(with_reducible first|refine Vk fun K hK=> ?_|refine V0 ?_|refine Vs ?_|apply And.intro)|((with_reducible first|refine gE ?_|refine gR ?_);simp only[zA,simprocAttr,plA,plC])|exact Vn|((with_reducible refine Vz ?_);refine Vo rfl rfl rfl (fun _ _=>rfl) ?_<;>first|rfl|skip)|(refine X3 (c1) ?_)|(refine hK _ ?_;clear hK K)|clear hK K)
theorem Xqb (h:Hs) (hs:SmH h):Xr Tryz.prog 13 [hsA h] [] (i64 (Xoc h)) []:=by
 have c1:=Xxs h.back hs.back
 have c2:=Xrp h.back hs.back
 have c3:=Xtq h.plan h.st hs.plan hs.st
 unfold Xoc Xo9 Xy6
 simp only[plA,plC,stA,stC] at c1 c2 c3
 generalize Xp3 h.back=N1 at*
 generalize Xo3 h.back=S1 at*
 generalize Xrz h.plan h.st=S2 at*
 refine Xc 1 Tryz.func13 rfl fun n out _ _=> ?_
 simp only[sn,Tryz.ntmps13,Nat.reduceAdd,Nat.reduceSub]
 repeat' (first|(with_reducible first|refine Vk fun K hK=> ?_|refine V0 ?_|refine Vs ?_|apply And.intro)|((with_reducible first|refine gE ?_|refine gR ?_);simp only[zA,simprocAttr,hsA,hsC,X0])|exact Vn|((with_reducible refine Vz ?_);refine Vo rfl rfl rfl (fun _ _=>rfl) ?_<;>first|rfl|(simp only[g_0,g_s];refine congrArg i64 ?_;simp_all;done)|skip)|(refine X3 (c1) ?_)|(refine X3 (c2) ?_)|(refine X3 (c3) ?_)|((with_reducible refine Vg (fun hg=> ?_) (fun hg=> ?_))<;>(try simp only[nb] at hg)<;>simp only[zA,simprocAttr,hg,hsA,hsC,X0])|(refine hK _ ?_;clear hK K)|refine Vt rfl ?_|refine Vf rfl ?_|refine Vi rfl (fun hg=> ?_) (fun hg=> ?_)|clear hK K)
theorem Xsr:∀(s:List (Int×UInt8×Int×Int)),(lkN s).length=2*s.length
 |[]=>rfl
 |l::s=>by
  have e:lkN (l::s)=(l.2.1.toNat:Int)::l.2.2.1::lkN s:=rfl
  rw[e,List.length_cons,List.length_cons,Xsr s,List.length_cons];omega
theorem Xp9 (h:Hs) (hs:SmH h):Xr Tryz.prog 9 [hsA h] [] (.tup [.sl 1 (Xo (Xlr h)) .sh,i64 (Xoc h)]) []:=by
 have cC:=Xqb h hs
 cases hc:Xo9 h with
 |false=>
  have e1:Xlr h=[]:=by unfold Xlr;rw[hc];rfl
  have e2:Xoc h=8:=by unfold Xoc;rw[hc];rfl
  rw[e2] at cC
  rw[e1,e2]
  simp only[hsA,hsC] at cC
  have bn:Xo []=[]:=rfl
  refine Xc 1 Tryz.func9 rfl fun n out _ _=> ?_
  simp only[sn,Tryz.ntmps9,Nat.reduceAdd,Nat.reduceSub]
  repeat' (first|(with_reducible first|refine Vk fun K hK=> ?_|refine V0 ?_|refine Vb ?_|refine Vc ?_|refine Vr ?_|refine Vs ?_|apply And.intro)|((with_reducible first|refine gE ?_|refine gR ?_);simp only[zA,simprocAttr, -List.reduceReplicate,hsA,hsC,bn])|exact Vn|((with_reducible refine Vz ?_);refine Za (.inr rfl) rfl rfl rfl (fun _ _=>rfl) rfl rfl ?_ ?_<;>first|rfl|(exact AV.le.rfl _)|(simp only[sL,hsA,hsC,Int.reduceBNe,bn];done)|rfl|skip)|(refine X3 (cC) ?_)|((with_reducible refine Vx ?_);simp only[sb,reduceIte,Nat.reduceEqDiff])|(refine hK _ ?_;clear hK K)|refine Vt rfl ?_|refine Vf rfl ?_|refine Vi rfl (fun hg=> ?_) (fun hg=> ?_)|clear hK K)
 |true=>
  have e1:Xlr h=Xp7 h:=by unfold Xlr;rw[hc];rfl
  have e2:Xoc h=0:=by unfold Xoc;rw[hc];rfl
  obtain⟨k1,k2,k3,k4⟩:=Xor.1 hc
  obtain⟨s1,s2,s3,s4,_⟩:=Xp8 k4
  have hm:=(Xoa s1).1
  have t1:=R7 hm
  have cN:=Xxs h.back hs.back
  have cT:=X5q h.plan hs.plan
  have cU:=X5q h.back hs.back
  rw[show Bm h.plan=Wg h.plan from if_pos hm] at cT
  have t2:(Xpf h).length≤700:=by
   unfold Xpf
   cases hn:Xp3 h.back with
   |true=>rw[if_pos rfl];simp
   |false=>
    rw[if_neg (by decide)]
    rcases k2 with k2|k2
    ·rw[hn] at k2;cases k2
    ·exact R7 (Xoa k2.1).1
  have cB:=fun md'=>Xyb [Wg h.plan,Xpf h] (Xrf h) .sh md' (fun t ht=>by simp at ht;rcases ht with rfl|rfl<;>omega) (by simp) (by
   have h1:=hs.st.w
   have h2:=hs.st.l
   have h3:=Xsr h.st.lk
   simp [Xrf,swN];omega)
  have e3:[Wg h.plan,Xpf h].flatMap Xoh++(Xrf h).flatMap Y2=Xp7 h:=by
   unfold Xp7;simp
  simp only[e3] at cB
  rw[e1,e2]
  rw[e2] at cC
  have hwl:=hs.st.w
  have hll:=hs.st.l
  obtain⟨A,hA⟩:∃A:Nat→List Int,A=fun i=>h.high::swN (h.st.sw.take i):=⟨_,rfl⟩
  obtain⟨D,hD⟩:∃D:Nat→List Int,D=fun i=>h.high::(swN h.st.sw++lkN (h.st.lk.take i)):=⟨_,rfl⟩
  have A0:A 0=[h.high]:=by rw[hA];rfl
  have As:∀i (hi:i<h.st.sw.length),(A i).map Ym++[[i64 h.st.sw[i].2.2]]=(A (i+1)).map Ym:=fun i hi=>by
   rw[hA]
   dsimp only
   rw[List.take_succ_eq_append_getElem hi]
   simp only[swN,List.map_cons,List.map_append,List.map_nil,List.cons_append,Ym]
  have Al:∀i,i≤h.st.sw.length→(A i).length=i+1:=fun i hi=>by rw[hA];simp [swN];omega
  have AD:A h.st.sw.length=D 0:=by rw[hA,hD];simp [lkN]
  have Ds:∀i (hi:i<h.st.lk.length),(D i).map Ym++[[i64 (h.st.lk[i].2.1.toNat:Int)],[i64 h.st.lk[i].2.2.1]]=(D (i+1)).map Ym:=fun i hi=>by
   rw[hD]
   dsimp only
   rw[List.take_succ_eq_append_getElem hi]
   simp only[lkN,List.flatMap_append,List.flatMap_cons,List.flatMap_nil,List.append_nil,List.map_cons,List.map_append,List.map_nil,List.cons_append,List.append_assoc,Ym]
  have Dl:∀i,i≤h.st.lk.length→(D i).length=h.st.sw.length+2*i+1:=fun i hi=>by rw[hD];simp [swN,Xsr];omega
  have Dn:D h.st.lk.length=Xrf h:=by rw[hD];simp [Xrf]
  simp only[← Dn] at cB
  clear hA hD Dn e3
  have Mr:∀(σ:AState) (K:AV→List (Nat×Res)→Prop) (x:Int),X1 tab σ K none 61 1 [(0,i64 x)]=K (.sl 1 [[i64 x]] .full) []:=fun σ K x=>Yk (T:=tab) (ti:=ti61) (te:=ti3) rfl rfl rfl (by decide) (by decide) rfl rfl
  have B6:∀(σ:AState) (K:AV→List (Nat×Res)→Prop) (x y:Int),X1 tab σ K none 61 2 [(0,i64 x),(1,i64 y)]=K (.sl 1 [[i64 x],[i64 y]] .full) []:=fun σ K x y=>Te (T:=tab) (ti:=ti61) (te:=ti3) rfl rfl rfl rfl rfl rfl
  have rp:Y7 [Value.slice none 0 0] 2=[.sl 0 [] .nil,.sl 0 [] .nil]:=rfl
  have sp0:∀x a b:AV,Yf [a,b] 0 [x]=[x,b]:=fun _ _ _=>rfl
  have sp1:∀x a b:AV,Yf [a,b] 1 [x]=[a,x]:=fun _ _ _=>rfl
  simp only[hsA,hsC] at cC
  simp only[plA,plC] at cT cN
  have cU:Xp3 h.back=false→Xr Tryz.prog 25 [plA h.back] [] (.tup [.sl 1 (Xo (Wg h.back)) .sh,i64 (Bl h.back)]) []:=fun hn=>by
   rw[show Bm h.back=Wg h.back from if_pos (by
    rcases k2 with k2|k2
    ·rw[hn] at k2;cases k2
    ·exact(Xoa k2.1).1)] at cU
   exact cU
  simp only[plA,plC] at cU
  cases hn:Xp3 h.back
  ·have eb:Xpf h=Wg h.back:=by unfold Xpf;rw[hn];rfl
   rw[hn] at cN
   simp only[eb] at cB
   have cD:=fun md'=>Xdb (args':=[.sl 1 [[.sl 1 (Xo (Wg h.plan)) .sh],[.sl 1 (Xo (Wg h.back)) .sh]] .sh,.sl 1 ((D h.st.lk.length).map Ym) md']) (cB md') (by simp only[List.map_cons,List.map_nil,txC,Wb,sL])
   refine Xc 5 Tryz.func9 rfl fun n out _ _=> ?_
   simp only[sn,Tryz.ntmps9,Nat.reduceAdd,Nat.reduceSub]
   repeat' (first|(with_reducible first|refine Vk fun K hK=> ?_|refine Ve [(16,none)] ?_|refine Vb ?_|refine Vc ?_|refine Vr ?_|refine Vs ?_|apply And.intro)|((with_reducible first|refine gE ?_|refine gR ?_);simp only[zB,simprocAttr, -List.reduceReplicate,Mr,hsA,hsC,X0,rp,sp0,sp1])|exact Vn|((with_reducible refine Vz ?_);refine Vp rfl rfl rfl (fun _ _=>rfl) ?_ ?_<;>first|rfl|skip)|(refine X3 (cC) ?_)|(refine X3 (cT) ?_)|(refine X3 (cN) ?_)|(refine X3 (cU hn) ?_)|((with_reducible refine Vx ?_);simp only[sb,reduceIte,Nat.reduceEqDiff])|(refine hK _ ?_;clear hK K)|refine Vt rfl ?_|refine Vf rfl ?_|refine Vi rfl (fun hg=> ?_) (fun hg=> ?_)|clear hK K)
   refine Yy (Zi (i:=1) (t:=5) 1 (.sl 1 [[.sl 1 (Xo (Wg h.plan)) .sh],[.sl 1 (Xo (Wg h.back)) .sh]] .sh) rfl rfl (.bsl 0 2 true ⟨by decide,Nat.le_refl _⟩)) ?_
   simp only[s_0,s_s]
   refine V5 ?_
   refine Xrd (h.st.sw.length) (fun m i=>tr 45 9 [(44,i64 (i:Int)),(1,.ptr (m+0) 0),(6,if i=0 then .sl 1 [[i64 h.high]] .full else .sl 1 ((A i).map Ym) (.own (m+3))),(8,.top)]) (fun m i=>[some (.box 35 (hsC h)),some .dead,none,if i=0 then none else some (.row 3 1 (A i).length),none]) ?_ fun m i hm hi=> ?_
   ·refine X2 ?_ ?_ (by first|rfl|(simp only[hsC,if_true];rfl)|simp only[hsC,if_true]) rfl rfl rfl<;>simp only[sL,hsC,if_true]
   simp only[pt]
   have hw:=Yl (n:=i) 1 1 rfl (by omega)
   by_cases hlt:i<h.st.sw.length
   ·have gi:=Xg sgC h.st.sw i [] hlt
    have ast:=As i hlt
    have al:=Al (i+1) hlt
    have al0:=Al i (by omega)
    have n1:¬i+1=0:=by omega
    by_cases h0:i=0
    ·have eA:(A i).map Ym=[[i64 h.high]]:=by rw[h0,A0];rfl
     rw[eA] at ast
     rw[if_pos h0,if_pos h0]
     have e2:(A (i+1)).length=2:=by omega
     repeat' (first|(with_reducible first|refine Vk fun K hK=> ?_|refine Ve [(52,none)] ?_|refine Vb ?_|refine Vc ?_|refine Vr ?_|refine Vs ?_|apply And.intro)|((with_reducible first|refine gE ?_|refine gR ?_);simp only[zB,simprocAttr, -List.reduceReplicate,Mr,Xi hm,hsC,sgC,List.length_map,hlt,gi,X0,hw,ast])|exact Vn|((with_reducible refine Vz ?_);refine Vp rfl rfl rfl (fun _ _=>rfl) ?_ ?_<;>first|rfl|skip)|((with_reducible refine Vx ?_);simp only[sb,reduceIte,Nat.reduceEqDiff])|(refine hK _ ?_;clear hK K)|refine Vt rfl ?_|refine Vf rfl ?_|refine Vi rfl (fun hg=> ?_) (fun hg=> ?_)|clear hK K)
     refine⟨i+1,by omega,by omega,?_⟩
     refine Xx [true,true,false,true,false] ?_ ?_<;>intro n_<;>simp only[sM,hsC,Nat.add_one_ne_zero,if_false,e2]
    ·rw[if_neg h0,if_neg h0]
     have y2:((A i).length+1)*8≤140737488355328:=by omega
     have y3:(A i).length≤9223372036854775806:=by omega
     have e2:(A (i+1)).length=(A i).length+1:=by omega
     repeat' (first|(with_reducible first|refine Vk fun K hK=> ?_|refine V0 ?_|refine Vb ?_|refine Vc ?_|refine Vr ?_|refine Vs ?_|apply And.intro)|((with_reducible first|refine gE ?_|refine gR ?_);simp only[zB,simprocAttr, -List.reduceReplicate,Mr,Xi hm,hsC,sgC,List.length_map,hlt,gi,X0,hw,y2,y3,ast])|exact Vn|((with_reducible refine Vz ?_);refine Vp rfl rfl rfl (fun _ _=>rfl) ?_ ?_<;>first|rfl|skip)|((with_reducible refine Vx ?_);simp only[sb,reduceIte,Nat.reduceEqDiff])|(refine hK _ ?_;clear hK K)|refine Vt rfl ?_|refine Vf rfl ?_|refine Vi rfl (fun hg=> ?_) (fun hg=> ?_)|clear hK K)
     refine⟨i+1,by omega,by omega,?_⟩
     refine Xx [true,true,false,true,false] ?_ ?_<;>intro n_<;>simp only[sM,hsC,Nat.add_one_ne_zero,if_false,e2]
   obtain rfl:i=h.st.sw.length:=by omega
   rw[AD]
   clear hw hlt hi
   repeat' (first|(with_reducible first|refine Vk fun K hK=> ?_|refine V0 ?_|refine Vb ?_|refine Vc ?_|refine Vr ?_|refine Vs ?_|apply And.intro)|((with_reducible first|refine gE ?_|refine gR ?_);simp only[zA,simprocAttr, -List.reduceReplicate,Xi hm,hsC,List.length_map,decide_false,Nat.lt_irrefl])|exact Vn|((with_reducible refine Vz ?_);refine Vp rfl rfl rfl (fun _ _=>rfl) ?_ ?_<;>first|rfl|skip)|((with_reducible refine Vx ?_);simp only[sb,reduceIte,Nat.reduceEqDiff])|(refine hK _ ?_;clear hK K)|refine Vt rfl ?_|refine Vf rfl ?_|refine Vi rfl (fun hg=> ?_) (fun hg=> ?_)|clear hK K)
   obtain⟨W,hW⟩:∃W,W=h.st.sw.length:=⟨_,rfl⟩
   rw[← hW]
   rw[← hW] at Dl hwl
   refine V5 ?_
   refine Xrd (h.st.lk.length) (fun m i=>tr 59 12 [(58,i64 (i:Int)),(1,.ptr (m+0) 0),(6,if W+i=0 then .sl 1 [[i64 h.high]] .full else .sl 1 ((D i).map Ym) (.own (m+3))),(8,.top),(10,.top)]) (fun m i=>[some (.box 35 (hsC h)),some .dead,none,if W+i=0 then none else some (.row 3 1 (D i).length),none]) ?_ fun m i hm hi=> ?_
   ·refine X2 ?_ ?_ (by first|rfl|(simp only[hsC,Nat.add_zero];rfl)|simp only[hsC,Nat.add_zero]) rfl rfl rfl<;>simp only[sL,hsC,Nat.add_zero]
   simp only[pt]
   have hw:=Yl (n:=i) 1 1 rfl (by omega)
   by_cases hlt:i<h.st.lk.length
   ·have gi:=Xg lkC h.st.lk i [] hlt
    have ast:=Ds i hlt
    have al:=Dl (i+1) hlt
    have al0:=Dl i (by omega)
    have n1:(W+(i+1)=0)=False:=eq_false (by omega)
    have w8:IntKind.i64.wrap (h.st.lk[i].2.1.toNat:Int)=(h.st.lk[i].2.1.toNat:Int):=by
     have:=UInt8.toNat_lt h.st.lk[i].2.1
     rw[wrap_i64]<;>omega
    by_cases h0:W+i=0
    ·have eA:(D i).map Ym=[[i64 h.high]]:=by rw[show i=0 by omega,← AD,show h.st.sw.length=0 by omega,A0];rfl
     rw[eA] at ast
     rw[if_pos h0,if_pos h0]
     have e2:(D (i+1)).length=3:=by omega
     repeat' (first|(with_reducible first|refine Vk fun K hK=> ?_|refine Ve [(69,none)] ?_|refine Vb ?_|refine Vc ?_|refine Vr ?_|refine Vs ?_|apply And.intro)|((with_reducible first|refine gE ?_|refine gR ?_);simp only[zB,simprocAttr, -List.reduceReplicate,B6,Xi hm,hsC,lkC,List.length_map,hlt,gi,X0,hw,ast,w8])|exact Vn|((with_reducible refine Vz ?_);refine Vp rfl rfl rfl (fun _ _=>rfl) ?_ ?_<;>first|rfl|skip)|((with_reducible refine Vx ?_);simp only[sb,reduceIte,Nat.reduceEqDiff])|(refine hK _ ?_;clear hK K)|refine Vt rfl ?_|refine Vf rfl ?_|refine Vi rfl (fun hg=> ?_) (fun hg=> ?_)|clear hK K)
     refine⟨i+1,by omega,by omega,?_⟩
     refine Xx [true,true,false,true,false] ?_ ?_<;>intro n_<;>simp only[sM,hsC,n1,if_false,e2]
    ·rw[if_neg h0,if_neg h0]
     have y2:((D i).length+2)*8≤140737488355328:=by omega
     have y3:(D i).length≤9223372036854775805:=by omega
     have e2:(D (i+1)).length=(D i).length+2:=by omega
     repeat' (first|(with_reducible first|refine Vk fun K hK=> ?_|refine V0 ?_|refine Vb ?_|refine Vc ?_|refine Vr ?_|refine Vs ?_|apply And.intro)|((with_reducible first|refine gE ?_|refine gR ?_);simp only[zB,simprocAttr, -List.reduceReplicate,B6,Xi hm,hsC,lkC,List.length_map,hlt,gi,X0,hw,y2,y3,ast,w8])|exact Vn|((with_reducible refine Vz ?_);refine Vp rfl rfl rfl (fun _ _=>rfl) ?_ ?_<;>first|rfl|skip)|((with_reducible refine Vx ?_);simp only[sb,reduceIte,Nat.reduceEqDiff])|(refine hK _ ?_;clear hK K)|refine Vt rfl ?_|refine Vf rfl ?_|refine Vi rfl (fun hg=> ?_) (fun hg=> ?_)|clear hK K)
     refine⟨i+1,by omega,by omega,?_⟩
     refine Xx [true,true,false,true,false] ?_ ?_<;>intro n_<;>simp only[sM,hsC,n1,if_false,e2]
   obtain rfl:i=h.st.lk.length:=by omega
   clear hw hlt hi
   by_cases h0:W+h.st.lk.length=0
   ·have eA:(D h.st.lk.length).map Ym=[[i64 h.high]]:=by rw[show h.st.lk.length=0 by omega,← AD,show h.st.sw.length=0 by omega,A0];rfl
    rw[if_pos h0,if_pos h0]
    have cE:=cD .full
    rw[eA] at cE
    repeat' (first|(with_reducible first|refine Vk fun K hK=> ?_|refine V0 ?_|refine Vb ?_|refine Vc ?_|refine Vr ?_|refine Vs ?_|apply And.intro)|((with_reducible first|refine gE ?_|refine gR ?_);simp only[zA,simprocAttr, -List.reduceReplicate,Xi hm,hsC,List.length_map,decide_false,Nat.lt_irrefl])|exact Vn|((with_reducible refine Vz ?_);refine Za (.inr rfl) rfl rfl rfl (fun _ _=>rfl) rfl rfl ?_ ?_<;>first|rfl|(exact AV.le.rfl _)|(simp only[sL,Xi hm,hsC,List.length_map,decide_false,Nat.lt_irrefl];done)|rfl|skip)|(refine X3 (cE) ?_)|((with_reducible refine Vx ?_);simp only[sb,reduceIte,Nat.reduceEqDiff])|(refine hK _ ?_;clear hK K)|refine Vt rfl ?_|refine Vf rfl ?_|refine Vi rfl (fun hg=> ?_) (fun hg=> ?_)|clear hK K)
   ·rw[if_neg h0,if_neg h0]
    have cE:=cD (.own (m+3))
    repeat' (first|(with_reducible first|refine Vk fun K hK=> ?_|refine V0 ?_|refine Vb ?_|refine Vc ?_|refine Vr ?_|refine Vs ?_|apply And.intro)|((with_reducible first|refine gE ?_|refine gR ?_);simp only[zA,simprocAttr, -List.reduceReplicate,Xi hm,hsC,List.length_map,decide_false,Nat.lt_irrefl])|exact Vn|((with_reducible refine Vz ?_);refine Za (.inr rfl) rfl rfl rfl (fun _ _=>rfl) rfl rfl ?_ ?_<;>first|rfl|(exact AV.le.rfl _)|(simp only[sL,Xi hm,hsC,List.length_map,decide_false,Nat.lt_irrefl];done)|rfl|skip)|(refine X3 (cE) ?_)|((with_reducible refine Vx ?_);simp only[sb,reduceIte,Nat.reduceEqDiff])|(refine hK _ ?_;clear hK K)|refine Vt rfl ?_|refine Vf rfl ?_|refine Vi rfl (fun hg=> ?_) (fun hg=> ?_)|clear hK K)
  ·have eb:Xpf h=[]:=by unfold Xpf;rw[hn];rfl
   rw[hn] at cN
   simp only[eb] at cB
   have cD:=fun md'=>Xdb (args':=[.sl 1 [[.sl 1 (Xo (Wg h.plan)) .sh],[.sl 0 [] .nil]] .sh,.sl 1 ((D h.st.lk.length).map Ym) md']) (cB md') (by simp only[List.map_cons,List.map_nil,txC,Wb,sL])
   refine Xc 5 Tryz.func9 rfl fun n out _ _=> ?_
   simp only[sn,Tryz.ntmps9,Nat.reduceAdd,Nat.reduceSub]
   repeat' (first|(with_reducible first|refine Vk fun K hK=> ?_|refine Ve [(16,none)] ?_|refine Vb ?_|refine Vc ?_|refine Vr ?_|refine Vs ?_|apply And.intro)|((with_reducible first|refine gE ?_|refine gR ?_);simp only[zB,simprocAttr, -List.reduceReplicate,Mr,hsA,hsC,X0,rp,sp0,sp1])|exact Vn|((with_reducible refine Vz ?_);refine Vp rfl rfl rfl (fun _ _=>rfl) ?_ ?_<;>first|rfl|skip)|(refine X3 (cC) ?_)|(refine X3 (cT) ?_)|(refine X3 (cN) ?_)|(refine X3 (cU hn) ?_)|((with_reducible refine Vx ?_);simp only[sb,reduceIte,Nat.reduceEqDiff])|(refine hK _ ?_;clear hK K)|refine Vt rfl ?_|refine Vf rfl ?_|refine Vi rfl (fun hg=> ?_) (fun hg=> ?_)|clear hK K)
   refine Yy (Zi (i:=1) (t:=5) 1 (.sl 1 [[.sl 1 (Xo (Wg h.plan)) .sh],[.sl 0 [] .nil]] .sh) rfl rfl (.bsl 0 2 true ⟨by decide,Nat.le_refl _⟩)) ?_
   simp only[s_0,s_s]
   refine V5 ?_
   refine Xrd (h.st.sw.length) (fun m i=>tr 45 9 [(44,i64 (i:Int)),(1,.ptr (m+0) 0),(6,if i=0 then .sl 1 [[i64 h.high]] .full else .sl 1 ((A i).map Ym) (.own (m+3))),(8,.top)]) (fun m i=>[some (.box 35 (hsC h)),some .dead,none,if i=0 then none else some (.row 3 1 (A i).length),none]) ?_ fun m i hm hi=> ?_
   ·refine X2 ?_ ?_ (by first|rfl|(simp only[hsC,if_true];rfl)|simp only[hsC,if_true]) rfl rfl rfl<;>simp only[sL,hsC,if_true]
   simp only[pt]
   have hw:=Yl (n:=i) 1 1 rfl (by omega)
   by_cases hlt:i<h.st.sw.length
   ·have gi:=Xg sgC h.st.sw i [] hlt
    have ast:=As i hlt
    have al:=Al (i+1) hlt
    have al0:=Al i (by omega)
    have n1:¬i+1=0:=by omega
    by_cases h0:i=0
    ·have eA:(A i).map Ym=[[i64 h.high]]:=by rw[h0,A0];rfl
     rw[eA] at ast
     rw[if_pos h0,if_pos h0]
     have e2:(A (i+1)).length=2:=by omega
     repeat' (first|(with_reducible first|refine Vk fun K hK=> ?_|refine Ve [(52,none)] ?_|refine Vb ?_|refine Vc ?_|refine Vr ?_|refine Vs ?_|apply And.intro)|((with_reducible first|refine gE ?_|refine gR ?_);simp only[zB,simprocAttr, -List.reduceReplicate,Mr,Xi hm,hsC,sgC,List.length_map,hlt,gi,X0,hw,ast])|exact Vn|((with_reducible refine Vz ?_);refine Vp rfl rfl rfl (fun _ _=>rfl) ?_ ?_<;>first|rfl|skip)|((with_reducible refine Vx ?_);simp only[sb,reduceIte,Nat.reduceEqDiff])|(refine hK _ ?_;clear hK K)|refine Vt rfl ?_|refine Vf rfl ?_|refine Vi rfl (fun hg=> ?_) (fun hg=> ?_)|clear hK K)
     refine⟨i+1,by omega,by omega,?_⟩
     refine Xx [true,true,false,true,false] ?_ ?_<;>intro n_<;>simp only[sM,hsC,Nat.add_one_ne_zero,if_false,e2]
    ·rw[if_neg h0,if_neg h0]
     have y2:((A i).length+1)*8≤140737488355328:=by omega
     have y3:(A i).length≤9223372036854775806:=by omega
     have e2:(A (i+1)).length=(A i).length+1:=by omega
     repeat' (first|(with_reducible first|refine Vk fun K hK=> ?_|refine V0 ?_|refine Vb ?_|refine Vc ?_|refine Vr ?_|refine Vs ?_|apply And.intro)|((with_reducible first|refine gE ?_|refine gR ?_);simp only[zB,simprocAttr, -List.reduceReplicate,Mr,Xi hm,hsC,sgC,List.length_map,hlt,gi,X0,hw,y2,y3,ast])|exact Vn|((with_reducible refine Vz ?_);refine Vp rfl rfl rfl (fun _ _=>rfl) ?_ ?_<;>first|rfl|skip)|((with_reducible refine Vx ?_);simp only[sb,reduceIte,Nat.reduceEqDiff])|(refine hK _ ?_;clear hK K)|refine Vt rfl ?_|refine Vf rfl ?_|refine Vi rfl (fun hg=> ?_) (fun hg=> ?_)|clear hK K)
     refine⟨i+1,by omega,by omega,?_⟩
     refine Xx [true,true,false,true,false] ?_ ?_<;>intro n_<;>simp only[sM,hsC,Nat.add_one_ne_zero,if_false,e2]
   obtain rfl:i=h.st.sw.length:=by omega
   rw[AD]
   clear hw hlt hi
   repeat' (first|(with_reducible first|refine Vk fun K hK=> ?_|refine V0 ?_|refine Vb ?_|refine Vc ?_|refine Vr ?_|refine Vs ?_|apply And.intro)|((with_reducible first|refine gE ?_|refine gR ?_);simp only[zA,simprocAttr, -List.reduceReplicate,Xi hm,hsC,List.length_map,decide_false,Nat.lt_irrefl])|exact Vn|((with_reducible refine Vz ?_);refine Vp rfl rfl rfl (fun _ _=>rfl) ?_ ?_<;>first|rfl|skip)|((with_reducible refine Vx ?_);simp only[sb,reduceIte,Nat.reduceEqDiff])|(refine hK _ ?_;clear hK K)|refine Vt rfl ?_|refine Vf rfl ?_|refine Vi rfl (fun hg=> ?_) (fun hg=> ?_)|clear hK K)
   obtain⟨W,hW⟩:∃W,W=h.st.sw.length:=⟨_,rfl⟩
   rw[← hW]
   rw[← hW] at Dl hwl
   refine V5 ?_
   refine Xrd (h.st.lk.length) (fun m i=>tr 59 12 [(58,i64 (i:Int)),(1,.ptr (m+0) 0),(6,if W+i=0 then .sl 1 [[i64 h.high]] .full else .sl 1 ((D i).map Ym) (.own (m+3))),(8,.top),(10,.top)]) (fun m i=>[some (.box 35 (hsC h)),some .dead,none,if W+i=0 then none else some (.row 3 1 (D i).length),none]) ?_ fun m i hm hi=> ?_
   ·refine X2 ?_ ?_ (by first|rfl|(simp only[hsC,Nat.add_zero];rfl)|simp only[hsC,Nat.add_zero]) rfl rfl rfl<;>simp only[sL,hsC,Nat.add_zero]
   simp only[pt]
   have hw:=Yl (n:=i) 1 1 rfl (by omega)
   by_cases hlt:i<h.st.lk.length
   ·have gi:=Xg lkC h.st.lk i [] hlt
    have ast:=Ds i hlt
    have al:=Dl (i+1) hlt
    have al0:=Dl i (by omega)
    have n1:(W+(i+1)=0)=False:=eq_false (by omega)
    have w8:IntKind.i64.wrap (h.st.lk[i].2.1.toNat:Int)=(h.st.lk[i].2.1.toNat:Int):=by
     have:=UInt8.toNat_lt h.st.lk[i].2.1
     rw[wrap_i64]<;>omega
    by_cases h0:W+i=0
    ·have eA:(D i).map Ym=[[i64 h.high]]:=by rw[show i=0 by omega,← AD,show h.st.sw.length=0 by omega,A0];rfl
     rw[eA] at ast
     rw[if_pos h0,if_pos h0]
     have e2:(D (i+1)).length=3:=by omega
     repeat' (first|(with_reducible first|refine Vk fun K hK=> ?_|refine Ve [(69,none)] ?_|refine Vb ?_|refine Vc ?_|refine Vr ?_|refine Vs ?_|apply And.intro)|((with_reducible first|refine gE ?_|refine gR ?_);simp only[zB,simprocAttr, -List.reduceReplicate,B6,Xi hm,hsC,lkC,List.length_map,hlt,gi,X0,hw,ast,w8])|exact Vn|((with_reducible refine Vz ?_);refine Vp rfl rfl rfl (fun _ _=>rfl) ?_ ?_<;>first|rfl|skip)|((with_reducible refine Vx ?_);simp only[sb,reduceIte,Nat.reduceEqDiff])|(refine hK _ ?_;clear hK K)|refine Vt rfl ?_|refine Vf rfl ?_|refine Vi rfl (fun hg=> ?_) (fun hg=> ?_)|clear hK K)
     refine⟨i+1,by omega,by omega,?_⟩
     refine Xx [true,true,false,true,false] ?_ ?_<;>intro n_<;>simp only[sM,hsC,n1,if_false,e2]
    ·rw[if_neg h0,if_neg h0]
     have y2:((D i).length+2)*8≤140737488355328:=by omega
     have y3:(D i).length≤9223372036854775805:=by omega
     have e2:(D (i+1)).length=(D i).length+2:=by omega
     repeat' (first|(with_reducible first|refine Vk fun K hK=> ?_|refine V0 ?_|refine Vb ?_|refine Vc ?_|refine Vr ?_|refine Vs ?_|apply And.intro)|((with_reducible first|refine gE ?_|refine gR ?_);simp only[zB,simprocAttr, -List.reduceReplicate,B6,Xi hm,hsC,lkC,List.length_map,hlt,gi,X0,hw,y2,y3,ast,w8])|exact Vn|((with_reducible refine Vz ?_);refine Vp rfl rfl rfl (fun _ _=>rfl) ?_ ?_<;>first|rfl|skip)|((with_reducible refine Vx ?_);simp only[sb,reduceIte,Nat.reduceEqDiff])|(refine hK _ ?_;clear hK K)|refine Vt rfl ?_|refine Vf rfl ?_|refine Vi rfl (fun hg=> ?_) (fun hg=> ?_)|clear hK K)
     refine⟨i+1,by omega,by omega,?_⟩
     refine Xx [true,true,false,true,false] ?_ ?_<;>intro n_<;>simp only[sM,hsC,n1,if_false,e2]
   obtain rfl:i=h.st.lk.length:=by omega
   clear hw hlt hi
   by_cases h0:W+h.st.lk.length=0
   ·have eA:(D h.st.lk.length).map Ym=[[i64 h.high]]:=by rw[show h.st.lk.length=0 by omega,← AD,show h.st.sw.length=0 by omega,A0];rfl
    rw[if_pos h0,if_pos h0]
    have cE:=cD .full
    rw[eA] at cE
    repeat' (first|(with_reducible first|refine Vk fun K hK=> ?_|refine V0 ?_|refine Vb ?_|refine Vc ?_|refine Vr ?_|refine Vs ?_|apply And.intro)|((with_reducible first|refine gE ?_|refine gR ?_);simp only[zA,simprocAttr, -List.reduceReplicate,Xi hm,hsC,List.length_map,decide_false,Nat.lt_irrefl])|exact Vn|((with_reducible refine Vz ?_);refine Za (.inr rfl) rfl rfl rfl (fun _ _=>rfl) rfl rfl ?_ ?_<;>first|rfl|(exact AV.le.rfl _)|(simp only[sL,Xi hm,hsC,List.length_map,decide_false,Nat.lt_irrefl];done)|rfl|skip)|(refine X3 (cE) ?_)|((with_reducible refine Vx ?_);simp only[sb,reduceIte,Nat.reduceEqDiff])|(refine hK _ ?_;clear hK K)|refine Vt rfl ?_|refine Vf rfl ?_|refine Vi rfl (fun hg=> ?_) (fun hg=> ?_)|clear hK K)
   ·rw[if_neg h0,if_neg h0]
    have cE:=cD (.own (m+3))
    repeat' (first|(with_reducible first|refine Vk fun K hK=> ?_|refine V0 ?_|refine Vb ?_|refine Vc ?_|refine Vr ?_|refine Vs ?_|apply And.intro)|((with_reducible first|refine gE ?_|refine gR ?_);simp only[zA,simprocAttr, -List.reduceReplicate,Xi hm,hsC,List.length_map,decide_false,Nat.lt_irrefl])|exact Vn|((with_reducible refine Vz ?_);refine Za (.inr rfl) rfl rfl rfl (fun _ _=>rfl) rfl rfl ?_ ?_<;>first|rfl|(exact AV.le.rfl _)|(simp only[sL,Xi hm,hsC,List.length_map,decide_false,Nat.lt_irrefl];done)|rfl|skip)|(refine X3 (cE) ?_)|((with_reducible refine Vx ?_);simp only[sb,reduceIte,Nat.reduceEqDiff])|(refine hK _ ?_;clear hK K)|refine Vt rfl ?_|refine Vf rfl ?_|refine Vi rfl (fun hg=> ?_) (fun hg=> ?_)|clear hK K)
end Go.Proofs.YtdngdjbgmojcoaaGreat.Pln
