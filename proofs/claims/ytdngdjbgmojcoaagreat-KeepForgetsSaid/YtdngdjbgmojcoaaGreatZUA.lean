/- The layer of abstract values, joined. -/
import Derived.Test.YtdngdjbgmojcoaaGreatZPR
import Derived.Test.YtdngdjbgmojcoaaGreatZS4
import Derived.Test.YtdngdjbgmojcoaaGreatZTA
import Derived.Test.YtdngdjbgmojcoaaGreatZW14
namespace Go.Proofs.YtdngdjbgmojcoaaGreat.Pln
set_option linter.unusedSimpArgs false
set_option linter.unusedVariables false
set_option maxHeartbeats 8000000
set_option maxRecDepth 4000
open Go Go.VS Tab
theorem Xqq:Xrt Tryz.prog 251:=⟨_,_,Tryz.underlying251,Tryz.underlying3,fun w=>by
 have h:(Tryz.prog.info? 3).bind (·.zero)=some (.int .i64 0):=by kernel_rfl
 cases hi:Tryz.prog.info? 3 with
 |none=>rw[hi] at h;cases h
 |some i=>
  rw[hi,Option.bind_some] at h
  simp [zeroValue,typeInfo,hi,h]⟩
theorem Xyq (a:Int×Int×Int) (kr kg km b:Nat) (hne:kr≠kg) (cl:List (Int×Int)) (g:Gp) (W:AV) (hs:0≤a.1∧a.1<100) (hh:g.hold.length=100) (ha:g.ask.length=100):
  Xr Tryz.prog 177 [sgA a,.ptr kr 0,.ref [.val (.map (some b))],.ptr kg 0] [(kr,some (okX g.ok)),(kg,some (gpR g W)),(km,some (.pin b (Xph cl) []))] (bool (Xot cl g a).ok) [(kr,okX (Xot cl g a).ok),(kg,gpR (Xot cl g a) W)]:=by
 obtain⟨a1,a2,a3⟩:=a
 dsimp only at hs
 obtain⟨z,rfl⟩:=Int.eq_ofNat_of_zero_le hs.1
 have hz:z<100:=by omega
 have hzi:(z:Int)<100:=hs.2
 have gs:=Xyo (W:=W) hh ha hz (Xot cl g ((z:Int),a2,a3)).ok a2
 have gl:=Xou (W:=W) hh ha
 have eg:(⟨(Xot cl g ((z:Int),a2,a3)).ok,g.hold,g.ask.set z a2⟩:Gp)=Xot cl g ((z:Int),a2,a3):=rfl
 have eo:(Xot cl g ((z:Int),a2,a3)).ok=(g.ok&&(Xyw cl z==a2)):=rfl
 rw[eg] at gs
 rw[gpR,gpR,eo]
 generalize gpC (Xot cl g ((z:Int),a2,a3)) W=C' at*
 generalize gpC g W=C at*
 generalize g.ok=O at*
 have w1:(kg=kr)=False:=eq_false (Ne.symm hne)
 have w2:(kr=kg)=False:=eq_false hne
 cases O<;>simp only[Bool.true_and,Bool.false_and]
 ·refine Kz 1 Tryz.func177 rfl fun n out _ _ _=> ?_
  simp only[sn,Tryz.ntmps177,Nat.reduceAdd,Nat.reduceSub]
  rename_i hneeds hgv hz0
  obtain⟨hkr,hkg,hkm,_⟩:=hneeds
  obtain⟨hkrn,hkgn,_⟩:=hgv
  have hkmn:km<n:=by
   rcases Nat.lt_or_ge km n with h|h
   ·exact h
   ·rw[hz0 km h] at hkm;cases hkm
  repeat' (first|(with_reducible first|refine Vk fun K hK=> ?_|refine V0 ?_|refine Vs ?_|apply And.intro)|((with_reducible first|refine gE ?_|refine gR ?_);simp only[zA,simprocAttr, -List.reduceReplicate,sgA,sgC,hkr,hkg,X8 hkrn,X8 hkgn,X7 hkrn,X7 hkgn,Xa hkrn,Xa hkgn,Xif,w1,w2,gs,gl,hzi,X0])|exact Vn|((with_reducible refine Vz ?_);refine Vo rfl rfl rfl (fun _ _=>rfl) ?_<;>first|rfl|skip)|(exact Xqq)|(refine Xw1 (by rw[X8 hkmn];exact hkm) (by rw[X7 hkmn];trivial) ?_)|((with_reducible refine Vg (fun hg=> ?_) (fun hg=> ?_))<;>(try simp only[nb] at hg)<;>simp only[zA,simprocAttr, -List.reduceReplicate,hg,sgA,sgC,Xtz,hkr,hkg,X8 hkrn,X8 hkgn,X7 hkrn,X7 hkgn,Xa hkrn,Xa hkgn,Xif,w1,w2,gs,gl,hz,hzi,X0,Y9])|(refine hK _ ?_;clear hK K)|clear hK K)
  ·omega
 ·refine Kz 1 Tryz.func177 rfl fun n out _ _ _=> ?_
  simp only[sn,Tryz.ntmps177,Nat.reduceAdd,Nat.reduceSub]
  rename_i hneeds hgv hz0
  obtain⟨hkr,hkg,hkm,_⟩:=hneeds
  obtain⟨hkrn,hkgn,_⟩:=hgv
  have hkmn:km<n:=by
   rcases Nat.lt_or_ge km n with h|h
   ·exact h
   ·rw[hz0 km h] at hkm;cases hkm
  repeat' (first|(with_reducible first|refine Vk fun K hK=> ?_|refine V0 ?_|refine Vs ?_|apply And.intro)|((with_reducible first|refine gE ?_|refine gR ?_);simp only[zA,simprocAttr, -List.reduceReplicate,sgA,sgC,Xtz,hkr,hkg,X8 hkrn,X8 hkgn,X7 hkrn,X7 hkgn,Xa hkrn,Xa hkgn,Xif,w1,w2,gs,gl,hzi,X0])|exact Vn|((with_reducible refine Vz ?_);refine Vo rfl rfl rfl (fun _ _=>rfl) ?_<;>first|rfl|skip)|(exact Xqq)|(refine Xw1 (by rw[X8 hkmn];exact hkm) (by rw[X7 hkmn];trivial) ?_)|((with_reducible refine Vg (fun hg=> ?_) (fun hg=> ?_))<;>(try simp only[nb] at hg)<;>simp only[zA,simprocAttr, -List.reduceReplicate,hg,sgA,sgC,Xtz,hkr,hkg,X8 hkrn,X8 hkgn,X7 hkrn,X7 hkgn,Xa hkrn,Xa hkgn,Xif,w1,w2,gs,gl,hz,hzi,X0,Y9])|(refine hK _ ?_;clear hK K)|clear hK K)
  ·omega
theorem Xzh (w:Wy) (l:Int×UInt8×Int×Int) (fid:FuncId) (caps:List AV) (kr kg km:Nat) (hne:kr≠kg) (hnr:km≠kr) (hng:km≠kg) (P0:Res) (hP:P0≠ .dead) (cl:List (Int×Int)) (W:AV) (g:Gp) (hb:Xd Tryz.prog fid=True) (hl:w.asks.length≤1000000)
  (hp:∀g' a,a∈w.asks→g'.hold.length=g.hold.length→g'.ask.length=g.ask.length→Xr Tryz.prog fid (sgA a::caps) [(kr,some (okX g'.ok)),(kg,some (gpR g' W)),(km,some P0)] (bool (Xot cl g' a).ok) [(kr,okX (Xot cl g' a).ok),(kg,gpR (Xot cl g' a) W)]):
  Xr Tryz.prog 176 [wyA w,lkA l,.fn (.func fid) caps] [(kr,some (okX g.ok)),(kg,some (gpR g W)),(km,some P0)] (.tup []) [(kr,okX (Xs9 cl (Xug l) g (Xrn w l)).ok),(kg,gpR (Xs9 cl (Xug l) g (Xrn w l)) W)]:=by
 have q0:((l.2.1.toNat:Int)==0)=(l.2.1==0):=Xr8 l.2.1 0
 by_cases p0:l.2.1=0
 ·have e0:(l.2.1==0)=true:=by simpa using p0
  rw[e0] at q0
  have e1:Xrn w l=[]:=by unfold Xrn;rw[if_pos p0]
  rw[e1,show Xs9 cl (Xug l) g []=g from by rw[Xs9]]
  refine Xc 2 Tryz.func176 rfl fun n out _ _=> ?_
  simp only[sn,Tryz.ntmps176,Nat.reduceAdd,Nat.reduceSub]
  rename_i hneeds hgv
  obtain⟨hkr,hkg,_⟩:=hneeds
  repeat' (first|(with_reducible first|refine Vk fun K hK=> ?_|refine V0 ?_|refine Vb ?_|refine Vc ?_|refine Vr ?_|refine Vs ?_|apply And.intro)|((with_reducible first|refine gE ?_|refine gR ?_);simp only[zA,simprocAttr,wyA,wyC,lkA,lkC,q0])|exact Vn|((with_reducible refine Vz ?_);refine Xy (.inr rfl) rfl rfl rfl (fun _ _=>rfl)<;>first|rfl|skip)|((with_reducible refine Vg (fun hg=> ?_) (fun hg=> ?_))<;>(try simp only[nb] at hg)<;>simp only[zA,simprocAttr,hg,wyA,wyC,lkA,lkC,q0])|((with_reducible refine Vx ?_);simp only[sb,reduceIte,Nat.reduceEqDiff])|(refine hK _ ?_;clear hK K)|refine Vt rfl ?_|refine Vf rfl ?_|refine Vi rfl (fun hg=> ?_) (fun hg=> ?_)|clear hK K)
  exact Yd (Xy (.inr rfl) rfl rfl rfl (fun j _=>by rw[Zc,Zc,Wz,Qb hkr,Qb hkg]))
 ·have e0:(l.2.1==0)=false:=by simpa using p0
  rw[e0] at q0
  have eL:Xrn w l=w.asks:=by unfold Xrn;rw[if_neg p0]
  rw[eL]
  obtain⟨F,hF⟩:∃F:Nat→Gp,F=fun i=>(w.asks.take i).foldl (fun g a=>if Xug l a then Xot cl g a else g) g:=⟨_,rfl⟩
  obtain⟨G,hG⟩:∃G,G=Xs9 cl (Xug l) g w.asks:=⟨_,rfl⟩
  obtain⟨QA,hQA⟩:∃QA:Nat→Prop,QA=fun i=>Xs9 cl (Xug l) (F i) (w.asks.drop i)=G:=⟨_,rfl⟩
  have F0:F 0=g:=by rw[hF];rfl
  have Fs:∀i (hi:i<w.asks.length),F (i+1)=if Xug l w.asks[i] then Xot cl (F i) w.asks[i] else F i:=fun i hi=>by
   rw[hF]
   show(w.asks.take (i+1)).foldl _ _= _
   rw[List.take_succ_eq_append_getElem hi,List.foldl_append];rfl
  have Fl:∀i,i≤w.asks.length→(F i).hold.length=g.hold.length∧(F i).ask.length=g.ask.length:=fun i=>by
   induction i with
   |zero=>intro _;rw[F0];exact⟨rfl,rfl⟩
   |succ i ih=>
    intro hi
    have:=ih (by omega)
    rw[Fs i (by omega)]
    split
    ·exact⟨this.1,by simp [Xot,this.2]⟩
    ·exact this
  have h0:QA 0:=by rw[hQA];show Xs9 cl (Xug l) (F 0) (w.asks.drop 0)=G;rw[F0,hG,List.drop_zero]
  rw[← hG]
  clear hF eL
  refine Kz 3 Tryz.func176 rfl fun n out _ _ _=> ?_
  simp only[sn,Tryz.ntmps176,Nat.reduceAdd,Nat.reduceSub]
  rename_i hneeds hgv hz0
  obtain⟨hkr,hkg,hkm,_⟩:=hneeds
  obtain⟨hkrn,hkgn,_⟩:=hgv
  have hkmn:km<n:=by
   rcases Nat.lt_or_ge km n with h|h
   ·exact h
   ·rw[hz0 km h] at hkm;cases hkm
  have o0:Xw (Xw out kr (okX (F 0).ok)) kg (gpR (F 0) W)=out:=by rw[F0,Qb hkr,Qb hkg]
  repeat' (first|(with_reducible first|refine Vk fun K hK=> ?_|refine V0 ?_|refine Vb ?_|refine Vc ?_|refine Vr ?_|refine Vs ?_|apply And.intro)|((with_reducible first|refine gE ?_|refine gR ?_);simp only[zA,simprocAttr,wyA,wyC,lkA,lkC,q0])|exact Vn|((with_reducible refine Vz ?_);refine Xy (.inr rfl) rfl rfl rfl (fun _ _=>rfl)<;>first|rfl|skip)|((with_reducible refine Vg (fun hg=> ?_) (fun hg=> ?_))<;>(try simp only[nb] at hg)<;>simp only[zA,simprocAttr,hg,wyA,wyC,lkA,lkC,q0,List.length_map])|((with_reducible refine Vx ?_);simp only[sb,reduceIte,Nat.reduceEqDiff])|(refine hK _ ?_;clear hK K)|refine Vt rfl ?_|refine Vf rfl ?_|refine Vi rfl (fun hg=> ?_) (fun hg=> ?_)|clear hK K)
  refine V5 ?_
  refine Xl (fun m (i:Nat)=>tp [7] (tr 15 20 [(14,i64 (i:Int)),(3,.ptr (m+0) 0),(4,.ptr (m+1) 0),(8,.top),(11,.top)])) (fun m i=>[some (.box 130 (wyC w)),some (.box 65 (lkC l)),none]) (fun i=>Xw (Xw out kr (okX (F i).ok)) kg (gpR (F i) W)) (fun i=>i≤w.asks.length∧QA i) (fun i=>w.asks.length - i) 0 ⟨Nat.zero_le _,by assumption⟩ ?_ fun m i hm hi=> ?_
  ·refine X2 ?_ ?_ (by first|rfl|(simp only[o0];rfl)|simp only[o0]) rfl rfl rfl<;>simp only[sL,wyC,lkC]
  obtain⟨hi,hq⟩:=hi
  simp only[pt]
  have hw:=Yl (n:=i) 1 1 rfl (by omega)
  rw[hQA] at hq
  by_cases hlt:i<w.asks.length
  ·have gi:=Xg sgC w.asks i [] hlt
   obtain⟨f1,f2⟩:=Fl i (by omega)
   have c:=hp (F i) w.asks[i] (List.getElem_mem hlt) f1 f2
   have fs:=Fs i hlt
   rw[List.drop_eq_getElem_cons hlt,Xs9] at hq
   obtain⟨a,ha⟩:∃a,a=w.asks[i]:=⟨_,rfl⟩
   rw[← ha] at gi c fs hq
   have oR:Xw (Xw out kr (okX (F i).ok)) kg (gpR (F i) W) kr=some (okX (F i).ok):=by rw[Zp _ _ hne,Xt]
   have oG:Xw (Xw out kr (okX (F i).ok)) kg (gpR (F i) W) kg=some (gpR (F i) W):=Xt _ _ _
   have oM:Xw (Xw out kr (okX (F i).ok)) kg (gpR (F i) W) km=some P0:=by rw[Zp _ _ hng,Zp _ _ hnr];exact hkm
   have ask:Xug l a=(decide (a.2.2<0)||decide (l.2.2.1≤a.2.2)):=rfl
   simp only[sgA,sgC] at c
   cases hA:Xug l a with
   |false=>
    rw[hA] at fs hq ask
    simp only[Bool.false_eq_true,if_false] at fs hq
    have a1:decide (a.2.2<0)=false:=by simp_all
    have a2:decide (l.2.2.1≤a.2.2)=false:=by simp_all
    have next:QA (i+1):=by rw[hQA];show Xs9 _ _ (F (i+1)) _=G;rw[fs];exact hq
    have eo:Xw (Xw out kr (okX (F (i+1)).ok)) kg (gpR (F (i+1)) W)=Xw (Xw out kr (okX (F i).ok)) kg (gpR (F i) W):=by rw[fs]
    generalize Xw (Xw out kr (okX (F i).ok)) kg (gpR (F i) W)=O at*
    repeat' (first|(with_reducible first|refine Vk fun K hK=> ?_|refine V0 ?_|refine Vb ?_|refine Vc ?_|refine Vr ?_|refine Vs ?_|apply And.intro)|((with_reducible first|refine gE ?_|refine gR ?_);simp only[zA,simprocAttr,Xi hm,wyC,lkC,sgC,hlt,gi,a1,a2,ge_iff_le,hw,X0])|exact Vn|((with_reducible refine Vz ?_);refine Xy (.inr rfl) rfl rfl rfl (fun _ _=>rfl)<;>first|rfl|skip)|((with_reducible refine Vg (fun hg=> ?_) (fun hg=> ?_))<;>(try simp only[nb] at hg)<;>simp only[zA,simprocAttr,hg,Xi hm,wyC,lkC,sgC,List.length_map,hlt,gi,hb,a1,a2,ge_iff_le,hw,X0])|((with_reducible refine Vx ?_);simp only[sb,reduceIte,Nat.reduceEqDiff])|(refine hK _ ?_;clear hK K)|refine Vt rfl ?_|refine Vf rfl ?_|refine Vi rfl (fun hg=> ?_) (fun hg=> ?_)|clear hK K)
    refine⟨i+1,⟨by omega,next⟩,by omega,?_⟩
    rw[eo]
    refine Xx [true,true,false] ?_ ?_<;>intro n_<;>simp only[sM]
   |true=>
    rw[hA] at fs hq ask
    simp only[if_true] at fs hq
    rw[← fs] at c hq
    have oS:Xw (Xw (Xw (Xw out kr (okX (F i).ok)) kg (gpR (F i) W)) kr (okX (F (i+1)).ok)) kg (gpR (F (i+1)) W)=Xw (Xw out kr (okX (F (i+1)).ok)) kg (gpR (F (i+1)) W):=Xto hne _ _ _ _
    have next:(F (i+1)).ok=true→QA (i+1):=fun h=>by rw[hQA];rw[if_pos h] at hq;exact hq
    have stop:(F (i+1)).ok=false→F (i+1)=G:=fun h=>by rw[h] at hq;simpa using hq
    obtain⟨O',hO'⟩:∃O',O'=Xw (Xw out kr (okX (F (i+1)).ok)) kg (gpR (F (i+1)) W):=⟨_,rfl⟩
    rw[← hO'] at oS
    generalize Xw (Xw out kr (okX (F i).ok)) kg (gpR (F i) W)=O at*
    have a1:(decide (a.2.2<0)||decide (l.2.2.1≤a.2.2))=true:=ask.symm
    cases hok:(F (i+1)).ok with
    |true=>
     rw[hok] at c oS
     cases a2:decide (a.2.2<0)<;>simp only[a2,Bool.false_or,Bool.true_or] at a1
     ·repeat' (first|(with_reducible first|refine Vk fun K hK=> ?_|refine V0 ?_|refine Vb ?_|refine Vc ?_|refine Vr ?_|refine Vs ?_|apply And.intro)|((with_reducible first|refine gE ?_|refine gR ?_);simp only[zA,simprocAttr,Xi hm,wyC,lkC,sgC,hlt,gi,hb,a1,ge_iff_le,hw,X0,Xa hkrn,Xa hkgn,oS,a2])|exact Vn|((with_reducible refine Vz ?_);refine Xy (.inr rfl) rfl rfl rfl (fun _ _=>rfl)<;>first|rfl|skip)|(refine Xp5 c (by rw[X8 hkrn];exact oR) (by rw[X8 hkgn];exact oG) (by rw[X8 hkmn];exact oM) (by rw[X7 hkrn];trivial) (by rw[X7 hkgn];trivial) (by rw[X7 hkmn];trivial) (by simp) (by simp [gpR]) (by simpa using hP) ?_)|((with_reducible refine Vg (fun hg=> ?_) (fun hg=> ?_))<;>(try simp only[nb] at hg)<;>simp only[zA,simprocAttr,hg,Xi hm,wyC,lkC,sgC,List.length_map,hlt,gi,hb,a1,ge_iff_le,hw,X0,X8 hkrn,X8 hkgn,X7 hkrn,X7 hkgn,Xa hkrn,Xa hkgn,oS,Bool.true_or,Bool.false_or,Bool.not_true,Bool.not_false,a2])|((with_reducible refine Vx ?_);simp only[sb,reduceIte,Nat.reduceEqDiff])|(refine hK _ ?_;clear hK K)|refine Vt rfl ?_|refine Vf rfl ?_|refine Vi rfl (fun hg=> ?_) (fun hg=> ?_)|clear hK K)
      refine⟨i+1,⟨by omega,next hok⟩,by omega,?_⟩
      rw[hO',hok]
      refine Xx [true,true,false] ?_ ?_<;>intro n_<;>simp only[sM]
     ·repeat' (first|(with_reducible first|refine Vk fun K hK=> ?_|refine V0 ?_|refine Vb ?_|refine Vc ?_|refine Vr ?_|refine Vs ?_|apply And.intro)|((with_reducible first|refine gE ?_|refine gR ?_);simp only[zA,simprocAttr,Xi hm,wyC,lkC,sgC,hlt,gi,hb,hw,X0,Xa hkrn,Xa hkgn,oS,a2])|exact Vn|((with_reducible refine Vz ?_);refine Xy (.inr rfl) rfl rfl rfl (fun _ _=>rfl)<;>first|rfl|skip)|(refine Xp5 c (by rw[X8 hkrn];exact oR) (by rw[X8 hkgn];exact oG) (by rw[X8 hkmn];exact oM) (by rw[X7 hkrn];trivial) (by rw[X7 hkgn];trivial) (by rw[X7 hkmn];trivial) (by simp) (by simp [gpR]) (by simpa using hP) ?_)|((with_reducible refine Vg (fun hg=> ?_) (fun hg=> ?_))<;>(try simp only[nb] at hg)<;>simp only[zA,simprocAttr,hg,Xi hm,wyC,lkC,sgC,List.length_map,hlt,gi,hb,a1,ge_iff_le,hw,X0,X8 hkrn,X8 hkgn,X7 hkrn,X7 hkgn,Xa hkrn,Xa hkgn,oS,Bool.true_or,Bool.false_or,Bool.not_true,Bool.not_false,a2])|((with_reducible refine Vx ?_);simp only[sb,reduceIte,Nat.reduceEqDiff])|(refine hK _ ?_;clear hK K)|refine Vt rfl ?_|refine Vf rfl ?_|refine Vi rfl (fun hg=> ?_) (fun hg=> ?_)|clear hK K)
      refine⟨i+1,⟨by omega,next hok⟩,by omega,?_⟩
      rw[hO',hok]
      refine Xx [true,true,false] ?_ ?_<;>intro n_<;>simp only[sM]
    |false=>
     rw[hok] at c oS
     cases a2:decide (a.2.2<0)<;>simp only[a2,Bool.false_or,Bool.true_or] at a1
     ·repeat' (first|(with_reducible first|refine Vk fun K hK=> ?_|refine V0 ?_|refine Vb ?_|refine Vc ?_|refine Vr ?_|refine Vs ?_|apply And.intro)|((with_reducible first|refine gE ?_|refine gR ?_);simp only[zA,simprocAttr,Xi hm,wyC,lkC,sgC,hlt,gi,hb,a1,ge_iff_le,X0,Xa hkrn,Xa hkgn,oS,a2])|exact Vn|((with_reducible refine Vz ?_);refine Xy (.inr rfl) rfl rfl rfl (fun _ _=>rfl)<;>first|rfl|skip)|(refine Xp5 c (by rw[X8 hkrn];exact oR) (by rw[X8 hkgn];exact oG) (by rw[X8 hkmn];exact oM) (by rw[X7 hkrn];trivial) (by rw[X7 hkgn];trivial) (by rw[X7 hkmn];trivial) (by simp) (by simp [gpR]) (by simpa using hP) ?_)|((with_reducible refine Vg (fun hg=> ?_) (fun hg=> ?_))<;>(try simp only[nb] at hg)<;>simp only[zA,simprocAttr,hg,Xi hm,wyC,lkC,sgC,List.length_map,hlt,gi,hb,a1,ge_iff_le,hw,X0,X8 hkrn,X8 hkgn,X7 hkrn,X7 hkgn,Xa hkrn,Xa hkgn,oS,Bool.true_or,Bool.false_or,Bool.not_true,Bool.not_false,a2])|((with_reducible refine Vx ?_);simp only[sb,reduceIte,Nat.reduceEqDiff])|(refine hK _ ?_;clear hK K)|refine Vt rfl ?_|refine Vf rfl ?_|refine Vi rfl (fun hg=> ?_) (fun hg=> ?_)|clear hK K)
      exact Yd (Xy (.inr rfl) rfl rfl rfl (fun j _=>by rw[hO',stop hok];rfl))
     ·repeat' (first|(with_reducible first|refine Vk fun K hK=> ?_|refine V0 ?_|refine Vb ?_|refine Vc ?_|refine Vr ?_|refine Vs ?_|apply And.intro)|((with_reducible first|refine gE ?_|refine gR ?_);simp only[zA,simprocAttr,Xi hm,wyC,lkC,sgC,hlt,gi,hb,X0,Xa hkrn,Xa hkgn,oS,a2])|exact Vn|((with_reducible refine Vz ?_);refine Xy (.inr rfl) rfl rfl rfl (fun _ _=>rfl)<;>first|rfl|skip)|(refine Xp5 c (by rw[X8 hkrn];exact oR) (by rw[X8 hkgn];exact oG) (by rw[X8 hkmn];exact oM) (by rw[X7 hkrn];trivial) (by rw[X7 hkgn];trivial) (by rw[X7 hkmn];trivial) (by simp) (by simp [gpR]) (by simpa using hP) ?_)|((with_reducible refine Vg (fun hg=> ?_) (fun hg=> ?_))<;>(try simp only[nb] at hg)<;>simp only[zA,simprocAttr,hg,Xi hm,wyC,lkC,sgC,List.length_map,hlt,gi,hb,a1,ge_iff_le,hw,X0,X8 hkrn,X8 hkgn,X7 hkrn,X7 hkgn,Xa hkrn,Xa hkgn,oS,Bool.true_or,Bool.false_or,Bool.not_true,Bool.not_false,a2])|((with_reducible refine Vx ?_);simp only[sb,reduceIte,Nat.reduceEqDiff])|(refine hK _ ?_;clear hK K)|refine Vt rfl ?_|refine Vf rfl ?_|refine Vi rfl (fun hg=> ?_) (fun hg=> ?_)|clear hK K)
      exact Yd (Xy (.inr rfl) rfl rfl rfl (fun j _=>by rw[hO',stop hok];rfl))
  ·obtain rfl:i=w.asks.length:=by omega
   rw[List.drop_length,Xs9] at hq
   rw[hq]
   repeat' (first|(with_reducible first|refine Vk fun K hK=> ?_|refine V0 ?_|refine Vb ?_|refine Vc ?_|refine Vr ?_|refine Vs ?_|apply And.intro)|((with_reducible first|refine gE ?_|refine gR ?_);simp only[zA,simprocAttr,wyC,lkC,hlt])|exact Vn|((with_reducible refine Vz ?_);refine Xy (.inr rfl) rfl rfl rfl (fun _ _=>rfl)<;>first|rfl|skip)|((with_reducible refine Vg (fun hg=> ?_) (fun hg=> ?_))<;>(try simp only[nb] at hg)<;>simp only[zA,simprocAttr,hg,wyC,lkC,List.length_map,hlt])|((with_reducible refine Vx ?_);simp only[sb])|(refine hK _ ?_;clear hK K)|refine Vt rfl ?_|refine Vf rfl ?_|refine Vi rfl (fun hg=> ?_) (fun hg=> ?_)|clear hK K)
   exact Xy (.inl rfl) rfl rfl rfl (fun j _=>rfl)
theorem Xoa {p:Pl} (h:Xo3 p=0):Uf p=true∧∀r,r∈p.rts→Xrb p r=0∧Xpp p r=true:=by
 unfold Xo3 at h
 by_cases hc:Xs0 p=0∧p.rts.all (Xpp p)=true
 ·obtain⟨h1,h2⟩:=Xsb hc.1
  exact⟨h1,fun r hr=>⟨h2 r hr,List.all_eq_true.1 hc.2 r hr⟩⟩
 ·rw[if_neg hc] at h;exact absurd h (by decide)
end Go.Proofs.YtdngdjbgmojcoaaGreat.Pln
