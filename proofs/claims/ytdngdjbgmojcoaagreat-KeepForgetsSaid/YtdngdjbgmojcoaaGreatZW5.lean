/- The layer of abstract values, joined. -/
import Derived.Test.YtdngdjbgmojcoaaGreatZPR
import Derived.Test.YtdngdjbgmojcoaaGreatZWC
import Derived.Test.YtdngdjbgmojcoaaGreatZW4
namespace Go.Proofs.YtdngdjbgmojcoaaGreat.Pln
set_option linter.unusedVariables false
set_option linter.unusedSimpArgs false
open Go Go.VS Tab
set_option maxHeartbeats 16000000
set_option maxRecDepth 8000
set_option linter.defProp false
theorem Lb {P:Program} {c:Code} {Q:Exit→AState→Prop} {σ:AState} (lE:List (Nat×AV)) (loE:List (Option Res)) (h1:σ.le {σ with fr:=X4 σ.fr lE,lo:=loE}) (h:AWp P c Q {σ with fr:=X4 σ.fr lE,lo:=loE}):AWp P c Q σ:=Yy h1 h
theorem Y1b (a b c d e f:Bool) (l:List Bool):B7 (a::b::c::d::e::f::true::l) 6↔True:=by simp [B7]
theorem Y1c (a b c d e f g:Bool) (l:List Bool):B7 (a::b::c::d::e::f::g::true::l) 7↔True:=by simp [B7]
theorem Y1d (a b c d e f g h:Bool) (l:List Bool):B7 (a::b::c::d::e::f::g::h::true::l) 8↔True:=by simp [B7]
theorem Y1e (a b c d e f g h i:Bool) (l:List Bool):B7 (a::b::c::d::e::f::g::h::i::true::l) 9↔True:=by simp [B7]
def sk:=And.intro @Y1b<|And.intro @Y1c<|And.intro @Y1d<| @Y1e
theorem Xut (p:Pl) (r:Rt) (hs:Sm p) (h20:r.path.length≤20∧r.over.length≤20∧r.flanks.length≤20) (hpath:1≤r.path.length)
  (hin:∀s,s∈p.secs→(s.id==(Xl0 p.sgs r.entry).2.1)=true→0≤(Xl0 p.sgs r.entry).2.2∧(Xl0 p.sgs r.entry).2.2<s.ends.length):
  Xr Tryz.prog 132 [plA p,rtA r] [] (.tup [wyA (Xop p r),.sl 2 ((Xpv p r).map jnC) .sh,i64 (Xrb p r)]) []:=by
 obtain⟨hp1,hp2,hp3⟩:=h20
 have hsl:=hs.sgs
 have hsc:=hs.secs
 have c1:=Xu0 p r.entry (by omega)
 have c2:=Xu0 p r.ex (by omega)
 obtain⟨en,hen⟩:∃en,en=Xl0 p.sgs r.entry:=⟨_,rfl⟩
 obtain⟨ex,hex⟩:∃ex,ex=Xl0 p.sgs r.ex:=⟨_,rfl⟩
 rw[← hen] at c1 hin
 rw[← hex] at c2
 simp only[sgA,sgC,plA,plC] at c1 c2
 obtain⟨RW,hRW⟩:∃RW,RW=Xop p r:=⟨_,rfl⟩
 obtain⟨RO,hRO⟩:∃RO,RO=Xpv p r:=⟨_,rfl⟩
 obtain⟨RE,hRE⟩:∃RE,RE=Xrb p r:=⟨_,rfl⟩
 rw[← hRW,← hRO,← hRE]
 refine Xc 12 Tryz.func132 rfl fun n out _ _=> ?_
 simp only[sn,Tryz.ntmps132,Nat.reduceAdd,Nat.reduceSub]
 refine Vy fun K hK=> ?_
 simp only[zA,simprocAttr,plA,plC,rtA,rtC]
 repeat' (first|(with_reducible refine hK _ ?_;clear hK K)|with_reducible apply And.intro)
 repeat' (first|(with_reducible first|refine Vk fun K hK=> ?_|refine V0 ?_|refine Vb ?_|refine Vc ?_|refine Vr ?_|refine Vs ?_|apply And.intro|refine Vd 1 [] [[0],[],[1],[],[0],[],[1],[],[3],[4],[3],[4]] [[],[],[],[],[],[],[],[],[3],[4],[3],[4]] (by kernel_rfl) (by decide) (by decide) (by kernel_rfl) ?_|refine Vq (by kernel_rfl) ?_)|((with_reducible first|refine gE ?_|refine gR ?_|refine gD ?_|refine gF ?_);simp only[zA,simprocAttr,X0])|exact Vn|(refine X3 (c1) ?_)|(refine X3 (c2) ?_)|((with_reducible refine Vg (fun hg=> ?_) (fun hg=> ?_))<;>(try simp only[nb] at hg)<;>simp only[zA,simprocAttr,hg,plC,rtC,X0])|((with_reducible refine Vx ?_);simp only[sb,reduceIte,Nat.reduceEqDiff])|(refine hK _ ?_;clear hK K)|refine Vt rfl ?_|refine Vf rfl ?_|refine Vi rfl (fun hg=> ?_) (fun hg=> ?_)|clear hK K)
 refine Yy (Q9 (i:=6) 179 3 rfl) ?_
 refine Yy (Q9 (i:=7) 138 2 rfl) ?_
 refine Yy (Zi (i:=4) (t:=8) 1 (.ref (sgC ex)) rfl rfl (.ptr 0)) ?_
 simp only[s_0,s_s]
 refine V5 ?_
 refine Xrd (p.secs.length) (fun m i=>tp [11] (tr 32 18 [(31,i64 (i:Int)),(2,.ptr (m+0) 0),(3,.ptr (m+1) 0),(4,.ptr (m+2) 0),(7,.ptr (m+3) 0),(9,.ptr (m+5) 0)])) (fun m i=>[some (.box 28 (plC p)),some (.box 82 (rtC r)),some (.box 130 [.sl 0 [] .nil,.sl 0 [] .nil,.sl 0 [] .nil,i64 0]),some (.box 92 (sgC en)),some .dead,some (.box 238 (wkC p ⟨Xwg (p.secs.take i) en,[],[],false⟩ (m+6) (m+7))),some (.row 179 3 0),some (.row 138 2 0),none,none,none,none]) ?_ fun m i hm hi=> ?_
 ·refine X2 ?_ ?_ (by first|rfl|(simp only[plC,rtC,sgC,wkC,List.length_map,List.map_nil,List.take_zero,Xru];rfl)|simp only[plC,rtC,sgC,wkC,List.length_map,List.map_nil,List.take_zero,Xru]) rfl rfl rfl<;>simp only[sL,plC,rtC,sgC,wkC,List.map_nil,Xru]
 simp only[pt]
 have hw:=Yl (n:=i) 1 1 rfl (by omega)
 by_cases hlt:i<p.secs.length
 ·have gi:=Xg Y6 p.secs i [] hlt
  have hsu:=Xsj hlt en
  have hii:=hin _ (List.getElem_mem hlt)
  cases hb:(p.secs[i].id==en.2.1) with
  |false=>
   rw[hb,if_neg (by decide)] at hsu
   repeat' (first|(with_reducible first|refine Vk fun K hK=> ?_|refine V0 ?_|refine Vb ?_|refine Vc ?_|refine Vr ?_|refine Vs ?_|apply And.intro|refine Vq (by kernel_rfl) ?_)|((with_reducible first|refine gE ?_|refine gR ?_);simp only[zA,simprocAttr,Xi hm,Y6,sgC,hlt,gi,X0,hb,hw])|exact Vn|((with_reducible refine Vg (fun hg=> ?_) (fun hg=> ?_))<;>(try simp only[nb] at hg)<;>simp only[zA,simprocAttr,hg,Xi hm,Y6,sgC,List.length_map,hlt,gi,X0,hb,hw])|((with_reducible refine Vx ?_);simp only[sb,reduceIte,Nat.reduceEqDiff])|(refine hK _ ?_;clear hK K)|refine Vt rfl ?_|refine Vf rfl ?_|refine Vi rfl (fun hg=> ?_) (fun hg=> ?_)|clear hK K)
   refine⟨i+1,by omega,by omega,?_⟩
   rw[hsu]
   refine Xx [true,true,true,true,true,true,true,true,false,false,false,false] ?_ ?_<;>intro n_<;>simp only[sM,plC,rtC,wkC,sk]
  |true=>
   rw[hb,if_pos rfl] at hsu
   obtain⟨q1,q2⟩:=hii hb
   obtain⟨ne,hne⟩:=Int.eq_ofNat_of_zero_le q1
   have hnl:ne<p.secs[i].ends.length:=by omega
   have gn:=Xg jnC p.secs[i].ends ne [] hnl
   have gd:p.secs[i].ends.getD en.2.2.toNat (0,0)=p.secs[i].ends[ne]:=by rw[hne];simp [List.getD_eq_getElem?_getD,hnl]
   rw[gd] at hsu
   repeat' (first|(with_reducible first|refine Vk fun K hK=> ?_|refine V0 ?_|refine Vb ?_|refine Vc ?_|refine Vr ?_|refine Vs ?_|apply And.intro|refine Vq (by kernel_rfl) ?_)|((with_reducible first|refine gE ?_|refine gR ?_);simp only[zA,simprocAttr,Xi hm,Y6,sgC,jnC,wkC,hlt,gi,X0,hb,hw,hne,hnl,gn])|exact Vn|((with_reducible refine Vg (fun hg=> ?_) (fun hg=> ?_))<;>(try simp only[nb] at hg)<;>simp only[zA,simprocAttr,hg,Xi hm,Y6,sgC,jnC,wkC,List.length_map,hlt,gi,X0,hb,hw,hne,hnl,gn])|((with_reducible refine Vx ?_);simp only[sb,reduceIte,Nat.reduceEqDiff])|(refine hK _ ?_;clear hK K)|refine Vt rfl ?_|refine Vf rfl ?_|refine Vi rfl (fun hg=> ?_) (fun hg=> ?_)|clear hK K)
   refine⟨i+1,by omega,by omega,?_⟩
   rw[hsu]
   refine Xx [true,true,true,true,true,true,true,true,false,false,false,false] ?_ ?_<;>intro n_<;>simp only[sM,plC,rtC,sk]
 ·obtain rfl:i=p.secs.length:=by omega
  rw[List.take_length]
  have cc:=fun k=>Xpu k (r.path.map Ym) (r.over.map Ym) .full .sh .sh (by simp;omega)
  have lit:∀(σ:AState) (K:AV→List (Nat×Res)→Prop),X1 tab σ K none 224 2 [(0,.sl 1 (r.path.map Ym) .sh),(1,.sl 1 (r.over.map Ym) .sh)]=K (.sl 1 [[.sl 1 (r.path.map Ym) .sh],[.sl 1 (r.over.map Ym) .sh]] .full) []:=fun σ K=>Te (T:=tab) (ti:=ti224) (te:=ti61) rfl rfl rfl rfl rfl rfl
  repeat' (first|(with_reducible first|refine Vk fun K hK=> ?_|refine V0 ?_|refine Vb ?_|refine Vc ?_|refine Vr ?_|refine Vs ?_|apply And.intro|refine Vq (by kernel_rfl) ?_)|((with_reducible first|refine gE ?_|refine gR ?_);simp only[zB,simprocAttr,lit,Xi hm,plC,rtC,wkC,hlt,X0])|exact Vn|(refine Sb (cc (m+8)) (X6 _ hm 8) (Xb _ (by simp)) (by simp) ?_)|((with_reducible refine Vg (fun hg=> ?_) (fun hg=> ?_))<;>(try simp only[nb] at hg)<;>simp only[zB,simprocAttr,hg,lit,Xi hm,plC,rtC,wkC,List.length_map,hlt,X0,Xjn hm])|((with_reducible refine Vx ?_);simp only[sb])|(refine hK _ ?_;clear hK K)|refine Vt rfl ?_|refine Vf rfl ?_|refine Vi rfl (fun hg=> ?_) (fun hg=> ?_)|clear hK K)
  obtain⟨L,hL⟩:∃L,L=r.path++r.over:=⟨_,rfl⟩
  have hLm:r.path.map Ym++r.over.map Ym=L.map Ym:=by rw[hL,List.map_append]
  have hLl:L.length=r.path.length+r.over.length:=by rw[hL,List.length_append]
  have hL40:L.length≤40:=by omega
  obtain⟨WK,hWK⟩:∃WK,WK=Xom p r:=⟨_,rfl⟩
  have hW0:WK 0=⟨Xwg p.secs en,[],[],false⟩:=by rw[hWK,hen];rfl
  have hWS:∀i,WK (i+1)=Xp6 p r (WK i) i:=fun i=>by rw[hWK];rfl
  have hWl:∀i,(WK i).asks.length≤i∧(WK i).outs.length≤i:=fun i=>by rw[hWK];exact Xrw p r i
  have hEW:Xt6 p r=WK L.length:=by rw[hWK,hL];rfl
  unfold Xop Xpv Xrb at*
  rw[← hen] at hRW
  rw[hEW] at hRW hRO hRE
  refine Lb [(56,X62 L),(57,i64 (L.length:Int))] ([some (.box 28 (plC p)),some (.box 82 (rtC r)),some (.box 130 [.sl 0 [] .nil,.sl 0 [] .nil,.sl 0 [] .nil,i64 0]),some (.box 92 (sgC en)),some .dead,some (.box 238 (wkC p ⟨Xwg p.secs en,[],[],false⟩ (m+6) (m+7))),some (.row 179 3 (WK 0).asks.length),some (.row 138 2 (WK 0).outs.length),some (.row 3 1 (r.path.length+r.over.length)),some (.box 61 [X62 L]),none,none]) ?_ ?_
  ·refine La rfl ?_ ?_<;>simp only[sL,hLm,hW0,List.length_map,plC,rtC,sgC,wkC,List.map_nil,List.length_nil]
  refine Yy (Zi (i:=9) (t:=12) 1 (.ref [X62 L]) rfl rfl (.ptr 0)) ?_
  simp only[pt]
  refine V5 ?_
  refine Xrd (L.length) (fun m i=>tp [13,14] (tr 59 48 [(58,i64 (i:Int)),(2,.ptr (m+0) 0),(3,.ptr (m+1) 0),(4,.ptr (m+2) 0),(7,.ptr (m+3) 0),(9,.ptr (m+5) 0)])) (fun m i=>[some (.box 28 (plC p)),some (.box 82 (rtC r)),some (.box 130 [.sl 0 [] .nil,.sl 0 [] .nil,.sl 0 [] .nil,i64 0]),some (.box 92 (sgC en)),some .dead,some (.box 238 (wkC p (WK i) (m+6) (m+7))),some (.row 179 3 (WK i).asks.length),some (.row 138 2 (WK i).outs.length),some (.row 3 1 (r.path.length+r.over.length)),some .dead,none,none]) ?_ fun m i hm hi=> ?_
  ·refine X2 ?_ ?_ (by first|rfl|(simp only[plC,rtC,sgC,wkC,hW0,List.length_map,List.map_nil];rfl)|simp only[plC,rtC,sgC,wkC,hW0,List.length_map,List.map_nil]) rfl rfl rfl<;>simp only[sL,plC,rtC,sgC,wkC,hW0,List.map_nil]
  simp only[pt]
  have hw:=Yl (n:=i) 1 1 rfl (by omega)
  by_cases hlt:i<L.length
  ·have gi:=Xg Ym L i [] hlt
   have hwp:=X25 (n:=r.path.length) 1 1 rfl (by omega) (by omega)
   have hwl:=X25 (n:=L.length) 1 1 rfl (by omega) (by omega)
   obtain⟨ha,ho⟩:=hWl i
   have hse:=Xus hs (WK i) L[i]
   have gd:(r.path++r.over).getD i 0=L[i]:=by rw[← hL];simp [List.getD_eq_getElem?_getD,hlt]
   have hst:=hWS i
   unfold Xp6 at hst
   rw[gd,← hex,← hL] at hst
   repeat' (first|(with_reducible first|refine Vk fun K hK=> ?_|refine V0 ?_|refine Vb ?_|refine Vc ?_|refine Vr ?_|refine Vs ?_|apply And.intro|refine Vq (by kernel_rfl) ?_)|((with_reducible first|refine gE ?_|refine gR ?_);simp only[zA,simprocAttr,Xi hm,hlt])|exact Vn|((with_reducible refine Vg (fun hg=> ?_) (fun hg=> ?_))<;>(try simp only[nb] at hg)<;>simp only[zA,simprocAttr,hg,Xi hm,List.length_map,hlt])|((with_reducible refine Vx ?_);simp only[sb,reduceIte,Nat.reduceEqDiff])|(refine hK _ ?_;clear hK K)|refine Vt rfl ?_|refine Vf rfl ?_|refine Vi rfl (fun hg=> ?_) (fun hg=> ?_)|clear hK K)
   simp only[zA,simprocAttr,gi,Ym,X0]
   repeat' (first|(with_reducible refine hK _ ?_;clear hK K)|with_reducible apply And.intro)
   refine Yy (Zi (i:=10) (t:=13) 1 (.ref [i64 (i:Int)]) rfl rfl (.ptr 0)) ?_
   refine Yy (Zi (i:=11) (t:=14) 1 (.ref [i64 L[i]]) rfl rfl (.ptr 0)) ?_
   simp only[s_0,s_s]
   have hnl:(L.getD (i+1) 0)=L.getD (i+1) 0:=rfl
   have hb0f:(Xd Tryz.prog 160)=True:=hb0 _ (by decide) (by decide)
   by_cases hA:i+1=r.path.length
   ·have bA:((i:Int)==((r.path.length - 1:Nat):Int))=true:=by simp;omega
    rw[if_pos hA] at hst
    cases hX:(r.ex==0) with
    |true=>
     rw[if_pos (by simpa using hX)] at hst
     have ct:=Xz0 p (WK i) (m+5) (m+6) (m+7) (by omega) (by omega) (by omega) L[i] i 160 [] (fun _ j=>j==(0,0)) (hb0 _ (by decide) (by decide)) (fun e j=>Xxk e j) (by omega) (by omega) (by omega) (by omega)
     rw[← hst] at ct
     repeat' (first|(with_reducible first|refine Vk fun K hK=> ?_|refine V0 ?_|refine Vb ?_|refine Vc ?_|refine Vr ?_|refine Vs ?_|apply And.intro|refine Vq (by kernel_rfl) ?_)|((with_reducible first|refine gE ?_|refine gR ?_);simp only[zA,simprocAttr,Xi hm,rtC,Xjn hm,hwp,hw,bA,hX])|exact Vn|(refine Xpb ct (X6 _ hm 5) (X6 _ hm 6) (X6 _ hm 7) (Xb _ (by simp)) (Xb _ (by simp)) (Xb _ (by simp)) (by simp) (by simp) (by simp) ?_)|((with_reducible refine Vg (fun hg=> ?_) (fun hg=> ?_))<;>(try simp only[nb] at hg)<;>simp only[zA,simprocAttr,hg,Xi hm,rtC,List.length_map,Ym,X0,Xjn hm,hwp,hwl,hw,hb0f,bA,hX])|((with_reducible refine Vx ?_);simp only[sb,reduceIte,Nat.reduceEqDiff])|(refine hK _ ?_;clear hK K)|refine Vt rfl ?_|refine Vf rfl ?_|(refine Vi rfl (fun hg=> ?_) (fun hg=> ?_))<;>try simp only[hg]|clear hK K)
     refine⟨i+1,by omega,by omega,?_⟩
     refine Xx [true,true,true,true,true,true,true,true,true,true,false,false] ?_ ?_<;>intro n_<;>simp only[sM,plC,sgC,wkC,sk]
    |false=>
     rw[if_neg (by simpa using hX)] at hst
     have ct:=Xz0 p (WK i) (m+5) (m+6) (m+7) (by omega) (by omega) (by omega) L[i] i 161 [.ref [i64 L[i]],.ref (sgC ex)] (fun e _=>L[i]==ex.2.1&&e==ex.2.2) (hb0 _ (by decide) (by decide)) (fun e j=>Xxl L[i] ex e j) (by omega) (by omega) (by omega) (by omega)
     rw[← hst] at ct
     repeat' (first|(with_reducible first|refine Vk fun K hK=> ?_|refine V0 ?_|refine Vb ?_|refine Vc ?_|refine Vr ?_|refine Vs ?_|apply And.intro|refine Vq (by kernel_rfl) ?_)|((with_reducible first|refine gE ?_|refine gR ?_);simp only[zA,simprocAttr,Xi hm,rtC,Xjn hm,hwp,hw,bA,hX])|exact Vn|(refine Xpb ct (X6 _ hm 5) (X6 _ hm 6) (X6 _ hm 7) (Xb _ (by simp)) (Xb _ (by simp)) (Xb _ (by simp)) (by simp) (by simp) (by simp) ?_)|((with_reducible refine Vg (fun hg=> ?_) (fun hg=> ?_))<;>(try simp only[nb] at hg)<;>simp only[zA,simprocAttr,hg,Xi hm,rtC,List.length_map,Ym,X0,Xjn hm,hwp,hwl,hw,hb0f,bA,hX])|((with_reducible refine Vx ?_);simp only[sb,reduceIte,Nat.reduceEqDiff])|(refine hK _ ?_;clear hK K)|refine Vt rfl ?_|refine Vf rfl ?_|(refine Vi rfl (fun hg=> ?_) (fun hg=> ?_))<;>try simp only[hg]|clear hK K)
     refine⟨i+1,by omega,by omega,?_⟩
     refine Xx [true,true,true,true,true,true,true,true,true,true,false,false] ?_ ?_<;>intro n_<;>simp only[sM,plC,sgC,wkC,sk]
   ·have bA:((i:Int)==((r.path.length - 1:Nat):Int))=false:=by simp;omega
    rw[if_neg hA] at hst
    by_cases hB:i+1=L.length
    ·have bB:((i:Int)==((L.length - 1:Nat):Int))=true:=by simp;omega
     rw[if_pos hB] at hst
     have ct:=Y1a p (WK i) (m+5) (m+6) (m+7) (by omega) L[i] i (by omega) (by omega)
     rw[← hst] at ct
     have ho2:(WK (i+1)).outs.length=(WK i).outs.length:=by
      rw[hst];unfold Xpt
      obtain⟨s,l,e⟩:=Xox p (WK i) L[i]
      rw[e]
      dsimp only
      split
      ·rw[(Xqd _ _ _ _).2.1]
      ·rfl
     repeat' (first|(with_reducible first|refine Vk fun K hK=> ?_|refine V0 ?_|refine Vb ?_|refine Vc ?_|refine Vr ?_|refine Vs ?_|apply And.intro|refine Vq (by kernel_rfl) ?_)|((with_reducible first|refine gE ?_|refine gR ?_);simp only[zA,simprocAttr,Xi hm,rtC,Xjn hm,hwp,hwl,hw,bA,bB])|exact Vn|(refine Xk ct (X6 _ hm 5) (X6 _ hm 6) (Xb _ (by simp)) (Xb _ (by simp)) (by simp) (by simp) ?_)|((with_reducible refine Vg (fun hg=> ?_) (fun hg=> ?_))<;>(try simp only[nb] at hg)<;>simp only[zA,simprocAttr,hg,Xi hm,rtC,List.length_map,Ym,X0,Xjn hm,hwp,hwl,hw,hb0f,bA,bB])|((with_reducible refine Vx ?_);simp only[sb,reduceIte,Nat.reduceEqDiff])|(refine hK _ ?_;clear hK K)|refine Vt rfl ?_|refine Vf rfl ?_|(refine Vi rfl (fun hg=> ?_) (fun hg=> ?_))<;>try simp only[hg]|clear hK K)
     rw[← ho2]
     refine⟨i+1,by omega,by omega,?_⟩
     refine Xx [true,true,true,true,true,true,true,true,true,true,false,false] ?_ ?_<;>intro n_<;>simp only[sM,plC,sgC,wkC,sk]
    ·have bB:((i:Int)==((L.length - 1:Nat):Int))=false:=by simp;omega
     rw[if_neg hB] at hst
     have ct:=Xz0 p (WK i) (m+5) (m+6) (m+7) (by omega) (by omega) (by omega) L[i] i 163 [.ref [X62 L],.ref [i64 (i:Int)]] (fun _ j=>j.1==L.getD (i+1) 0) (hb0 _ (by decide) (by decide)) (fun e j=>Xxm L i (by omega) (by omega) e j) (by omega) (by omega) (by omega) (by omega)
     rw[← hst] at ct
     repeat' (first|(with_reducible first|refine Vk fun K hK=> ?_|refine V0 ?_|refine Vb ?_|refine Vc ?_|refine Vr ?_|refine Vs ?_|apply And.intro|refine Vq (by kernel_rfl) ?_)|((with_reducible first|refine gE ?_|refine gR ?_);simp only[zA,simprocAttr,Xi hm,rtC,Xjn hm,hwp,hwl,hw,bA,bB])|exact Vn|(refine Xpb ct (X6 _ hm 5) (X6 _ hm 6) (X6 _ hm 7) (Xb _ (by simp)) (Xb _ (by simp)) (Xb _ (by simp)) (by simp) (by simp) (by simp) ?_)|((with_reducible refine Vg (fun hg=> ?_) (fun hg=> ?_))<;>(try simp only[nb] at hg)<;>simp only[zA,simprocAttr,hg,Xi hm,rtC,List.length_map,Ym,X0,Xjn hm,hwp,hwl,hw,hb0f,bA,bB])|((with_reducible refine Vx ?_);simp only[sb,reduceIte,Nat.reduceEqDiff])|(refine hK _ ?_;clear hK K)|refine Vt rfl ?_|refine Vf rfl ?_|(refine Vi rfl (fun hg=> ?_) (fun hg=> ?_))<;>try simp only[hg]|clear hK K)
     refine⟨i+1,by omega,by omega,?_⟩
     refine Xx [true,true,true,true,true,true,true,true,true,true,false,false] ?_ ?_<;>intro n_<;>simp only[sM,plC,sgC,wkC,sk]
  ·obtain rfl:i=L.length:=by omega
   obtain⟨ha,ho⟩:=hWl L.length
   obtain⟨w,hw'⟩:∃w,w=WK L.length:=⟨_,rfl⟩
   rw[← hw'] at hRW hRO hRE ha ho
   simp only[← hw']
   clear hWS hW0 hWl hEW
   cases hlost:w.lost with
   |true=>
    rw[hlost,if_pos rfl] at hRW hRO hRE
    subst hRW hRO hRE
    repeat' (first|(with_reducible first|refine Vk fun K hK=> ?_|refine V0 ?_|refine Vb ?_|refine Vc ?_|refine Vr ?_|refine Vs ?_|apply And.intro|refine Vq (by kernel_rfl) ?_)|((with_reducible first|refine gE ?_|refine gR ?_);simp only[zA,simprocAttr,Xi hm,wkC,hlt,hlost,X0])|exact Vn|((with_reducible refine Vg (fun hg=> ?_) (fun hg=> ?_))<;>(try simp only[nb] at hg)<;>simp only[zA,simprocAttr,hg,Xi hm,wkC,hlt,hlost,X0])|((with_reducible refine Vx ?_);simp only[sb])|(refine hK _ ?_;clear hK K)|refine Vt rfl ?_|refine Vf rfl ?_|refine Vi rfl (fun hg=> ?_) (fun hg=> ?_)|clear hK K)
    refine Vz ?_
    refine Xuy (.inr rfl) rfl rfl rfl (fun _ _=>rfl) ok130 (k:=m+2) (off:=0) rfl (Xb _ (by simp)) (X6 _ hm 2) rfl rfl rfl ?_
    simp only[wyA,wyC,Y2w,List.map_nil,List.take,sL,ti130]
   |false=>
    rw[hlost,if_neg (by decide)] at hRW hRO hRE
    obtain⟨F,hF⟩:∃F:Nat→Wk,F=fun i=>Xsk w (r.flanks.take i):=⟨_,rfl⟩
    have hF0:F 0=w:=by rw[hF];rfl
    have hFS:∀i (hi:i<r.flanks.length),F (i+1)=Xps (F i) r.flanks[i].1 r.flanks[i].2 (-1):=fun i hi=>by rw[hF];exact Xw3 hi w
    have hFl:∀i,(F i).asks.length≤40+i∧(F i).outs=w.outs:=fun i=>by
     rw[hF]
     have:=Xu1 w (r.flanks.take i)
     rw[List.length_take] at this
     exact⟨by dsimp only;omega,this.2.1⟩
    have hFe:Xsk w r.flanks=F r.flanks.length:=by rw[hF];dsimp only;rw[List.take_length]
    rw[hFe] at hRW
    subst hRW hRO hRE
    clear hF
    repeat' (first|(with_reducible first|refine Vk fun K hK=> ?_|refine V0 ?_|refine Vb ?_|refine Vc ?_|refine Vr ?_|refine Vs ?_|apply And.intro|refine Vq (by kernel_rfl) ?_)|((with_reducible first|refine gE ?_|refine gR ?_);simp only[zA,simprocAttr,Xi hm,rtC,wkC,hlt,hlost])|exact Vn|((with_reducible refine Vg (fun hg=> ?_) (fun hg=> ?_))<;>(try simp only[nb] at hg)<;>simp only[zA,simprocAttr,hg,Xi hm,rtC,wkC,hlt,hlost,List.length_map])|((with_reducible refine Vx ?_);simp only[sb])|(refine hK _ ?_;clear hK K)|refine Vt rfl ?_|refine Vf rfl ?_|refine Vi rfl (fun hg=> ?_) (fun hg=> ?_)|clear hK K)
    refine V5 ?_
    refine Xrd (r.flanks.length) (fun m i=>tp [16] (tr 116 10 [(115,i64 (i:Int)),(2,.ptr (m+0) 0),(3,.ptr (m+1) 0),(4,.ptr (m+2) 0),(7,.ptr (m+3) 0),(9,.ptr (m+5) 0)])) (fun m i=>[some (.box 28 (plC p)),some (.box 82 (rtC r)),some (.box 130 [.sl 0 [] .nil,.sl 0 [] .nil,.sl 0 [] .nil,i64 0]),some (.box 92 (sgC en)),some .dead,some (.box 238 (wkC p (F i) (m+6) (m+7))),some (.row 179 3 (F i).asks.length),some (.row 138 2 w.outs.length),some (.row 3 1 (r.path.length+r.over.length)),some .dead,none,none]) ?_ fun m i hm hi=> ?_
    ·refine X2 ?_ ?_ (by first|rfl|(simp only[plC,rtC,sgC,wkC,hF0,hlost,List.length_map];rfl)|simp only[plC,rtC,sgC,wkC,hF0,hlost,List.length_map]) rfl rfl rfl<;>simp only[sL,plC,rtC,sgC,wkC,hF0,hlost]
    simp only[pt]
    have hw2:=Yl (n:=i) 1 1 rfl (by omega)
    by_cases hltf:i<r.flanks.length
    ·have gf:=Xg jnC r.flanks i [] hltf
     have cA:=Xxj p (F i) (m+5) (m+6) (m+7) (by omega) r.flanks[i].1 r.flanks[i].2 (-1) (by have:=(hFl i).1;omega)
     rw[← hFS i hltf] at cA
     repeat' (first|(with_reducible first|refine Vk fun K hK=> ?_|refine V0 ?_|refine Vb ?_|refine Vc ?_|refine Vr ?_|refine Vs ?_|apply And.intro|refine Vq (by kernel_rfl) ?_)|((with_reducible first|refine gE ?_|refine gR ?_);simp only[zA,simprocAttr,Xi hm,rtC,jnC,X0,Xjn hm,hltf,gf,hw2])|exact Vn|(refine Xk cA (X6 _ hm 5) (X6 _ hm 6) (Xb _ (by simp)) (Xb _ (by simp)) (by simp) (by simp) ?_)|((with_reducible refine Vg (fun hg=> ?_) (fun hg=> ?_))<;>(try simp only[nb] at hg)<;>simp only[zA,simprocAttr,hg,Xi hm,rtC,jnC,List.length_map,X0,Xjn hm,hltf,gf,hw2])|((with_reducible refine Vx ?_);simp only[sb,reduceIte,Nat.reduceEqDiff])|(refine hK _ ?_;clear hK K)|refine Vt rfl ?_|refine Vf rfl ?_|refine Vi rfl (fun hg=> ?_) (fun hg=> ?_)|clear hK K)
     refine⟨i+1,by omega,by omega,?_⟩
     refine Xx [true,true,true,true,true,true,true,true,true,true,false,false] ?_ ?_<;>intro n_<;>simp only[sM,plC,sgC,wkC,sk]
    ·obtain rfl:i=r.flanks.length:=by omega
     have k1:=Xez (r.path.map Ym) (by simp;omega)
     have k2:=Xez (r.over.map Ym) (by simp;omega)
     have ho3:=(hFl r.flanks.length).2
     repeat' (first|(with_reducible first|refine Vk fun K hK=> ?_|refine V0 ?_|refine Vb ?_|refine Vc ?_|refine Vr ?_|refine Vs ?_|apply And.intro|refine Vd 28 [] [[],[1],[],[],[1],[],[],[],[],[5],[],[3],[],[],[],[],[5],[2],[],[]] [[],[],[],[],[],[],[],[],[],[],[],[],[],[],[],[],[],[2],[],[]] (by kernel_rfl) (by decide) (by decide) (by kernel_rfl) ?_|refine Vq (by kernel_rfl) ?_)|((with_reducible first|refine gE ?_|refine gR ?_|refine gD ?_|refine gF ?_);simp only[zA,simprocAttr,Xi hm,rtC,wkC,sgC,hltf,X0])|exact Vn|(refine X3 (k1) ?_)|(refine X3 (k2) ?_)|((with_reducible refine Vg (fun hg=> ?_) (fun hg=> ?_))<;>(try simp only[nb] at hg)<;>simp only[zA,simprocAttr,hg,Xi hm,rtC,wkC,sgC,hltf,X0])|((with_reducible refine Vx ?_);simp only[sb])|(refine hK _ ?_;clear hK K)|refine Vt rfl ?_|refine Vf rfl ?_|refine Vi rfl (fun hg=> ?_) (fun hg=> ?_)|clear hK K)
     refine Vz ?_
     refine Xuy (.inr rfl) rfl rfl rfl (fun _ _=>rfl) ok130 (k:=m+2) (off:=0) rfl (Xb _ (by simp)) (X6 _ hm 2) rfl rfl rfl ?_
     simp only[wyA,wyC,ho3,List.take,sL,ti130]
end Go.Proofs.YtdngdjbgmojcoaaGreat.Pln
