/- The layer of abstract values, joined. -/
import Derived.Test.YtdngdjbgmojcoaaGreatZPR
import Derived.Test.YtdngdjbgmojcoaaGreatZKH
import Derived.Test.YtdngdjbgmojcoaaGreatZR5
import Derived.Test.YtdngdjbgmojcoaaGreatZK32
import Derived.Test.YtdngdjbgmojcoaaGreatZKC
import Derived.Test.YtdngdjbgmojcoaaGreatZQD
namespace Go.Proofs.YtdngdjbgmojcoaaGreat.Pln
set_option linter.all false
set_option maxHeartbeats 16000000
set_option maxRecDepth 4000
open Go Go.VS Tab
attribute [local irreducible] AWp Xp0 Pg X5c Qy Lt Tp FdT Eb
theorem G3 {p:Pl} (h:Uf p=true):(nuP p).length<=700:=by
 have h1:=R7 h;rw[Bd] at h1;have h2:∀l:List Int,(∀x,x∈l->nOk x)->l.length<=(l.flatMap Y3m).length:=fun l hl=>by
  induction l with
  |nil=>simp
  |cons x l ih=>
   have:=ih fun y hy=>hl y (bz _ hy);have:=R9 (hl x (cy ..));rw[bw,ac,List.length_cons];omega
 have:=h2 _ (Bg h);omega
theorem X93 (a b c d:Int) (σ:AState) (K:AV->List (Nat×Res)->Prop):X1 tab σ K none 61 4 [(0,i64 a),(1,i64 b),(2,i64 c),(3,i64 d)]=K (.sl 1 [[i64 a],[i64 b],[i64 c],[i64 d]] .full) []:=by
 have h1:tab 61=some ti61:=rfl;have h2:ti61.desc= .slice 3:=rfl;have h3:tab 3=some ti3:=rfl;have h4:ti3.size=1:=rfl;have hr:U4 (fun i=>some (i*ti3.size,ti3.size)) (Y7 ti3.zero (4*ti3.size)) [(0,i64 a),(1,i64 b),(2,i64 c),(3,i64 d)]=some [i64 a,i64 b,i64 c,i64 d]:=rfl;simp only[X1,h1,h2,h3,hr];simp [h4,Yh]
theorem G4 (l:List (Int×Int)):(l.flatMap nuJ).length=l.length*2:=by
 induction l with
 |nil=>rfl
 |cons x l ih=>rw[bw,ac,ih,List.length_cons];simp [nuJ];omega
theorem Ec (p:Pl) (h:Uf p=true):Xr Tryz.prog 112 [plA p] [] (.sl 1 ((nuP p).map Ym) .sh) []:=by
 have hlen:=G3 h;obtain⟨_,_,q1,_,q2,_,q3,_,q4,_⟩:=Us h;obtain⟨A0,e0⟩:∃A:List Int,A=[p.ver,p.par,(p.secs.length:Int)]:=⟨_,rfl⟩
 obtain⟨A1,e1⟩:∃A:List Int,A=A0++p.secs.flatMap nuS++[(p.pts.length:Int)]:=⟨_,rfl⟩
 obtain⟨A2,e2⟩:∃A:List Int,A=A1++p.pts.flatMap nuJ++[(p.sgs.length:Int)]:=⟨_,rfl⟩
 obtain⟨A3,e3⟩:∃A:List Int,A=A2++p.sgs.flatMap nuG++[(p.rts.length:Int)]:=⟨_,rfl⟩
 have e4:nuP p=A3++p.rts.flatMap nuR:=by rw[e3,e2,e1,e0];simp [nuP,nuL,aq]
 rw[e4] at hlen⊢;have l0:A0.length=3:=by rw[e0];rfl
 have l1:A1.length=A0.length+(p.secs.flatMap nuS).length+1:=by rw[e1];simp [ac];omega
 have l2:A2.length=A1.length+(p.pts.flatMap nuJ).length+1:=by rw[e2];simp [ac];omega
 have l3:A3.length=A2.length+(p.sgs.flatMap nuG).length+1:=by rw[e3];simp [ac];omega
 rw[ac] at hlen;clear e4;obtain⟨Z,hZ⟩:∃Z,Z=A3++p.rts.flatMap nuR:=⟨_,rfl⟩
 rw[<- hZ];refine Xc 3 Tryz.func112 rfl fun n out _ _=> ?_;simp only[sn,Tryz.ntmps112,simprocAttr];refine Vy fun K hK=> ?_;simp only[zA,simprocAttr,plA,plC]
 (refine hK _ ?_;clear hK K)
 refine Vy fun K hK=> ?_;simp only[zB,simprocAttr,X5i]
 (refine hK _ ?_;clear hK K)
 have eA0:AV.sl 1 [[i64 p.ver],[i64 p.par],[i64 (p.secs.length:Int)]] .full= .sl 1 (A0.map Ym) .full:=by rw[e0];rfl
 rw[eA0];refine Vk fun KB hKB=> ?_;refine Vy fun K hK=> ?_;simp only[zA,simprocAttr]
 (refine hK _ ?_;clear hK K)
 apply V5;refine Xrd (p.secs.length) (fun m i=>tp [5,6] (tr 20 41 [(4,i64 (i:Int)),(1,.ptr (m+0) 0),(3,if i=0 then .sl 1 (A0.map Ym) .full else .sl 1 ((A0++(p.secs.take i).flatMap nuS).map Ym) (.own (m+2)))])) (fun m i=>[some (.box 28 (plC p)),none,if i=0 then none else some (.row 3 1 (A0++(p.secs.take i).flatMap nuS).length)]) ?_ fun m i hm hi=> ?_
 ·refine X2 ?_ ?_ (by first|rfl|(simp only[if_true,plC];rfl)|simp only[if_true,plC]) rfl rfl rfl<;>simp only[sL,if_true,plC]
 simp only[pt];have hw:=Yl (n:=i) 1 1 rfl (by omega);obtain⟨B,hB⟩:∃B,B=A0++(p.secs.take i).flatMap nuS:=⟨_,rfl⟩
 have hfl:=Xon nuS p.secs i;have hBl:B.length=3+((p.secs.take i).flatMap nuS).length:=by rw[hB,ac,l0]
 have hB0:i=0->B=A0:=fun h=>by rw[hB,h];simp
 rw[<- hB];refine Vk fun K hK=> ?_;by_cases hlt:i<p.secs.length
 ·have gi:=Xg Y6 p.secs i [] hlt;obtain⟨s,hs⟩:∃s,s=p.secs[i]:=⟨_,rfl⟩
  have hfl1:=Xon nuS p.secs (i+1);rw[Y3 nuS p.secs i hlt,ac] at hfl1;have hB':A0++(p.secs.take (i+1)).flatMap nuS=B++[s.id,s.pt]++s.ends.flatMap nuJ:=by
   rw[Y3 nuS p.secs i hlt,hB,<- hs];simp [nuS]
  rw[<- hs] at gi hfl1;have hnS:(nuS s).length=2+(s.ends.flatMap nuJ).length:=by simp [nuS];omega
  have hs2:=G4 s.ends;obtain⟨C,hC⟩:∃C,C=B++[s.id,s.pt]:=⟨_,rfl⟩
  have hCl:C.length=B.length+2:=by rw[hC,ac];rfl
  rw[<- hC] at hB';refine Vy fun K hK=> ?_;simp only[zA,simprocAttr,Xi hm,hlt,plC]
  (refine hK _ ?_;clear hK K)
  refine Wm rfl ?_;refine Xhj ?_;simp only[Qd,Z4,if_true];refine hK _ ?_;clear hK K;refine Vk fun K hK=>Xe ?_;refine Vy fun K hK=> ?_;simp only[zA,simprocAttr,Xi hm,hlt,plC,gi,Y6,X0]
  (refine hK _ ?_;clear hK K)
  refine Qf [(3,.sl 1 (C.map Ym) (.own (m+2))),(32,.top),(33,.top),(34,.top),(35,.top),(36,.top),(37,.top),(38,.top)] [some (.box 28 (plC p)),some (.box 75 (Y6 s)),some (.row 3 1 C.length)] out (id ?_) ?_;rotate_left
  ·have y1:(B.length+2)*8<=140737488355328:=by omega
   have y2:B.length+2<=9223372036854775807:=by omega
   have eC:B.map Ym++[[i64 s.id],[i64 s.pt]]=C.map Ym:=by rw[hC,aw];rfl
   by_cases hi:i=0
   ·rw[if_pos hi,if_pos hi,<- hB0 hi];refine Xn Xj [(38,none)] ?_;simp only[zB,simprocAttr,Xi hm,B6,Y6,y1,y2,eC];refine .inl ?_;refine La rfl ?_ ?_<;>simp only[sL,hCl,plC]
   ·rw[if_neg hi,if_neg hi];refine Xn Xj [] ?_;simp only[zB,simprocAttr,Xi hm,B6,Y6,y1,y2,eC];refine .inl ?_;refine La rfl ?_ ?_<;>simp only[sL,hCl,plC]
  simp only[pt];repeat' (first|refine Vk fun K hK=> ?_|apply V0|(apply gE;simp only[zA,simprocAttr])|(refine hK _ ?_;clear hK K))
  apply V5;refine Xwm (s.ends.length) (fun k=>tr 39 22 [(6,i64 (k:Int)),(3,.sl 1 ((C++(s.ends.take k).flatMap nuJ).map Ym) (.own (m+2)))]) (fun k=>[some (.box 28 (plC p)),some (.box 75 (Y6 s)),some (.row 3 1 (C++(s.ends.take k).flatMap nuJ).length)]) ?_ fun k hk=> ?_
  ·refine X2 ?_ ?_ (by first|rfl|(simp only[List.take_zero,bv,a9];rfl)|simp only[List.take_zero,bv,a9]) rfl rfl rfl<;>simp only[sL,bv,a9]
  simp only[pt];have hwk:=Yl (n:=k) 1 1 rfl (by omega);by_cases hk1:k<s.ends.length
  ·have gk:=Xg jnC s.ends k [] hk1;have hf:=Xon nuJ s.ends k;obtain⟨D,hD⟩:∃D,D=C++(s.ends.take k).flatMap nuJ:=⟨_,rfl⟩
   have hDl:D.length=C.length+((s.ends.take k).flatMap nuJ).length:=by rw[hD,ac]
   have hD':C++(s.ends.take (k+1)).flatMap nuJ=D++[s.ends[k].1,s.ends[k].2]:=by rw[Y3 nuJ s.ends k hk1,hD,aq];rfl
   rw[<- hD];have y1:(D.length+2)*8<=140737488355328:=by omega
   have y2:D.length+2<=9223372036854775807:=by omega
   have eD:D.map Ym++[[i64 s.ends[k].1],[i64 s.ends[k].2]]=(D++[s.ends[k].1,s.ends[k].2]).map Ym:=by rw[aw];rfl
   have eL:(D++[s.ends[k].1,s.ends[k].2]).length=D.length+2:=by rw[ac];rfl
   repeat' (first|refine Vk fun K hK=> ?_|apply V0|apply Vr|apply Vs|refine Vd 10 [] [[],[],[1],[],[],[],[],[],[1],[],[],[],[],[],[2],[]] [[],[],[],[],[],[],[],[],[],[],[],[],[],[],[2],[]] (by kernel_rfl) (by decide) (by decide) (by kernel_rfl) ?_|((first|apply gE|apply gD);simp only[zB,simprocAttr,B6,Xi hm,Y6,jnC,hk1,gk,hwk,y1,y2,eD])|(refine hK _ ?_;clear hK K)|refine Vt rfl ?_|clear hK K)
   refine⟨k+1,by omega,by omega,?_⟩;rw[hD',eL];refine La rfl ?_ ?_<;>simp only[sL]
  ·obtain rfl:k=s.ends.length:=by omega
   rw[bi] at*;repeat' (first|refine Vk fun K hK=> ?_|apply V0|(apply gE;simp only[zA,simprocAttr,Xi hm,Y6,hk1,hw])|(apply Vx;simp only[sb,Nat.reduceEqDiff])|(refine hK _ ?_;clear hK K)|refine Vf rfl ?_|clear hK K)
   refine⟨i+1,by omega,by omega,?_⟩;rw[hB'];refine Xx [true,false,true] ?_ ?_<;>intro n_<;>simp only[sM,fb,if_false,plC]
 ·obtain rfl:i=p.secs.length:=by omega
  refine Vy fun K hK=> ?_;simp only[zA,simprocAttr,Xi hm,hlt,plC]
  (refine hK _ ?_;clear hK K)
  refine Uy rfl ?_;refine Qi ?_;simp only[Qd,Z4,if_true,if_false,reduceIte,Nat.reduceEqDiff];refine hKB _ ?_;clear hKB KB hK K;have eA1:A1=B++[(p.pts.length:Int)]:=by rw[e1,hB,bi]
  have hBl1:A1.length=B.length+1:=by rw[eA1,ac];rfl
  refine Qf [(3,.sl 1 (A1.map Ym) (.own (m+2))),(61,.top),(62,.top),(63,.top),(64,.top),(65,.top),(66,.top)] [some (.box 28 (plC p)),none,some (.row 3 1 A1.length)] out (id ?_) ?_;rotate_left
  ·have y1:(B.length+1)*8<=140737488355328:=by omega
   have y2:B.length+1<=9223372036854775807:=by omega
   have eC:B.map Ym++[[i64 (p.pts.length:Int)]]=A1.map Ym:=by rw[eA1,aw];rfl
   by_cases hi:p.secs.length=0
   ·rw[if_pos hi,if_pos hi,<- hB0 hi];repeat' (first|(refine Ve [(66,some (m+2))] ?_)|(apply gE;simp only[zB,simprocAttr,Xi hm,Mr,plC,y1,y2,eC]))
    refine .inl ?_;refine La rfl ?_ ?_<;>simp only[sL,hBl1]
   ·rw[if_neg hi,if_neg hi];refine Xn Xj [] ?_;simp only[zB,simprocAttr,Xi hm,Mr,plC,y1,y2,eC];refine .inl ?_;refine La rfl ?_ ?_<;>simp only[sL,hBl1]
  simp only[pt];clear hB hBl hB0 eA1 hBl1 hfl;repeat' (first|refine Vk fun K hK=> ?_|apply V0|(apply gE;simp only[zA,simprocAttr])|(refine hK _ ?_;clear hK K))
  apply V5;refine Xwm (p.pts.length) (fun i=>tr 67 22 [(7,i64 (i:Int)),(3,.sl 1 ((A1++(p.pts.take i).flatMap nuJ).map Ym) (.own (m+2)))]) (fun i=>[some (.box 28 (plC p)),none,some (.row 3 1 (A1++(p.pts.take i).flatMap nuJ).length)]) ?_ fun i hi=> ?_
  ·refine X2 ?_ ?_ (by first|rfl|(simp only[List.take_zero,bv,a9,plC];rfl)|simp only[List.take_zero,bv,a9,plC]) rfl rfl rfl<;>simp only[sL,bv,a9,plC]
  simp only[pt];have hw:=Yl (n:=i) 1 1 rfl (by omega);have hf:=Xon nuJ p.pts i;obtain⟨D,hD⟩:∃D,D=A1++(p.pts.take i).flatMap nuJ:=⟨_,rfl⟩
  have hDl:D.length=A1.length+((p.pts.take i).flatMap nuJ).length:=by rw[hD,ac]
  by_cases hk1:i<p.pts.length
  ·have gk:=Xg jnC p.pts i [] hk1;obtain⟨x,hx⟩:∃x,x=p.pts[i]:=⟨_,rfl⟩
   have hD':A1++(p.pts.take (i+1)).flatMap nuJ=D++[x.1,x.2]:=by rw[Y3 nuJ p.pts i hk1,hD,<- hx,aq];rfl
   rw[<- hx] at gk;rw[<- hD];have y1:(D.length+2)*8<=140737488355328:=by omega
   have y2:D.length+2<=9223372036854775807:=by omega
   have eD:D.map Ym++[[i64 x.1],[i64 x.2]]=(D++[x.1,x.2]).map Ym:=by rw[aw];rfl
   have eL:(D++[x.1,x.2]).length=D.length+2:=by rw[ac];rfl
   repeat' (first|refine Vk fun K hK=> ?_|apply V0|apply Vr|apply Vs|refine Vd 15 [] [[],[],[0],[],[],[],[],[],[0],[],[],[],[],[],[2],[]] [[],[],[],[],[],[],[],[],[],[],[],[],[],[],[2],[]] (by kernel_rfl) (by decide) (by decide) (by kernel_rfl) ?_|((first|apply gE|apply gD);simp only[zB,simprocAttr,B6,Xi hm,plC,jnC,hk1,gk,hw,y1,y2,eD])|(refine hK _ ?_;clear hK K)|refine Vt rfl ?_|clear hK K)
   refine⟨i+1,by omega,by omega,?_⟩;rw[hD',eL];refine La rfl ?_ ?_<;>simp only[sL]
  ·obtain rfl:i=p.pts.length:=by omega
   rw[bi] at*;rw[<- hD];have y1:A2.length*8<=140737488355328:=by omega
   have y2:A2.length<=9223372036854775807:=by omega
   have eA:A2=D++[(p.sgs.length:Int)]:=by rw[e2,hD]
   have eC:D.map Ym++[[i64 (p.sgs.length:Int)]]=A2.map Ym:=by rw[eA,aw];rfl
   have eL:D.length+1=A2.length:=by rw[eA,ac];rfl
   clear hf hDl;repeat' (first|refine Vk fun K hK=> ?_|apply V0|(apply gE;simp only[zB,simprocAttr,Mr,Xi hm,plC,hk1,y1,y2,eC,eL])|(apply Vx;simp only[sb])|(refine hK _ ?_;clear hK K)|refine Vf rfl ?_|clear hK K)
   apply V5;refine Xwm (p.sgs.length) (fun i=>tr 95 28 [(8,i64 (i:Int)),(3,.sl 1 ((A2++(p.sgs.take i).flatMap nuG).map Ym) (.own (m+2)))]) (fun i=>[some (.box 28 (plC p)),none,some (.row 3 1 (A2++(p.sgs.take i).flatMap nuG).length)]) ?_ fun i hi=> ?_
   ·refine X2 ?_ ?_ (by first|rfl|(simp only[List.take_zero,bv,a9,plC];rfl)|simp only[List.take_zero,bv,a9,plC]) rfl rfl rfl<;>simp only[sL,bv,a9,plC]
   simp only[pt];have hw:=Yl (n:=i) 1 1 rfl (by omega);have hf:=Xon nuG p.sgs i;obtain⟨D,hD⟩:∃D,D=A2++(p.sgs.take i).flatMap nuG:=⟨_,rfl⟩
   have hDl:D.length=A2.length+((p.sgs.take i).flatMap nuG).length:=by rw[hD,ac]
   by_cases hk1:i<p.sgs.length
   ·have gk:=Xg sgC p.sgs i [] hk1;obtain⟨x,hx⟩:∃x,x=p.sgs[i]:=⟨_,rfl⟩
    have hD':A2++(p.sgs.take (i+1)).flatMap nuG=D++[x.1,x.2.1,x.2.2]:=by rw[Y3 nuG p.sgs i hk1,hD,<- hx,aq];rfl
    rw[<- hx] at gk;rw[<- hD];have y1:(D.length+3)*8<=140737488355328:=by omega
    have y2:D.length+3<=9223372036854775807:=by omega
    have eD:D.map Ym++[[i64 x.1],[i64 x.2.1],[i64 x.2.2]]=(D++[x.1,x.2.1,x.2.2]).map Ym:=by rw[aw];rfl
    have eL:(D++[x.1,x.2.1,x.2.2]).length=D.length+3:=by rw[ac];rfl
    repeat' (first|refine Vk fun K hK=> ?_|apply V0|apply Vr|apply Vs|refine Vd 20 [] [[],[],[0],[],[],[],[],[],[0],[],[],[],[],[],[0],[],[],[],[],[],[2],[]] [[],[],[],[],[],[],[],[],[],[],[],[],[],[],[],[],[],[],[],[],[2],[]] (by kernel_rfl) (by decide) (by decide) (by kernel_rfl) ?_|((first|apply gE|apply gD);simp only[zB,simprocAttr,X5i,Xi hm,plC,sgC,hk1,gk,hw,y1,y2,eD])|(refine hK _ ?_;clear hK K)|refine Vt rfl ?_|clear hK K)
    refine⟨i+1,by omega,by omega,?_⟩;rw[hD',eL];refine La rfl ?_ ?_<;>simp only[sL]
   ·obtain rfl:i=p.sgs.length:=by omega
    rw[bi] at*;rw[<- hD];have y1:A3.length*8<=140737488355328:=by omega
    have y2:A3.length<=9223372036854775807:=by omega
    have eA:A3=D++[(p.rts.length:Int)]:=by rw[e3,hD]
    have eC:D.map Ym++[[i64 (p.rts.length:Int)]]=A3.map Ym:=by rw[eA,aw];rfl
    have eL:D.length+1=A3.length:=by rw[eA,ac];rfl
    clear hf hDl;repeat' (first|refine Vk fun K hK=> ?_|apply V0|(apply gE;simp only[zB,simprocAttr,Mr,Xi hm,plC,hk1,y1,y2,eC,eL])|(apply Vx;simp only[sb])|(refine hK _ ?_;clear hK K)|refine Vf rfl ?_|clear hK K)
    apply V5;refine Xrd (p.rts.length) (fun m i=>tp [10,11] (tr 129 71 [(9,i64 (i:Int)),(1,.ptr (m+0) 0),(3,.sl 1 ((A3++(p.rts.take i).flatMap nuR).map Ym) (.own (m+2)))])) (fun m i=>[some (.box 28 (plC p)),none,some (.row 3 1 (A3++(p.rts.take i).flatMap nuR).length)]) ?_ fun m i hm hi=> ?_
    ·refine X2 ?_ ?_ (by first|rfl|(simp only[List.take_zero,bv,a9,plC];rfl)|simp only[List.take_zero,bv,a9,plC]) rfl rfl rfl<;>simp only[sL,bv,a9,plC]
    simp only[pt];have hw:=Yl (n:=i) 1 1 rfl (by omega);have hf:=Xon nuR p.rts i;obtain⟨D,hD⟩:∃D,D=A3++(p.rts.take i).flatMap nuR:=⟨_,rfl⟩
    have hDl:D.length=A3.length+((p.rts.take i).flatMap nuR).length:=by rw[hD,ac]
    by_cases hk1:i<p.rts.length
    ·have gk:=Xg rtC p.rts i [] hk1;obtain⟨r,hr⟩:∃r,r=p.rts[i]:=⟨_,rfl⟩
     have hf1:=Xon nuR p.rts (i+1);rw[Y3 nuR p.rts i hk1,ac,<- hr] at hf1;rw[<- hr] at gk;obtain⟨E1,h1⟩:∃E,E=D++[r.id,r.entry,r.ex,(r.path.length:Int)]:=⟨_,rfl⟩
     obtain⟨E2,h2⟩:∃E,E=E1++r.path:=⟨_,rfl⟩
     obtain⟨E3,h3⟩:∃E,E=E2++[(r.over.length:Int)]:=⟨_,rfl⟩
     obtain⟨E4,h4⟩:∃E,E=E3++r.over:=⟨_,rfl⟩
     obtain⟨E5,h5⟩:∃E,E=E4++[(r.flanks.length:Int)]:=⟨_,rfl⟩
     have hD':A3++(p.rts.take (i+1)).flatMap nuR=E5++r.flanks.flatMap nuJ++[r.timer]:=by
      rw[Y3 nuR p.rts i hk1,<- hr,<- aq,<- hD,h5,h4,h3,h2,h1];have e:∀l:List Int,l.flatMap nuI=l:=fun l=>by induction l with|nil=>rfl|cons x l ih=>rw[bw,ih];rfl
      simp [nuR,nuL,e,aq]
     have k1:E1.length=D.length+4:=by rw[h1,ac];rfl
     have k2:E2.length=E1.length+r.path.length:=by rw[h2,ac]
     have k3:E3.length=E2.length+1:=by rw[h3,ac];rfl
     have k4:E4.length=E3.length+r.over.length:=by rw[h4,ac]
     have k5:E5.length=E4.length+1:=by rw[h5,ac];rfl
     have hnl:=congrArg List.length hD';rw[Y3 nuR p.rts i hk1,<- hr] at hnl;simp only[ac,List.length_singleton] at hnl;have m1:D.map Ym++[[i64 r.id],[i64 r.entry],[i64 r.ex],[i64 (r.path.length:Int)]]=E1.map Ym:=by rw[h1,aw];rfl
     have m2:E1.map Ym++r.path.map Ym=E2.map Ym:=by rw[h2,aw]
     have m3:E2.map Ym++[[i64 (r.over.length:Int)]]=E3.map Ym:=by rw[h3,aw];rfl
     have m4:E3.map Ym++r.over.map Ym=E4.map Ym:=by rw[h4,aw]
     have m5:E4.map Ym++[[i64 (r.flanks.length:Int)]]=E5.map Ym:=by rw[h5,aw];rfl
     have hj2:=G4 r.flanks;have hDn:E1.length*8<=140737488355328∧E2.length*8<=140737488355328∧E3.length*8<=140737488355328∧E4.length*8<=140737488355328∧E5.length*8<=140737488355328:=⟨by omega,by omega,by omega,by omega,by omega⟩
     have hDm:E1.length<=9223372036854775807∧E2.length<=9223372036854775807∧E3.length<=9223372036854775807∧E4.length<=9223372036854775807∧E5.length<=9223372036854775807:=⟨by omega,by omega,by omega,by omega,by omega⟩
     rw[<- hD];repeat' (first|refine Vk fun K hK=> ?_|apply V0|apply Vb|apply Vs|(apply gE;simp only[zB,simprocAttr,X93,Mr,Xi hm,plC,rtC,X0,hk1,gk,m1,m2,m3,m4,m5,hDn,hDm,<- k1,<- k2,<- k3,<- k4,<- k5])|(refine hK _ ?_;clear hK K)|refine Vt rfl ?_)
     apply V5;refine Xwm (r.flanks.length) (fun k=>tr 173 22 [(11,i64 (k:Int)),(3,.sl 1 ((E5++(r.flanks.take k).flatMap nuJ).map Ym) (.own (m+2)))]) (fun k=>[some (.box 28 (plC p)),some (.box 82 (rtC r)),some (.row 3 1 (E5++(r.flanks.take k).flatMap nuJ).length)]) ?_ fun k hk=> ?_
     ·refine X2 ?_ ?_ (by first|rfl|(simp only[List.take_zero,bv,a9,plC,rtC];rfl)|simp only[List.take_zero,bv,a9,plC,rtC]) rfl rfl rfl<;>simp only[sL,bv,a9,plC,rtC]
     simp only[pt];have hwk:=Yl (n:=k) 1 1 rfl (by omega);have hfk:=Xon nuJ r.flanks k;obtain⟨F,hF⟩:∃F,F=E5++(r.flanks.take k).flatMap nuJ:=⟨_,rfl⟩
     have hFl:F.length=E5.length+((r.flanks.take k).flatMap nuJ).length:=by rw[hF,ac]
     rw[<- hF];by_cases hk2:k<r.flanks.length
     ·have gf:=Xg jnC r.flanks k [] hk2;have hF':E5++(r.flanks.take (k+1)).flatMap nuJ=F++[r.flanks[k].1,r.flanks[k].2]:=by rw[Y3 nuJ r.flanks k hk2,hF,aq];rfl
      have y1:(F.length+2)*8<=140737488355328:=by omega
      have y2:F.length+2<=9223372036854775807:=by omega
      have eD:F.map Ym++[[i64 r.flanks[k].1],[i64 r.flanks[k].2]]=(F++[r.flanks[k].1,r.flanks[k].2]).map Ym:=by rw[aw];rfl
      have eL:(F++[r.flanks[k].1,r.flanks[k].2]).length=F.length+2:=by rw[ac];rfl
      repeat' (first|refine Vk fun K hK=> ?_|apply V0|apply Vr|apply Vs|refine Vd 34 [] [[],[],[1],[],[],[],[],[],[1],[],[],[],[],[],[2],[]] [[],[],[],[],[],[],[],[],[],[],[],[],[],[],[2],[]] (by kernel_rfl) (by decide) (by decide) (by kernel_rfl) ?_|((first|apply gE|apply gD);simp only[zB,simprocAttr,B6,Xi hm,rtC,jnC,hk2,gf,hwk,y1,y2,eD])|(refine hK _ ?_;clear hK K)|refine Vt rfl ?_|clear hK K)
      refine⟨k+1,by omega,by omega,?_⟩;rw[hF',eL];refine La rfl ?_ ?_<;>simp only[sL,plC]
     ·obtain rfl:k=r.flanks.length:=by omega
      rw[bi] at*;have y1:(F.length+1)*8<=140737488355328:=by omega
      have y2:F.length+1<=9223372036854775807:=by omega
      have eD:F.map Ym++[[i64 r.timer]]=(F++[r.timer]).map Ym:=by rw[aw];rfl
      have eL:(F++[r.timer]).length=F.length+1:=by rw[ac];rfl
      rw[<- hF] at hD';repeat' (first|refine Vk fun K hK=> ?_|apply V0|(apply gE;simp only[zB,simprocAttr,Mr,Xi hm,plC,rtC,hk2,hw,y1,y2,eD])|(apply Vx;simp only[sb,Nat.reduceEqDiff])|(refine hK _ ?_;clear hK K)|refine Vf rfl ?_|clear hK K)
      refine⟨i+1,by omega,by omega,?_⟩;rw[hD',eL];refine Xx [true,false,true] ?_ ?_<;>intro n_<;>simp only[sM]
    ·obtain rfl:i=p.rts.length:=by omega
     rw[bi] at*;obtain rfl:Z=D:=hZ.trans hD.symm;rw[<- hZ];repeat' (first|refine Vk fun K hK=> ?_|apply V0|(apply gE;simp only[zA,simprocAttr,Xi hm,plC,hk1])|(apply Vz;(try refine Or.inr ⟨(by intro h;cases h),?_⟩);refine Xv (.inr rfl) rfl rfl rfl (fun _ _=>rfl) ?_ rfl<;>first|rfl|(exact AV.le.rfl _)|(simp only[sL];done)|rfl|skip)|(apply Vx;simp only[sb])|(refine hK _ ?_;clear hK K)|refine Vf rfl ?_|clear hK K)
theorem B8 (k:Nat) (p:Pl) (h:Uf p=true):Xr Tryz.prog 59 [plA p] [(k,none)] (.sl 1 (Xo (Wg p)) (.own k)) [(k,.row 5 1 (Wg p).length)]:=by
 have c1:=Ec p h;have hl:=G3 h;have c2:=fun k=>X30 k (nuP p) (Bg h) (by omega);rw[<- Bd] at c2;simp only[plA,plC] at c1;refine Xc 1 Tryz.func59 rfl fun n out _ _=> ?_;simp only[sn,Tryz.ntmps59,simprocAttr];rename_i hneeds hgv;obtain⟨hk,_⟩:=hneeds;obtain⟨hkn,_⟩:=hgv;repeat' (first|refine Vk fun K hK=> ?_|apply V0|((first|apply gE|apply gR);simp only[zA,simprocAttr,plA,plC,Cz hkn])|(apply Vz;refine Vo rfl rfl rfl (fun _ _=>rfl) ?_<;>first|rfl|skip)|(refine X3 (c1) ?_)|(refine Sb (c2 k) (by rw[X8 hkn];exact hk) (by rw[X7 hkn];trivial) (by simp) ?_)|(refine hK _ ?_;clear hK K))
theorem Pi (p:Pl) (h:Uf p=true):Xr Tryz.prog 59 [plA p] [] (.sl 1 (Xo (Wg p)) .sh) []:=Lc (fun k=>B8 k p h) fun k=> .sh _ _ _
theorem Xz7 (t:List UInt8) (ht:t.length<=65536):Xr Tryz.prog 54 [.sl 1 (Xo t) .sh] [] (.tup [.sl 1 (Xo (Xoh t)) .sh,i64 0]) []:=by
 have cP:=fun k=>Xr4 k (t.length:Int) ⟨by omega,by omega⟩;have z1:decide ((t.length:Int)>65536)=false:=by simp;omega
 have z2:=R5 (t.length:Int);have y1:(Y3m (t.length:Int)).length+t.length<=140737488355328:=by omega
 have y2:(Y3m (t.length:Int)).length+t.length<=9223372036854775807:=by omega
 have y3:t.length<=9223372036854775807:=by omega
 unfold Xoh;generalize hP:Y3m (t.length:Int)=P at*;refine Xc 2 Tryz.func54 rfl fun n out _ _=> ?_;simp only[sn,Tryz.ntmps54,simprocAttr];repeat' (first|refine Vk fun K hK=> ?_|apply V0|apply Vs|with_reducible apply ab|((first|apply gE|apply gR);simp only[zA,simprocAttr,X5,z1,y1,y2,L6])|exact Vn|(apply Vz;refine Za (.inr rfl) rfl rfl rfl (fun _ _=>rfl) rfl rfl ?_ ?_<;>first|rfl|(exact AV.le.rfl _)|(simp only[sL];done)|rfl|skip)|(refine Sb (cP (n+0)) (X6 _ (Nat.le_refl _) 0) (Xb _ (by simp)) (by simp) ?_)|(refine hK _ ?_;clear hK K)|refine Vt rfl ?_|refine Vf rfl ?_|refine Vi rfl (fun hg=> ?_) (fun hg=> ?_)|clear hK K)
theorem Xwv (els:List (List AV)) (hl:els.length<=1000000):Xr Tryz.prog 113 [.sl 1 els .sh] [] (.sl 1 els .sh) []:=by
 refine Xbz (fun h=> ?_) ?_
 ·subst h;refine Xc 0 Tryz.func113 rfl fun n out _ _=> ?_;simp only[sn,Tryz.ntmps113,simprocAttr];refine Vy fun K hK=> ?_;simp only[zA,simprocAttr];repeat' (first|(refine hK _ ?_;clear hK K)|with_reducible apply ab)
  refine Vk fun KB hKB=> ?_;refine Vy fun K hK=> ?_;simp only[zA,simprocAttr];repeat' (first|(refine hK _ ?_;clear hK K)|with_reducible apply ab)
  refine Wm rfl ?_;refine Vy fun K hK=> ?_;simp only[zA,simprocAttr];repeat' (first|(refine hK _ ?_;clear hK K)|with_reducible apply ab)
  apply Vz;exact Xv (.inr rfl) rfl rfl rfl (fun _ _=>rfl) ((Py _ _).2 trivial) rfl
 ·refine Xc 0 Tryz.func113 rfl fun n out _ _=> ?_;simp only[sn,Tryz.ntmps113,simprocAttr];refine Vy fun K hK=> ?_;simp only[zA,simprocAttr];repeat' (first|(refine hK _ ?_;clear hK K)|with_reducible apply ab)
  refine Vk fun KB hKB=> ?_;refine Vy fun K hK=> ?_;simp only[zA,simprocAttr];repeat' (first|(refine hK _ ?_;clear hK K)|with_reducible apply ab)
  refine Uy rfl (Xhj (hKB _ ?_));refine Vy fun K hK=> ?_;simp only[zA,simprocAttr,show els.length<=140737488355328 by omega,show els.length<=9223372036854775807 by omega];repeat' (first|(refine hK _ ?_;clear hK K)|with_reducible apply ab)
  apply Vz;refine Xv (.inr rfl) rfl rfl rfl (fun _ _=>rfl) ?_ rfl;simp only[sL]
theorem Xww (b:List UInt8) (hb:b.length<=1000000) (at':Nat) (h:at'<=b.length):∃(X:List UInt8) (y z:Int),Xr Tryz.prog 61 [.sl 1 (Xo b) .sh,i64 (at':Int),i64 65536] [] (.tup [.sl 1 (Xo X) .sh,i64 y,i64 z]) []∧(unW b at'=none->z≠0)∧∀r,unW b at'=some r->X=r.1∧y=(r.2:Int)∧z=0:=by
 have cG:=Xqg b at' .sh h hb;have d1:decide ((at':Int)<0)=false:=ak (by omega);have d2:decide (b.length<at')=false:=ak (by omega);have eN:([]:List (List AV))=Xo []:=rfl;unfold unW;cases hg:Jt (b.drop at') with
 |none=>
  rw[Gn hg] at cG;refine⟨[],0,8,?_,fun _=>by decide,fun r hr=>by cases hr⟩;rw[<- eN];refine Xc 0 Tryz.func61 rfl fun n out _ _=> ?_;simp only[sn,Tryz.ntmps61,simprocAttr];have hg:=Nat.le_refl 0;repeat' (first|refine Vk fun K hK=> ?_|apply V0|apply Vb|apply Vc|apply Vr|apply Vs|with_reducible apply ab|((first|apply gE|apply gR|apply gS);simp only[zA,simprocAttr,X5,d1,d2,gt_iff_lt])|exact Vn|(apply Vz;refine Zv (.inr rfl) rfl rfl rfl (fun _ _=>rfl) rfl rfl rfl ?_ ?_ ?_<;>first|rfl|(exact AV.le.rfl _)|(simp only[sL];done)|rfl|skip)|(refine X3 (cG) ?_)|((refine Vg (fun hg=> ?_) (fun hg=> ?_))<;>try simp only[nb] at hg)|(refine hK _ ?_;clear hK K)|refine Vt rfl ?_|refine Vf rfl ?_|refine Vi rfl (fun hg=> ?_) (fun hg=> ?_)|clear hK K)
 |some r=>
  obtain⟨n,k⟩:=r;have eT:X1x b at'=((n:Int),((at'+k:Nat):Int),0):=by unfold X1x;rw[hg]
  rw[eT] at cG;obtain⟨g1,g2⟩:=Xsu hg;rw[bt] at g1;dsimp only at g1 g2;dsimp only;by_cases h1:65536<n
  ·rw[if_pos (.inl h1)];have d3:decide ((65536:Int)<(n:Int))=true:=ax (by omega);refine⟨[],0,4,?_,fun _=>by decide,fun r hr=>by cases hr⟩;rw[<- eN];refine Xc 0 Tryz.func61 rfl fun n out _ _=> ?_;simp only[sn,Tryz.ntmps61,simprocAttr];have hg:=Nat.le_refl 0;repeat' (first|refine Vk fun K hK=> ?_|apply V0|apply Vb|apply Vc|apply Vr|apply Vs|with_reducible apply ab|((first|apply gE|apply gR|apply gS);simp only[zA,simprocAttr,X5,d1,d2,d3,gt_iff_lt])|exact Vn|(apply Vz;refine Zv (.inr rfl) rfl rfl rfl (fun _ _=>rfl) rfl rfl rfl ?_ ?_ ?_<;>first|rfl|(exact AV.le.rfl _)|(simp only[sL];done)|rfl|skip)|(refine X3 (cG) ?_)|((refine Vg (fun hg=> ?_) (fun hg=> ?_))<;>try simp only[nb] at hg)|(refine hK _ ?_;clear hK K)|refine Vt rfl ?_|refine Vf rfl ?_|refine Vi rfl (fun hg=> ?_) (fun hg=> ?_)|clear hK K)
  ·have d3:decide ((65536:Int)<(n:Int))=false:=ak (by omega);have w1:IntKind.i64.wrap ((b.length:Int) - ((at'+k:Nat):Int))=((b.length - (at'+k):Nat):Int):=by rw[wrap_i64]<;>omega
   by_cases h2:b.length - (at'+k)<n
   ·rw[if_pos (.inr h2)];have d4:decide (b.length - (at'+k)<n)=true:=ax (by omega);refine⟨[],0,8,?_,fun _=>by decide,fun r hr=>by cases hr⟩;rw[<- eN];refine Xc 0 Tryz.func61 rfl fun n out _ _=> ?_;simp only[sn,Tryz.ntmps61,simprocAttr];have hg:=Nat.le_refl 0;repeat' (first|refine Vk fun K hK=> ?_|apply V0|apply Vb|apply Vc|apply Vr|apply Vs|with_reducible apply ab|((first|apply gE|apply gR|apply gS);simp only[zA,simprocAttr,X5,d1,d2,d3,d4,w1,gt_iff_lt])|exact Vn|(apply Vz;refine Zv (.inr rfl) rfl rfl rfl (fun _ _=>rfl) rfl rfl rfl ?_ ?_ ?_<;>first|rfl|(exact AV.le.rfl _)|(simp only[sL];done)|rfl|skip)|(refine X3 (cG) ?_)|((refine Vg (fun hg=> ?_) (fun hg=> ?_))<;>try simp only[nb] at hg)|(refine hK _ ?_;clear hK K)|refine Vt rfl ?_|refine Vf rfl ?_|refine Vi rfl (fun hg=> ?_) (fun hg=> ?_)|clear hK K)
   ·rw[if_neg (by omega)];have d4:decide (b.length - (at'+k)<n)=false:=ak (by omega);have w2:IntKind.i64.wrap (((at'+k:Nat):Int)+(n:Int))=((at'+k+n:Nat):Int):=by rw[wrap_i64]<;>omega
    have k1:at'+k+n<=b.length:=by omega
    have k2:at'+k+n - (at'+k)=n:=by omega
    have k3:at'+k<=at'+k+n:=by omega
    have cc:=Xwv (Xo ((b.drop (at'+k)).take n)) (by rw[X5,ba];omega);refine⟨(b.drop (at'+k)).take n,((at'+k+n:Nat):Int),0,?_,(fun h=>nomatch h),(fun r hr=>by injection hr with hr;subst hr;exact⟨rfl,rfl,rfl⟩)⟩;generalize hX:(b.drop (at'+k)).take n=X at*;refine Xc 0 Tryz.func61 rfl fun n out _ _=> ?_;simp only[sn,Tryz.ntmps61,simprocAttr];have hg:=Nat.le_refl 0;repeat' (first|refine Vk fun K hK=> ?_|apply V0|apply Vb|apply Vc|apply Vr|apply Vs|with_reducible apply ab|((first|apply gE|apply gR|apply gS);simp only[zA,simprocAttr,X5,d1,d2,d3,d4,w1,w2,k1,k2,k3,gt_iff_lt,P6,Nh,Q1,Q2,hX])|exact Vn|(apply Vz;refine Zv (.inr rfl) rfl rfl rfl (fun _ _=>rfl) rfl rfl rfl ?_ ?_ ?_<;>first|rfl|(exact AV.le.rfl _)|(simp only[sL,X5,d1,d2,d3,d4,w1,w2,k1,k2,k3,gt_iff_lt,Int.reduceBNe,P6,Nh,Q1,Q2,hX];done)|rfl|skip)|(refine X3 (cG) ?_)|(refine X3 (cc) ?_)|((refine Vg (fun hg=> ?_) (fun hg=> ?_))<;>try simp only[nb] at hg)|(refine hK _ ?_;clear hK K)|refine Vt rfl ?_|refine Vf rfl ?_|refine Vi rfl (fun hg=> ?_) (fun hg=> ?_)|clear hK K)
def txC (t:List UInt8):List AV:=[.sl 1 (Xo t) .sh]
theorem Xq6 {α:Type} (f:α->List UInt8) {l:List α} {i:Nat} (h:i<l.length):(l.take i).flatMap f++f l[i]=(l.take (i+1)).flatMap f:=by
 rw[aj h,b0];simp
theorem Xyb (ts:List (List UInt8)) (ns:List Int) (md md':Md) (ht:∀t,t∈ts->t.length<=65536) (hl:ts.length<=10) (hn:ns.length<=10000):Xr Tryz.prog 27 [.sl 1 (ts.map txC) md,.sl 1 (ns.map Ym) md'] [] (.sl 1 (Xo (ts.flatMap Xoh++ns.flatMap Y3m)) .sh) []:=by
 obtain⟨T,hT⟩:∃T:Nat->List UInt8,T=fun i=>(ts.take i).flatMap Xoh:=⟨_,rfl⟩
 obtain⟨Z,hZ⟩:∃Z:Nat->List UInt8,Z=fun i=>ts.flatMap Xoh++(ns.take i).flatMap Y3m:=⟨_,rfl⟩
 have T0:T 0=[]:=by rw[hT];rfl
 have Ts:∀i (h:i<ts.length),T i++Xoh ts[i]=T (i+1):=fun i h=>by rw[hT];exact Xq6 _ h
 have Tl:∀i,(T i).length<=1000000:=fun i=>by
  rw[hT];have:=R6 (f:=Xoh) (m:=65541) (l:=ts.take i) fun x hx=>by
   have h1:=ht x (List.mem_of_mem_take hx);have h2:=R5 (x.length:Int);unfold Xoh;rw[ac];omega
  rw[ba] at this;have h3:min i ts.length*65541<=10*65541:=cj _ (by omega);exact Nat.le_trans this (by omega)
 have TZ:T ts.length=Z 0:=by rw[hT,hZ];simp
 have Zs:∀i (h:i<ns.length),Z i++Y3m ns[i]=Z (i+1):=fun i h=>by rw[hZ];dsimp only;rw[List.append_assoc,Xq6 _ h]
 have Zn:Z ns.length=ts.flatMap Xoh++ns.flatMap Y3m:=by rw[hZ];simp
 have Zl:∀i,i<=ns.length->(Z i).length<=1000000+i*5:=fun i hi=>by
  rw[hZ];have h1:=Tl ts.length;rw[hT] at h1;dsimp only at h1;rw[bi] at h1;have:=R6 (f:=Y3m) (m:=5) (l:=ns.take i) fun x _=>R5 x;rw[ba,Nat.min_eq_left hi] at this;rw[ac];omega
 rw[<- Zn];clear hT hZ Zn;have bn:Xo []=[]:=rfl;refine Xc 2 Tryz.func27 rfl fun n out _ _=> ?_;simp only[sn,Tryz.ntmps27,simprocAttr];repeat' (first|refine Vk fun K hK=> ?_|apply V0|apply Vb|apply Vc|apply Vr|apply Vs|with_reducible apply ab|((first|apply gE|apply gR);simp only[zA,simprocAttr])|exact Vn|(apply Vz;refine Vo rfl rfl rfl (fun _ _=>rfl) ?_<;>first|rfl|skip)|(apply Vx;simp only[sb,reduceIte,Nat.reduceEqDiff])|(refine hK _ ?_;clear hK K)|refine Vt rfl ?_|refine Vf rfl ?_|refine Vi rfl (fun hg=> ?_) (fun hg=> ?_)|clear hK K)
 refine Yy (Q9 (i:=0) 5 1 rfl) ?_;simp only[s_0,s_s];apply V5;refine Xrd (ts.length) (fun m i=>tr 16 12 [(15,i64 (i:Int)),(4,.sl 1 (Xo (T i)) (.own (m+0))),(6,.top),(7,.top),(8,.top)]) (fun m i=>[some (.row 5 1 (T i).length),none]) ?_ fun m i hm hi=> ?_
 ·refine X2 ?_ ?_ (by first|rfl|(simp only[T0,bn,List.length_nil];rfl)|simp only[T0,bn,List.length_nil]) rfl rfl rfl<;>simp only[sL,T0,bn,List.length_nil]
 simp only[pt];have hw:=Yl (n:=i) 1 1 rfl (by omega);by_cases hlt:i<ts.length
 ·have gi:=Xg txC ts i [] hlt;have cw:=Xz7 ts[i] (ht _ (a8 hlt));have t1:=Ts i hlt;have t2:=Tl (i+1);have t3:(T i).length+(Xoh ts[i]).length=(T (i+1)).length:=by rw[<- t1,ac]
  have y1:(T (i+1)).length<=140737488355328:=by omega
  have y2:(T (i+1)).length<=9223372036854775807:=by omega
  generalize Xoh ts[i]=w at*;repeat' (first|refine Vk fun K hK=> ?_|apply V0|apply Vb|apply Vc|apply Vr|apply Vs|with_reducible apply ab|((first|apply gE|apply gR);simp only[zA,simprocAttr,Xi hm,txC,X5,hlt,gi,hw,y1,y2,L6,t1,t3])|exact Vn|(apply Vz;refine Vo rfl rfl rfl (fun _ _=>rfl) ?_<;>first|rfl|skip)|(refine X3 (cw) ?_)|(apply Vx;simp only[sb,reduceIte,Nat.reduceEqDiff])|(refine hK _ ?_;clear hK K)|refine Vt rfl ?_|refine Vf rfl ?_|refine Vi rfl (fun hg=> ?_) (fun hg=> ?_)|clear hK K)
  refine⟨i+1,by omega,by omega,?_⟩;refine Xx [true,false] ?_ ?_<;>intro n_<;>simp only[sM]
 obtain rfl:i=ts.length:=by omega
 rw[TZ];clear hw hi hlt Ts Tl T0;repeat' (first|refine Vk fun K hK=> ?_|apply V0|apply Vb|apply Vc|apply Vr|apply Vs|with_reducible apply ab|((first|apply gE|apply gR);simp only[zA,simprocAttr,Nat.lt_irrefl])|exact Vn|(apply Vz;refine Vo rfl rfl rfl (fun _ _=>rfl) ?_<;>first|rfl|skip)|(apply Vx;simp only[sb])|(refine hK _ ?_;clear hK K)|refine Vt rfl ?_|refine Vf rfl ?_|refine Vi rfl (fun hg=> ?_) (fun hg=> ?_)|clear hK K)
 apply V5;refine Xrd (ns.length) (fun m i=>tr 31 12 [(30,i64 (i:Int)),(4,.sl 1 (Xo (Z i)) (.own (m+0))),(6,.top),(7,.top),(8,.top),(10,.top),(11,.top),(12,.top)]) (fun m i=>[some (.row 5 1 (Z i).length),none]) ?_ fun m i hm hi=> ?_
 ·refine La rfl ?_ ?_<;>simp only[sL]
 simp only[pt];have hw:=Yl (n:=i) 1 1 rfl (by omega);by_cases hlt:i<ns.length
 ·have gi:=Xg Ym ns i [] hlt;have cp:=Gr ns[i];have t1:=Zs i hlt;have t2:=Zl (i+1) hlt;have t3:(Z i).length+(Y3m ns[i]).length=(Z (i+1)).length:=by rw[<- t1,ac]
  have y1:(Z (i+1)).length<=140737488355328:=by omega
  have y2:(Z (i+1)).length<=9223372036854775807:=by omega
  generalize Y3m ns[i]=w at*;generalize (if 0<=ns[i]∧ns[i]<=2147483647 then 0 else 2:Int)=e at*;repeat' (first|refine Vk fun K hK=> ?_|apply V0|apply Vb|apply Vc|apply Vr|apply Vs|with_reducible apply ab|((first|apply gE|apply gR);simp only[zA,simprocAttr,Xi hm,Ym,X5,hlt,gi,hw,y1,y2,L6,t1,t3])|exact Vn|(apply Vz;refine Vo rfl rfl rfl (fun _ _=>rfl) ?_<;>first|rfl|skip)|(refine X3 (cp) ?_)|(apply Vx;simp only[sb,reduceIte,Nat.reduceEqDiff])|(refine hK _ ?_;clear hK K)|refine Vt rfl ?_|refine Vf rfl ?_|refine Vi rfl (fun hg=> ?_) (fun hg=> ?_)|clear hK K)
  refine⟨i+1,by omega,by omega,?_⟩;refine Xx [true,false] ?_ ?_<;>intro n_<;>simp only[sM]
 obtain rfl:i=ns.length:=by omega
 clear hw hi hlt Zs Zl;repeat' (first|refine Vk fun K hK=> ?_|apply V0|apply Vb|apply Vc|apply Vr|apply Vs|with_reducible apply ab|((first|apply gE|apply gR);simp only[zA,simprocAttr,Nat.lt_irrefl])|exact Vn|(apply Vz;refine Xv (.inr rfl) rfl rfl rfl (fun _ _=>rfl) ?_ rfl<;>first|rfl|(exact AV.le.rfl _)|(simp only[sL];done)|rfl|skip)|(apply Vx;simp only[sb])|(refine hK _ ?_;clear hK K)|refine Vt rfl ?_|refine Vf rfl ?_|refine Vi rfl (fun hg=> ?_) (fun hg=> ?_)|clear hK K)
end Go.Proofs.YtdngdjbgmojcoaaGreat.Pln
