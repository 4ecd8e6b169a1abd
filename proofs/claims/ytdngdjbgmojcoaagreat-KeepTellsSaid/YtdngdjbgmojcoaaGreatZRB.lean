/- The layer of abstract values, joined. -/
import Derived.Test.YtdngdjbgmojcoaaGreatZPR
import Derived.Test.YtdngdjbgmojcoaaGreatZR3
import Derived.Test.YtdngdjbgmojcoaaGreatZR5
import Derived.Test.YtdngdjbgmojcoaaGreatZW14
import Derived.Test.YtdngdjbgmojcoaaGreatZTA
import Derived.Test.YtdngdjbgmojcoaaGreatZUA
namespace Go.Proofs.YtdngdjbgmojcoaaGreat.Pln
set_option linter.all false
set_option maxHeartbeats 16000000
set_option maxRecDepth 4000
open Go Go.VS Tab
attribute [local irreducible] AWp Xp0 Pg X5c Qy Lt Tp FdT Eb
theorem Yha {l:List Rt} {n:Int} {s:Rt} (h:Yh2 l n=some s):∃(k:Nat) (hk:k<l.length),idx (fun x=>x.id==n) l=k∧l[k]=s:=by
 rcases Ze (fun x:Rt=>x.id==n) l with ⟨z1,z2,z3⟩|⟨k,hk,z1,z2,z3,z4⟩
 ·unfold Yh2 at h;rw[z2] at h;cases h
 ·refine⟨k,hk,z1,?_⟩;unfold Yh2 at h;rw[z2] at h;simpa using h
theorem Ygu {p:Pl} {r:Rt} {W:Wy} {O:List (Int×Int)} (g:Gone p r W O) {i:Nat} (hi:i<(Xs2 r).length) {s:Sec} (hs:Qt p.secs (Xs2 r)[i]=some s):
  (∃h1:i<(L1 p r).length,(L1 p r)[i]=(Xom p r i).inn.2)∧∃(h2:i<(Y1 p r).length) (lie:Int),(((Y1 p r)[i]<0∧lie=(Xom p r i).inn.2∧(Xom p r (i+1)).outs=(Xom p r i).outs)∨(0<=(Y1 p r)[i]∧lie=Xuv s (Xom p r i).inn.2 (Y1 p r)[i]∧(Xom p r (i+1)).outs=(Xom p r i).outs++[((Xs2 r)[i],(Y1 p r)[i])]))∧
   (Xom p r (i+1)).asks=(Xom p r i).asks++if s.pt≠0∧0<lie then[(s.pt,lie,(i:Int))] else[]:=by
 have hE:(Xt6 p r).lost=false:=g.not;have eI:L1 p r=Yey p r (Xs2 r).length:=by unfold L1;rw[hE,if_neg (by decide)]
 have eO:Y1 p r=(Xom p r (Xs2 r).length).outs.map (fun o=>o.2)++if r.over=[] then[] else[-1]:=by unfold Y1;rw[hE,if_neg (by decide)];rfl
 have hal:(Xs2 r).length=r.path.length+r.over.length:=by unfold Xs2;exact ac
 have hpt:0<=s.pt:=by
  have:=Uv.1 (U0 (Xol g.may).2.1 (W5 hs).1).2;omega
 have asks:∀(w:Wk) (lie:Int),(Xps w s.pt lie i).asks=w.asks++if s.pt≠0∧0<lie then[(s.pt,lie,(i:Int))] else[]:=fun w lie=>by
  unfold Xps;by_cases h:s.pt≠0∧0<lie
  ·rw[if_pos h,if_pos (by simp;omega)]
  ·rw[if_neg h,if_neg (by simp;omega),a9]
 have h0:=Xry g.not i (by omega);have h1:=Xry g.not (i+1) (by omega);refine⟨⟨by rw[eI,Yer];exact hi,by simp only[eI];unfold Yey;simp⟩,?_⟩;by_cases hk:i+1=r.path.length∨i+1≠(Xs2 r).length
 ·obtain⟨s',e,a,b,c,d,q,_⟩:=Xu4 h1 hk;rw[V1 hi] at a b q;obtain rfl:s=s':=by rw[hs] at a;simpa using a
  obtain⟨t,ht⟩:=Xu6 (p:=p) (r:=r) (i:=i+1) (Xs2 r).length (by omega) g.not;have hlen:=Xu5 i h0 fun j hj=>by
   by_cases h:j+1=(Xs2 r).length
   ·omega
   ·exact .inr h
  obtain⟨l,hkp⟩:=Xoy (Xom p r i) s.pt (Xoq s (Xom p r i).inn.2 e) i;have hou:(Xom p r (i+1)).outs=(Xom p r i).outs++[((Xs2 r)[i],(e:Int))]:=by rw[q,hkp];rfl
  have has:(Xom p r (i+1)).asks=(Xps (Xom p r i) s.pt (Xoq s (Xom p r i).inn.2 e) i).asks:=by rw[q];rfl
  have eO2:Y1 p r=((Xom p r i).outs.map fun o=>o.2)++((e:Int)::(t.map (fun o=>o.2)++if r.over=[] then[] else[-1])):=by rw[eO,ht,hou];simp
  have hl2:i<(Y1 p r).length:=by rw[eO2];simp;omega
  have hoe:(Y1 p r)[i]=(e:Int):=by
   simp only[eO2];rw[dw (by simp;omega)];simp [hlen]
  have hlie:Xoq s (Xom p r i).inn.2 e=Xuv s (Xom p r i).inn.2 e:=by
   unfold Xpj at d;unfold Xoq;by_cases hsh:Qc s
   ·rw[if_pos hsh] at d;by_cases hl:Xuv s (Xom p r i).inn.2 e<0
    ·rw[if_pos hl] at d;exact absurd d (by decide)
    ·rw[if_pos ⟨hsh,by omega⟩]
   ·rw[if_neg hsh] at d;exact absurd d (by decide)
  exact⟨hl2,Xuv s (Xom p r i).inn.2 e,.inr ⟨by rw[hoe];omega,by rw[hoe],by rw[hoe];exact hou⟩,by rw[has,hlie];exact asks _ _⟩
 ·have k1:i+1≠r.path.length:=fun e=>hk (.inl e);have k2:i+1=(Xs2 r).length:=dv fun e=>hk (.inr e);obtain⟨s',a,b,q⟩:=Xwd h1 k1 k2;rw[V1 hi] at a b;obtain rfl:s=s':=by rw[hs] at a;simpa using a
  have hov:r.over≠[]:=fun h=>by
   have:r.over.length=0:=by rw[h];rfl
   omega
  have hlen:=Xu5 i h0 fun j hj=>by
   by_cases h:j+1=(Xs2 r).length
   ·omega
   ·exact .inr h
  have hou:(Xom p r (i+1)).outs=(Xom p r i).outs:=by
   rw[q];split
   ·obtain⟨l,hkp⟩:=Xoy (Xom p r i) s.pt (Xom p r i).inn.2 i;rw[hkp]
   ·rfl
  have eO2:Y1 p r=((Xom p r i).outs.map fun o=>o.2)++[-1]:=by rw[eO,<- k2,hou,if_neg hov]
  have hl2:i<(Y1 p r).length:=by rw[eO2];simp;omega
  have hoe:(Y1 p r)[i]= -1:=by
   simp only[eO2];rw[dw (by simp;omega)];simp [hlen]
  refine⟨hl2,(Xom p r i).inn.2,.inl ⟨by rw[hoe];decide,rfl,hou⟩,?_⟩;rw[q];by_cases hp:0<(Xom p r i).inn.2
  ·rw[if_pos hp];exact asks _ _
  ·rw[if_neg hp,if_neg (by omega),a9]
theorem Yfl (p:Pl) (hs:Sm p) {r:Rt} (g:Gone p r (Xop p r) (Xpv p r)) (k:Nat) (hk:k<p.rts.length) (hkr:p.rts[k]=r):Xr Tryz.prog 151 [plA p,i64 (k:Int)] [] (wyA (Xop p r)) []:=by
 obtain⟨b1,b2,b3⟩:=hs.rt _ g.mem;obtain⟨hone,en,z1,z2,z3,z4⟩:=Xu2 g.may g.mem;obtain⟨kE,hkE,cE1,cE2⟩:=Ygg z1;have cSA:=Vj p.sgs r.entry (by have:=hs.sgs;omega);rw[cE1] at cSA;have gSg:=Xg sgC p.sgs kE [] hkE;rw[cE2] at gSg;have gRt:=Xg rtC p.rts k [] hk;rw[hkr] at gRt;have cT:=Yg7 r ⟨b1,b2,b3⟩;have cE:=Yfk p hs g.may r g.mem;rw[show(Xt6 p r).lost=false from g.not,es] at cE;have hpne:r.path≠[]:=by intro h;rw[h] at hone;simp at hone
 have cS:=Bu r hpne (by omega) (by omega);have hAll:r.path++r.over=Xs2 r:=rfl;rw[hAll] at cS;have hsecs:=fun{i:Nat} (hi:i<(Xs2 r).length)=>Ygf g.may g.mem hi;have hat:=fun{i:Nat} (hi:i<(Xs2 r).length) {s:Sec} hsc=>Ygu g hi (s:=s) hsc;have hfl:=g.asks;have hpos:=Xwa g.may g.mem;have hnear:(Xop p r).near=en.2.1:=by rw[g.near,z2]
 have hpth:=g.path;have hovr:=g.over;have hal:(Xs2 r).length=r.path.length+r.over.length:=by unfold Xs2;exact ac
 have hAl:=fun i=>(Xrw p r i).1;obtain⟨AS,hAS⟩:∃AS:Nat->List (Int×Int×Int),AS=fun i=>(Xom p r i).asks:=⟨_,rfl⟩
 have hASe:∀i,(Xom p r i).asks=AS i:=fun i=>by rw[hAS]
 have hA0:AS 0=[]:=by rw[hAS];rfl
 simp only[hASe] at hat hfl hAl;clear hAS hASe;generalize Xop p r=W at*;generalize Xpv p r=O at*;obtain⟨L,hL⟩:∃L,L=Xs2 r:=⟨_,rfl⟩
 rw[<- hL] at cS hal hfl;simp only[<- hL] at hsecs hat;generalize L1 p r=EI at*;generalize Y1 p r=EO at*;clear g;simp only[plA,plC,rtA,rtC] at cT cE cS;simp only[wyA,wyC,hpth,hovr,hnear];refine Xc 6 Tryz.func151 rfl fun n out _ _=> ?_;simp only[sn,Tryz.ntmps151,simprocAttr];repeat' (first|refine Vk fun K hK=> ?_|apply V0|refine Vd 4 [] [[],[2],[],[2],[],[0],[],[0],[],[2],[],[],[],[],[],[3],[3]] [[],[],[],[],[],[],[],[],[],[],[],[],[],[],[],[3],[3]] (by kernel_rfl) (by decide) (by decide) (by kernel_rfl) ?_|((first|apply gE|apply gR|apply gD|apply gF);simp only[zA,simprocAttr,plA,plC,rtC,sgC,X0,gSg,hkE,gRt,hk])|(refine X3 (cT) ?_)|(refine X3 (cE) ?_)|(refine X3 (cS) ?_)|(refine X3 (cSA) ?_)|(refine hK _ ?_;clear hK K))
 refine Yy (Q9 (i:=4) 179 3 rfl) ?_;simp only[s_0,s_s];apply V5;refine Xrd (L.length) (fun m i=>tp [12,13] (tr 45 51 [(11,i64 (i:Int)),(2,.ptr (m+0) 0),(4,.ptr (m+1) 0),(5,.ptr (m+2) 0),(10,.ptr (m+3) 0)])) (fun m i=>[some (.box 28 (plC p)),some (.box 130 [.sl 0 [] .nil,.sl 0 [] .nil,.sl 0 [] .nil,i64 0]),some (.box 82 (rtC r)),some (.box 130 [.sl 1 (r.path.map Ym) .sh,.sl 1 (r.over.map Ym) .sh,.sl 3 ((AS i).map sgC) (.own (m+4)),i64 en.2.1]),some (.row 179 3 (AS i).length),none]) ?_ fun m i hm hi=> ?_
 ·refine X2 ?_ ?_ (by first|rfl|(simp only[plC,rtC,hA0,ag,List.length_nil];rfl)|simp only[plC,rtC,hA0,ag,List.length_nil]) rfl rfl rfl<;>simp only[sL,plC,rtC,hA0,ag,List.length_nil]
 simp only[pt];have hw:=Yl (n:=i) 1 1 rfl (by omega);by_cases hlt:i<L.length
 ·have gi:=Xg Ym L i [] hlt;obtain⟨s,hsec⟩:=hsecs hlt;obtain⟨k0,hk0,cB1,cB2⟩:=Yg3 hsec;have cAi:=X39 p.secs L[i] (by have:=hs.secs;omega);rw[cB1] at cAi;have gk0:=Xg Y6 p.secs k0 [] hk0;rw[cB2] at gk0;obtain⟨⟨h1,e1⟩,h2,lie,hc,ha⟩:=hat hlt hsec;have gI:=Xg Ym EI i [] h1;rw[e1] at gI;have gO:=Xg Ym EO i [] h2;have cL:=Yge s (Xom p r i).inn.2 EO[i];have hAi:=hAl i;have y1:((AS i).length+1)*24<=140737488355328:=by omega
  have y2:(AS i).length<=9223372036854775806:=by omega
  have lit:∀(σ:AState) (K:AV->List (Nat×Res)->Prop),X1 tab σ K none 128 1 [(0,.agg [i64 s.pt,i64 lie,i64 (i:Int)])]=K (.sl 3 [[i64 s.pt,i64 lie,i64 (i:Int)]] .full) []:=fun σ K=>Yk (T:=tab) (ti:=ti128) (te:=ti179) rfl rfl rfl (by decide) (by decide) rfl rfl;simp only[Qh,Y6] at cL;clear hat hsecs;generalize EO[i]=oi at*;generalize (Xom p r i).inn.2=ii at*;by_cases hp:s.pt=0
  ·have hp':(s.pt==0)=true:=by simp [hp]
   rw[if_neg (by simp [hp]),a9] at ha;repeat' (first|refine Vk fun K hK=> ?_|apply V0|apply Vb|apply Vs|refine Vd 8 [] [[],[0],[],[0],[],[],[],[],[],[],[],[5],[5]] [[],[],[],[],[],[],[],[],[],[],[],[5],[5]] (by kernel_rfl) (by decide) (by decide) (by kernel_rfl) ?_|((first|apply gE|apply gD|apply gF);simp only[zA,simprocAttr,Xi hm,plC,rtC,Y6,Ym,hlt,gi,hk0,gk0,X0,hp',hw])|(refine X3 (cAi) ?_)|(apply Vx;simp only[sb,Nat.reduceEqDiff])|(refine hK _ ?_;clear hK K)|refine Vt rfl ?_|clear hK K)
   refine⟨i+1,by omega,by omega,?_⟩;rw[ha];refine Xx [true,true,true,true,true,false] ?_ ?_<;>intro n_<;>simp only[sM]
  ·have hp':(s.pt==0)=false:=by simp [hp]
   by_cases hl:0<lie
   ·have hl':decide (lie>0)=true:=ax hl;rw[if_pos ⟨hp,hl⟩] at ha;rcases hc with ⟨ho,hc,_⟩|⟨ho,hc,_⟩
    ·have ho':decide (oi>=0)=false:=ak (by omega);subst hc;repeat' (first|refine Vk fun K hK=> ?_|apply V0|apply Vb|apply Vs|refine Vd 8 [] [[],[0],[],[0],[],[],[],[],[],[],[],[5],[5]] [[],[],[],[],[],[],[],[],[],[],[],[5],[5]] (by kernel_rfl) (by decide) (by decide) (by kernel_rfl) ?_|((first|apply gE|apply gD|apply gF);simp only[zB,simprocAttr,lit,Xi hm,plC,rtC,Y6,Ym,hlt,gi,hk0,gk0,h1,gI,h2,gO,X0,hp',ho',hl',hw,y1,y2])|(refine X3 (cAi) ?_)|(refine hK _ ?_;clear hK K)|refine Vt rfl ?_|refine Vf rfl ?_|clear hK K)
     refine⟨i+1,by omega,by omega,?_⟩;rw[ha,aw,ac];refine Xx [true,true,true,true,true,false] ?_ ?_<;>intro n_<;>simp only[sM,sgC,bk,ag,List.length_cons,List.length_nil,Nat.zero_add]
    ·have ho':decide (oi>=0)=true:=ax ho;rw[<- hc] at cL;repeat' (first|refine Vk fun K hK=> ?_|apply V0|apply Vb|apply Vs|refine Vd 8 [] [[],[0],[],[0],[],[],[],[],[],[],[],[5],[5]] [[],[],[],[],[],[],[],[],[],[],[],[5],[5]] (by kernel_rfl) (by decide) (by decide) (by kernel_rfl) ?_|refine Vq (by kernel_rfl) ?_|((first|apply gE|apply gR|apply gD|apply gF);simp only[zB,simprocAttr,lit,Xi hm,plC,rtC,Y6,Ym,hlt,gi,hk0,gk0,h1,gI,h2,gO,X0,hp',ho',hl',hw,y1,y2])|(refine X3 (cAi) ?_)|(refine X3 (cL) ?_)|(refine hK _ ?_;clear hK K)|refine Vt rfl ?_|refine Vf rfl ?_|clear hK K)
     refine⟨i+1,by omega,by omega,?_⟩;rw[ha,aw,ac];refine Xx [true,true,true,true,true,false] ?_ ?_<;>intro n_<;>simp only[sM,sgC,bk,ag,List.length_cons,List.length_nil,Nat.zero_add]
   ·have hl':decide (lie>0)=false:=ak hl;rw[if_neg (by simp [hl]),a9] at ha;rcases hc with ⟨ho,hc,_⟩|⟨ho,hc,_⟩
    ·have ho':decide (oi>=0)=false:=ak (by omega);subst hc;repeat' (first|refine Vk fun K hK=> ?_|apply V0|apply Vb|apply Vs|refine Vd 8 [] [[],[0],[],[0],[],[],[],[],[],[],[],[5],[5]] [[],[],[],[],[],[],[],[],[],[],[],[5],[5]] (by kernel_rfl) (by decide) (by decide) (by kernel_rfl) ?_|((first|apply gE|apply gD|apply gF);simp only[zA,simprocAttr,Xi hm,plC,rtC,Y6,Ym,hlt,gi,hk0,gk0,h1,gI,h2,gO,X0,hp',ho',hl',hw])|(refine X3 (cAi) ?_)|(refine hK _ ?_;clear hK K)|refine Vt rfl ?_|refine Vf rfl ?_|clear hK K)
     refine⟨i+1,by omega,by omega,?_⟩;rw[ha];refine Xx [true,true,true,true,true,false] ?_ ?_<;>intro n_<;>simp only[sM]
    ·have ho':decide (oi>=0)=true:=ax ho;rw[<- hc] at cL;repeat' (first|refine Vk fun K hK=> ?_|apply V0|apply Vb|apply Vs|refine Vd 8 [] [[],[0],[],[0],[],[],[],[],[],[],[],[5],[5]] [[],[],[],[],[],[],[],[],[],[],[],[5],[5]] (by kernel_rfl) (by decide) (by decide) (by kernel_rfl) ?_|refine Vq (by kernel_rfl) ?_|((first|apply gE|apply gR|apply gD|apply gF);simp only[zA,simprocAttr,Xi hm,plC,rtC,Y6,Ym,hlt,gi,hk0,gk0,h1,gI,h2,gO,X0,hp',ho',hl',hw])|(refine X3 (cAi) ?_)|(refine X3 (cL) ?_)|(refine hK _ ?_;clear hK K)|refine Vt rfl ?_|refine Vf rfl ?_|clear hK K)
     refine⟨i+1,by omega,by omega,?_⟩;rw[ha];refine Xx [true,true,true,true,true,false] ?_ ?_<;>intro n_<;>simp only[sM]
 ·obtain rfl:i=L.length:=by omega
  clear hat hsecs;have hAi:=hAl L.length;generalize AS L.length=A1 at*;repeat' (first|refine Vk fun K hK=> ?_|apply V0|(apply gE;simp only[zA,simprocAttr,plC,rtC,hlt])|(apply Vx;simp only[sb])|(refine hK _ ?_;clear hK K)|refine Vf rfl ?_|clear hK K)
  obtain⟨X,hX⟩:∃X:Nat->List (Int×Int×Int),X=fun k=>A1++(r.flanks.take k).map fun f=>(f.1,f.2, -1):=⟨_,rfl⟩
  have hX0:X 0=A1:=by rw[hX];simp
  have hXs:∀k (h:k<r.flanks.length),X (k+1)=X k++[(r.flanks[k].1,r.flanks[k].2, -1)]:=fun k h=>by rw[hX];simp only[aj h,aw,aq];rfl
  have hXe:X r.flanks.length=W.asks:=by rw[hX,hfl];simp
  have hXl:∀k,(X k).length<=A1.length+k:=fun k=>by rw[hX];simp only[ac,ai,ba];omega
  clear hX hfl hAl;apply V5;refine Xrd (r.flanks.length) (fun m k=>tr 96 25 [(14,i64 (k:Int)),(2,.ptr (m+0) 0),(4,.ptr (m+1) 0),(5,.ptr (m+2) 0),(10,.ptr (m+3) 0)]) (fun m k=>[some (.box 28 (plC p)),some (.box 130 [.sl 0 [] .nil,.sl 0 [] .nil,.sl 0 [] .nil,i64 0]),some (.box 82 (rtC r)),some (.box 130 [.sl 1 (r.path.map Ym) .sh,.sl 1 (r.over.map Ym) .sh,.sl 3 ((X k).map sgC) (.own (m+4)),i64 en.2.1]),some (.row 179 3 (X k).length),none]) ?_ fun m k hm hk=> ?_
  ·refine X2 ?_ ?_ (by first|rfl|(simp only[plC,rtC,hX0];rfl)|simp only[plC,rtC,hX0]) rfl rfl rfl<;>simp only[sL,plC,rtC,hX0]
  simp only[pt];have hw2:=Yl (n:=k) 1 1 rfl (by omega);by_cases hlt:k<r.flanks.length
  ·have gf:=Xg jnC r.flanks k [] hlt;have hXk:=hXs k hlt;have hXb:=hXl k;have y1:((X k).length+1)*24<=140737488355328:=by omega
   have y2:(X k).length<=9223372036854775806:=by omega
   have lit:∀(σ:AState) (K:AV->List (Nat×Res)->Prop),X1 tab σ K none 128 1 [(0,.agg [i64 r.flanks[k].1,i64 r.flanks[k].2,i64 (-1)])]=K (.sl 3 [[i64 r.flanks[k].1,i64 r.flanks[k].2,i64 (-1)]] .full) []:=fun σ K=>Yk (T:=tab) (ti:=ti128) (te:=ti179) rfl rfl rfl (by decide) (by decide) rfl rfl;repeat' (first|refine Vk fun K hK=> ?_|apply V0|apply Vr|apply Vs|refine Vd 18 [] [[],[3],[],[2],[],[],[],[],[],[2],[],[],[],[],[],[],[4],[],[3]] [[],[],[],[],[],[],[],[],[],[],[],[],[],[],[],[],[4],[],[3]] (by kernel_rfl) (by decide) (by decide) (by kernel_rfl) ?_|((first|apply gE|apply gD);simp only[zB,simprocAttr,lit,Xi hm,plC,rtC,jnC,hlt,gf,X0,hw2,y1,y2])|(refine hK _ ?_;clear hK K)|refine Vt rfl ?_|clear hK K)
   refine⟨k+1,by omega,by omega,?_⟩;rw[hXk,aw,ac];refine Xx [true,true,true,true,true,false] ?_ ?_<;>intro n_<;>simp only[sM,sgC,bk,ag,List.length_cons,List.length_nil,Nat.zero_add]
  ·obtain rfl:k=r.flanks.length:=by omega
   rw[hXe];repeat' (first|refine Vk fun K hK=> ?_|apply V0|(apply gE;simp only[zA,simprocAttr,Xi hm,plC,rtC,hlt,X0])|(apply Vz;(first|refine Xu (.inr rfl) rfl rfl rfl (fun _ _=>rfl) ok130 (k:=n+1) (off:=0) rfl (Xb _ (by simp)) (X6 _ (Nat.le_refl _) 1) rfl ?_|refine Xu (.inr rfl) rfl rfl rfl (fun _ _=>rfl) ok130 (k:=m+1) (off:=0) rfl (Xb _ (by simp)) (X6 _ hm 1) rfl ?_)<;>first|rfl|exact AV.le.rfl _|(simp only[sL];done)|rfl|skip)|(apply Vx;simp only[sb])|(refine hK _ ?_;clear hK K)|refine Vf rfl ?_|clear hK K)
def Yg8 (r:Rt) (i:Nat) (id:Int):Bool:= !((id !=0&&decide (i+1<r.path.length))||(i+1==r.path.length&&id !=r.ex))
theorem Yhb {p:Pl} (hm:Uf p=true) {x:Int×Int×Int} (hx:x∈p.sgs):1<=x.1:=by
 obtain⟨i,hi,rfl⟩:=am hx;have h4:=(Xol hm).2.2.2.1;unfold Qu at h4;simp only[ad] at h4;have:=Z3.1 h4.1.1 i (by simpa using hi);simp only[Ye,ad,U1,da] at this;exact this.1.1
theorem Yhc {p:Pl} (hm:Uf p=true) {x:Int×Int×Int} (hx:x∈p.sgs) {a b:Int} (ha:x.2.1=a) (hb:x.2.2=b):atF p.sgs a b=x.1:=by
 obtain⟨i,hi,rfl⟩:=am hx;have:=(Ygl hm hi).2;have h0:=(Ygl hm hi).1;unfold stL at this;rw[if_pos h0] at this;rw[<- ha,<- hb];exact this
theorem Yhd {p:Pl} {r:Rt} {O:List (Int×Int)} (g:Gone p r (Xop p r) O) {i:Nat} (hi:i<r.path.length) {e:Int} (hO:O.getD i (0,0)=(r.path[i],e)):p.sgs.all (Xux r i (O.getD i (0,0)))=Yg8 r i (atF p.sgs r.path[i] e):=by
 rw[hO,ar,az];have hal:(Xs2 r).length=r.path.length+r.over.length:=by unfold Xs2;exact ac
 have hexit:i+1=r.path.length->r.ex≠0->atF p.sgs r.path[i] e=r.ex:=fun h hx=>by
  have hi':i<(Xs2 r).length:=by omega
  have hA:(Xs2 r)[i]=r.path[i]:=by unfold Xs2;exact dk hi
  obtain⟨s,e',a,b,_,_,⟨hO1,hO2⟩,_,_,st,x⟩:=Yea g hi' (.inl h);rw[hA] at hO2 st x;have he:O.getD i (0,0)=(r.path[i],(e':Int)):=by simp [af,hO1,hO2]
  rw[hO] at he;obtain rfl:e=(e':Int):=by simpa using he
  have:=(x h).2 hx;unfold stL at this;rwa [if_pos st] at this
 unfold Yg8;constructor
 ·intro h;rw[c9,dj];unfold atF;cases hf:p.sgs.find? (fun x=>x.2.1==r.path[i]&&x.2.2==e) with
  |none=>
   refine⟨rfl,?_⟩;by_cases h1:i+1=r.path.length
   ·have:r.ex=0:=dv fun hx=>by
     have:=hexit h1 hx;unfold atF at this;rw[hf] at this;exact hx this.symm
    simp [this]
   ·simp [h1]
  |some x=>
   have hm:=bg hf;have hp:=dg hf;have h2:=h x hm;unfold Xux at h2;simp only[ad,bq] at hp;simp only[hp.1,hp.2,beq_self_eq_true,bo,c9,dj,dt] at h2;dsimp only;refine⟨by rw[ak h2.1,dm],by rw[h2.2,dm]⟩
 ·intro h x hx;rw[c9,dj] at h;obtain⟨h1,h2⟩:=h;unfold Xux;rw[c9];by_cases hp:x.2.1=r.path[i]∧x.2.2=e
  ·have hat:=Yhc g.may hx hp.1 hp.2;have hpos:=Yhb g.may hx;rw[hat] at h1 h2;have hne:(x.1 !=0)=true:=by simp;omega
   rw[hne,bo] at h1;have h1':=b7 h1;have he:(i+1==r.path.length)=true:=by simp;omega
   rw[he,bo] at h2;simp only[hp.1,hp.2,beq_self_eq_true,bo];rw[h1,h2];rfl
  ·rw[fe,fe];by_cases h3:x.2.1=r.path[i]
   ·exact .inr (.inl (by simp;exact fun h=>hp ⟨h3,h⟩))
   ·exact .inl (by simp [h3])
theorem Yhe {p:Pl} {r:Rt} {W:Wy} {O:List (Int×Int)} (g:Gone p r W O) {i:Nat} (hi:i<r.path.length):∃h2:i<(Y1 p r).length,O.getD i (0,0)=(r.path[i],(Y1 p r)[i]):=by
 have hal:(Xs2 r).length=r.path.length+r.over.length:=by unfold Xs2;exact ac
 have hi':i<(Xs2 r).length:=by omega
 have hA:(Xs2 r)[i]=r.path[i]:=by unfold Xs2;exact dk hi
 obtain⟨s,e,_,_,_,_,⟨hO1,hO2⟩,_⟩:=Yea g hi' (by omega);have hE:(Xt6 p r).lost=false:=g.not;have eO:Y1 p r=O.map (fun o=>o.2)++if r.over=[] then[] else[-1]:=by unfold Y1;rw[hE,if_neg (by decide),g.outs];rfl
 have h2:i<(Y1 p r).length:=by rw[eO];simp;omega
 refine⟨h2,?_⟩;have he:(Y1 p r)[i]=(e:Int):=by
  simp only[eO];rw[dk (by simpa using hO1)];simp [hO2]
 rw[he,<- hA];simp [af,hO1,hO2]
def V2 (p:Pl) (r:Rt):Bool:= !(Xt6 p r).lost&&Xpp p r
theorem Yg9 (p:Pl) (hs:Sm p) (hmy:Uf p=true) (r:Rt) (hr:r∈p.rts):Xr Tryz.prog 106 [plA p,rtA r] [] (bool (V2 p r)) []:=by
 have cE:=Yfk p hs hmy r hr;simp only[plA,plC,rtA,rtC] at cE;cases hl:(Xt6 p r).lost with
 |true=>
  have e:V2 p r=false:=by unfold V2;rw[hl];rfl
  rw[hl] at cE;rw[e];refine Xc 3 Tryz.func106 rfl fun n out _ _=> ?_;simp only[sn,Tryz.ntmps106,simprocAttr];have hg:=Nat.le_refl 0;repeat' (first|refine Vk fun K hK=> ?_|apply V0|((first|apply gE|apply gR|apply gS);simp only[zA,simprocAttr,plA,plC,rtA,rtC])|(apply Vz;refine Vo rfl rfl rfl (fun _ _=>rfl) ?_<;>first|rfl|skip)|(refine X3 (cE) ?_)|(refine hK _ ?_;clear hK K)|refine Vt rfl ?_)
 |false=>
  rw[hl] at cE;have e4:Xrb p r=0:=by unfold Xrb;rw[hl];rfl
  have g:=Xtr hmy hr e4;obtain⟨k,hk,z1,z2⟩:=Yha (Ygv hmy hr);have cR:=Yet p.rts r.id (by have:=hs.rts;omega);rw[z1] at cR;have cM:=Yfl p hs g k hk z2;obtain⟨b1,b2,b3⟩:=hs.rt _ hr;obtain⟨a1,_⟩:=Xsc hs hr;have hplc:=fun{i:Nat} (hi:i<r.path.length) {e:Int} hO=>Yhd g hi (e:=e) hO;have hout:=fun{i:Nat} (hi:i<r.path.length)=>Yhe g hi;obtain⟨B,hB⟩:∃B,B=V2 p r:=⟨_,rfl⟩
  have eB:B=(Xvw (Xop p r).asks&&Xsa p r (Xpv p r)):=by rw[hB];unfold V2 Xpp;rw[hl];rfl
  rw[<- hB];have bad1:∀i (hi:i<(Xop p r).asks.length),okA ((Xop p r).asks.take i) (Xop p r).asks[i]=false->B=false:=fun i hi h=>by rw[eB];unfold Xvw;rw[Yz hi h];rfl
  have bad2:∀i (hi:i<r.path.length) (h2:i<(Y1 p r).length),Yg8 r i (atF p.sgs r.path[i] (Y1 p r)[i])=false->B=false:=fun i hi h2 h=>by
   rw[eB];obtain⟨h3,hO⟩:=hout hi;have:Xsa p r (Xpv p r)=false:=by
    unfold Xsa;refine Ez hi ?_;rw[hplc hi hO];exact h
   rw[this,dm]
  have good:(∀i (hi:i<(Xop p r).asks.length),okA ((Xop p r).asks.take i) (Xop p r).asks[i]=true)->(∀i (hi:i<r.path.length) (h2:i<(Y1 p r).length),Yg8 r i (atF p.sgs r.path[i] (Y1 p r)[i])=true)->B=true:=fun h1 h2=>by
   rw[eB];unfold Xvw;rw[Q3 h1,bo];unfold Xsa;refine Hn fun i hi=> ?_;obtain⟨h3,hO⟩:=hout hi;rw[hplc hi hO];exact h2 i hi h3
  have hlen:∀{i:Nat},i<r.path.length->i<(Y1 p r).length:=fun hi=>(hout hi).1;have hone:=g.one;have cA:=fun a b=>Yh7 p hs a b;have hwp:=X25 (n:=r.path.length) 1 1 rfl (by omega) (by omega);clear hplc hout g eB hB e4;generalize Xop p r=W at*;generalize L1 p r=EI at*;generalize Y1 p r=EO at*;simp only[plA,plC,rtA,rtC,wyA,wyC] at cM cA;refine Xc 3 Tryz.func106 rfl fun n out _ _=> ?_;simp only[sn,Tryz.ntmps106,simprocAttr];have hg:=Nat.le_refl 0;repeat' (first|refine Vk fun K hK=> ?_|apply V0|apply Vs|refine Vd 4 [] [[0],[],[0],[],[1],[],[],[2],[2]] [[],[],[],[],[],[],[],[2],[2]] (by kernel_rfl) (by decide) (by decide) (by kernel_rfl) ?_|((first|apply gE|apply gR|apply gD|apply gF|apply gS);simp only[zA,simprocAttr,plA,plC,rtA,rtC,X0])|(refine X3 (cE) ?_)|(refine X3 (cR) ?_)|(refine X3 (cM) ?_)|(refine hK _ ?_;clear hK K)|refine Vf rfl ?_)
  apply V5;refine Xpw (W.asks.length) (fun i=>(∀j (hj:j<W.asks.length),j<i->okA (W.asks.take j) W.asks[j]=true)) (fun m i=>tp [4,10] (tr 29 25 [(9,i64 (i:Int)),(2,.ptr (m+0) 0),(3,.ptr (m+1) 0),(8,.ptr (m+2) 0)])) (fun m i=>[some (.box 28 (plC p)),some (.box 82 (rtC r)),some (.box 130 (wyC W))]) (by intros;omega) ?_ fun m i hm hi=> ?_
  ·refine X2 ?_ ?_ (by first|rfl|(simp only[plC,rtC,wyC];rfl)|simp only[plC,rtC,wyC]) rfl rfl rfl<;>simp only[sL,plC,rtC,wyC]
  obtain⟨hi,hq⟩:=hi;simp only[pt];have hw:=Yl (n:=i) 1 1 rfl (by omega);by_cases hlt:i<W.asks.length
  ·have gi:=Xg sgC W.asks i [] hlt;have hq0:=hq;have hlti:=hlt;clear hq;repeat' (first|refine Vk fun K hK=> ?_|apply V0|apply Vb|apply Vs|((first|apply gE|apply gS);simp only[zA,simprocAttr,Xi hm,wyC,hlt])|(refine hK _ ?_;clear hK K)|refine Vt rfl ?_)
   apply V5;refine Xpw (i) (fun k=>(∀q (hq:q<W.asks.length),q<k->(W.asks[q].1==W.asks[i].1)=false)) (fun m k=>tp [4] (tr 36 18 [(10,i64 (k:Int)),(2,.ptr (m+0) 0),(3,.ptr (m+1) 0),(8,.ptr (m+2) 0)])) (fun m k=>[some (.box 28 (plC p)),some (.box 82 (rtC r)),some (.box 130 (wyC W))]) (by intros;omega) ?_ fun m k hm hk=> ?_
   ·refine X2 ?_ ?_ (by first|rfl|(simp only[plC,rtC,wyC];rfl)|simp only[plC,rtC,wyC]) rfl rfl rfl<;>simp only[sL,plC,rtC,wyC]
   obtain⟨hk,hq⟩:=hk;simp only[pt];have hw2:=Yl (n:=k) 1 1 rfl (by omega);by_cases hlt:k<i
   ·have hk2:k<W.asks.length:=by omega
    have gk:=Xg sgC W.asks k [] hk2;have hit:(W.asks[k].1==W.asks[i].1)=true->B=false:=fun h=>bad1 i hlti (by
     unfold okA;rw[iy,f6];exact⟨W.asks[k],Z8 hlt hk2,h⟩)
    repeat' (first|refine Vk fun K hK=> ?_|apply V0|apply Vb|apply Vs|refine Vq (by kernel_rfl) ?_|((first|apply gE|apply gS);simp only[zA,simprocAttr,hg,Xi hm,wyC,sgC,hlt,hlti,hk2,gi,gk,hw2])|(apply Vz;refine Vo rfl rfl rfl (fun _ _=>rfl) ?_<;>first|rfl|(rw[hit (by assumption)];rfl)|skip)|(refine hK _ ?_;clear hK K)|refine Vt rfl ?_|refine Vi rfl (fun hg=> ?_) (fun hg=> ?_)|clear hK K)
    refine⟨k+1,⟨by omega,fun q hq1 hq2=> ?_⟩,by omega,?_⟩
    ·by_cases h':q=k
     ·subst h';assumption
     ·exact hq q hq1 (by omega)
    refine Xx [true,true,true] ?_ ?_<;>intro n_<;>simp only[sM,plC,rtC]
   ·obtain rfl:k=i:=by omega
    have hok:okA (W.asks.take k) W.asks[k]=true:=by
     unfold okA;rw[c9,fi];intro x hx;rw[bm] at hx;obtain⟨q,hq1,rfl⟩:=hx;rw[hq q (by omega) (by omega)];decide
    have h0:¬(k:Int)<(k:Int):=by omega
    repeat' (first|refine Vk fun K hK=> ?_|apply V0|((first|apply gE|apply gS);simp only[zA,simprocAttr,Nat.lt_irrefl,hw])|(apply Vx;simp only[sb,Nat.reduceEqDiff])|(refine hK _ ?_;clear hK K)|refine Vf rfl ?_|clear hK K)
    refine⟨k+1,⟨by omega,fun j hj hji=> ?_⟩,by omega,?_⟩
    ·by_cases h:j=k
     ·subst h;exact hok
     ·exact hq0 j hj (by omega)
    refine Xx [true,true,true] ?_ ?_<;>intro n_<;>simp only[sM,plC,rtC,wyC]
  ·have hall:∀j (hj:j<W.asks.length),okA (W.asks.take j) W.asks[j]=true:=fun j hj=>hq j hj (by omega);clear hq bad1;repeat' (first|refine Vk fun K hK=> ?_|apply V0|((first|apply gE|apply gS);simp only[zA,simprocAttr,Xi hm,wyC,hlt])|(apply Vx;simp only[sb])|(refine hK _ ?_;clear hK K)|refine Vf rfl ?_|clear hK K)
   apply V5;refine Xpw (r.path.length) (fun i=>(∀j (hj:j<r.path.length) (h2:j<EO.length),j<i->Yg8 r j (atF p.sgs r.path[j] EO[j])=true)) (fun m i=>tp [4,12] (tr 54 42 [(11,i64 (i:Int)),(2,.ptr (m+0) 0),(3,.ptr (m+1) 0),(8,.ptr (m+2) 0)])) (fun m i=>[some (.box 28 (plC p)),some (.box 82 (rtC r)),some (.box 130 (wyC W))]) (by intros;omega) ?_ fun m i hm hi=> ?_
   ·refine X2 ?_ ?_ (by first|rfl|(simp only[plC,rtC,wyC];rfl)|simp only[plC,rtC,wyC]) rfl rfl rfl<;>simp only[sL,plC,rtC,wyC]
   obtain⟨hi,hq⟩:=hi;simp only[pt];have hw:=Yl (n:=i) 1 1 rfl (by omega);by_cases hlt:i<r.path.length
   ·have gi:=Xg Ym r.path i [] hlt;have h2:=hlen hlt;have go:=Xg Ym EO i [] h2;have cAi:=cA r.path[i] EO[i];have okv:Yg8 r i (atF p.sgs r.path[i] EO[i])= !((atF p.sgs r.path[i] EO[i] !=0&&decide (i+1<r.path.length))||(i+1==r.path.length&&atF p.sgs r.path[i] EO[i] !=r.ex)):=rfl;have next:Yg8 r i (atF p.sgs r.path[i] EO[i])=true->∀j (hj:j<r.path.length) (h2:j<EO.length),j<i+1->Yg8 r j (atF p.sgs r.path[j] EO[j])=true:=fun h j hj h2 hji=>by
     by_cases h':j=i
     ·subst h';exact h
     ·exact hq j hj h2 (by omega)
    have bad:=bad2 i hlt h2;have d1:decide (i<r.path.length - 1)=decide (i+1<r.path.length):=fp.2 (by omega);have d2:((i:Int)==((r.path.length - 1:Nat):Int))=(i+1==r.path.length):=by rw[ar];simp;omega
    clear hq bad2 good cA;generalize Yg8 r i (atF p.sgs r.path[i] EO[i])=OK at*;generalize atF p.sgs r.path[i] EO[i]=AT at*;generalize decide (i+1<r.path.length)=D1 at*;generalize (i+1==r.path.length)=D2 at*;repeat' (first|refine Vk fun K hK=> ?_|apply V0|apply Vb|apply Vs|refine Vq (by kernel_rfl) ?_|((first|apply gE|apply gR|apply gS);simp only[zA,simprocAttr,hg,Xi hm,plC,rtC,Ym,hlt,h2,gi,go,hwp,d1,d2,hw])|(apply Vz;refine Vo rfl rfl rfl (fun _ _=>rfl) ?_<;>first|rfl|(rw[bad (by rw[okv];simp_all)];rfl)|skip)|(refine X3 (cAi) ?_)|((refine Vg (fun hg=> ?_) (fun hg=> ?_))<;>try simp only[nb] at hg)|(refine hK _ ?_;clear hK K)|refine Vt rfl ?_|refine Vf rfl ?_|refine Vi rfl (fun hg=> ?_) (fun hg=> ?_)|clear hK K)
    all_goals (refine⟨i+1,⟨by omega,next (by rw[okv];simp_all)⟩,by omega,?_⟩)
    all_goals (refine Xx [true,true,true] ?_ ?_<;>intro n_<;>simp only[X4,sm,plC,rtC,wyC,hlt,e8])
   ·have hT:=good hall fun j hj h2=>hq j hj h2 (by omega);repeat' (first|refine Vk fun K hK=> ?_|apply V0|((first|apply gE|apply gS);simp only[zA,simprocAttr,Xi hm,rtC,hlt])|(apply Vz;refine Vo rfl rfl rfl (fun _ _=>rfl) ?_<;>first|rfl|(rw[hT];rfl)|skip)|(apply Vx;simp only[sb])|(refine hK _ ?_;clear hK K)|refine Vf rfl ?_|clear hK K)
end Go.Proofs.YtdngdjbgmojcoaaGreat.Pln
