/- The layer of abstract values, joined. -/
import Derived.Test.YtdngdjbgmojcoaaGreatZPR
import Derived.Test.YtdngdjbgmojcoaaGreatZS2
import Derived.Test.YtdngdjbgmojcoaaGreatZWC
import Derived.Test.YtdngdjbgmojcoaaGreatZTA
import Derived.KernelRfl
import Derived.Test.YtdngdjbgmojcoaaGreatZPQ
namespace Go.Proofs.YtdngdjbgmojcoaaGreat.Pln
set_option linter.all false
set_option maxHeartbeats 8000000
set_option maxRecDepth 4000
open Go Go.VS Tab
attribute [local irreducible] AWp Xp0 Pg X5c Qy Lt Tp FdT Eb
abbrev okX (b:Bool):Res:= .box 4 [bool b]
def gpC (g:Gp) (W:AV):List AV:=g.hold.map i64++(g.ask.map i64++[W])
def gpR (g:Gp) (W:AV):Res:= .box 134 (gpC g W)
theorem Xp5 {P:Program} {σ:AState} {K:AV->List (Nat×Res)->Prop} {f:FuncId} {args:List AV} {k j i:Nat} {q u v:Option Res} {q' u':Res} {r:AV} (h:Xr P f args [(k,q),(j,u),(i,v)] r [(k,q'),(j,u')]) (h1:σ.look k=q) (h2:σ.look j=u) (h3:σ.look i=v)
  (d1:σ.dom k) (d2:σ.dom j) (d3:σ.dom i) (n1:q≠some .dead) (n2:u≠some .dead) (n3:v≠some .dead) (hK:K r [(k,q'),(j,u')]):M8 P σ K f args:=
 ⟨_,r,_,h,⟨h1,h2,h3,trivial⟩,⟨d1,d2,trivial⟩,(fun x hx=>by simp at hx;rcases hx with rfl|rfl|rfl;exact⟨d1,n1⟩;exact⟨d2,n2⟩;exact⟨d3,n3⟩),hK⟩
theorem Xto {s:Nat->Option Res} {a b:Nat} (h:a≠b) (r q r' q':Res):Xw (Xw (Xw (Xw s a r) b q) a r') b q'=Xw (Xw s a r') b q':=by
 funext j;unfold Xw;by_cases h1:j=b
 ·simp [h1]
 ·by_cases h2:j=a
  ·simp [h2]
  ·simp [h1,h2]
theorem Xx8 (w:Wy) (l:Int×UInt8×Int×Int):(if ((w.path.length:Nat):Int)<(if l.2.2.1<0 then 0 else l.2.2.1) then((w.path.length:Nat):Int) else(if l.2.2.1<0 then 0 else l.2.2.1))=((Xpm w l:Nat):Int):=by
 unfold Xpm;by_cases h:l.2.2.1<0
 ·rw[if_pos h,if_neg (by omega)];omega
 ·rw[if_neg h];split<;>omega
theorem Xzg (w:Wy) (l:Int×UInt8×Int×Int) (fid:FuncId) (caps:List AV) (kr kg:Nat) (hne:kr≠kg) (W:AV) (g:Gp) (hb:Xd Tryz.prog fid=True) (hl:w.path.length+w.over.length<=1000000)
  (hp:∀g' s,s∈w.path++w.over->g'.hold.length=g.hold.length->g'.ask.length=g.ask.length->Xr Tryz.prog fid (i64 s::caps) [(kr,some (okX g'.ok)),(kg,some (gpR g' W))] (bool (Xos l.1 g' s).ok) [(kr,okX (Xos l.1 g' s).ok),(kg,gpR (Xos l.1 g' s) W)]):
  Xr Tryz.prog 174 [wyA w,lkA l,.fn (.func fid) caps] [(kr,some (okX g.ok)),(kg,some (gpR g W))] (.tup []) [(kr,okX (Xsn l.1 g (Xql w l)).ok),(kg,gpR (Xsn l.1 g (Xql w l)) W)]:=by
 have q0:((l.2.1.toNat:Int)==0)=(l.2.1==0):=Xr8 l.2.1 0;by_cases p0:l.2.1=0
 ·have e0:(l.2.1==0)=true:=by simpa using p0
  rw[e0] at q0;have e1:Xql w l=[]:=by unfold Xql;rw[if_pos p0]
  rw[e1,show Xsn l.1 g []=g from by rw[Xsn]];refine Xc 2 Tryz.func174 rfl fun n out _ _=> ?_;simp only[sn,Tryz.ntmps174,simprocAttr];rename_i hneeds hgv;obtain⟨hkr,hkg,_⟩:=hneeds;repeat' (first|refine Vk fun K hK=> ?_|apply V0|apply Vb|apply Vc|apply Vr|apply Vs|with_reducible apply ab|refine Vq (by kernel_rfl) ?_|((first|apply gE|apply gR);simp only[zA,simprocAttr,wyA,wyC,lkA,lkC,q0])|exact Vn|(apply Vz;refine Xy (.inr rfl) rfl rfl rfl (fun _ _=>rfl)<;>first|rfl|skip)|(apply Vx;simp only[sb,reduceIte,Nat.reduceEqDiff])|(refine hK _ ?_;clear hK K)|refine Vt rfl ?_|refine Vf rfl ?_|refine Vi rfl (fun hg=> ?_) (fun hg=> ?_)|clear hK K)
  exact Yd (Xy (.inr rfl) rfl rfl rfl (fun j _=>by rw[Zc,Zc,Wz,Qb hkr,Qb hkg]))
 ·have e0:(l.2.1==0)=false:=by simpa using p0
  rw[e0] at q0;obtain⟨L,hL⟩:∃L,L=Xql w l:=⟨_,rfl⟩
  have eL:L=w.path.drop (Xpm w l)++w.over:=by rw[hL];unfold Xql;rw[if_neg p0]
  have hLm:∀s,s∈L->s∈w.path++w.over:=fun s hs=>by
   rw[eL,dh] at hs;rw[dh];rcases hs with h|h
   ·exact .inl (iq h)
   ·exact .inr h
  have hgl:Xpm w l<=w.path.length:=by unfold Xpm;omega
  have hLl:L.length<=1000000:=by rw[eL,ac,bt];omega
  have gm:=Xx8 w l;have cc:=fun k=>Xpu k ((w.path.drop (Xpm w l)).map Ym) (w.over.map Ym) .full .sh .sh (by simp;omega);have eC:((w.path.drop (Xpm w l)).map Ym)++w.over.map Ym=L.map Ym:=by rw[eL,aw]
  have eN:((w.path.drop (Xpm w l)).map Ym).length+(w.over.map Ym).length=L.length:=by rw[eL];simp
  rw[eC,eN] at cc;have lit:∀(σ:AState) (K:AV->List (Nat×Res)->Prop),X1 tab σ K none 224 2 [(0,.sl 1 ((w.path.drop (Xpm w l)).map Ym) .sh),(1,.sl 1 (w.over.map Ym) .sh)]=K (.sl 1 [[.sl 1 ((w.path.drop (Xpm w l)).map Ym) .sh],[.sl 1 (w.over.map Ym) .sh]] .full) []:=fun σ K=>Te (T:=tab) (ti:=ti224) (te:=ti61) rfl rfl rfl rfl rfl rfl;rw[<- hL];obtain⟨F,hF⟩:∃F:Nat->Gp,F=fun i=>(L.take i).foldl (Xos l.1) g:=⟨_,rfl⟩
  obtain⟨G,hG⟩:∃G,G=Xsn l.1 g L:=⟨_,rfl⟩
  obtain⟨QH,hQH⟩:∃QH:Nat->Prop,QH=fun i=>Xsn l.1 (F i) (L.drop i)=G:=⟨_,rfl⟩
  have F0:F 0=g:=by rw[hF];rfl
  have Fs:∀i (hi:i<L.length),F (i+1)=Xos l.1 (F i) L[i]:=fun i hi=>by
   rw[hF]
   show(L.take (i+1)).foldl _ _= _
   rw[aj hi,dp];rfl
  have Fl:∀i,i<=L.length->(F i).hold.length=g.hold.length∧(F i).ask.length=g.ask.length:=fun i=>by
   induction i with
   |zero=>intro _;rw[F0];exact⟨rfl,rfl⟩
   |succ i ih=>
    intro hi;have:=ih (by omega);rw[Fs i (by omega)];exact⟨by simp [Xos,this.1],this.2⟩
  have h0:QH 0:=by rw[hQH];show Xsn l.1 (F 0) (L.drop 0)=G;rw[F0,hG,iz]
  rw[<- hG];clear hF hL eL eC eN;refine Xc 4 Tryz.func174 rfl fun n out _ _=> ?_;simp only[sn,Tryz.ntmps174,simprocAttr];rename_i hneeds hgv;obtain⟨hkr,hkg,_⟩:=hneeds;obtain⟨hkrn,hkgn,_⟩:=hgv;have o0:Xw (Xw out kr (okX (F 0).ok)) kg (gpR (F 0) W)=out:=by rw[F0,Qb hkr,Qb hkg]
  repeat' (first|refine Vk fun K hK=> ?_|apply V0|apply Vb|apply Vc|apply Vr|apply Vs|with_reducible apply ab|((first|apply gE|apply gR);simp only[zA,simprocAttr,wyA,wyC,lkA,lkC,q0])|exact Vn|(apply Vz;refine Xy (.inr rfl) rfl rfl rfl (fun _ _=>rfl)<;>first|rfl|skip)|(apply Vx;simp only[sb,reduceIte,Nat.reduceEqDiff])|(refine hK _ ?_;clear hK K)|refine Vt rfl ?_|refine Vf rfl ?_|refine Vi rfl (fun hg=> ?_) (fun hg=> ?_)|clear hK K)
  have ht:List.take (w.path.length - Xpm w l) (List.drop (Xpm w l) (List.map Ym w.path))=(w.path.drop (Xpm w l)).map Ym:=by
   rw[<- List.map_drop,db (by simp)]
  refine Ny Xj [] [[],[0],[],[1],[],[],[0],[],[],[],[],[0],[],[2],[],[]] [[],[],[],[],[],[],[],[],[],[],[],[],[],[2],[],[]] follows (by kernel_rfl) (by decide) (by decide) (by kernel_rfl) ?_;simp only[zB,simprocAttr,lit,Y2r,P6,Nh,gm,hgl,ht];refine Sb (cc (n+2)) (X6 _ (Nat.le_refl _) 2) (Xb _ (by simp)) (by simp) ?_;simp only[zA,simprocAttr];repeat' (first|(refine hK _ ?_;clear hK K)|with_reducible apply ab)
  repeat' (first|refine Vk fun K hK=> ?_|apply V0|apply Vb|apply Vc|apply Vr|apply Vs|with_reducible apply ab|refine Vq (by kernel_rfl) ?_|((first|apply gE|apply gR);simp only[zA,simprocAttr,ai])|exact Vn|(apply Vz;refine Xy (.inr rfl) rfl rfl rfl (fun _ _=>rfl)<;>first|rfl|skip)|(apply Vx;simp only[sb,reduceIte,Nat.reduceEqDiff])|(refine hK _ ?_;clear hK K)|refine Vt rfl ?_|refine Vf rfl ?_|refine Vi rfl (fun hg=> ?_) (fun hg=> ?_)|clear hK K)
  apply V5;refine Xz (fun i:Nat=>tp [7] (tr 27 8 [(26,i64 (i:Int))])) (fun i=>[some (.box 130 (wyC w)),some (.box 65 (lkC l)),some (.row 3 1 L.length),none]) (fun i=>Xw (Xw out kr (okX (F i).ok)) kg (gpR (F i) W)) (fun i=>i<=L.length∧QH i) (fun i=>L.length - i) 0 ⟨br _,by assumption⟩ ?_ fun i hi=> ?_
  ·refine X2 ?_ ?_ (by first|rfl|(simp only[o0];rfl)|simp only[o0]) rfl rfl rfl<;>simp only[sL,wyC,lkC]
  obtain⟨hi,hq⟩:=hi;simp only[pt];have hw:=Yl (n:=i) 1 1 rfl (by omega);rw[hQH] at hq;by_cases hlt:i<L.length
  ·have gi:=Xg Ym L i [] hlt;obtain⟨f1,f2⟩:=Fl i (by omega);have c:=hp (F i) L[i] (hLm _ (a8 hlt)) f1 f2;have fs:=Fs i hlt;rw[cd hlt,Xsn,<- fs] at hq;rw[<- fs] at c;have oR:Xw (Xw out kr (okX (F i).ok)) kg (gpR (F i) W) kr=some (okX (F i).ok):=by rw[Zp _ _ hne,Xt]
   have oG:Xw (Xw out kr (okX (F i).ok)) kg (gpR (F i) W) kg=some (gpR (F i) W):=Xt _ _ _;have oS:Xw (Xw (Xw (Xw out kr (okX (F i).ok)) kg (gpR (F i) W)) kr (okX (F (i+1)).ok)) kg (gpR (F (i+1)) W)=Xw (Xw out kr (okX (F (i+1)).ok)) kg (gpR (F (i+1)) W):=Xto hne _ _ _ _;have next:(F (i+1)).ok=true->QH (i+1):=fun h=>by rw[hQH];rw[if_pos h] at hq;exact hq
   have stop:(F (i+1)).ok=false->F (i+1)=G:=fun h=>by rw[h] at hq;simpa using hq
   obtain⟨O',hO'⟩:∃O',O'=Xw (Xw out kr (okX (F (i+1)).ok)) kg (gpR (F (i+1)) W):=⟨_,rfl⟩
   rw[<- hO'] at oS;generalize Xw (Xw out kr (okX (F i).ok)) kg (gpR (F i) W)=O at*;cases hok:(F (i+1)).ok with
   |true=>
    rw[hok] at c oS;repeat' (first|refine Vk fun K hK=> ?_|apply V0|apply Vb|apply Vc|apply Vr|apply Vs|with_reducible apply ab|refine Vq (by kernel_rfl) ?_|((first|apply gE|apply gR);simp only[zA,simprocAttr,wyC,lkC,hlt,gi,Ym,hb,Xa hkrn,Xa hkgn,oS,hw])|exact Vn|(apply Vz;refine Xy (.inr rfl) rfl rfl rfl (fun _ _=>rfl)<;>first|rfl|skip)|(refine Xk c (by rw[X8 hkrn];exact oR) (by rw[X8 hkgn];exact oG) (by rw[X7 hkrn];trivial) (by rw[X7 hkgn];trivial) (by simp) (by simp [gpR]) ?_)|(apply Vx;simp only[sb,reduceIte,Nat.reduceEqDiff])|(refine hK _ ?_;clear hK K)|refine Vt rfl ?_|refine Vf rfl ?_|refine Vi rfl (fun hg=> ?_) (fun hg=> ?_)|clear hK K)
    refine⟨i+1,⟨by omega,next hok⟩,by omega,?_⟩;rw[hO',hok];refine La rfl ?_ ?_<;>simp only[sL]
   |false=>
    rw[hok] at c oS;repeat' (first|refine Vk fun K hK=> ?_|apply V0|apply Vb|apply Vc|apply Vr|apply Vs|with_reducible apply ab|refine Vq (by kernel_rfl) ?_|((first|apply gE|apply gR);simp only[zA,simprocAttr,wyC,lkC,hlt,gi,Ym,hb,Xa hkrn,Xa hkgn,oS])|exact Vn|(apply Vz;refine Xy (.inr rfl) rfl rfl rfl (fun _ _=>rfl)<;>first|rfl|skip)|(refine Xk c (by rw[X8 hkrn];exact oR) (by rw[X8 hkgn];exact oG) (by rw[X7 hkrn];trivial) (by rw[X7 hkgn];trivial) (by simp) (by simp [gpR]) ?_)|(apply Vx;simp only[sb,reduceIte,Nat.reduceEqDiff])|(refine hK _ ?_;clear hK K)|refine Vt rfl ?_|refine Vf rfl ?_|refine Vi rfl (fun hg=> ?_) (fun hg=> ?_)|clear hK K)
    exact Yd (Xy (.inr rfl) rfl rfl rfl (fun j _=>by rw[hO',stop hok];rfl))
  ·obtain rfl:i=L.length:=by omega
   rw[f8,Xsn] at hq;rw[hq];repeat' (first|refine Vk fun K hK=> ?_|apply V0|apply Vb|apply Vc|apply Vr|apply Vs|with_reducible apply ab|refine Vq (by kernel_rfl) ?_|((first|apply gE|apply gR);simp only[zA,simprocAttr,wyC,lkC,hlt])|exact Vn|(apply Vz;refine Xy (.inr rfl) rfl rfl rfl (fun _ _=>rfl)<;>first|rfl|skip)|(apply Vx;simp only[sb])|(refine hK _ ?_;clear hK K)|refine Vt rfl ?_|refine Vf rfl ?_|refine Vi rfl (fun hg=> ?_) (fun hg=> ?_)|clear hK K)
   exact Xy (.inl rfl) rfl rfl rfl (fun j _=>rfl)
theorem Xq3 (l:List AV) (z:Nat) (x:AV) (h:z<l.length):Yf l z [x]=l.set z x:=by
 rw[ij,if_pos h];simp [Yf]
theorem Xvt {l:List AV} {z s:Nat} {x:AV} (h:l[z]? =some x):pick false s (l.drop z)=some x:=by
 unfold pick;rw[if_neg (by decide),ie,h]
section
variable {g:Gp} {W:AV} {z:Nat}
theorem Xou (hh:g.hold.length=100) (ha:g.ask.length=100):(gpC g W).length=201:=by simp [gpC,hh,ha]
theorem Xym (hh:g.hold.length=100) (hz:z<100) (s:Nat):pick false s ((gpC g W).drop z)=some (i64 (g.hold.getD z 0)):=Xvt (by
 rw[gpC,ay (by simp;omega),b9,af,ah (by omega:z<g.hold.length)];rfl)
theorem Xxw (hh:g.hold.length=100) (ha:g.ask.length=100) (s:Nat):pick false s ((gpC g W).drop 200)=some W:=Xvt (by
 rw[gpC,au (by simp;omega),ai,hh,au (by simp;omega),ai,ha];rfl)
theorem Xyn (hh:g.hold.length=100) (ha:g.ask.length=100) (hz:z<100) (b:Bool) (x:Int):Yf (gpC g W) z [i64 x]=gpC ⟨b,g.hold.set z x,g.ask⟩ W:=by
 rw[Xq3 _ _ _ (by rw[Xou hh ha];omega),gpC,gpC,List.set_append_left _ _ (by simp;omega),<- i9]
theorem Xyo (hh:g.hold.length=100) (ha:g.ask.length=100) (hz:z<100) (b:Bool) (x:Int):Yf (gpC g W) (100+z) [i64 x]=gpC ⟨b,g.hold,g.ask.set z x⟩ W:=by
 rw[Xq3 _ _ _ (by rw[Xou hh ha];omega),gpC,gpC,im _ _ (by simp;omega),ai,hh,Nat.add_sub_cancel_left,List.set_append_left _ _ (by simp;omega),<- i9]
end
theorem Xyp (s:Int) (kr kg:Nat) (hne:kr≠kg) (g:Gp) (W:AV) (l:Int×UInt8×Int×Int) (hs:0<=s∧s<100) (hh:g.hold.length=100) (ha:g.ask.length=100):
  Xr Tryz.prog 175 [i64 s,.ptr kr 0,.ptr kg 0,.ref (lkC l)] [(kr,some (okX g.ok)),(kg,some (gpR g W))] (bool (Xos l.1 g s).ok) [(kr,okX (Xos l.1 g s).ok),(kg,gpR (Xos l.1 g s) W)]:=by
 obtain⟨z,rfl⟩:=bj hs.1;have hz:z<100:=by omega
 have hzi:(z:Int)<100:=hs.2;have gh:=fun s=>Xym (W:=W) hh hz s;have gs:=Xyn (W:=W) hh ha hz (Xos l.1 g z).ok l.1;have gl:=Xou (W:=W) hh ha;have eg:(⟨(Xos l.1 g z).ok,g.hold.set z l.1,g.ask⟩:Gp)=Xos l.1 g z:=rfl;have eo:(Xos l.1 g z).ok=(g.ok&&(g.hold.getD z 0==0)):=rfl;rw[eg] at gs;rw[gpR,gpR,eo];generalize gpC (Xos l.1 g z) W=C' at*;generalize gpC g W=C at*;generalize g.hold.getD z 0=H at*;generalize g.ok=O at*;have w1:(kg=kr)=False:=ef (Ne.symm hne);have w2:(kr=kg)=False:=ef hne;cases O<;>simp only[bo,dc]
 ·refine Xc 0 Tryz.func175 rfl fun n out _ _=> ?_;simp only[sn,Tryz.ntmps175,simprocAttr];have hg:=Nat.le_refl 0;rename_i hneeds hgv;obtain⟨hkr,hkg,_⟩:=hneeds;obtain⟨hkrn,hkgn,_⟩:=hgv;repeat' (first|refine Vk fun K hK=> ?_|apply V0|apply Vs|with_reducible apply ab|((first|apply gE|apply gR|apply gS);simp only[zA,simprocAttr, -List.reduceReplicate,lkC,hkr,hkg,X8 hkrn,X8 hkgn,X7 hkrn,X7 hkgn,Xa hkrn,Xa hkgn,Xif,w1,w2,gs,gl,hzi,X0])|exact Vn|(apply Vz;refine Vo rfl rfl rfl (fun _ _=>rfl) ?_<;>first|rfl|skip)|((refine Vg (fun hg=> ?_) (fun hg=> ?_))<;>try simp only[nb] at hg)|(refine hK _ ?_;clear hK K)|clear hK K)
  ·omega
 ·refine Xc 0 Tryz.func175 rfl fun n out _ _=> ?_;simp only[sn,Tryz.ntmps175,simprocAttr];have hg:=Nat.le_refl 0;rename_i hneeds hgv;obtain⟨hkr,hkg,_⟩:=hneeds;obtain⟨hkrn,hkgn,_⟩:=hgv;repeat' (first|refine Vk fun K hK=> ?_|apply V0|apply Vs|with_reducible apply ab|((first|apply gE|apply gR|apply gS);simp only[zA,simprocAttr, -List.reduceReplicate,lkC,hkr,hkg,X8 hkrn,X8 hkgn,X7 hkrn,X7 hkgn,Xa hkrn,Xa hkgn,Xif,w1,w2,gh,gs,gl,hzi,X0])|exact Vn|(apply Vz;refine Vo rfl rfl rfl (fun _ _=>rfl) ?_<;>first|rfl|skip)|((refine Vg (fun hg=> ?_) (fun hg=> ?_))<;>try simp only[nb] at hg)|(refine hK _ ?_;clear hK K)|clear hK K)
  ·omega
theorem Xqq:Xrt Tryz.prog 251:=⟨_,_,Tryz.underlying251,Tryz.underlying3,fun w=>by
 have h:(Tryz.prog.info? 3).bind (·.zero)=some (.int .i64 0):=by kernel_rfl
 cases hi:Tryz.prog.info? 3 with
 |none=>rw[hi] at h;cases h
 |some i=>
  rw[hi,Option.bind_some] at h;simp [zeroValue,typeInfo,hi,h]⟩
theorem Xyq (a:Int×Int×Int) (kr kg km b:Nat) (hne:kr≠kg) (cl:List (Int×Int)) (g:Gp) (W:AV) (hs:0<=a.1∧a.1<100) (hh:g.hold.length=100) (ha:g.ask.length=100):
  Xr Tryz.prog 177 [sgA a,.ptr kr 0,.ref [.val (.map (some b))],.ptr kg 0] [(kr,some (okX g.ok)),(kg,some (gpR g W)),(km,some (.pin b (Xph cl) []))] (bool (Xot cl g a).ok) [(kr,okX (Xot cl g a).ok),(kg,gpR (Xot cl g a) W)]:=by
 obtain⟨a1,a2,a3⟩:=a;dsimp only at hs;obtain⟨z,rfl⟩:=bj hs.1;have hz:z<100:=by omega
 have hzi:(z:Int)<100:=hs.2;have gs:=Xyo (W:=W) hh ha hz (Xot cl g ((z:Int),a2,a3)).ok a2;have gl:=Xou (W:=W) hh ha;have eg:(⟨(Xot cl g ((z:Int),a2,a3)).ok,g.hold,g.ask.set z a2⟩:Gp)=Xot cl g ((z:Int),a2,a3):=rfl;have eo:(Xot cl g ((z:Int),a2,a3)).ok=(g.ok&&(Xyw cl z==a2)):=rfl;rw[eg] at gs;rw[gpR,gpR,eo];generalize gpC (Xot cl g ((z:Int),a2,a3)) W=C' at*;generalize gpC g W=C at*;generalize g.ok=O at*;have w1:(kg=kr)=False:=ef (Ne.symm hne);have w2:(kr=kg)=False:=ef hne;cases O<;>simp only[bo,dc]
 ·refine Kz 1 Tryz.func177 rfl fun n out _ _ _=> ?_;simp only[sn,Tryz.ntmps177,simprocAttr];have hg:=Nat.le_refl 0;rename_i hneeds hgv hz0;obtain⟨hkr,hkg,hkm,_⟩:=hneeds;obtain⟨hkrn,hkgn,_⟩:=hgv;have hkmn:km<n:=by
   rcases Nat.lt_or_ge km n with h|h
   ·exact h
   ·rw[hz0 km h] at hkm;cases hkm
  repeat' (first|refine Vk fun K hK=> ?_|apply V0|apply Vs|with_reducible apply ab|((first|apply gE|apply gR|apply gS);simp only[zA,simprocAttr, -List.reduceReplicate,sgA,sgC,hkr,hkg,X8 hkrn,X8 hkgn,X7 hkrn,X7 hkgn,Xa hkrn,Xa hkgn,Xif,w1,w2,gs,gl,hzi,X0])|exact Vn|(apply Vz;refine Vo rfl rfl rfl (fun _ _=>rfl) ?_<;>first|rfl|skip)|(exact Xqq)|(refine Xw1 (by rw[X8 hkmn];exact hkm) (by rw[X7 hkmn];trivial) ?_)|((refine Vg (fun hg=> ?_) (fun hg=> ?_))<;>try simp only[nb] at hg)|(refine hK _ ?_;clear hK K)|clear hK K)
  ·omega
 ·refine Kz 1 Tryz.func177 rfl fun n out _ _ _=> ?_;simp only[sn,Tryz.ntmps177,simprocAttr];have hg:=Nat.le_refl 0;rename_i hneeds hgv hz0;obtain⟨hkr,hkg,hkm,_⟩:=hneeds;obtain⟨hkrn,hkgn,_⟩:=hgv;have hkmn:km<n:=by
   rcases Nat.lt_or_ge km n with h|h
   ·exact h
   ·rw[hz0 km h] at hkm;cases hkm
  repeat' (first|refine Vk fun K hK=> ?_|apply V0|apply Vs|with_reducible apply ab|((first|apply gE|apply gR|apply gS);simp only[zA,simprocAttr, -List.reduceReplicate,sgA,sgC,Xtz,hkr,hkg,X8 hkrn,X8 hkgn,X7 hkrn,X7 hkgn,Xa hkrn,Xa hkgn,Xif,w1,w2,gs,gl,hzi,X0])|exact Vn|(apply Vz;refine Vo rfl rfl rfl (fun _ _=>rfl) ?_<;>first|rfl|skip)|(exact Xqq)|(refine Xw1 (by rw[X8 hkmn];exact hkm) (by rw[X7 hkmn];trivial) ?_)|((refine Vg (fun hg=> ?_) (fun hg=> ?_))<;>try simp only[nb] at hg)|(refine hK _ ?_;clear hK K)|clear hK K)
  ·omega
theorem Xzh (w:Wy) (l:Int×UInt8×Int×Int) (fid:FuncId) (caps:List AV) (kr kg km:Nat) (hne:kr≠kg) (hnr:km≠kr) (hng:km≠kg) (P0:Res) (hP:P0≠ .dead) (cl:List (Int×Int)) (W:AV) (g:Gp) (hb:Xd Tryz.prog fid=True) (hl:w.asks.length<=1000000)
  (hp:∀g' a,a∈w.asks->g'.hold.length=g.hold.length->g'.ask.length=g.ask.length->Xr Tryz.prog fid (sgA a::caps) [(kr,some (okX g'.ok)),(kg,some (gpR g' W)),(km,some P0)] (bool (Xot cl g' a).ok) [(kr,okX (Xot cl g' a).ok),(kg,gpR (Xot cl g' a) W)]):
  Xr Tryz.prog 176 [wyA w,lkA l,.fn (.func fid) caps] [(kr,some (okX g.ok)),(kg,some (gpR g W)),(km,some P0)] (.tup []) [(kr,okX (Xs9 cl (Xug l) g (Xrn w l)).ok),(kg,gpR (Xs9 cl (Xug l) g (Xrn w l)) W)]:=by
 have q0:((l.2.1.toNat:Int)==0)=(l.2.1==0):=Xr8 l.2.1 0;by_cases p0:l.2.1=0
 ·have e0:(l.2.1==0)=true:=by simpa using p0
  rw[e0] at q0;have e1:Xrn w l=[]:=by unfold Xrn;rw[if_pos p0]
  rw[e1,show Xs9 cl (Xug l) g []=g from by rw[Xs9]];refine Xc 2 Tryz.func176 rfl fun n out _ _=> ?_;simp only[sn,Tryz.ntmps176,simprocAttr];have hg:=Nat.le_refl 0;rename_i hneeds hgv;obtain⟨hkr,hkg,_⟩:=hneeds;repeat' (first|refine Vk fun K hK=> ?_|apply V0|apply Vb|apply Vc|apply Vr|apply Vs|with_reducible apply ab|((first|apply gE|apply gR|apply gS);simp only[zA,simprocAttr,wyA,wyC,lkA,lkC,q0])|exact Vn|(apply Vz;refine Xy (.inr rfl) rfl rfl rfl (fun _ _=>rfl)<;>first|rfl|skip)|((refine Vg (fun hg=> ?_) (fun hg=> ?_))<;>try simp only[nb] at hg)|(apply Vx;simp only[sb,reduceIte,Nat.reduceEqDiff])|(refine hK _ ?_;clear hK K)|refine Vt rfl ?_|refine Vf rfl ?_|refine Vi rfl (fun hg=> ?_) (fun hg=> ?_)|clear hK K)
  exact Yd (Xy (.inr rfl) rfl rfl rfl (fun j _=>by rw[Zc,Zc,Wz,Qb hkr,Qb hkg]))
 ·have e0:(l.2.1==0)=false:=by simpa using p0
  rw[e0] at q0;have eL:Xrn w l=w.asks:=by unfold Xrn;rw[if_neg p0]
  rw[eL];obtain⟨F,hF⟩:∃F:Nat->Gp,F=fun i=>(w.asks.take i).foldl (fun g a=>if Xug l a then Xot cl g a else g) g:=⟨_,rfl⟩
  obtain⟨G,hG⟩:∃G,G=Xs9 cl (Xug l) g w.asks:=⟨_,rfl⟩
  obtain⟨QA,hQA⟩:∃QA:Nat->Prop,QA=fun i=>Xs9 cl (Xug l) (F i) (w.asks.drop i)=G:=⟨_,rfl⟩
  have F0:F 0=g:=by rw[hF];rfl
  have Fs:∀i (hi:i<w.asks.length),F (i+1)=if Xug l w.asks[i] then Xot cl (F i) w.asks[i] else F i:=fun i hi=>by
   rw[hF]
   show(w.asks.take (i+1)).foldl _ _= _
   rw[aj hi,dp];rfl
  have Fl:∀i,i<=w.asks.length->(F i).hold.length=g.hold.length∧(F i).ask.length=g.ask.length:=fun i=>by
   induction i with
   |zero=>intro _;rw[F0];exact⟨rfl,rfl⟩
   |succ i ih=>
    intro hi;have:=ih (by omega);rw[Fs i (by omega)];split
    ·exact⟨this.1,by simp [Xot,this.2]⟩
    ·exact this
  have h0:QA 0:=by rw[hQA];show Xs9 cl (Xug l) (F 0) (w.asks.drop 0)=G;rw[F0,hG,iz]
  rw[<- hG];clear hF eL;refine Kz 3 Tryz.func176 rfl fun n out _ _ _=> ?_;simp only[sn,Tryz.ntmps176,simprocAttr];have hg:=Nat.le_refl 0;rename_i hneeds hgv hz0;obtain⟨hkr,hkg,hkm,_⟩:=hneeds;obtain⟨hkrn,hkgn,_⟩:=hgv;have hkmn:km<n:=by
   rcases Nat.lt_or_ge km n with h|h
   ·exact h
   ·rw[hz0 km h] at hkm;cases hkm
  have o0:Xw (Xw out kr (okX (F 0).ok)) kg (gpR (F 0) W)=out:=by rw[F0,Qb hkr,Qb hkg]
  repeat' (first|refine Vk fun K hK=> ?_|apply V0|apply Vb|apply Vc|apply Vr|apply Vs|with_reducible apply ab|((first|apply gE|apply gR|apply gS);simp only[zA,simprocAttr,wyA,wyC,lkA,lkC,q0])|exact Vn|(apply Vz;refine Xy (.inr rfl) rfl rfl rfl (fun _ _=>rfl)<;>first|rfl|skip)|((refine Vg (fun hg=> ?_) (fun hg=> ?_))<;>try simp only[nb] at hg)|(apply Vx;simp only[sb,reduceIte,Nat.reduceEqDiff])|(refine hK _ ?_;clear hK K)|refine Vt rfl ?_|refine Vf rfl ?_|refine Vi rfl (fun hg=> ?_) (fun hg=> ?_)|clear hK K)
  apply V5;refine Xl (fun m (i:Nat)=>tp [7] (tr 15 20 [(14,i64 (i:Int)),(3,.ptr (m+0) 0),(4,.ptr (m+1) 0),(8,.top),(11,.top)])) (fun m i=>[some (.box 130 (wyC w)),some (.box 65 (lkC l)),none]) (fun i=>Xw (Xw out kr (okX (F i).ok)) kg (gpR (F i) W)) (fun i=>i<=w.asks.length∧QA i) (fun i=>w.asks.length - i) 0 ⟨br _,by assumption⟩ ?_ fun m i hm hi=> ?_
  ·refine X2 ?_ ?_ (by first|rfl|(simp only[o0];rfl)|simp only[o0]) rfl rfl rfl<;>simp only[sL,wyC,lkC]
  obtain⟨hi,hq⟩:=hi;simp only[pt];have hw:=Yl (n:=i) 1 1 rfl (by omega);rw[hQA] at hq;by_cases hlt:i<w.asks.length
  ·have gi:=Xg sgC w.asks i [] hlt;obtain⟨f1,f2⟩:=Fl i (by omega);have c:=hp (F i) w.asks[i] (a8 hlt) f1 f2;have fs:=Fs i hlt;rw[cd hlt,Xs9] at hq;obtain⟨a,ha⟩:∃a,a=w.asks[i]:=⟨_,rfl⟩
   rw[<- ha] at gi c fs hq;have oR:Xw (Xw out kr (okX (F i).ok)) kg (gpR (F i) W) kr=some (okX (F i).ok):=by rw[Zp _ _ hne,Xt]
   have oG:Xw (Xw out kr (okX (F i).ok)) kg (gpR (F i) W) kg=some (gpR (F i) W):=Xt _ _ _;have oM:Xw (Xw out kr (okX (F i).ok)) kg (gpR (F i) W) km=some P0:=by rw[Zp _ _ hng,Zp _ _ hnr];exact hkm
   have ask:Xug l a=(decide (a.2.2<0)||decide (l.2.2.1<=a.2.2)):=rfl;simp only[sgA,sgC] at c;cases hA:Xug l a with
   |false=>
    rw[hA] at fs hq ask;simp only[bl,if_false] at fs hq;have a1:decide (a.2.2<0)=false:=by simp_all
    have a2:decide (l.2.2.1<=a.2.2)=false:=by simp_all
    have next:QA (i+1):=by rw[hQA];show Xs9 _ _ (F (i+1)) _=G;rw[fs];exact hq
    have eo:Xw (Xw out kr (okX (F (i+1)).ok)) kg (gpR (F (i+1)) W)=Xw (Xw out kr (okX (F i).ok)) kg (gpR (F i) W):=by rw[fs]
    generalize Xw (Xw out kr (okX (F i).ok)) kg (gpR (F i) W)=O at*;repeat' (first|refine Vk fun K hK=> ?_|apply V0|apply Vb|apply Vc|apply Vr|apply Vs|with_reducible apply ab|((first|apply gE|apply gR|apply gS);simp only[zA,simprocAttr,Xi hm,wyC,lkC,sgC,hlt,gi,a1,a2,ge_iff_le,hw,X0])|exact Vn|(apply Vz;refine Xy (.inr rfl) rfl rfl rfl (fun _ _=>rfl)<;>first|rfl|skip)|((refine Vg (fun hg=> ?_) (fun hg=> ?_))<;>try simp only[nb] at hg)|(apply Vx;simp only[sb,reduceIte,Nat.reduceEqDiff])|(refine hK _ ?_;clear hK K)|refine Vt rfl ?_|refine Vf rfl ?_|refine Vi rfl (fun hg=> ?_) (fun hg=> ?_)|clear hK K)
    refine⟨i+1,⟨by omega,next⟩,by omega,?_⟩;rw[eo];refine Xx [true,true,false] ?_ ?_<;>intro n_<;>simp only[sM]
   |true=>
    rw[hA] at fs hq ask;simp only[if_true] at fs hq;rw[<- fs] at c hq;have oS:Xw (Xw (Xw (Xw out kr (okX (F i).ok)) kg (gpR (F i) W)) kr (okX (F (i+1)).ok)) kg (gpR (F (i+1)) W)=Xw (Xw out kr (okX (F (i+1)).ok)) kg (gpR (F (i+1)) W):=Xto hne _ _ _ _;have next:(F (i+1)).ok=true->QA (i+1):=fun h=>by rw[hQA];rw[if_pos h] at hq;exact hq
    have stop:(F (i+1)).ok=false->F (i+1)=G:=fun h=>by rw[h] at hq;simpa using hq
    obtain⟨O',hO'⟩:∃O',O'=Xw (Xw out kr (okX (F (i+1)).ok)) kg (gpR (F (i+1)) W):=⟨_,rfl⟩
    rw[<- hO'] at oS;generalize Xw (Xw out kr (okX (F i).ok)) kg (gpR (F i) W)=O at*;have a1:(decide (a.2.2<0)||decide (l.2.2.1<=a.2.2))=true:=ask.symm;cases hok:(F (i+1)).ok with
    |true=>
     rw[hok] at c oS;cases a2:decide (a.2.2<0)<;>simp only[a2,ee,dx] at a1
     ·repeat' (first|refine Vk fun K hK=> ?_|apply V0|apply Vb|apply Vc|apply Vr|apply Vs|with_reducible apply ab|((first|apply gE|apply gR|apply gS);simp only[zA,simprocAttr,Xi hm,wyC,lkC,sgC,hlt,gi,hb,a1,ge_iff_le,hw,X0,Xa hkrn,Xa hkgn,oS,a2])|exact Vn|(apply Vz;refine Xy (.inr rfl) rfl rfl rfl (fun _ _=>rfl)<;>first|rfl|skip)|(refine Xp5 c (by rw[X8 hkrn];exact oR) (by rw[X8 hkgn];exact oG) (by rw[X8 hkmn];exact oM) (by rw[X7 hkrn];trivial) (by rw[X7 hkgn];trivial) (by rw[X7 hkmn];trivial) (by simp) (by simp [gpR]) (by simpa using hP) ?_)|((refine Vg (fun hg=> ?_) (fun hg=> ?_))<;>try simp only[nb] at hg)|(apply Vx;simp only[sb,reduceIte,Nat.reduceEqDiff])|(refine hK _ ?_;clear hK K)|refine Vt rfl ?_|refine Vf rfl ?_|refine Vi rfl (fun hg=> ?_) (fun hg=> ?_)|clear hK K)
      refine⟨i+1,⟨by omega,next hok⟩,by omega,?_⟩;rw[hO',hok];refine Xx [true,true,false] ?_ ?_<;>intro n_<;>simp only[sM]
     ·repeat' (first|refine Vk fun K hK=> ?_|apply V0|apply Vb|apply Vc|apply Vr|apply Vs|with_reducible apply ab|((first|apply gE|apply gR|apply gS);simp only[zA,simprocAttr,Xi hm,wyC,lkC,sgC,hlt,gi,hb,hw,X0,Xa hkrn,Xa hkgn,oS,a2])|exact Vn|(apply Vz;refine Xy (.inr rfl) rfl rfl rfl (fun _ _=>rfl)<;>first|rfl|skip)|(refine Xp5 c (by rw[X8 hkrn];exact oR) (by rw[X8 hkgn];exact oG) (by rw[X8 hkmn];exact oM) (by rw[X7 hkrn];trivial) (by rw[X7 hkgn];trivial) (by rw[X7 hkmn];trivial) (by simp) (by simp [gpR]) (by simpa using hP) ?_)|((refine Vg (fun hg=> ?_) (fun hg=> ?_))<;>try simp only[nb] at hg)|(apply Vx;simp only[sb,reduceIte,Nat.reduceEqDiff])|(refine hK _ ?_;clear hK K)|refine Vt rfl ?_|refine Vf rfl ?_|refine Vi rfl (fun hg=> ?_) (fun hg=> ?_)|clear hK K)
      refine⟨i+1,⟨by omega,next hok⟩,by omega,?_⟩;rw[hO',hok];refine Xx [true,true,false] ?_ ?_<;>intro n_<;>simp only[sM]
    |false=>
     rw[hok] at c oS;cases a2:decide (a.2.2<0)<;>simp only[a2,ee,dx] at a1
     ·repeat' (first|refine Vk fun K hK=> ?_|apply V0|apply Vb|apply Vc|apply Vr|apply Vs|with_reducible apply ab|((first|apply gE|apply gR|apply gS);simp only[zA,simprocAttr,Xi hm,wyC,lkC,sgC,hlt,gi,hb,a1,ge_iff_le,X0,Xa hkrn,Xa hkgn,oS,a2])|exact Vn|(apply Vz;refine Xy (.inr rfl) rfl rfl rfl (fun _ _=>rfl)<;>first|rfl|skip)|(refine Xp5 c (by rw[X8 hkrn];exact oR) (by rw[X8 hkgn];exact oG) (by rw[X8 hkmn];exact oM) (by rw[X7 hkrn];trivial) (by rw[X7 hkgn];trivial) (by rw[X7 hkmn];trivial) (by simp) (by simp [gpR]) (by simpa using hP) ?_)|((refine Vg (fun hg=> ?_) (fun hg=> ?_))<;>try simp only[nb] at hg)|(apply Vx;simp only[sb,reduceIte,Nat.reduceEqDiff])|(refine hK _ ?_;clear hK K)|refine Vt rfl ?_|refine Vf rfl ?_|refine Vi rfl (fun hg=> ?_) (fun hg=> ?_)|clear hK K)
      exact Yd (Xy (.inr rfl) rfl rfl rfl (fun j _=>by rw[hO',stop hok];rfl))
     ·repeat' (first|refine Vk fun K hK=> ?_|apply V0|apply Vb|apply Vc|apply Vr|apply Vs|with_reducible apply ab|((first|apply gE|apply gR|apply gS);simp only[zA,simprocAttr,Xi hm,wyC,lkC,sgC,hlt,gi,hb,X0,Xa hkrn,Xa hkgn,oS,a2])|exact Vn|(apply Vz;refine Xy (.inr rfl) rfl rfl rfl (fun _ _=>rfl)<;>first|rfl|skip)|(refine Xp5 c (by rw[X8 hkrn];exact oR) (by rw[X8 hkgn];exact oG) (by rw[X8 hkmn];exact oM) (by rw[X7 hkrn];trivial) (by rw[X7 hkgn];trivial) (by rw[X7 hkmn];trivial) (by simp) (by simp [gpR]) (by simpa using hP) ?_)|((refine Vg (fun hg=> ?_) (fun hg=> ?_))<;>try simp only[nb] at hg)|(apply Vx;simp only[sb,reduceIte,Nat.reduceEqDiff])|(refine hK _ ?_;clear hK K)|refine Vt rfl ?_|refine Vf rfl ?_|refine Vi rfl (fun hg=> ?_) (fun hg=> ?_)|clear hK K)
      exact Yd (Xy (.inr rfl) rfl rfl rfl (fun j _=>by rw[hO',stop hok];rfl))
  ·obtain rfl:i=w.asks.length:=by omega
   rw[f8,Xs9] at hq;rw[hq];repeat' (first|refine Vk fun K hK=> ?_|apply V0|apply Vb|apply Vc|apply Vr|apply Vs|with_reducible apply ab|((first|apply gE|apply gR|apply gS);simp only[zA,simprocAttr,wyC,lkC,hlt])|exact Vn|(apply Vz;refine Xy (.inr rfl) rfl rfl rfl (fun _ _=>rfl)<;>first|rfl|skip)|((refine Vg (fun hg=> ?_) (fun hg=> ?_))<;>try simp only[nb] at hg)|(apply Vx;simp only[sb])|(refine hK _ ?_;clear hK K)|refine Vt rfl ?_|refine Vf rfl ?_|refine Vi rfl (fun hg=> ?_) (fun hg=> ?_)|clear hK K)
   exact Xy (.inl rfl) rfl rfl rfl (fun j _=>rfl)
end Go.Proofs.YtdngdjbgmojcoaaGreat.Pln
namespace Go.Proofs.YtdngdjbgmojcoaaGreat.Pln
set_option linter.all false
set_option maxHeartbeats 4000000
open Go Go.VS Tab
theorem Yga {p:Pl} (h:Uf p=true):∀i (hi:i<p.rts.length) j (hj:j<i),(p.rts[j]'(by omega)).id<p.rts[i].id:=by
 obtain⟨_,_,_,_,h5,_,_⟩:=Xol h;intro i hi j hj;have:=Z3.1 h5 i (by simpa using hi);simp only[Ye,ad,az,ao,da] at this;refine this.2 _ ?_;have hj':j<(p.rts.map Rt.id).length:=by simp;omega
 have:=Z8 (l:=p.rts.map Rt.id) hj hj';simpa using this
theorem Ygv {p:Pl} (h:Uf p=true) {r:Rt} (hr:r∈p.rts):Yh2 p.rts r.id=some r:=by
 obtain⟨i,hi,rfl⟩:=am hr;unfold Yh2;refine Xuq (f:=fun x=>x.id==p.rts[i].id) hi (by simp) fun j hj hji=> ?_;have:=Yga h i hi j hji;simp;omega
theorem Xoa {p:Pl} (h:Xo3 p=0):Uf p=true∧∀r,r∈p.rts->Xrb p r=0∧Xpp p r=true:=by
 unfold Xo3 at h;by_cases hc:Xs0 p=0∧p.rts.all (Xpp p)=true
 ·obtain⟨h1,h2⟩:=Xsb hc.1;exact⟨h1,fun r hr=>⟨h2 r hr,az.1 hc.2 r hr⟩⟩
 ·rw[if_neg hc] at h;exact absurd h (by decide)
end Go.Proofs.YtdngdjbgmojcoaaGreat.Pln
