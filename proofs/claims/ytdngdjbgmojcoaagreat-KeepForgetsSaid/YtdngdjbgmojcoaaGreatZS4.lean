/- The layer of abstract values, joined. -/
import Derived.Test.YtdngdjbgmojcoaaGreatZPR
import Derived.Test.YtdngdjbgmojcoaaGreatZS1
import Derived.Test.YtdngdjbgmojcoaaGreatZWC
import Derived.Test.YtdngdjbgmojcoaaGreatZW0
namespace Go.Proofs.YtdngdjbgmojcoaaGreat.Pln
set_option linter.unusedSimpArgs false
set_option linter.unusedVariables false
set_option maxHeartbeats 8000000
set_option maxRecDepth 4000
open Go Go.VS Tab
theorem Xzc (n:Int):Xr Tryz.prog 166 [i64 n] [] (bool (Xyh n)) []:=by
 unfold Xyh
 refine Xc 0 Tryz.func166 rfl fun n out _ _=> ?_
 simp only[sn,Tryz.ntmps166,Nat.reduceAdd,Nat.reduceSub]
 repeat' (first|(with_reducible first|refine Vk fun K hK=> ?_|refine V0 ?_|refine Vs ?_|apply And.intro)|((with_reducible first|refine gE ?_|refine gR ?_);simp only[zA,simprocAttr])|exact Vn|((with_reducible refine Vz ?_);refine Vo rfl rfl rfl (fun _ _=>rfl) ?_<;>first|rfl|(first|rfl|(simp only[g_0,g_s];refine congrArg VS.bool ?_;rw[Bool.eq_iff_iff];first|(simp [] at* <;>omega)|(simp_all []<;>omega)))|skip)|((with_reducible refine Vg (fun hg=> ?_) (fun hg=> ?_))<;>(try simp only[nb] at hg)<;>simp only[zA,simprocAttr,hg])|(refine hK _ ?_;clear hK K)|clear hK K)
theorem Xzd (t:Int×UInt8) (s:Sec):Xr Tryz.prog 168 [tkA t,Qh s] [] (bool (Xvr t s)) []:=by
 unfold Xvr
 refine Xc 2 Tryz.func168 rfl fun n out _ _=> ?_
 simp only[sn,Tryz.ntmps168,Nat.reduceAdd,Nat.reduceSub]
 repeat' (first|(with_reducible first|refine Vk fun K hK=> ?_|refine V0 ?_|refine Vs ?_|apply And.intro)|((with_reducible first|refine gE ?_|refine gR ?_);simp only[zA,simprocAttr,tkA,tkC,Qh,Y6])|exact Vn|((with_reducible refine Vz ?_);refine Vo rfl rfl rfl (fun _ _=>rfl) ?_<;>first|rfl|(first|rfl|(simp only[g_0,g_s];refine congrArg VS.bool ?_;rw[Bool.eq_iff_iff];first|(simp [] at* <;>omega)|(simp_all []<;>omega)))|skip)|((with_reducible refine Vg (fun hg=> ?_) (fun hg=> ?_))<;>(try simp only[nb] at hg)<;>simp only[zA,simprocAttr,hg])|(refine hK _ ?_;clear hK K)|clear hK K)
theorem Xze (w:Int×Int×Int) (x:Int×Int):Xr Tryz.prog 170 [sgA w,jnA x,.ref [.fn (.func 166) []]] [] (bool (Xuw w x)) []:=by
 have hb:Xd Tryz.prog 166=True:=hb0 _ (by decide) (by decide)
 have c1:=Xzc w.2.1
 have c2:=Xzc w.2.2
 unfold Xuw
 generalize Xyh w.2.1=B1 at*
 generalize Xyh w.2.2=B2 at*
 refine Xc 2 Tryz.func170 rfl fun n out _ _=> ?_
 simp only[sn,Tryz.ntmps170,Nat.reduceAdd,Nat.reduceSub]
 repeat' (first|(with_reducible first|refine Vk fun K hK=> ?_|refine V0 ?_|refine Vs ?_|apply And.intro)|((with_reducible first|refine gE ?_|refine gR ?_);simp only[zA,simprocAttr,sgA,sgC,jnA,jnC])|exact Vn|((with_reducible refine Vz ?_);refine Vo rfl rfl rfl (fun _ _=>rfl) ?_<;>first|rfl|(simp only[g_0,g_s];refine congrArg VS.bool ?_;simp_all;done)|skip)|(refine X3 (c1) ?_)|(refine X3 (c2) ?_)|((with_reducible refine Vg (fun hg=> ?_) (fun hg=> ?_))<;>(try simp only[nb] at hg)<;>simp only[zA,simprocAttr,hg,hb])|(refine hK _ ?_;clear hK K)|clear hK K)
theorem Xyl (l:Int×UInt8×Int×Int) (r:Rt) (hr:r.path.length≤1000000):Xr Tryz.prog 173 [lkA l,rtA r] [] (bool (Xr7 l r)) []:=by
 have hs:IntKind.i64.wrap ((r.path.length:Int) - 1)=(r.path.length:Int) - 1:=by rw[wrap_i64]<;>omega
 obtain⟨a,ph,g,le⟩:=l
 have q:∀k:UInt8,((ph.toNat:Int)==(k.toNat:Int))=(ph==k):=fun k=>Xr8 ph k
 have q0:=q 0
 have q1:=q 1
 have q2:=q 2
 have q3:=q 3
 have q4:=q 4
 simp only[show((0:UInt8).toNat:Int)=0 from rfl,show((1:UInt8).toNat:Int)=1 from rfl,show((2:UInt8).toNat:Int)=2 from rfl,show((3:UInt8).toNat:Int)=3 from rfl,show((4:UInt8).toNat:Int)=4 from rfl] at q0 q1 q2 q3 q4
 unfold Xr7
 dsimp only
 by_cases p0:ph=0
 ·have e0:(ph==0)=true:=by simpa using p0
  rw[if_pos (.inl p0)]
  rw[e0] at q0
  refine Xc 2 Tryz.func173 rfl fun n out _ _=> ?_
  simp only[sn,Tryz.ntmps173,Nat.reduceAdd,Nat.reduceSub]
  repeat' (first|(with_reducible first|refine Vk fun K hK=> ?_|refine V0 ?_|refine Vb ?_|refine Vc ?_|refine Vr ?_|refine Vs ?_|apply And.intro)|((with_reducible first|refine gE ?_|refine gR ?_);simp only[zA,simprocAttr,lkA,lkC,rtA,rtC,hs,q0])|exact Vn|((with_reducible refine Vz ?_);refine Vo rfl rfl rfl (fun _ _=>rfl) ?_<;>first|rfl|(first|rfl|(simp only[g_0,g_s];refine congrArg VS.bool ?_;rw[Bool.eq_iff_iff];first|(simp [] at* <;>omega)|(simp_all []<;>omega)))|skip)|((with_reducible refine Vg (fun hg=> ?_) (fun hg=> ?_))<;>(try simp only[nb] at hg)<;>simp only[zA,simprocAttr,hg])|(refine hK _ ?_;clear hK K)|refine Vt rfl ?_|refine Vf rfl ?_|refine Vi rfl (fun hg=> ?_) (fun hg=> ?_)|clear hK K)
 ·have e0:(ph==0)=false:=by simpa using p0
  rw[e0] at q0
  by_cases p1:ph=1
  ·have e1:(ph==1)=true:=by simpa using p1
   rw[if_pos (.inr p1)]
   rw[e1] at q1
   refine Xc 2 Tryz.func173 rfl fun n out _ _=> ?_
   simp only[sn,Tryz.ntmps173,Nat.reduceAdd,Nat.reduceSub]
   repeat' (first|(with_reducible first|refine Vk fun K hK=> ?_|refine V0 ?_|refine Vb ?_|refine Vc ?_|refine Vr ?_|refine Vs ?_|apply And.intro)|((with_reducible first|refine gE ?_|refine gR ?_);simp only[zA,simprocAttr,lkA,lkC,rtA,rtC,hs,q0,q1])|exact Vn|((with_reducible refine Vz ?_);refine Vo rfl rfl rfl (fun _ _=>rfl) ?_<;>first|rfl|(first|rfl|(simp only[g_0,g_s];refine congrArg VS.bool ?_;rw[Bool.eq_iff_iff];first|(simp [] at* <;>omega)|(simp_all []<;>omega)))|skip)|((with_reducible refine Vg (fun hg=> ?_) (fun hg=> ?_))<;>(try simp only[nb] at hg)<;>simp only[zA,simprocAttr,hg])|(refine hK _ ?_;clear hK K)|refine Vt rfl ?_|refine Vf rfl ?_|refine Vi rfl (fun hg=> ?_) (fun hg=> ?_)|clear hK K)
  ·have e1:(ph==1)=false:=by simpa using p1
   rw[e1] at q1
   rw[if_neg (by simp [p0,p1])]
   by_cases p2:ph=2
   ·have e2:(ph==2)=true:=by simpa using p2
    rw[if_pos p2]
    rw[e2] at q2
    refine Xc 2 Tryz.func173 rfl fun n out _ _=> ?_
    simp only[sn,Tryz.ntmps173,Nat.reduceAdd,Nat.reduceSub]
    repeat' (first|(with_reducible first|refine Vk fun K hK=> ?_|refine V0 ?_|refine Vb ?_|refine Vc ?_|refine Vr ?_|refine Vs ?_|apply And.intro)|((with_reducible first|refine gE ?_|refine gR ?_);simp only[zA,simprocAttr,lkA,lkC,rtA,rtC,hs,q0,q1,q2])|exact Vn|((with_reducible refine Vz ?_);refine Vo rfl rfl rfl (fun _ _=>rfl) ?_<;>first|rfl|(first|rfl|(simp only[g_0,g_s];refine congrArg VS.bool ?_;rw[Bool.eq_iff_iff];first|(simp [] at* <;>omega)|(simp_all []<;>omega)))|skip)|((with_reducible refine Vg (fun hg=> ?_) (fun hg=> ?_))<;>(try simp only[nb] at hg)<;>simp only[zA,simprocAttr,hg])|(refine hK _ ?_;clear hK K)|refine Vt rfl ?_|refine Vf rfl ?_|refine Vi rfl (fun hg=> ?_) (fun hg=> ?_)|clear hK K)
   ·have e2:(ph==2)=false:=by simpa using p2
    rw[e2] at q2
    rw[if_neg p2]
    by_cases p3:ph=3
    ·have e3:(ph==3)=true:=by simpa using p3
     rw[if_pos p3]
     rw[e3] at q3
     refine Xc 2 Tryz.func173 rfl fun n out _ _=> ?_
     simp only[sn,Tryz.ntmps173,Nat.reduceAdd,Nat.reduceSub]
     repeat' (first|(with_reducible first|refine Vk fun K hK=> ?_|refine V0 ?_|refine Vb ?_|refine Vc ?_|refine Vr ?_|refine Vs ?_|apply And.intro)|((with_reducible first|refine gE ?_|refine gR ?_);simp only[zA,simprocAttr,lkA,lkC,rtA,rtC,hs,q0,q1,q2,q3])|exact Vn|((with_reducible refine Vz ?_);refine Vo rfl rfl rfl (fun _ _=>rfl) ?_<;>first|rfl|(first|rfl|(simp only[g_0,g_s];refine congrArg VS.bool ?_;rw[Bool.eq_iff_iff];first|(simp [] at* <;>omega)|(simp_all []<;>omega)))|skip)|((with_reducible refine Vg (fun hg=> ?_) (fun hg=> ?_))<;>(try simp only[nb] at hg)<;>simp only[zA,simprocAttr,hg])|(refine hK _ ?_;clear hK K)|refine Vt rfl ?_|refine Vf rfl ?_|refine Vi rfl (fun hg=> ?_) (fun hg=> ?_)|clear hK K)
    ·have e3:(ph==3)=false:=by simpa using p3
     rw[e3] at q3
     rw[if_neg p3]
     by_cases p4:ph=4
     ·have e4:(ph==4)=true:=by simpa using p4
      rw[if_pos p4]
      rw[e4] at q4
      refine Xc 2 Tryz.func173 rfl fun n out _ _=> ?_
      simp only[sn,Tryz.ntmps173,Nat.reduceAdd,Nat.reduceSub]
      repeat' (first|(with_reducible first|refine Vk fun K hK=> ?_|refine V0 ?_|refine Vb ?_|refine Vc ?_|refine Vr ?_|refine Vs ?_|apply And.intro)|((with_reducible first|refine gE ?_|refine gR ?_);simp only[zA,simprocAttr,lkA,lkC,rtA,rtC,hs,q0,q1,q2,q3,q4])|exact Vn|((with_reducible refine Vz ?_);refine Vo rfl rfl rfl (fun _ _=>rfl) ?_<;>first|rfl|(first|rfl|(simp only[g_0,g_s];refine congrArg VS.bool ?_;rw[Bool.eq_iff_iff];first|(simp [] at* <;>omega)|(simp_all []<;>omega)))|skip)|((with_reducible refine Vg (fun hg=> ?_) (fun hg=> ?_))<;>(try simp only[nb] at hg)<;>simp only[zA,simprocAttr,hg])|(refine hK _ ?_;clear hK K)|refine Vt rfl ?_|refine Vf rfl ?_|refine Vi rfl (fun hg=> ?_) (fun hg=> ?_)|clear hK K)
     ·have e4:(ph==4)=false:=by simpa using p4
      rw[e4] at q4
      rw[if_neg p4]
      refine Xc 2 Tryz.func173 rfl fun n out _ _=> ?_
      simp only[sn,Tryz.ntmps173,Nat.reduceAdd,Nat.reduceSub]
      repeat' (first|(with_reducible first|refine Vk fun K hK=> ?_|refine V0 ?_|refine Vb ?_|refine Vc ?_|refine Vr ?_|refine Vs ?_|apply And.intro)|((with_reducible first|refine gE ?_|refine gR ?_);simp only[zA,simprocAttr,lkA,lkC,rtA,rtC,hs,q0,q1,q2,q3,q4])|exact Vn|((with_reducible refine Vz ?_);refine Vo rfl rfl rfl (fun _ _=>rfl) ?_<;>first|rfl|(first|rfl|(simp only[g_0,g_s];refine congrArg VS.bool ?_;rw[Bool.eq_iff_iff];first|(simp [] at* <;>omega)|(simp_all []<;>omega)))|skip)|((with_reducible refine Vg (fun hg=> ?_) (fun hg=> ?_))<;>(try simp only[nb] at hg)<;>simp only[zA,simprocAttr,hg,lkA,lkC,rtA,rtC,List.length_map,hs,X0,q0,q1,q2,q3,q4])|(refine hK _ ?_;clear hK K)|refine Vt rfl ?_|refine Vf rfl ?_|refine Vi rfl (fun hg=> ?_) (fun hg=> ?_)|clear hK K)
theorem Xzf (l:Int×UInt8×Int×Int) (r:Rt) (hr:r.path.length≤1000000):Xr Tryz.prog 172 [lkA l,rtA r] [] (bool (Xsm l r)) []:=by
 have c1:=Xyl l r hr
 unfold Xsm
 generalize Xr7 l r=B1 at*
 simp only[lkA,lkC,rtA,rtC] at c1
 refine Xc 2 Tryz.func172 rfl fun n out _ _=> ?_
 simp only[sn,Tryz.ntmps172,Nat.reduceAdd,Nat.reduceSub]
 repeat' (first|(with_reducible first|refine Vk fun K hK=> ?_|refine V0 ?_|refine Vs ?_|apply And.intro)|((with_reducible first|refine gE ?_|refine gR ?_);simp only[zA,simprocAttr,lkA,lkC,rtA,rtC])|exact Vn|((with_reducible refine Vz ?_);refine Vo rfl rfl rfl (fun _ _=>rfl) ?_<;>first|rfl|(simp only[g_0,g_s];refine congrArg VS.bool ?_;simp_all;done)|skip)|(refine X3 (c1) ?_)|((with_reducible refine Vg (fun hg=> ?_) (fun hg=> ?_))<;>(try simp only[nb] at hg)<;>simp only[zA,simprocAttr,hg])|(refine hK _ ?_;clear hK K)|clear hK K)
abbrev okX (b:Bool):Res:= .box 4 [bool b]
def gpC (g:Gp) (W:AV):List AV:=g.hold.map i64++(g.ask.map i64++[W])
def gpR (g:Gp) (W:AV):Res:= .box 134 (gpC g W)
theorem Xp5 {P:Program} {σ:AState} {K:AV→List (Nat×Res)→Prop} {f:FuncId} {args:List AV} {k j i:Nat} {q u v:Option Res} {q' u':Res} {r:AV} (h:Xr P f args [(k,q),(j,u),(i,v)] r [(k,q'),(j,u')]) (h1:σ.look k=q) (h2:σ.look j=u) (h3:σ.look i=v)
  (d1:σ.dom k) (d2:σ.dom j) (d3:σ.dom i) (n1:q≠some .dead) (n2:u≠some .dead) (n3:v≠some .dead) (hK:K r [(k,q'),(j,u')]):M8 P σ K f args:=
 ⟨_,r,_,h,⟨h1,h2,h3,trivial⟩,⟨d1,d2,trivial⟩,(fun x hx=>by simp at hx;rcases hx with rfl|rfl|rfl;exact⟨d1,n1⟩;exact⟨d2,n2⟩;exact⟨d3,n3⟩),hK⟩
theorem Xto {s:Nat→Option Res} {a b:Nat} (h:a≠b) (r q r' q':Res):Xw (Xw (Xw (Xw s a r) b q) a r') b q'=Xw (Xw s a r') b q':=by
 funext j;unfold Xw
 by_cases h1:j=b
 ·simp [h1]
 ·by_cases h2:j=a
  ·simp [h2]
  ·simp [h1,h2]
theorem Xx8 (w:Wy) (l:Int×UInt8×Int×Int):(if ((w.path.length:Nat):Int)<(if l.2.2.1<0 then 0 else l.2.2.1) then((w.path.length:Nat):Int) else(if l.2.2.1<0 then 0 else l.2.2.1))=((Xpm w l:Nat):Int):=by
 unfold Xpm
 by_cases h:l.2.2.1<0
 ·rw[if_pos h,if_neg (by omega)];omega
 ·rw[if_neg h]
  split<;>omega
theorem Xzg (w:Wy) (l:Int×UInt8×Int×Int) (fid:FuncId) (caps:List AV) (kr kg:Nat) (hne:kr≠kg) (W:AV) (g:Gp) (hb:Xd Tryz.prog fid=True) (hl:w.path.length+w.over.length≤1000000)
  (hp:∀g' s,s∈w.path++w.over→g'.hold.length=g.hold.length→g'.ask.length=g.ask.length→Xr Tryz.prog fid (i64 s::caps) [(kr,some (okX g'.ok)),(kg,some (gpR g' W))] (bool (Xos l.1 g' s).ok) [(kr,okX (Xos l.1 g' s).ok),(kg,gpR (Xos l.1 g' s) W)]):
  Xr Tryz.prog 174 [wyA w,lkA l,.fn (.func fid) caps] [(kr,some (okX g.ok)),(kg,some (gpR g W))] (.tup []) [(kr,okX (Xsn l.1 g (Xql w l)).ok),(kg,gpR (Xsn l.1 g (Xql w l)) W)]:=by
 have q0:((l.2.1.toNat:Int)==0)=(l.2.1==0):=Xr8 l.2.1 0
 by_cases p0:l.2.1=0
 ·have e0:(l.2.1==0)=true:=by simpa using p0
  rw[e0] at q0
  have e1:Xql w l=[]:=by unfold Xql;rw[if_pos p0]
  rw[e1,show Xsn l.1 g []=g from by rw[Xsn]]
  refine Xc 2 Tryz.func174 rfl fun n out _ _=> ?_
  simp only[sn,Tryz.ntmps174,Nat.reduceAdd,Nat.reduceSub]
  rename_i hneeds hgv
  obtain⟨hkr,hkg,_⟩:=hneeds
  repeat' (first|(with_reducible first|refine Vk fun K hK=> ?_|refine V0 ?_|refine Vb ?_|refine Vc ?_|refine Vr ?_|refine Vs ?_|apply And.intro|refine Vq (by kernel_rfl) ?_)|((with_reducible first|refine gE ?_|refine gR ?_);simp only[zA,simprocAttr,wyA,wyC,lkA,lkC,q0])|exact Vn|((with_reducible refine Vz ?_);refine Xy (.inr rfl) rfl rfl rfl (fun _ _=>rfl)<;>first|rfl|skip)|((with_reducible refine Vx ?_);simp only[sb,reduceIte,Nat.reduceEqDiff])|(refine hK _ ?_;clear hK K)|refine Vt rfl ?_|refine Vf rfl ?_|refine Vi rfl (fun hg=> ?_) (fun hg=> ?_)|clear hK K)
  exact Yd (Xy (.inr rfl) rfl rfl rfl (fun j _=>by rw[Zc,Zc,Wz,Qb hkr,Qb hkg]))
 ·have e0:(l.2.1==0)=false:=by simpa using p0
  rw[e0] at q0
  obtain⟨L,hL⟩:∃L,L=Xql w l:=⟨_,rfl⟩
  have eL:L=w.path.drop (Xpm w l)++w.over:=by rw[hL];unfold Xql;rw[if_neg p0]
  have hLm:∀s,s∈L→s∈w.path++w.over:=fun s hs=>by
   rw[eL,List.mem_append] at hs
   rw[List.mem_append]
   rcases hs with h|h
   ·exact .inl (List.mem_of_mem_drop h)
   ·exact .inr h
  have hgl:Xpm w l≤w.path.length:=by unfold Xpm;omega
  have hLl:L.length≤1000000:=by rw[eL,List.length_append,List.length_drop];omega
  have gm:=Xx8 w l
  have cc:=fun k=>Xpu k ((w.path.drop (Xpm w l)).map Ym) (w.over.map Ym) .full .sh .sh (by simp;omega)
  have eC:((w.path.drop (Xpm w l)).map Ym)++w.over.map Ym=L.map Ym:=by rw[eL,List.map_append]
  have eN:((w.path.drop (Xpm w l)).map Ym).length+(w.over.map Ym).length=L.length:=by rw[eL];simp
  rw[eC,eN] at cc
  have lit:∀(σ:AState) (K:AV→List (Nat×Res)→Prop),X1 tab σ K none 224 2 [(0,.sl 1 ((w.path.drop (Xpm w l)).map Ym) .sh),(1,.sl 1 (w.over.map Ym) .sh)]=K (.sl 1 [[.sl 1 ((w.path.drop (Xpm w l)).map Ym) .sh],[.sl 1 (w.over.map Ym) .sh]] .full) []:=fun σ K=>Te (T:=tab) (ti:=ti224) (te:=ti61) rfl rfl rfl rfl rfl rfl
  rw[← hL]
  obtain⟨F,hF⟩:∃F:Nat→Gp,F=fun i=>(L.take i).foldl (Xos l.1) g:=⟨_,rfl⟩
  obtain⟨G,hG⟩:∃G,G=Xsn l.1 g L:=⟨_,rfl⟩
  obtain⟨QH,hQH⟩:∃QH:Nat→Prop,QH=fun i=>Xsn l.1 (F i) (L.drop i)=G:=⟨_,rfl⟩
  have F0:F 0=g:=by rw[hF];rfl
  have Fs:∀i (hi:i<L.length),F (i+1)=Xos l.1 (F i) L[i]:=fun i hi=>by
   rw[hF]
   show(L.take (i+1)).foldl _ _= _
   rw[List.take_succ_eq_append_getElem hi,List.foldl_append];rfl
  have Fl:∀i,i≤L.length→(F i).hold.length=g.hold.length∧(F i).ask.length=g.ask.length:=fun i=>by
   induction i with
   |zero=>intro _;rw[F0];exact⟨rfl,rfl⟩
   |succ i ih=>
    intro hi
    have:=ih (by omega)
    rw[Fs i (by omega)]
    exact⟨by simp [Xos,this.1],this.2⟩
  have h0:QH 0:=by rw[hQH];show Xsn l.1 (F 0) (L.drop 0)=G;rw[F0,hG,List.drop_zero]
  rw[← hG]
  clear hF hL eL eC eN
  refine Xc 4 Tryz.func174 rfl fun n out _ _=> ?_
  simp only[sn,Tryz.ntmps174,Nat.reduceAdd,Nat.reduceSub]
  rename_i hneeds hgv
  obtain⟨hkr,hkg,_⟩:=hneeds
  obtain⟨hkrn,hkgn,_⟩:=hgv
  have o0:Xw (Xw out kr (okX (F 0).ok)) kg (gpR (F 0) W)=out:=by rw[F0,Qb hkr,Qb hkg]
  repeat' (first|(with_reducible first|refine Vk fun K hK=> ?_|refine V0 ?_|refine Vb ?_|refine Vc ?_|refine Vr ?_|refine Vs ?_|apply And.intro)|((with_reducible first|refine gE ?_|refine gR ?_);simp only[zA,simprocAttr,wyA,wyC,lkA,lkC,q0])|exact Vn|((with_reducible refine Vz ?_);refine Xy (.inr rfl) rfl rfl rfl (fun _ _=>rfl)<;>first|rfl|skip)|((with_reducible refine Vx ?_);simp only[sb,reduceIte,Nat.reduceEqDiff])|(refine hK _ ?_;clear hK K)|refine Vt rfl ?_|refine Vf rfl ?_|refine Vi rfl (fun hg=> ?_) (fun hg=> ?_)|clear hK K)
  have ht:List.take (w.path.length - Xpm w l) (List.drop (Xpm w l) (List.map Ym w.path))=(w.path.drop (Xpm w l)).map Ym:=by
   rw[← List.map_drop,List.take_of_length_le (by simp)]
  refine Ny Xj [] [[],[0],[],[1],[],[],[0],[],[],[],[],[0],[],[2],[],[]] [[],[],[],[],[],[],[],[],[],[],[],[],[],[2],[],[]] follows (by kernel_rfl) (by decide) (by decide) (by kernel_rfl) ?_
  simp only[zB,simprocAttr,lit,Y2r,P6,Nh,gm,hgl,ht]
  refine Sb (cc (n+2)) (X6 _ (Nat.le_refl _) 2) (Xb _ (by simp)) (by simp) ?_
  simp only[zA,simprocAttr]
  repeat' (first|(with_reducible refine hK _ ?_;clear hK K)|with_reducible apply And.intro)
  repeat' (first|(with_reducible first|refine Vk fun K hK=> ?_|refine V0 ?_|refine Vb ?_|refine Vc ?_|refine Vr ?_|refine Vs ?_|apply And.intro|refine Vq (by kernel_rfl) ?_)|((with_reducible first|refine gE ?_|refine gR ?_);simp only[zA,simprocAttr,List.length_map])|exact Vn|((with_reducible refine Vz ?_);refine Xy (.inr rfl) rfl rfl rfl (fun _ _=>rfl)<;>first|rfl|skip)|((with_reducible refine Vx ?_);simp only[sb,reduceIte,Nat.reduceEqDiff])|(refine hK _ ?_;clear hK K)|refine Vt rfl ?_|refine Vf rfl ?_|refine Vi rfl (fun hg=> ?_) (fun hg=> ?_)|clear hK K)
  refine V5 ?_
  refine Xz (fun i:Nat=>tp [7] (tr 27 8 [(26,i64 (i:Int))])) (fun i=>[some (.box 130 (wyC w)),some (.box 65 (lkC l)),some (.row 3 1 L.length),none]) (fun i=>Xw (Xw out kr (okX (F i).ok)) kg (gpR (F i) W)) (fun i=>i≤L.length∧QH i) (fun i=>L.length - i) 0 ⟨Nat.zero_le _,by assumption⟩ ?_ fun i hi=> ?_
  ·refine X2 ?_ ?_ (by first|rfl|(simp only[o0];rfl)|simp only[o0]) rfl rfl rfl<;>simp only[sL,wyC,lkC]
  obtain⟨hi,hq⟩:=hi
  simp only[pt]
  have hw:=Yl (n:=i) 1 1 rfl (by omega)
  rw[hQH] at hq
  by_cases hlt:i<L.length
  ·have gi:=Xg Ym L i [] hlt
   obtain⟨f1,f2⟩:=Fl i (by omega)
   have c:=hp (F i) L[i] (hLm _ (List.getElem_mem hlt)) f1 f2
   have fs:=Fs i hlt
   rw[List.drop_eq_getElem_cons hlt,Xsn,← fs] at hq
   rw[← fs] at c
   have oR:Xw (Xw out kr (okX (F i).ok)) kg (gpR (F i) W) kr=some (okX (F i).ok):=by rw[Zp _ _ hne,Xt]
   have oG:Xw (Xw out kr (okX (F i).ok)) kg (gpR (F i) W) kg=some (gpR (F i) W):=Xt _ _ _
   have oS:Xw (Xw (Xw (Xw out kr (okX (F i).ok)) kg (gpR (F i) W)) kr (okX (F (i+1)).ok)) kg (gpR (F (i+1)) W)=Xw (Xw out kr (okX (F (i+1)).ok)) kg (gpR (F (i+1)) W):=Xto hne _ _ _ _
   have next:(F (i+1)).ok=true→QH (i+1):=fun h=>by rw[hQH];rw[if_pos h] at hq;exact hq
   have stop:(F (i+1)).ok=false→F (i+1)=G:=fun h=>by rw[h] at hq;simpa using hq
   obtain⟨O',hO'⟩:∃O',O'=Xw (Xw out kr (okX (F (i+1)).ok)) kg (gpR (F (i+1)) W):=⟨_,rfl⟩
   rw[← hO'] at oS
   generalize Xw (Xw out kr (okX (F i).ok)) kg (gpR (F i) W)=O at*
   cases hok:(F (i+1)).ok with
   |true=>
    rw[hok] at c oS
    repeat' (first|(with_reducible first|refine Vk fun K hK=> ?_|refine V0 ?_|refine Vb ?_|refine Vc ?_|refine Vr ?_|refine Vs ?_|apply And.intro|refine Vq (by kernel_rfl) ?_)|((with_reducible first|refine gE ?_|refine gR ?_);simp only[zA,simprocAttr,wyC,lkC,hlt,gi,Ym,hb,Xa hkrn,Xa hkgn,oS,hw])|exact Vn|((with_reducible refine Vz ?_);refine Xy (.inr rfl) rfl rfl rfl (fun _ _=>rfl)<;>first|rfl|skip)|(refine Xk c (by rw[X8 hkrn];exact oR) (by rw[X8 hkgn];exact oG) (by rw[X7 hkrn];trivial) (by rw[X7 hkgn];trivial) (by simp) (by simp [gpR]) ?_)|((with_reducible refine Vx ?_);simp only[sb,reduceIte,Nat.reduceEqDiff])|(refine hK _ ?_;clear hK K)|refine Vt rfl ?_|refine Vf rfl ?_|refine Vi rfl (fun hg=> ?_) (fun hg=> ?_)|clear hK K)
    refine⟨i+1,⟨by omega,next hok⟩,by omega,?_⟩
    rw[hO',hok]
    refine La rfl ?_ ?_<;>simp only[sL]
   |false=>
    rw[hok] at c oS
    repeat' (first|(with_reducible first|refine Vk fun K hK=> ?_|refine V0 ?_|refine Vb ?_|refine Vc ?_|refine Vr ?_|refine Vs ?_|apply And.intro|refine Vq (by kernel_rfl) ?_)|((with_reducible first|refine gE ?_|refine gR ?_);simp only[zA,simprocAttr,wyC,lkC,hlt,gi,Ym,hb,Xa hkrn,Xa hkgn,oS])|exact Vn|((with_reducible refine Vz ?_);refine Xy (.inr rfl) rfl rfl rfl (fun _ _=>rfl)<;>first|rfl|skip)|(refine Xk c (by rw[X8 hkrn];exact oR) (by rw[X8 hkgn];exact oG) (by rw[X7 hkrn];trivial) (by rw[X7 hkgn];trivial) (by simp) (by simp [gpR]) ?_)|((with_reducible refine Vx ?_);simp only[sb,reduceIte,Nat.reduceEqDiff])|(refine hK _ ?_;clear hK K)|refine Vt rfl ?_|refine Vf rfl ?_|refine Vi rfl (fun hg=> ?_) (fun hg=> ?_)|clear hK K)
    exact Yd (Xy (.inr rfl) rfl rfl rfl (fun j _=>by rw[hO',stop hok];rfl))
  ·obtain rfl:i=L.length:=by omega
   rw[List.drop_length,Xsn] at hq
   rw[hq]
   repeat' (first|(with_reducible first|refine Vk fun K hK=> ?_|refine V0 ?_|refine Vb ?_|refine Vc ?_|refine Vr ?_|refine Vs ?_|apply And.intro|refine Vq (by kernel_rfl) ?_)|((with_reducible first|refine gE ?_|refine gR ?_);simp only[zA,simprocAttr,wyC,lkC,hlt])|exact Vn|((with_reducible refine Vz ?_);refine Xy (.inr rfl) rfl rfl rfl (fun _ _=>rfl)<;>first|rfl|skip)|((with_reducible refine Vx ?_);simp only[sb])|(refine hK _ ?_;clear hK K)|refine Vt rfl ?_|refine Vf rfl ?_|refine Vi rfl (fun hg=> ?_) (fun hg=> ?_)|clear hK K)
   exact Xy (.inl rfl) rfl rfl rfl (fun j _=>rfl)
theorem Xq3 (l:List AV) (z:Nat) (x:AV) (h:z<l.length):Yf l z [x]=l.set z x:=by
 rw[List.set_eq_take_append_cons_drop,if_pos h]
 simp [Yf]
theorem Xvt {l:List AV} {z s:Nat} {x:AV} (h:l[z]? =some x):pick false s (l.drop z)=some x:=by
 unfold pick
 rw[if_neg (by decide),List.head?_drop,h]
section
variable {g:Gp} {W:AV} {z:Nat}
theorem Xou (hh:g.hold.length=100) (ha:g.ask.length=100):(gpC g W).length=201:=by simp [gpC,hh,ha]
theorem Xym (hh:g.hold.length=100) (hz:z<100) (s:Nat):pick false s ((gpC g W).drop z)=some (i64 (g.hold.getD z 0)):=Xvt (by
 rw[gpC,List.getElem?_append_left (by simp;omega),List.getElem?_map,List.getD_eq_getElem?_getD,List.getElem?_eq_getElem (by omega:z<g.hold.length)];rfl)
theorem Xxw (hh:g.hold.length=100) (ha:g.ask.length=100) (s:Nat):pick false s ((gpC g W).drop 200)=some W:=Xvt (by
 rw[gpC,List.getElem?_append_right (by simp;omega),List.length_map,hh,List.getElem?_append_right (by simp;omega),List.length_map,ha];rfl)
theorem Xyn (hh:g.hold.length=100) (ha:g.ask.length=100) (hz:z<100) (b:Bool) (x:Int):Yf (gpC g W) z [i64 x]=gpC ⟨b,g.hold.set z x,g.ask⟩ W:=by
 rw[Xq3 _ _ _ (by rw[Xou hh ha];omega),gpC,gpC,List.set_append_left _ _ (by simp;omega),← List.map_set]
theorem Xyo (hh:g.hold.length=100) (ha:g.ask.length=100) (hz:z<100) (b:Bool) (x:Int):Yf (gpC g W) (100+z) [i64 x]=gpC ⟨b,g.hold,g.ask.set z x⟩ W:=by
 rw[Xq3 _ _ _ (by rw[Xou hh ha];omega),gpC,gpC,List.set_append_right _ _ (by simp;omega),List.length_map,hh,Nat.add_sub_cancel_left,List.set_append_left _ _ (by simp;omega),← List.map_set]
end
theorem Xyp (s:Int) (kr kg:Nat) (hne:kr≠kg) (g:Gp) (W:AV) (l:Int×UInt8×Int×Int) (hs:0≤s∧s<100) (hh:g.hold.length=100) (ha:g.ask.length=100):
  Xr Tryz.prog 175 [i64 s,.ptr kr 0,.ptr kg 0,.ref (lkC l)] [(kr,some (okX g.ok)),(kg,some (gpR g W))] (bool (Xos l.1 g s).ok) [(kr,okX (Xos l.1 g s).ok),(kg,gpR (Xos l.1 g s) W)]:=by
 obtain⟨z,rfl⟩:=Int.eq_ofNat_of_zero_le hs.1
 have hz:z<100:=by omega
 have hzi:(z:Int)<100:=hs.2
 have gh:=fun s=>Xym (W:=W) hh hz s
 have gs:=Xyn (W:=W) hh ha hz (Xos l.1 g z).ok l.1
 have gl:=Xou (W:=W) hh ha
 have eg:(⟨(Xos l.1 g z).ok,g.hold.set z l.1,g.ask⟩:Gp)=Xos l.1 g z:=rfl
 have eo:(Xos l.1 g z).ok=(g.ok&&(g.hold.getD z 0==0)):=rfl
 rw[eg] at gs
 rw[gpR,gpR,eo]
 generalize gpC (Xos l.1 g z) W=C' at*
 generalize gpC g W=C at*
 generalize g.hold.getD z 0=H at*
 generalize g.ok=O at*
 have w1:(kg=kr)=False:=eq_false (Ne.symm hne)
 have w2:(kr=kg)=False:=eq_false hne
 cases O<;>simp only[Bool.true_and,Bool.false_and]
 ·refine Xc 0 Tryz.func175 rfl fun n out _ _=> ?_
  simp only[sn,Tryz.ntmps175,Nat.reduceAdd,Nat.reduceSub]
  rename_i hneeds hgv
  obtain⟨hkr,hkg,_⟩:=hneeds
  obtain⟨hkrn,hkgn,_⟩:=hgv
  repeat' (first|(with_reducible first|refine Vk fun K hK=> ?_|refine V0 ?_|refine Vs ?_|apply And.intro)|((with_reducible first|refine gE ?_|refine gR ?_);simp only[zA,simprocAttr, -List.reduceReplicate,lkC,hkr,hkg,X8 hkrn,X8 hkgn,X7 hkrn,X7 hkgn,Xa hkrn,Xa hkgn,Xif,w1,w2,gs,gl,hzi,X0])|exact Vn|((with_reducible refine Vz ?_);refine Vo rfl rfl rfl (fun _ _=>rfl) ?_<;>first|rfl|skip)|((with_reducible refine Vg (fun hg=> ?_) (fun hg=> ?_))<;>(try simp only[nb] at hg)<;>simp only[zA,simprocAttr, -List.reduceReplicate,hg,lkC,hkr,hkg,X8 hkrn,X8 hkgn,X7 hkrn,X7 hkgn,Xa hkrn,Xa hkgn,Xif,w1,w2,gh,gs,gl,hz,hzi,X0,Y9])|(refine hK _ ?_;clear hK K)|clear hK K)
  ·omega
 ·refine Xc 0 Tryz.func175 rfl fun n out _ _=> ?_
  simp only[sn,Tryz.ntmps175,Nat.reduceAdd,Nat.reduceSub]
  rename_i hneeds hgv
  obtain⟨hkr,hkg,_⟩:=hneeds
  obtain⟨hkrn,hkgn,_⟩:=hgv
  repeat' (first|(with_reducible first|refine Vk fun K hK=> ?_|refine V0 ?_|refine Vs ?_|apply And.intro)|((with_reducible first|refine gE ?_|refine gR ?_);simp only[zA,simprocAttr, -List.reduceReplicate,lkC,hkr,hkg,X8 hkrn,X8 hkgn,X7 hkrn,X7 hkgn,Xa hkrn,Xa hkgn,Xif,w1,w2,gh,gs,gl,hzi,X0])|exact Vn|((with_reducible refine Vz ?_);refine Vo rfl rfl rfl (fun _ _=>rfl) ?_<;>first|rfl|skip)|((with_reducible refine Vg (fun hg=> ?_) (fun hg=> ?_))<;>(try simp only[nb] at hg)<;>simp only[zA,simprocAttr, -List.reduceReplicate,hg,lkC,hkr,hkg,X8 hkrn,X8 hkgn,X7 hkrn,X7 hkgn,Xa hkrn,Xa hkgn,Xif,w1,w2,gh,gs,gl,hz,hzi,X0,Y9])|(refine hK _ ?_;clear hK K)|clear hK K)
  ·omega
end Go.Proofs.YtdngdjbgmojcoaaGreat.Pln
