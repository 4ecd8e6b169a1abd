/- The layer of abstract values, joined. -/
import Derived.Test.YtdngdjbgmojcoaaGreatZPR
import Derived.Test.YtdngdjbgmojcoaaGreatZPS
import Derived.Test.YtdngdjbgmojcoaaGreatZWD
import Derived.Test.YtdngdjbgmojcoaaGreatZKA
namespace Go.Proofs.YtdngdjbgmojcoaaGreat.Pln
set_option linter.unusedSimpArgs false
set_option linter.unusedVariables false
set_option maxHeartbeats 8000000
set_option maxRecDepth 4000
open Go Go.VS Tab
def Ks (a b:Rt):Bool:=a.id==b.id&&(a.entry==b.entry&&(a.ex==b.ex&&(a.timer==b.timer&&(a.path==b.path&&(a.over==b.over&&a.flanks==b.flanks)))))
theorem Sx {a b:Rt}:Ks a b=true↔a=b:=by
 unfold Ks
 simp only[Bool.and_eq_true,beq_iff_eq]
 constructor
 ·rintro⟨h1,h2,h3,h4,h5,h6,h7⟩
  cases a;cases b;simp only at*;subst h1 h2 h3 h4 h5 h6 h7;rfl
 ·rintro rfl;exact⟨rfl,rfl,rfl,rfl,rfl,rfl,rfl⟩
theorem X0l (a b:Rt) (ha:a.path.length≤1000000∧a.over.length≤1000000∧a.flanks.length≤1000000):Xr Tryz.prog 41 [rtA a,rtA b] [] (bool (Ks a b)) []:=by
 obtain⟨l1,l2,l3⟩:=ha
 have c1:=H1 a.path b.path l1
 have c2:=H1 a.over b.over l2
 by_cases hh:a.id=b.id∧a.entry=b.entry∧a.ex=b.ex∧a.timer=b.timer∧a.path=b.path∧a.over=b.over∧a.flanks.length=b.flanks.length
 ·obtain⟨h1,h2,h3,h4,h5,h6,h7⟩:=hh
  have e1:(a.id !=b.id)=false:=by simp [h1]
  have e2:(a.entry !=b.entry)=false:=by simp [h2]
  have e3:(a.ex !=b.ex)=false:=by simp [h3]
  have e4:(a.timer !=b.timer)=false:=by simp [h4]
  have e5:(a.path==b.path)=true:=by simp [h5]
  have e6:(a.over==b.over)=true:=by simp [h6]
  have e7:((a.flanks.length:Int) !=(b.flanks.length:Int))=false:=by simp [h7]
  have hS:Ks a b=(a.flanks==b.flanks):=by unfold Ks;simp [h1,h2,h3,h4,h5,h6]
  rw[e5] at c1
  rw[e6] at c2
  clear h1 h2 h3 h4 h5 h6
  rw[hS]
  refine Xc 2 Tryz.func41 rfl fun n out _ _=> ?_
  simp only[sn,Tryz.ntmps41,Nat.reduceAdd,Nat.reduceSub]
  repeat' (first|(with_reducible first|refine Vk fun K hK=> ?_|refine V0 ?_|refine Vs ?_)|((with_reducible first|refine gE ?_|refine gR ?_);simp only[zA,simprocAttr,rtA,rtC,e1,e2,e3,e4,e7])|(refine X3 (c1) ?_)|(refine X3 (c2) ?_)|(refine hK _ ?_;clear hK K)|refine Vf rfl ?_)
  refine V5 ?_
  refine Xpw (a.flanks.length) (fun i=>(∀j (hj:j<a.flanks.length) (hj':j<b.flanks.length),j<i→a.flanks[j]=b.flanks[j])) (fun m i=>tp [4] (tr 57 18 [(5,i64 (i:Int)),(2,.ptr (m+0) 0),(3,.ptr (m+1) 0)])) (fun m i=>[some (.box 82 (rtC a)),some (.box 82 (rtC b))]) (by intros;omega) ?_ fun m i hm hi=> ?_
  ·refine X2 ?_ ?_ (by first|rfl|(simp only[rtC];rfl)|simp only[rtC]) rfl rfl rfl<;>simp only[sL,rtC]
  obtain⟨hi,hq⟩:=hi
  simp only[pt]
  have hw:=Yl (n:=i) 1 1 rfl (by omega)
  by_cases hlt:i<a.flanks.length
  ·have hlt':i<b.flanks.length:=by omega
   have ga:=Xg jnC a.flanks i [] hlt
   have gb:=Xg jnC b.flanks i [] hlt'
   repeat' (first|(with_reducible first|refine Vk fun K hK=> ?_|refine V0 ?_|refine Vb ?_|refine Vs ?_|apply And.intro|refine Vq (by kernel_rfl) ?_)|((with_reducible refine gE ?_);simp only[zA,simprocAttr,Xi hm,rtC,jnC,hlt,hlt',ga,gb,Lj,hw])|exact Vn|((with_reducible refine Vz ?_);refine Vo rfl rfl rfl (fun _ _=>rfl) ?_<;>first|rfl|(rw[Ut hlt hlt' (by simpa using hg)];rfl)|skip)|(refine hK _ ?_;clear hK K)|refine Vt rfl ?_|refine Vi rfl (fun hg=> ?_) (fun hg=> ?_)|((first|show Program.eqGuardType _ _ _=false|show Xs _ _ _=true|show Program.stoodInHeld _ _=false);kernel_rfl)|clear hK K)
   refine⟨i+1,⟨by omega,fun j hj hj' hji=> ?_⟩,by omega,?_⟩
   ·by_cases h:j=i
    ·subst h;simpa using hg
    ·exact hq j hj hj' (by omega)
   refine Xx [true,true] ?_ ?_<;>intro n_<;>simp only[sM]
  ·have e:=Ua (l:=a.flanks) (m:=b.flanks) h7 fun j hj hj'=>hq j hj hj' (by omega)
   repeat' (first|(with_reducible first|refine Vk fun K hK=> ?_|refine V0 ?_)|((with_reducible refine gE ?_);simp only[zA,simprocAttr,Xi hm,rtC,hlt])|((with_reducible refine Vz ?_);refine Vo rfl rfl rfl (fun _ _=>rfl) ?_<;>first|rfl|(rw[e];rfl)|skip)|((with_reducible refine Vx ?_);simp only[sb])|(refine hK _ ?_;clear hK K)|refine Vf rfl ?_|clear hK K)
 ·have hS:Ks a b=false:=by
   rw[Bool.eq_false_iff]
   intro h
   obtain rfl:=Sx.1 h
   exact hh ⟨rfl,rfl,rfl,rfl,rfl,rfl,rfl⟩
  rw[hS]
  generalize hP:(a.path==b.path)=P at c1
  generalize hO:(a.over==b.over)=O at c2
  refine Xc 2 Tryz.func41 rfl fun n out _ _=> ?_
  simp only[sn,Tryz.ntmps41,Nat.reduceAdd,Nat.reduceSub]
  repeat' (first|(with_reducible first|refine Vk fun K hK=> ?_|refine V0 ?_|refine Vs ?_)|((with_reducible first|refine gE ?_|refine gR ?_);simp only[zA,simprocAttr,rtA,rtC])|((with_reducible refine Vz ?_);refine Vo rfl rfl rfl (fun _ _=>rfl) ?_<;>first|rfl|skip)|(refine X3 (c1) ?_)|(refine X3 (c2) ?_)|((with_reducible refine Vg (fun hg=> ?_) (fun hg=> ?_))<;>(try simp only[nb] at hg)<;>simp only[zA,simprocAttr,hg])|(refine hK _ ?_;clear hK K)|refine Vt rfl ?_|refine Vi rfl (fun hg=> ?_) (fun hg=> ?_))
  all_goals (exfalso;refine hh ?_;simp at*;exact⟨by assumption,by assumption,by assumption,by assumption,by simp_all,by simp_all,by omega⟩)
def Sy (a b:Pl):Bool:=a.ver==b.ver&&(a.par==b.par&&(Lw a.secs b.secs&&(a.pts==b.pts&&(a.sgs==b.sgs&&Fv Ks a.rts b.rts))))
theorem Pq (p:Pl):Sy p p=true:=by
 unfold Sy
 rw[Bp,Xo4 (p:=Ks) rfl fun i hi _=>Sx.2 rfl]
 simp
theorem Du (a b:Pl) (ha:Sm a):Xr Tryz.prog 18 [plA a,plA b] [] (bool (Sy a b)) []:=by
 have c1:=H5 a.secs b.secs (by have:=ha.secs;omega) fun s h=>by have:=ha.ends s h;omega
 have l1:=ha.pts
 have l2:=ha.sgs
 have l3:=ha.rts
 by_cases hh:a.ver=b.ver∧a.par=b.par∧Lw a.secs b.secs=true∧a.pts.length=b.pts.length∧a.sgs.length=b.sgs.length∧a.rts.length=b.rts.length
 ·obtain⟨h1,h2,h3,h4,h5,h6⟩:=hh
  have e1:(a.ver !=b.ver)=false:=by simp [h1]
  have e2:(a.par !=b.par)=false:=by simp [h2]
  have e4:((a.pts.length:Int) !=(b.pts.length:Int))=false:=by simp [h4]
  have e5:((a.sgs.length:Int) !=(b.sgs.length:Int))=false:=by simp [h5]
  have e6:((a.rts.length:Int) !=(b.rts.length:Int))=false:=by simp [h6]
  rw[h3] at c1
  obtain⟨B,hB⟩:∃B,B=Sy a b:=⟨_,rfl⟩
  have hS:Sy a b=(a.pts==b.pts&&(a.sgs==b.sgs&&Fv Ks a.rts b.rts)):=by unfold Sy;simp [h1,h2,h3]
  rw[← hB] at hS⊢
  have badP:∀i (hi:i<a.pts.length) (hi':i<b.pts.length),a.pts[i]≠b.pts[i]→B=false:=fun i hi hi' h=>by rw[hS,Ut hi hi' h];rfl
  have badG:∀i (hi:i<a.sgs.length) (hi':i<b.sgs.length),a.sgs[i]≠b.sgs[i]→B=false:=fun i hi hi' h=>by rw[hS,Ut hi hi' h];simp
  have X0c:∀i (hi:i<a.rts.length) (hi':i<b.rts.length),Ks a.rts[i] b.rts[i]=false→B=false:=fun i hi hi' h=>by rw[hS,Xo5 hi hi' h];simp
  have cR:=fun i (hi:i<a.rts.length) (hi':i<b.rts.length)=>X0l a.rts[i] b.rts[i] (by obtain⟨x,y,z⟩:=ha.rt _ (List.getElem_mem hi);omega)
  simp only[rtA,rtC] at cR
  clear hB
  refine Xc 2 Tryz.func18 rfl fun n out _ _=> ?_
  simp only[sn,Tryz.ntmps18,Nat.reduceAdd,Nat.reduceSub]
  repeat' (first|(with_reducible first|refine Vk fun K hK=> ?_|refine V0 ?_|refine Vs ?_)|((with_reducible first|refine gE ?_|refine gR ?_);simp only[zA,simprocAttr,plA,plC,e1,e2,e4,e5,e6])|(refine X3 (c1) ?_)|(refine hK _ ?_;clear hK K)|refine Vf rfl ?_)
  refine V5 ?_
  refine Xpw (a.pts.length) (fun i=>(∀j (hj:j<a.pts.length) (hj':j<b.pts.length),j<i→a.pts[j]=b.pts[j])) (fun m i=>tp [4] (tr 55 18 [(5,i64 (i:Int)),(2,.ptr (m+0) 0),(3,.ptr (m+1) 0)])) (fun m i=>[some (.box 28 (plC a)),some (.box 28 (plC b))]) (by intros;omega) ?_ fun m i hm hi=> ?_
  ·refine X2 ?_ ?_ (by first|rfl|(simp only[plC];rfl)|simp only[plC]) rfl rfl rfl<;>simp only[sL,plC]
  obtain⟨hi,hq⟩:=hi
  simp only[pt]
  have hw:=Yl (n:=i) 1 1 rfl (by omega)
  by_cases hlt:i<a.pts.length
  ·have hlt':i<b.pts.length:=by omega
   have ga:=Xg jnC a.pts i [] hlt
   have gb:=Xg jnC b.pts i [] hlt'
   repeat' (first|(with_reducible first|refine Vk fun K hK=> ?_|refine V0 ?_|refine Vb ?_|refine Vs ?_|apply And.intro|refine Vq (by kernel_rfl) ?_)|((with_reducible refine gE ?_);simp only[zA,simprocAttr,Xi hm,plC,jnC,hlt,hlt',ga,gb,Lj,hw])|exact Vn|((with_reducible refine Vz ?_);refine Vo rfl rfl rfl (fun _ _=>rfl) ?_<;>first|rfl|(rw[badP i hlt hlt' (by simpa using hg)];rfl)|skip)|(refine hK _ ?_;clear hK K)|refine Vt rfl ?_|refine Vi rfl (fun hg=> ?_) (fun hg=> ?_)|((first|show Program.eqGuardType _ _ _=false|show Xs _ _ _=true|show Program.stoodInHeld _ _=false);kernel_rfl)|clear hK K)
   refine⟨i+1,⟨by omega,fun j hj hj' hji=> ?_⟩,by omega,?_⟩
   ·by_cases h:j=i
    ·subst h;simpa using hg
    ·exact hq j hj hj' (by omega)
   refine Xx [true,true] ?_ ?_<;>intro n_<;>simp only[sM]
  ·have eP:(a.pts==b.pts)=true:=Ua (l:=a.pts) (m:=b.pts) h4 fun j hj hj'=>hq j hj hj' (by omega)
   repeat' (first|(with_reducible first|refine Vk fun K hK=> ?_|refine V0 ?_)|((with_reducible refine gE ?_);simp only[zA,simprocAttr,Xi hm,plC,hlt])|((with_reducible refine Vx ?_);simp only[sb])|(refine hK _ ?_;clear hK K)|refine Vf rfl ?_|clear hK K)
   refine V5 ?_
   refine Xpw (a.sgs.length) (fun i=>(∀j (hj:j<a.sgs.length) (hj':j<b.sgs.length),j<i→a.sgs[j]=b.sgs[j])) (fun m i=>tp [4] (tr 73 18 [(6,i64 (i:Int)),(2,.ptr (m+0) 0),(3,.ptr (m+1) 0)])) (fun m i=>[some (.box 28 (plC a)),some (.box 28 (plC b))]) (by intros;omega) ?_ fun m i hm hi=> ?_
   ·refine X2 ?_ ?_ (by first|rfl|(simp only[plC];rfl)|simp only[plC]) rfl rfl rfl<;>simp only[sL,plC]
   obtain⟨hi,hq⟩:=hi
   simp only[pt]
   have hw:=Yl (n:=i) 1 1 rfl (by omega)
   by_cases hlt:i<a.sgs.length
   ·have hlt':i<b.sgs.length:=by omega
    have ga:=Xg sgC a.sgs i [] hlt
    have gb:=Xg sgC b.sgs i [] hlt'
    repeat' (first|(with_reducible first|refine Vk fun K hK=> ?_|refine V0 ?_|refine Vb ?_|refine Vs ?_|apply And.intro|refine Vq (by kernel_rfl) ?_)|((with_reducible refine gE ?_);simp only[zA,simprocAttr,Xi hm,plC,sgC,hlt,hlt',ga,gb,Js,hw])|exact Vn|((with_reducible refine Vz ?_);refine Vo rfl rfl rfl (fun _ _=>rfl) ?_<;>first|rfl|(rw[badG i hlt hlt' (by simpa using hg)];rfl)|skip)|(refine hK _ ?_;clear hK K)|refine Vt rfl ?_|refine Vi rfl (fun hg=> ?_) (fun hg=> ?_)|((first|show Program.eqGuardType _ _ _=false|show Xs _ _ _=true|show Program.stoodInHeld _ _=false);kernel_rfl)|clear hK K)
    refine⟨i+1,⟨by omega,fun j hj hj' hji=> ?_⟩,by omega,?_⟩
    ·by_cases h:j=i
     ·subst h;simpa using hg
     ·exact hq j hj hj' (by omega)
    refine Xx [true,true] ?_ ?_<;>intro n_<;>simp only[sM]
   ·have eG:(a.sgs==b.sgs)=true:=Ua (l:=a.sgs) (m:=b.sgs) h5 fun j hj hj'=>hq j hj hj' (by omega)
    repeat' (first|(with_reducible first|refine Vk fun K hK=> ?_|refine V0 ?_)|((with_reducible refine gE ?_);simp only[zA,simprocAttr,Xi hm,plC,hlt])|((with_reducible refine Vx ?_);simp only[sb])|(refine hK _ ?_;clear hK K)|refine Vf rfl ?_|clear hK K)
    refine V5 ?_
    refine Xpw (a.rts.length) (fun i=>(∀j (hj:j<a.rts.length) (hj':j<b.rts.length),j<i→Ks a.rts[j] b.rts[j]=true)) (fun m i=>tp [4] (tr 91 19 [(7,i64 (i:Int)),(2,.ptr (m+0) 0),(3,.ptr (m+1) 0)])) (fun m i=>[some (.box 28 (plC a)),some (.box 28 (plC b))]) (by intros;omega) ?_ fun m i hm hi=> ?_
    ·refine X2 ?_ ?_ (by first|rfl|(simp only[plC];rfl)|simp only[plC]) rfl rfl rfl<;>simp only[sL,plC]
    obtain⟨hi,hq⟩:=hi
    simp only[pt]
    have hw:=Yl (n:=i) 1 1 rfl (by omega)
    by_cases hlt:i<a.rts.length
    ·have hlt':i<b.rts.length:=by omega
     have ga:=Xg rtC a.rts i [] hlt
     have gb:=Xg rtC b.rts i [] hlt'
     have cRi:=cR i hlt hlt'
     cases hb:Ks a.rts[i] b.rts[i] with
     |false=>
      rw[hb] at cRi
      repeat' (first|(with_reducible first|refine Vk fun K hK=> ?_|refine V0 ?_|refine Vb ?_|refine Vs ?_|refine Vq (by kernel_rfl) ?_)|((with_reducible first|refine gE ?_|refine gR ?_);simp only[zA,simprocAttr,Xi hm,plC,rtC,hlt,hlt',ga,gb])|((with_reducible refine Vz ?_);refine Vo rfl rfl rfl (fun _ _=>rfl) ?_<;>first|rfl|(rw[X0c i hlt hlt' hb];rfl)|skip)|(refine X3 (cRi) ?_)|(refine hK _ ?_;clear hK K)|refine Vt rfl ?_)
     |true=>
      rw[hb] at cRi
      repeat' (first|(with_reducible first|refine Vk fun K hK=> ?_|refine V0 ?_|refine Vb ?_|refine Vs ?_|refine Vq (by kernel_rfl) ?_)|((with_reducible first|refine gE ?_|refine gR ?_);simp only[zA,simprocAttr,Xi hm,plC,rtC,hlt,hlt',ga,gb,hw])|(refine X3 (cRi) ?_)|(refine hK _ ?_;clear hK K)|refine Vt rfl ?_|refine Vf rfl ?_|clear hK K)
      refine⟨i+1,⟨by omega,fun j hj hj' hji=> ?_⟩,by omega,?_⟩
      ·by_cases h:j=i
       ·subst h;exact hb
       ·exact hq j hj hj' (by omega)
      refine Xx [true,true] ?_ ?_<;>intro n_<;>simp only[sM]
    ·have eR:Fv Ks a.rts b.rts=true:=Xo4 (p:=Ks) h6 fun j hj hj'=>hq j hj hj' (by omega)
     have hT:B=true:=by rw[hS,eP,eG,eR];rfl
     repeat' (first|(with_reducible first|refine Vk fun K hK=> ?_|refine V0 ?_)|((with_reducible refine gE ?_);simp only[zA,simprocAttr,Xi hm,plC,hlt])|((with_reducible refine Vz ?_);refine Vo rfl rfl rfl (fun _ _=>rfl) ?_<;>first|rfl|(rw[hT];rfl)|skip)|((with_reducible refine Vx ?_);simp only[sb])|(refine hK _ ?_;clear hK K)|refine Vf rfl ?_|clear hK K)
 ·have hS:Sy a b=false:=by
   rw[Bool.eq_false_iff]
   intro h
   unfold Sy at h
   simp only[Bool.and_eq_true,beq_iff_eq] at h
   obtain⟨h1,h2,h3,h4,h5,h6⟩:=h
   refine hh ⟨h1,h2,h3,by rw[h4],by rw[h5],?_⟩
   exact Classical.byContradiction fun hl=>by rw[Rj hl] at h6;cases h6
  rw[hS]
  generalize Lw a.secs b.secs=SS at*
  refine Xc 2 Tryz.func18 rfl fun n out _ _=> ?_
  simp only[sn,Tryz.ntmps18,Nat.reduceAdd,Nat.reduceSub]
  repeat' (first|(with_reducible first|refine Vk fun K hK=> ?_|refine V0 ?_|refine Vs ?_)|((with_reducible first|refine gE ?_|refine gR ?_);simp only[zA,simprocAttr,plA,plC])|((with_reducible refine Vz ?_);refine Vo rfl rfl rfl (fun _ _=>rfl) ?_<;>first|rfl|skip)|(refine X3 (c1) ?_)|((with_reducible refine Vg (fun hg=> ?_) (fun hg=> ?_))<;>(try simp only[nb] at hg)<;>simp only[zA,simprocAttr,hg])|(refine hK _ ?_;clear hK K)|refine Vt rfl ?_|refine Vi rfl (fun hg=> ?_) (fun hg=> ?_))
  all_goals (exfalso;refine hh ?_;simp at*;exact⟨by simp_all,by simp_all,by simp_all,by omega,by omega,by omega⟩)
end Go.Proofs.YtdngdjbgmojcoaaGreat.Pln
namespace Go.Proofs.YtdngdjbgmojcoaaGreat.Pln
set_option linter.unusedSimpArgs false
set_option linter.unusedVariables false
set_option maxHeartbeats 1000000
open Go Go.VS
theorem Xkz {α:Type} {p:α→α→Bool} (h:∀a b,p a b=true→a=b):∀{l q:List α},Fv p l q=true→l=q
 |[],[],_=>rfl
 |x::l,y::q,hh=>by
  have h':(p x y&&Fv p l q)=true:=hh
  rw[Bool.and_eq_true] at h'
  rw[h x y h'.1,Xkz h h'.2]
 |[],_:: _,hh=>by cases hh
 | _:: _,[],hh=>by cases hh
theorem Xwh (a b:Sec) (h:Mw a b=true):a=b:=by
 cases a;cases b
 simp [Mw] at h
 simp [h]
theorem Xqe {a b:Pl}:Sy a b=true↔a=b:=by
 constructor
 ·intro h
  unfold Sy at h
  simp only[Bool.and_eq_true,beq_iff_eq] at h
  obtain⟨h1,h2,h3,h4,h5,h6⟩:=h
  have h3':=Xkz Xwh h3
  have h6':=Xkz (fun a b=>Sx.1) h6
  cases a;cases b
  simp only at*
  subst h1 h2 h3' h4 h5 h6';rfl
 ·rintro rfl;exact Pq _
def Xoh (t:List UInt8):List UInt8:=Y2 t.length++t
def rdZ:Rd Int:=fun b s=>(if (rdN b s).2.2 then 0 else(rdN b s).1,(rdN b s).2)
def unW (b:List UInt8) (at':Nat):Option (List UInt8×Nat):=match Jt (b.drop at') with
 |none=>none
 |some r=>if 65536<r.1∨b.length - (at'+r.2)<r.1 then none else some ((b.drop (at'+r.2)).take r.1,at'+r.2+r.1)
def Xq7 (e:Bool):Rd Pl:=fun b s=>if s.2=true then(Aq,s) else match unW b s.1 with
 |none=>(Aq,(s.1,true))
 |some r=>if r.1=[]∧e=true then(Aq,(r.2,false)) else if Z6 r.1 then((V6 r.1).1,(r.2,false)) else(Aq,(r.2,true))
def Xpl (r:Rt) (ph g:Int):Int×UInt8×Int×Int:=(r.id,UInt8.ofNat (min ph 255).toNat,g,if min ph 255=3∨min ph 255=4 then r.timer else 0)
theorem Xrl {n:Int} (h:0≤n∧n≤2147483647):Wq rdZ (Y2 n) n:=fun x y=>by
 unfold rdZ
 rw[Zm h x y];rfl
theorem Xvi {n:Int} (h:0≤n∧n≤2147483647):0<(Y2 n).length:=by
 unfold Y2
 rw[if_pos h]
 unfold Ur
 split<;>simp
theorem Xvj {t:List UInt8} (ht:t.length≤65536) (x y:List UInt8):unW (x++(Xoh t++y)) x.length=some (t,x.length+(Xoh t).length):=by
 unfold unW Xoh
 have e:List.drop x.length (x++(Y2 t.length++t++y))=Y2 t.length++(t++y):=by rw[List.append_assoc];exact List.drop_left' rfl
 rw[e,Jx ⟨by omega,by omega⟩]
 dsimp only
 rw[Int.toNat_natCast,if_neg (by simp only[List.length_append];omega)]
 have e2:List.drop (x.length+(Y2 (t.length:Int)).length) (x++(Y2 t.length++t++y))=t++y:=by
  rw[← List.drop_drop,e];exact List.drop_left' rfl
 rw[e2,List.take_left' rfl,List.length_append,Nat.add_assoc]
theorem Xtk {p:Pl} (h:Uf p=true) (e:Bool):Wq (Xq7 e) (Xoh (Wg p)) p:=fun x y=>by
 unfold Xq7
 have h1:=R7 h
 dsimp only
 rw[if_neg (by decide),Xvj (by omega)]
 dsimp only
 have h2:Wg p≠[]:=fun h0=>by
  have h3:=Xvi (Us h).ver
  unfold Wg at h0
  have:=congrArg List.length h0
  simp only[List.length_append,List.length_nil] at this
  omega
 have h4:=Eh h []
 rw[List.append_nil] at h4
 rw[if_neg (fun h'=>h2 h'.1),h4,if_pos (by decide),Xu7 h]
theorem Xr6:Wq (Xq7 true) (Xoh []) Aq:=fun x y=>by
 unfold Xq7
 dsimp only
 rw[if_neg (by decide),Xvj (by simp)]
 rfl
theorem Xvk:∀(l:List UInt8) (i acc:Nat) (r:Nat×Nat),R1 l i acc=some r→r.2≤i+l.length∧r.1≤2147483647
 |[],_,_,_,h=>by simp [R1] at h
 |c::l,i,acc,r,h=>by
  unfold R1 at h
  split at h
  ·cases h
  ·split at h
   ·have:=Xvk l _ _ r h
    rw[List.length_cons];omega
   ·split at h
    ·cases h
    ·rename_i h2
     injection h with h
     subst h
     rw[List.length_cons]
     dsimp only
     omega
theorem Xsu {l:List UInt8} {r:Nat×Nat} (h:Jt l=some r):r.2≤l.length∧r.1≤2147483647:=by
 have:=Xvk l 0 0 r h
 omega
structure Hs where
 key:List UInt8
 plan:Pl
 back:Pl
 high:Int
 st:St
 buf:List UInt8
 next:Pl
 halt:Bool
def hsC (h:Hs):List AV:=[.sl 1 (Xo h.key) .sh,i64 h.plan.ver,i64 h.plan.par,.sl 3 (h.plan.secs.map Y6) .sh,.sl 2 (h.plan.pts.map jnC) .sh,.sl 3 (h.plan.sgs.map sgC) .sh,.sl 7 (h.plan.rts.map rtC) .sh,
 i64 h.back.ver,i64 h.back.par,.sl 3 (h.back.secs.map Y6) .sh,.sl 2 (h.back.pts.map jnC) .sh,.sl 3 (h.back.sgs.map sgC) .sh,.sl 7 (h.back.rts.map rtC) .sh,i64 h.high,.sl 2 (h.st.tr.map tkC) .sh,.sl 3 (h.st.sw.map sgC) .sh,.sl 4 (h.st.lk.map lkC) .sh,
 .sl 1 (Xo h.buf) .sh,i64 h.next.ver,i64 h.next.par,.sl 3 (h.next.secs.map Y6) .sh,.sl 2 (h.next.pts.map jnC) .sh,.sl 3 (h.next.sgs.map sgC) .sh,.sl 7 (h.next.rts.map rtC) .sh,bool h.halt]
def hsA (h:Hs):AV:= .agg (hsC h)
structure SmH (h:Hs):Prop where
 plan:Sm h.plan
 back:Sm h.back
 next:Sm h.next
 st:SmS h.st
 key:h.key.length≤1000
 buf:h.buf.length≤5000
def Xp3 (p:Pl):Bool:=Sy p Aq
def Xy6 (h:Hs):Bool:=Xp3 h.back||(Xo3 h.back==0&&h.back.ver==h.plan.par)
def Xo9 (h:Hs):Bool:= !(h.halt||(!Xy6 h||(decide (h.high<h.plan.ver)||(decide (2147483647<h.high)||Xrz h.plan h.st !=0))))
def Xoc (h:Hs):Int:=if Xo9 h then 0 else 8
def Xpf (h:Hs):List UInt8:=if Xp3 h.back then[] else Wg h.back
def swN (s:List (Int×Int×Int)):List Int:=s.map fun w=>w.2.2
def lkN (s:List (Int×UInt8×Int×Int)):List Int:=s.flatMap fun l=>[(l.2.1.toNat:Int),l.2.2.1]
def Xrf (h:Hs):List Int:=h.high::(swN h.st.sw++lkN h.st.lk)
def Xp7 (h:Hs):List UInt8:=Xoh (Wg h.plan)++(Xoh (Xpf h)++(Xrf h).flatMap Y2)
def Xlr (h:Hs):List UInt8:=if Xo9 h then Xp7 h else[]
def Xrr (h:Hs):Hs:=⟨[],h.plan,h.back,h.high,Xjm h.plan h.st,[],Aq,false⟩
def Xtd:Hs:=⟨[],Aq,Aq,0,Y2v,[],Aq,false⟩
def rdW:List (Int×Int)→Rd (List (Int×Int×Int))
 |[]=>rdP []
 |x::l=>rdB rdZ fun c=>rdB (rdW l) fun r=>rdP ((x.1,0,c)::r)
def Xs3:List Rt→Rd (List (Int×UInt8×Int×Int))
 |[]=>rdP []
 |x::l=>rdB rdZ fun p=>rdB rdZ fun g=>rdB (Xs3 l) fun r=>rdP (Xpl x p g::r)
def Xy7:Rd Hs:=rdB (Xq7 false) fun p=>rdB (Xq7 true) fun q=>rdB rdZ fun n=>rdB (rdW p.pts) fun w=>rdB (Xs3 p.rts) fun k=>rdP ⟨[],p,q,n,⟨p.secs.map atT,w,k⟩,[],Aq,false⟩
def Xod (b:List UInt8):Bool:= !(Xy7 b (0,false)).2.2&&(Xo9 (Xy7 b (0,false)).1&&Xp7 (Xy7 b (0,false)).1==b)
def Xof (b:List UInt8):Hs:=if Xod b then(Xy7 b (0,false)).1 else Xtd
def Xrg (l:Int×UInt8×Int×Int) (r:Rt):Int×UInt8×Int×Int:=if 0<l.2.2.2 then(l.1,l.2.1,l.2.2.1,r.timer) else l
theorem Xv4:∀{s:List (Int×Int×Int)} {l:List (Int×Int)},Fv Xuw s l=true→Wq (rdW l) ((swN s).flatMap Y2) (s.map Xpo)
 |[],[],_=>R2 []
 |w::s,x::l,h=>by
  rw[Fv,Bool.and_eq_true] at h
  have h1:=h.1
  unfold Xuw Xyh at h1
  simp only[Bool.and_eq_true,beq_iff_eq,decide_eq_true_eq] at h1
  have e:swN (w::s)=w.2.2::swN s:=rfl
  rw[e,List.flatMap_cons]
  have e2:(w::s).map Xpo=(x.1,0,w.2.2)::s.map Xpo:=by rw[← h1.1];rfl
  rw[e2]
  exact Yu (Xrl ⟨h1.2.2.1,by omega⟩) (Ke (Xv4 h.2))
 |[],_:: _,h=>by simp [Fv] at h
 | _:: _,[],h=>by simp [Fv] at h
theorem Xqi {l:Int×UInt8×Int×Int} {r:Rt} (h:Xsm l r=true) (hr:r.path.length≤127) (h1p:1≤r.path.length):Xpl r (l.2.1.toNat:Int) l.2.2.1=Xrg l r∧nOk (l.2.1.toNat:Int)∧nS l.2.2.1∧l.2.1.toNat≤4:=by
 obtain⟨a,ph,g,t⟩:=l
 unfold Xsm Xr7 at h
 simp only[Bool.and_eq_true,beq_iff_eq] at h
 obtain⟨h1,h2⟩:=h
 have key:∀k:UInt8,k.toNat≤4→ph=k→Xpl r (ph.toNat:Int) g=(r.id,ph,g,if ph=3∨ph=4 then r.timer else 0):=fun k hk e=>by
  subst e
  have m:min (ph.toNat:Int) 255=(ph.toNat:Int):=by omega
  have q:∀k:UInt8,((ph.toNat:Int)=(k.toNat:Int))↔ph=k:=fun k=>by
   constructor
   ·intro h;exact UInt8.toNat_inj.1 (by omega)
   ·rintro rfl;rfl
  have q3:=q 3
  have q4:=q 4
  simp only[show((3:UInt8).toNat:Int)=3 from rfl,show((4:UInt8).toNat:Int)=4 from rfl] at q3 q4
  unfold Xpl
  rw[m]
  simp only[q3,q4,Int.toNat_natCast,UInt8.ofNat_toNat]
 subst h1
 dsimp only
 unfold Xrg
 dsimp only
 by_cases p0:ph=0∨ph=1
 ·rw[if_pos p0] at h2
  simp only[Bool.and_eq_true,beq_iff_eq] at h2
  obtain⟨rfl,rfl⟩:=h2
  rcases p0 with rfl|rfl
  ·exact⟨by rw[key 0 (by decide) rfl];rfl,⟨by decide,by decide⟩,⟨by decide,by decide⟩,by decide⟩
  ·exact⟨by rw[key 1 (by decide) rfl];rfl,⟨by decide,by decide⟩,⟨by decide,by decide⟩,by decide⟩
 ·rw[if_neg p0] at h2
  by_cases p2:ph=2
  ·rw[if_pos p2] at h2
   simp only[Bool.and_eq_true,beq_iff_eq,decide_eq_true_eq] at h2
   obtain⟨⟨g1,g2⟩,rfl⟩:=h2
   subst p2
   exact⟨by rw[key 2 (by decide) rfl];rfl,⟨by decide,by decide⟩,⟨g1,by omega⟩,by decide⟩
  ·rw[if_neg p2] at h2
   by_cases p3:ph=3
   ·rw[if_pos p3] at h2
    simp only[Bool.and_eq_true,beq_iff_eq,decide_eq_true_eq] at h2
    obtain⟨⟨g1,g2⟩,g3⟩:=h2
    subst p3
    exact⟨by rw[key 3 (by decide) rfl,if_pos (show 0<t by omega)];rfl,⟨by decide,by decide⟩,⟨by omega,by omega⟩,by decide⟩
   ·rw[if_neg p3] at h2
    by_cases p4:ph=4
    ·rw[if_pos p4] at h2
     simp only[Bool.and_eq_true,beq_iff_eq,decide_eq_true_eq] at h2
     obtain⟨⟨rfl,g2⟩,g3⟩:=h2
     subst p4
     exact⟨by rw[key 4 (by decide) rfl,if_pos (show 0<t by omega)];rfl,⟨by decide,by decide⟩,⟨by decide,by decide⟩,by decide⟩
    ·rw[if_neg p4] at h2;cases h2
theorem Xte {p:Pl} (h:Uf p=true) {r:Rt} (hr:r∈p.rts):1≤r.path.length∧r.path.length≤6:=by
 have h1:=(Us h).r r hr
 refine⟨?_,h1.2.2.2.2.2.2.2.1⟩
 obtain⟨_,_,_,_,_,_,hrs⟩:=Xol h
 have h8:=hrs r hr
 unfold okR at h8
 cases hq:Xpe p.sgs r.entry with
 |none=>rw[hq] at h8;cases h8
 |some en=>
  rw[hq] at h8
  simp only[Bool.and_eq_true,decide_eq_true_eq] at h8
  obtain⟨⟨⟨⟨⟨⟨⟨⟨⟨x1,_⟩,x3⟩,x4⟩,x5⟩,x6⟩,x7⟩,x8⟩,x9⟩,x10⟩:=h8
  omega
def Xy8 (l:Int×UInt8×Int×Int):List UInt8:=Y2 (l.2.1.toNat:Int)++Y2 l.2.2.1
theorem Xrh:∀(s:List (Int×UInt8×Int×Int)),(lkN s).flatMap Y2=s.flatMap Xy8
 |[]=>rfl
 |l::s=>by
  have e:lkN (l::s)=(l.2.1.toNat:Int)::l.2.2.1::lkN s:=rfl
  rw[e,List.flatMap_cons,List.flatMap_cons,List.flatMap_cons,Xrh s,Xy8,List.append_assoc]
theorem Xtf:∀{s:List (Int×UInt8×Int×Int)} {l:List Rt},Fv Xsm s l=true→(∀r,r∈l→1≤r.path.length∧r.path.length≤6)→Wq (Xs3 l) (s.flatMap Xy8) (List.zipWith Xrg s l)
 |[],[],_,_=>R2 []
 |w::s,x::l,h,hl=>by
  rw[Fv,Bool.and_eq_true] at h
  obtain⟨h1,h2⟩:=hl x (List.mem_cons_self ..)
  obtain⟨e1,e2,e3,_⟩:=Xqi h.1 (by omega) h1
  rw[List.flatMap_cons,List.zipWith_cons_cons,Xy8,List.append_assoc,← e1]
  exact Yu (Xrl e2) (Yu (Xrl e3.ok) (Ke (Xtf h.2 fun r hr=>hl r (List.mem_cons_of_mem _ hr))))
 |[],_:: _,h,_=>by simp [Fv] at h
 | _:: _,[],h,_=>by simp [Fv] at h
theorem Xs4 (p:Pl) (s:St) (h:s.lk.length=p.rts.length):(Xjm p s).lk=List.zipWith Xrg s.lk p.rts:=by
 apply List.ext_getElem
 ·simp [Xjm,h]
 ·intro i h1 h2
  have hi:i<p.rts.length:=by simp [Xjm] at h1;omega
  simp only[Xjm,List.getElem_mapIdx,List.getElem_zipWith,Xr0,Xrg,List.getD_eq_getElem?_getD,List.getElem?_eq_getElem hi,Option.getD_some]
theorem Xqj:∀{t:List (Int×UInt8)} {l:List Sec},Fv Xvr t l=true→t.map Xuh=l.map atT
 |[],[],_=>rfl
 |w::s,x::l,h=>by
  rw[Fv,Bool.and_eq_true] at h
  have h1:=h.1
  unfold Xvr at h1
  simp only[Bool.and_eq_true,beq_iff_eq] at h1
  rw[List.map_cons,List.map_cons,Xqj h.2]
  congr 1
  unfold Xuh atT
  rw[h1.1]
 |[],_:: _,h=>by simp [Fv] at h
 | _:: _,[],h=>by simp [Fv] at h
theorem Xp8 {p:Pl} {s:St} (h:Xrz p s=0):Xo3 p=0∧Fv Xvr s.tr p.secs=true∧Fv Xuw s.sw p.pts=true∧Fv Xsm s.lk p.rts=true∧(Xpg p s).ok=true:=by
 unfold Xrz at h
 split at h
 ·rename_i hE
  split at h
  ·rename_i hg
   unfold Xqm Xog at hg
   simp only[Bool.and_eq_true] at hg
   exact⟨hE,hg.1.1,hg.1.2.1,hg.1.2.2,hg.2⟩
  ·cases h
 ·rename_i hE;exact(hE h).elim
structure CkH (h:Hs):Prop where
 halt:h.halt=false
 back:Xp3 h.back=true∨(Xo3 h.back=0∧h.back.ver=h.plan.par)
 high:h.plan.ver≤h.high∧h.high≤2147483647
 st:Xrz h.plan h.st=0
theorem Xor {h:Hs}:Xo9 h=true↔CkH h:=by
 unfold Xo9 Xy6
 simp only[Bool.not_eq_true',Bool.or_eq_false_iff,Bool.not_eq_false',Bool.or_eq_true,Bool.and_eq_true,beq_iff_eq,decide_eq_false_iff_not,bne_eq_false_iff_eq]
 constructor
 ·rintro⟨h1,h2,h3,h4,h5⟩
  exact⟨h1,h2,⟨by omega,by omega⟩,h5⟩
 ·rintro⟨h1,h2,⟨h3,h4⟩,h5⟩
  exact⟨h1,h2,by omega,by omega,h5⟩
theorem Xy9 {h:Hs} (hc:Xo9 h=true):Wq Xy7 (Xp7 h) (Xrr h):=by
 obtain⟨c1,c2,c3,c4⟩:=Xor.1 hc
 obtain⟨s1,s2,s3,s4,_⟩:=Xp8 c4
 have hm:=(Xoa s1).1
 have hv:=(Us hm).ver
 have e0:Xp7 h=Xoh (Wg h.plan)++(Xoh (Xpf h)++(Y2 h.high++((swN h.st.sw).flatMap Y2++h.st.lk.flatMap Xy8))):=by
  unfold Xp7 Xrf
  rw[List.flatMap_cons,List.flatMap_append,Xrh]
 have e1:Xrr h=⟨[],h.plan,h.back,h.high,⟨h.plan.secs.map atT,h.st.sw.map Xpo,List.zipWith Xrg h.st.lk h.plan.rts⟩,[],Aq,false⟩:=by
  unfold Xrr
  rw[show Xjm h.plan h.st=⟨(Xjm h.plan h.st).tr,(Xjm h.plan h.st).sw,(Xjm h.plan h.st).lk⟩ from rfl,Xs4 _ _ (Xov s4),show(Xjm h.plan h.st).tr=h.st.tr.map Xuh from rfl,Xqj s2]
  rfl
 rw[e0,e1]
 have rb:Wq (Xq7 true) (Xoh (Xpf h)) h.back:=by
  unfold Xpf
  rcases c2 with c2|c2
  ·rw[if_pos c2,Xqe.1 c2];exact Xr6
  ·cases hn:Xp3 h.back with
   |true=>rw[if_pos rfl,Xqe.1 hn];exact Xr6
   |false=>rw[if_neg (by decide)];exact Xtk (Xoa c2.1).1 true
 refine Yu (Xtk hm false) (Yu rb (Yu (Xrl ⟨by have:=hv.1;omega,by omega⟩) (Yu (Xv4 s3) (Ke (Xtf s4 fun r hr=>Xte hm hr)))))
end Go.Proofs.YtdngdjbgmojcoaaGreat.Pln
