/- The layer of abstract values, joined. -/
import Derived.Test.YtdngdjbgmojcoaaGreatZPR
import Derived.Test.YtdngdjbgmojcoaaGreatZQ0
import Derived.Test.YtdngdjbgmojcoaaGreatZW14
namespace Go.Proofs.YtdngdjbgmojcoaaGreat.Pln
set_option linter.unusedVariables false
set_option linter.unusedSimpArgs false
open Go Go.VS Tab
set_option maxHeartbeats 8000000
set_option maxRecDepth 4000
theorem Xwy (a b:St) (hS:SmS a):Xr Tryz.prog 37 [stA a,stA b] [] (bool (Xqz a b)) []:=by
 have l1:=hS.t
 have l2:=hS.w
 have l3:=hS.l
 by_cases hh:a.tr.length=b.tr.length∧a.sw.length=b.sw.length∧a.lk.length=b.lk.length
 ·obtain⟨h4,h5,h6⟩:=hh
  have e4:((a.tr.length:Int) !=(b.tr.length:Int))=false:=by simp [h4]
  have e5:((a.sw.length:Int) !=(b.sw.length:Int))=false:=by simp [h5]
  have e6:((a.lk.length:Int) !=(b.lk.length:Int))=false:=by simp [h6]
  obtain⟨B,hB⟩:∃B,B=Xqz a b:=⟨_,rfl⟩
  have hS:B=(a.tr==b.tr&&(a.sw==b.sw&&a.lk==b.lk)):=hB
  rw[← hB]
  have badP:∀i (hi:i<a.tr.length) (hi':i<b.tr.length),a.tr[i]≠b.tr[i]→B=false:=fun i hi hi' h=>by rw[hS,Ut hi hi' h];rfl
  have badG:∀i (hi:i<a.sw.length) (hi':i<b.sw.length),a.sw[i]≠b.sw[i]→B=false:=fun i hi hi' h=>by rw[hS,Ut hi hi' h];simp
  have X0c:∀i (hi:i<a.lk.length) (hi':i<b.lk.length),a.lk[i]≠b.lk[i]→B=false:=fun i hi hi' h=>by rw[hS,Ut hi hi' h];simp
  clear hB
  refine Xc 2 Tryz.func37 rfl fun n out _ _=> ?_
  simp only[sn,Tryz.ntmps37,Nat.reduceAdd,Nat.reduceSub]
  repeat' (first|(with_reducible first|refine Vk fun K hK=> ?_|refine V0 ?_|refine Vb ?_|refine Vc ?_|refine Vr ?_|refine Vs ?_|apply And.intro|refine Vq (by kernel_rfl) ?_)|((with_reducible first|refine gE ?_|refine gR ?_);simp only[zA,simprocAttr,stA,stC,e4,e5,e6])|exact Vn|((with_reducible refine Vz ?_);refine Vo rfl rfl rfl (fun _ _=>rfl) ?_<;>first|rfl|skip)|((with_reducible refine Vg (fun hg=> ?_) (fun hg=> ?_))<;>(try simp only[nb] at hg)<;>simp only[zA,simprocAttr,hg,stA,stC,List.length_map,e4,e5,e6])|((with_reducible refine Vx ?_);simp only[sb,reduceIte,Nat.reduceEqDiff])|(refine hK _ ?_;clear hK K)|refine Vt rfl ?_|refine Vf rfl ?_|refine Vi rfl (fun hg=> ?_) (fun hg=> ?_)|((first|show Program.eqGuardType _ _ _=false|show Xs _ _ _=true|show Program.stoodInHeld _ _=false);kernel_rfl)|clear hK K)
  refine V5 ?_
  refine Xpw (a.tr.length) (fun i=>(∀j (hj:j<a.tr.length) (hj':j<b.tr.length),j<i→a.tr[j]=b.tr[j])) (fun m i=>tp [4] (tr 33 18 [(5,i64 (i:Int)),(2,.ptr (m+0) 0),(3,.ptr (m+1) 0)])) (fun m i=>[some (.box 33 (stC a)),some (.box 33 (stC b))]) (by intros;omega) ?_ fun m i hm hi=> ?_
  ·refine X2 ?_ ?_ (by first|rfl|(simp only[stC];rfl)|simp only[stC]) rfl rfl rfl<;>simp only[sL,stC]
  obtain⟨hi,hq⟩:=hi
  simp only[pt]
  have hw:=Yl (n:=i) 1 1 rfl (by omega)
  by_cases hlt:i<a.tr.length
  ·have hlt':i<b.tr.length:=by omega
   have ga:=Xg tkC a.tr i [] hlt
   have gb:=Xg tkC b.tr i [] hlt'
   repeat' (first|(with_reducible first|refine Vk fun K hK=> ?_|refine V0 ?_|refine Vb ?_|refine Vc ?_|refine Vr ?_|refine Vs ?_|apply And.intro|refine Vq (by kernel_rfl) ?_)|((with_reducible first|refine gE ?_|refine gR ?_);simp only[zA,simprocAttr,Xi hm,stC,tkC,hlt,hlt',ga,gb,Xqo,hw])|exact Vn|((with_reducible refine Vz ?_);refine Vo rfl rfl rfl (fun _ _=>rfl) ?_<;>first|rfl|(rw[badP i hlt hlt' (by simpa using hg)];rfl)|skip)|((with_reducible refine Vg (fun hg=> ?_) (fun hg=> ?_))<;>(try simp only[nb] at hg)<;>simp only[zA,simprocAttr,hg,Xi hm,stC,tkC,List.length_map,hlt,hlt',ga,gb,X0,Xqo,hw])|((with_reducible refine Vx ?_);simp only[sb,reduceIte,Nat.reduceEqDiff])|(refine hK _ ?_;clear hK K)|refine Vt rfl ?_|refine Vf rfl ?_|refine Vi rfl (fun hg=> ?_) (fun hg=> ?_)|((first|show Program.eqGuardType _ _ _=false|show Xs _ _ _=true|show Program.stoodInHeld _ _=false);kernel_rfl)|clear hK K)
   refine⟨i+1,⟨by omega,fun j hj hj' hji=> ?_⟩,by omega,?_⟩
   ·by_cases h:j=i
    ·subst h;simpa using hg
    ·exact hq j hj hj' (by omega)
   refine Xx [true,true] ?_ ?_<;>intro n_<;>simp only[sM]
  ·have eP:(a.tr==b.tr)=true:=Ua (l:=a.tr) (m:=b.tr) h4 fun j hj hj'=>hq j hj hj' (by omega)
   repeat' (first|(with_reducible first|refine Vk fun K hK=> ?_|refine V0 ?_|refine Vb ?_|refine Vc ?_|refine Vr ?_|refine Vs ?_|apply And.intro|refine Vq (by kernel_rfl) ?_)|((with_reducible first|refine gE ?_|refine gR ?_);simp only[zA,simprocAttr,Xi hm,stC,hlt])|exact Vn|((with_reducible refine Vz ?_);refine Vo rfl rfl rfl (fun _ _=>rfl) ?_<;>first|rfl|skip)|((with_reducible refine Vg (fun hg=> ?_) (fun hg=> ?_))<;>(try simp only[nb] at hg)<;>simp only[zA,simprocAttr,hg,Xi hm,stC,List.length_map,hlt,X0])|((with_reducible refine Vx ?_);simp only[sb])|(refine hK _ ?_;clear hK K)|refine Vt rfl ?_|refine Vf rfl ?_|refine Vi rfl (fun hg=> ?_) (fun hg=> ?_)|((first|show Program.eqGuardType _ _ _=false|show Xs _ _ _=true|show Program.stoodInHeld _ _=false);kernel_rfl)|clear hK K)
   refine V5 ?_
   refine Xpw (a.sw.length) (fun i=>(∀j (hj:j<a.sw.length) (hj':j<b.sw.length),j<i→a.sw[j]=b.sw[j])) (fun m i=>tp [4] (tr 51 18 [(6,i64 (i:Int)),(2,.ptr (m+0) 0),(3,.ptr (m+1) 0)])) (fun m i=>[some (.box 33 (stC a)),some (.box 33 (stC b))]) (by intros;omega) ?_ fun m i hm hi=> ?_
   ·refine X2 ?_ ?_ (by first|rfl|(simp only[stC];rfl)|simp only[stC]) rfl rfl rfl<;>simp only[sL,stC]
   obtain⟨hi,hq⟩:=hi
   simp only[pt]
   have hw:=Yl (n:=i) 1 1 rfl (by omega)
   by_cases hlt:i<a.sw.length
   ·have hlt':i<b.sw.length:=by omega
    have ga:=Xg sgC a.sw i [] hlt
    have gb:=Xg sgC b.sw i [] hlt'
    repeat' (first|(with_reducible first|refine Vk fun K hK=> ?_|refine V0 ?_|refine Vb ?_|refine Vc ?_|refine Vr ?_|refine Vs ?_|apply And.intro|refine Vq (by kernel_rfl) ?_)|((with_reducible first|refine gE ?_|refine gR ?_);simp only[zA,simprocAttr,Xi hm,stC,sgC,hlt,hlt',ga,gb,E4,hw])|exact Vn|((with_reducible refine Vz ?_);refine Vo rfl rfl rfl (fun _ _=>rfl) ?_<;>first|rfl|(rw[badG i hlt hlt' (by simpa using hg)];rfl)|skip)|((with_reducible refine Vg (fun hg=> ?_) (fun hg=> ?_))<;>(try simp only[nb] at hg)<;>simp only[zA,simprocAttr,hg,Xi hm,stC,sgC,List.length_map,hlt,hlt',ga,gb,X0,E4,hw])|((with_reducible refine Vx ?_);simp only[sb,reduceIte,Nat.reduceEqDiff])|(refine hK _ ?_;clear hK K)|refine Vt rfl ?_|refine Vf rfl ?_|refine Vi rfl (fun hg=> ?_) (fun hg=> ?_)|((first|show Program.eqGuardType _ _ _=false|show Xs _ _ _=true|show Program.stoodInHeld _ _=false);kernel_rfl)|clear hK K)
    refine⟨i+1,⟨by omega,fun j hj hj' hji=> ?_⟩,by omega,?_⟩
    ·by_cases h:j=i
     ·subst h;simpa using hg
     ·exact hq j hj hj' (by omega)
    refine Xx [true,true] ?_ ?_<;>intro n_<;>simp only[sM]
   ·have eG:(a.sw==b.sw)=true:=Ua (l:=a.sw) (m:=b.sw) h5 fun j hj hj'=>hq j hj hj' (by omega)
    repeat' (first|(with_reducible first|refine Vk fun K hK=> ?_|refine V0 ?_|refine Vb ?_|refine Vc ?_|refine Vr ?_|refine Vs ?_|apply And.intro|refine Vq (by kernel_rfl) ?_)|((with_reducible first|refine gE ?_|refine gR ?_);simp only[zA,simprocAttr,Xi hm,stC,hlt])|exact Vn|((with_reducible refine Vz ?_);refine Vo rfl rfl rfl (fun _ _=>rfl) ?_<;>first|rfl|skip)|((with_reducible refine Vg (fun hg=> ?_) (fun hg=> ?_))<;>(try simp only[nb] at hg)<;>simp only[zA,simprocAttr,hg,Xi hm,stC,List.length_map,hlt,X0])|((with_reducible refine Vx ?_);simp only[sb])|(refine hK _ ?_;clear hK K)|refine Vt rfl ?_|refine Vf rfl ?_|refine Vi rfl (fun hg=> ?_) (fun hg=> ?_)|((first|show Program.eqGuardType _ _ _=false|show Xs _ _ _=true|show Program.stoodInHeld _ _=false);kernel_rfl)|clear hK K)
    refine V5 ?_
    refine Xpw (a.lk.length) (fun i=>(∀j (hj:j<a.lk.length) (hj':j<b.lk.length),j<i→a.lk[j]=b.lk[j])) (fun m i=>tp [4] (tr 69 18 [(7,i64 (i:Int)),(2,.ptr (m+0) 0),(3,.ptr (m+1) 0)])) (fun m i=>[some (.box 33 (stC a)),some (.box 33 (stC b))]) (by intros;omega) ?_ fun m i hm hi=> ?_
    ·refine X2 ?_ ?_ (by first|rfl|(simp only[stC];rfl)|simp only[stC]) rfl rfl rfl<;>simp only[sL,stC]
    obtain⟨hi,hq⟩:=hi
    simp only[pt]
    have hw:=Yl (n:=i) 1 1 rfl (by omega)
    by_cases hlt:i<a.lk.length
    ·have hlt':i<b.lk.length:=by omega
     have ga:=Xg lkC a.lk i [] hlt
     have gb:=Xg lkC b.lk i [] hlt'
     repeat' (first|(with_reducible first|refine Vk fun K hK=> ?_|refine V0 ?_|refine Vb ?_|refine Vc ?_|refine Vr ?_|refine Vs ?_|apply And.intro|refine Vq (by kernel_rfl) ?_)|((with_reducible first|refine gE ?_|refine gR ?_);simp only[zA,simprocAttr,Xi hm,stC,lkC,hlt,hlt',ga,gb,Xqp,hw])|exact Vn|((with_reducible refine Vz ?_);refine Vo rfl rfl rfl (fun _ _=>rfl) ?_<;>first|rfl|(rw[X0c i hlt hlt' (by simpa using hg)];rfl)|skip)|((with_reducible refine Vg (fun hg=> ?_) (fun hg=> ?_))<;>(try simp only[nb] at hg)<;>simp only[zA,simprocAttr,hg,Xi hm,stC,lkC,List.length_map,hlt,hlt',ga,gb,X0,Xqp,hw])|((with_reducible refine Vx ?_);simp only[sb,reduceIte,Nat.reduceEqDiff])|(refine hK _ ?_;clear hK K)|refine Vt rfl ?_|refine Vf rfl ?_|refine Vi rfl (fun hg=> ?_) (fun hg=> ?_)|((first|show Program.eqGuardType _ _ _=false|show Xs _ _ _=true|show Program.stoodInHeld _ _=false);kernel_rfl)|clear hK K)
     refine⟨i+1,⟨by omega,fun j hj hj' hji=> ?_⟩,by omega,?_⟩
     ·by_cases h:j=i
      ·subst h;simpa using hg
      ·exact hq j hj hj' (by omega)
     refine Xx [true,true] ?_ ?_<;>intro n_<;>simp only[sM]
    ·have eR:(a.lk==b.lk)=true:=Ua (l:=a.lk) (m:=b.lk) h6 fun j hj hj'=>hq j hj hj' (by omega)
     have hT:B=true:=by rw[hS,eP,eG,eR];rfl
     repeat' (first|(with_reducible first|refine Vk fun K hK=> ?_|refine V0 ?_|refine Vb ?_|refine Vc ?_|refine Vr ?_|refine Vs ?_|apply And.intro|refine Vq (by kernel_rfl) ?_)|((with_reducible first|refine gE ?_|refine gR ?_);simp only[zA,simprocAttr,Xi hm,stC,hlt])|exact Vn|((with_reducible refine Vz ?_);refine Vo rfl rfl rfl (fun _ _=>rfl) ?_<;>first|rfl|(rw[hT];rfl)|skip)|((with_reducible refine Vg (fun hg=> ?_) (fun hg=> ?_))<;>(try simp only[nb] at hg)<;>simp only[zA,simprocAttr,hg,Xi hm,stC,List.length_map,hlt,X0])|((with_reducible refine Vx ?_);simp only[sb])|(refine hK _ ?_;clear hK K)|refine Vt rfl ?_|refine Vf rfl ?_|refine Vi rfl (fun hg=> ?_) (fun hg=> ?_)|((first|show Program.eqGuardType _ _ _=false|show Xs _ _ _=true|show Program.stoodInHeld _ _=false);kernel_rfl)|clear hK K)
 ·have hS:Xqz a b=false:=by
   rw[Bool.eq_false_iff]
   intro h
   unfold Xqz at h
   simp only[Bool.and_eq_true,beq_iff_eq] at h
   obtain⟨h4,h5,h6⟩:=h
   exact hh ⟨by rw[h4],by rw[h5],by rw[h6]⟩
  rw[hS]
  refine Xc 2 Tryz.func37 rfl fun n out _ _=> ?_
  simp only[sn,Tryz.ntmps37,Nat.reduceAdd,Nat.reduceSub]
  repeat' (first|(with_reducible first|refine Vk fun K hK=> ?_|refine V0 ?_|refine Vb ?_|refine Vc ?_|refine Vr ?_|refine Vs ?_|apply And.intro|refine Vq (by kernel_rfl) ?_)|((with_reducible first|refine gE ?_|refine gR ?_);simp only[zA,simprocAttr,stA,stC])|exact Vn|((with_reducible refine Vz ?_);refine Vo rfl rfl rfl (fun _ _=>rfl) ?_<;>first|rfl|skip)|((with_reducible refine Vg (fun hg=> ?_) (fun hg=> ?_))<;>(try simp only[nb] at hg)<;>simp only[zA,simprocAttr,hg])|((with_reducible refine Vx ?_);simp only[sb,reduceIte,Nat.reduceEqDiff])|(refine hK _ ?_;clear hK K)|refine Vt rfl ?_|refine Vf rfl ?_|refine Vi rfl (fun hg=> ?_) (fun hg=> ?_)|((first|show Program.eqGuardType _ _ _=false|show Xs _ _ _=true|show Program.stoodInHeld _ _=false);kernel_rfl)|clear hK K)
  all_goals (exfalso;refine hh ?_;simp at*;exact⟨by omega,by omega,by omega⟩)
def Xs7 (s:St):Bool:=decide ((s.tr.length:Int)>200)||decide ((s.sw.length:Int)>200)||decide ((s.lk.length:Int)>200)
theorem Xvl (s:St):Xr Tryz.prog 24 [stA s] [] (bool (Xs7 s)) []:=by
 unfold Xs7
 refine Xc 1 Tryz.func24 rfl fun n out _ _=> ?_
 simp only[sn,Tryz.ntmps24,Nat.reduceAdd,Nat.reduceSub]
 repeat' (first|(with_reducible first|refine Vk fun K hK=> ?_|refine V0 ?_|refine Vs ?_|apply And.intro)|((with_reducible first|refine gE ?_|refine gR ?_);simp only[zA,simprocAttr,stA,stC])|exact Vn|((with_reducible refine Vz ?_);refine Vo rfl rfl rfl (fun _ _=>rfl) ?_<;>first|rfl|(simp only[g_0,g_s];refine congrArg VS.bool ?_;first|(simp_all;done)|(simp_all;omega))|skip)|((with_reducible refine Vg (fun hg=> ?_) (fun hg=> ?_))<;>(try simp only[nb] at hg)<;>simp only[zA,simprocAttr,hg])|(refine hK _ ?_;clear hK K)|clear hK K)
theorem Xsv (p:Pl) (hs:Sm p):Xr Tryz.prog 22 [plA p] [] (bool (Xp3 p)) []:=by
 have c0:=Du p Aq hs
 rw[show Sy p Aq=Xp3 p from rfl] at c0
 have c1:=Xdb (args':=[plA p,.agg [i64 0,i64 0,.sl 0 [] .nil,.sl 0 [] .nil,.sl 0 [] .nil,.sl 0 [] .nil]]) c0 (by simp only[plA,plC,Aq,List.map_nil,sL])
 simp only[plA,plC] at c1
 refine Xc 1 Tryz.func22 rfl fun n out _ _=> ?_
 simp only[sn,Tryz.ntmps22,Nat.reduceAdd,Nat.reduceSub]
 repeat' (first|(with_reducible first|refine Vk fun K hK=> ?_|refine V0 ?_|refine Vs ?_|apply And.intro)|((with_reducible first|refine gE ?_|refine gR ?_);simp only[zA,simprocAttr,plA,plC])|exact Vn|((with_reducible refine Vz ?_);refine Vo rfl rfl rfl (fun _ _=>rfl) ?_<;>first|rfl|skip)|(refine X3 (c1) ?_)|(refine hK _ ?_;clear hK K)|clear hK K)
def Xs8 (h:Hs):Bool:=Lx h.plan||Lx h.back||Lx h.next||Xs7 h.st||decide ((h.key.length:Int)>1000)||decide ((h.buf.length:Int)>5000)
theorem Xza {h:Hs} (hg:Xs8 h=false):SmH h:=by
 unfold Xs8 Xs7 at hg
 simp only[Bool.or_eq_false_iff,decide_eq_false_iff_not] at hg
 obtain⟨⟨⟨⟨⟨g1,g2⟩,g3⟩,⟨g4,g5⟩,g6⟩,g7⟩,g8⟩:=hg
 exact⟨X0a g1,X0a g2,X0a g3,⟨by omega,by omega,by omega⟩,by omega,by omega⟩
theorem Xvm (h:Hs):Xr Tryz.prog 8 [hsA h] [] (bool (Xs8 h)) []:=by
 have c1:=X09 h.plan
 have c2:=X09 h.back
 have c3:=X09 h.next
 have c4:=Xvl h.st
 unfold Xs8
 simp only[plA,plC,stA,stC] at c1 c2 c3 c4
 generalize Lx h.plan=A1 at*
 generalize Lx h.back=A2 at*
 generalize Lx h.next=A3 at*
 generalize Xs7 h.st=A4 at*
 refine Xc 1 Tryz.func8 rfl fun n out _ _=> ?_
 simp only[sn,Tryz.ntmps8,Nat.reduceAdd,Nat.reduceSub]
 repeat' (first|(with_reducible first|refine Vk fun K hK=> ?_|refine V0 ?_|refine Vs ?_|apply And.intro)|((with_reducible first|refine gE ?_|refine gR ?_);simp only[zA,simprocAttr,hsA,hsC])|exact Vn|((with_reducible refine Vz ?_);refine Vo rfl rfl rfl (fun _ _=>rfl) ?_<;>first|rfl|(simp only[g_0,g_s];refine congrArg VS.bool ?_;first|(simp_all;done)|(simp_all;omega))|skip)|(refine X3 (c1) ?_)|(refine X3 (c2) ?_)|(refine X3 (c3) ?_)|(refine X3 (c4) ?_)|((with_reducible refine Vg (fun hg=> ?_) (fun hg=> ?_))<;>(try simp only[nb] at hg)<;>simp only[zA,simprocAttr,hg,X5])|(refine hK _ ?_;clear hK K)|clear hK K)
def Xzb (a b:Hs):Bool:=((a.key.length:Int)+(b.key.length:Int)+(a.buf.length:Int)+(b.buf.length:Int)==0)&&(Xp3 a.next&&(Xp3 b.next&&(a.halt==b.halt)))
def Xwz (a b:Hs):Bool:=Xzb a b&&(a.high==b.high&&(Sy a.plan b.plan&&(Sy a.back b.back&&Xqz a.st b.st)))
theorem Xtl (a b:Hs) (ha:SmH a) (hb:SmH b):Xr Tryz.prog 15 [hsA a,hsA b] [] (bool (Xwz a b)) []:=by
 have c1:=Xsv a.next ha.next
 have c2:=Xsv b.next hb.next
 have c3:=Du a.plan b.plan ha.plan
 have c4:=Du a.back b.back ha.back
 have c5:=Xwy a.st b.st ha.st
 have k1:=ha.key
 have k2:=ha.buf
 have k3:=hb.key
 have k4:=hb.buf
 have w1:IntKind.i64.wrap ((a.key.length:Int)+(b.key.length:Int))=(a.key.length:Int)+(b.key.length:Int):=by rw[wrap_i64]<;>omega
 have w2:IntKind.i64.wrap ((a.key.length:Int)+(b.key.length:Int)+(a.buf.length:Int))=(a.key.length:Int)+(b.key.length:Int)+(a.buf.length:Int):=by rw[wrap_i64]<;>omega
 have w3:IntKind.i64.wrap ((a.key.length:Int)+(b.key.length:Int)+(a.buf.length:Int)+(b.buf.length:Int))=(a.key.length:Int)+(b.key.length:Int)+(a.buf.length:Int)+(b.buf.length:Int):=by rw[wrap_i64]<;>omega
 unfold Xwz Xzb
 simp only[plA,plC,stA,stC] at c1 c2 c3 c4 c5
 generalize Xp3 a.next=A1 at*
 generalize Xp3 b.next=A2 at*
 generalize Sy a.plan b.plan=A3 at*
 generalize Sy a.back b.back=A4 at*
 generalize Xqz a.st b.st=A5 at*
 refine Xc 2 Tryz.func15 rfl fun n out _ _=> ?_
 simp only[sn,Tryz.ntmps15,Nat.reduceAdd,Nat.reduceSub]
 repeat' (first|(with_reducible first|refine Vk fun K hK=> ?_|refine V0 ?_|refine Vs ?_|apply And.intro)|((with_reducible first|refine gE ?_|refine gR ?_);simp only[zA,simprocAttr,hsA,hsC,X5,w1,w2,w3])|exact Vn|((with_reducible refine Vz ?_);refine Vo rfl rfl rfl (fun _ _=>rfl) ?_<;>first|rfl|(simp only[g_0,g_s];refine congrArg VS.bool ?_;first|(simp_all;done)|(simp_all;omega))|skip)|(refine X3 (c1) ?_)|(refine X3 (c2) ?_)|(refine X3 (c3) ?_)|(refine X3 (c4) ?_)|(refine X3 (c5) ?_)|((with_reducible refine Vg (fun hg=> ?_) (fun hg=> ?_))<;>(try simp only[nb] at hg)<;>simp only[zA,simprocAttr,hg])|(refine hK _ ?_;clear hK K)|clear hK K)
end Go.Proofs.YtdngdjbgmojcoaaGreat.Pln
