/- The layer of abstract values, joined. -/
import Derived.Test.YtjgbbjooeibppaaZD2
import Derived.Test.YtjgbbjooeibppaaZI4
import Derived.Test.YtjgbbjooeibppaaZE10
import Derived.Test.YtjgbbjooeibppaaZE11
import Derived.Test.YtjgbbjooeibppaaZE4
import Derived.Test.YtjgbbjooeibppaaZVsMop
namespace Go.Proofs.Ytjgbbjooeibppaa
set_option linter.unusedVariables false
set_option linter.unusedSimpArgs false
open Go Go.VS Tab
set_option maxHeartbeats 16000000
set_option maxRecDepth 8000
theorem Vy (g h:BitVec 32) (t u:List UInt8) (σ:AState) (K:AV→List (Nat×Res)→Prop):X1 tab σ K none 64 2 [(0,.agg [w32 g,bs t]),(1,.agg [w32 h,bs u])]=K (.sl 2 [[w32 g,bs t],[w32 h,bs u]] .full) []:=by
 have ht:tab 64=some ti64:=rfl
 have hd:(ti64).desc= .slice 60:=rfl
 have he:tab 60=some ti60:=rfl
 have h1:(ti60).size=2:=rfl
 have hr:U4 (fun i=>some (i*(ti60).size,(ti60).size)) (Y7 (ti60).zero (2*(ti60).size)) [(0,.agg [w32 g,bs t]),(1,.agg [w32 h,bs u])]=some [w32 g,bs t,w32 h,bs u]:=rfl
 simp only[X1,ht,hd,he,hr]
 simp [h1,Yh]
theorem W0 (g:BitVec 32) (t:List UInt8) (σ:AState) (K:AV→List (Nat×Res)→Prop):X1 tab σ K none 64 1 [(0,.agg [w32 g,bs t])]=K (.sl 2 [[w32 g,bs t]] .full) []:=Yk (T:=tab) (ti:=ti64) (te:=ti60) rfl rfl rfl (by decide) (by decide) rfl rfl
theorem As (d:Dsk) (hm:may d=true):Xr Try.prog 73 [Y3p d] [] (.sl 2 ((Y3s d).map rcC) .sh) []:=by
 have cw0:=Tf d 0 hm (.inl rfl)
 have cw1:=Tf d 16 hm (.inr rfl)
 have hF:=Y51 hm
 obtain⟨a,ha⟩:∃a,a=Y3r d 0:=⟨_,rfl⟩
 obtain⟨b,hb⟩:∃b,b=Y3r d 16:=⟨_,rfl⟩
 rw[← ha] at cw0
 rw[← hb] at cw1
 rw[hF,← ha,← hb]
 clear hF ha hb
 simp only[Y3p,Xha,Y7l,rcA,rcC,Int.cast_ofNat_Int] at cw0 cw1
 cases a with
 |none=>
  cases b with
  |none=>
   simp only[Option.getD_none,Option.isSome_none] at cw0 cw1
   refine Xc 4 Try.func73 rfl fun n out _ _=> ?_
   simp only[Try.ntmps73,List.length_cons,List.length_nil,List.length_map,List.length_replicate,Xf,Nat.reduceAdd,Nat.reduceSub,List.replicate,List.cons_append,List.nil_append]
   repeat' (first|(with_reducible first|refine Vk fun K hK=> ?_|refine V0 ?_|refine Vs ?_|apply And.intro)|((with_reducible first|refine gE ?_|refine gR ?_);simp (maxSteps:=9^7) only[ss,tab,simprocAttr, -List.reduceReplicate,W0,Vy,Y3p,Xha,X0])|exact Vn|((with_reducible refine Vz ?_);refine Xv (.inr rfl) rfl rfl rfl (fun _ _=>rfl) ?_ rfl<;>first|rfl|(exact AV.le.rfl _)|(simp only[X4,sl,W0,Vy,Y3p,Xha,X0];done)|rfl|skip)|(refine X3 (cw0) ?_)|(refine X3 (cw1) ?_)|((with_reducible refine Vg (fun hg=> ?_) (fun hg=> ?_))<;>(try simp only[nb] at hg)<;>simp (maxSteps:=9^7) only[ss,tab,simprocAttr, -List.reduceReplicate,hg,W0,Vy,Y3p,Xha,X0])|(refine hK _ ?_;clear hK K)|refine Vt rfl ?_|refine Vf rfl ?_|refine Vi rfl (fun hg=> ?_) (fun hg=> ?_)|clear hK K)
   all_goals exact(Py _ _).2 trivial
  |some y=>
   simp only[Option.getD_none,Option.isSome_none,Option.getD_some,Option.isSome_some] at cw0 cw1
   refine Xc 4 Try.func73 rfl fun n out _ _=> ?_
   simp only[Try.ntmps73,List.length_cons,List.length_nil,List.length_map,List.length_replicate,Xf,Nat.reduceAdd,Nat.reduceSub,List.replicate,List.cons_append,List.nil_append]
   repeat' (first|(with_reducible first|refine Vk fun K hK=> ?_|refine V0 ?_|refine Vs ?_|apply And.intro)|((with_reducible first|refine gE ?_|refine gR ?_);simp (maxSteps:=9^7) only[ss,tab,simprocAttr, -List.reduceReplicate,W0,Vy,Y3p,Xha,X0])|exact Vn|((with_reducible refine Vz ?_);refine Xv (.inr rfl) rfl rfl rfl (fun _ _=>rfl) ?_ rfl<;>first|rfl|(exact AV.le.rfl _)|(simp only[X4,sl,W0,Vy,Y3p,Xha,X0];done)|rfl|skip)|(refine X3 (cw0) ?_)|(refine X3 (cw1) ?_)|((with_reducible refine Vg (fun hg=> ?_) (fun hg=> ?_))<;>(try simp only[nb] at hg)<;>simp (maxSteps:=9^7) only[ss,tab,simprocAttr, -List.reduceReplicate,hg,W0,Vy,Y3p,Xha,X0])|(refine hK _ ?_;clear hK K)|refine Vt rfl ?_|refine Vf rfl ?_|refine Vi rfl (fun hg=> ?_) (fun hg=> ?_)|clear hK K)
   all_goals exact .sh _ _ _
 |some x=>
  cases b with
  |none=>
   simp only[Option.getD_none,Option.isSome_none,Option.getD_some,Option.isSome_some] at cw0 cw1
   refine Xc 4 Try.func73 rfl fun n out _ _=> ?_
   simp only[Try.ntmps73,List.length_cons,List.length_nil,List.length_map,List.length_replicate,Xf,Nat.reduceAdd,Nat.reduceSub,List.replicate,List.cons_append,List.nil_append]
   repeat' (first|(with_reducible first|refine Vk fun K hK=> ?_|refine V0 ?_|refine Vs ?_|apply And.intro)|((with_reducible first|refine gE ?_|refine gR ?_);simp (maxSteps:=9^7) only[ss,tab,simprocAttr, -List.reduceReplicate,W0,Vy,Y3p,Xha,X0])|exact Vn|((with_reducible refine Vz ?_);refine Xv (.inr rfl) rfl rfl rfl (fun _ _=>rfl) ?_ rfl<;>first|rfl|(exact AV.le.rfl _)|(simp only[X4,sl,W0,Vy,Y3p,Xha,X0];done)|rfl|skip)|(refine X3 (cw0) ?_)|(refine X3 (cw1) ?_)|((with_reducible refine Vg (fun hg=> ?_) (fun hg=> ?_))<;>(try simp only[nb] at hg)<;>simp (maxSteps:=9^7) only[ss,tab,simprocAttr, -List.reduceReplicate,hg,W0,Vy,Y3p,Xha,X0])|(refine hK _ ?_;clear hK K)|refine Vt rfl ?_|refine Vf rfl ?_|refine Vi rfl (fun hg=> ?_) (fun hg=> ?_)|clear hK K)
   all_goals exact .sh _ _ _
  |some y=>
   rw[Y69]
   simp only[Option.getD_some,Option.isSome_some] at cw0 cw1
   by_cases hlt:x.gen.toNat<y.gen.toNat
   ·have hg:decide ((y.gen.toNat:Int)>(x.gen.toNat:Int))=true:=decide_eq_true (by omega)
    rw[if_pos hlt]
    refine Xc 4 Try.func73 rfl fun n out _ _=> ?_
    simp only[Try.ntmps73,List.length_cons,List.length_nil,List.length_map,List.length_replicate,Xf,Nat.reduceAdd,Nat.reduceSub,List.replicate,List.cons_append,List.nil_append]
    repeat' (first|(with_reducible first|refine Vk fun K hK=> ?_|refine V0 ?_|refine Vs ?_|apply And.intro)|((with_reducible first|refine gE ?_|refine gR ?_);simp (maxSteps:=9^7) only[ss,tab,simprocAttr, -List.reduceReplicate,W0,Vy,Y3p,Xha,X0,hg,hlt,gt_iff_lt,decide_true,decide_false])|exact Vn|((with_reducible refine Vz ?_);refine Xv (.inr rfl) rfl rfl rfl (fun _ _=>rfl) ?_ rfl<;>first|rfl|(exact AV.le.rfl _)|(simp only[X4,sl,W0,Vy,Y3p,Xha,X0,hg,hlt,gt_iff_lt,decide_true,decide_false];done)|rfl|skip)|(refine X3 (cw0) ?_)|(refine X3 (cw1) ?_)|((with_reducible refine Vg (fun hg=> ?_) (fun hg=> ?_))<;>(try simp only[nb] at hg)<;>simp (maxSteps:=9^7) only[ss,tab,simprocAttr, -List.reduceReplicate,hg,W0,Vy,Y3p,Xha,X0,hlt,gt_iff_lt,decide_true,decide_false])|(refine hK _ ?_;clear hK K)|refine Vt rfl ?_|refine Vf rfl ?_|refine Vi rfl (fun hg=> ?_) (fun hg=> ?_)|clear hK K)
    all_goals exact .sh _ _ _
   ·have hg:decide ((y.gen.toNat:Int)>(x.gen.toNat:Int))=false:=decide_eq_false (by omega)
    rw[if_neg hlt]
    refine Xc 4 Try.func73 rfl fun n out _ _=> ?_
    simp only[Try.ntmps73,List.length_cons,List.length_nil,List.length_map,List.length_replicate,Xf,Nat.reduceAdd,Nat.reduceSub,List.replicate,List.cons_append,List.nil_append]
    repeat' (first|(with_reducible first|refine Vk fun K hK=> ?_|refine Ve [(36,none)] ?_|refine Vs ?_|apply And.intro)|((with_reducible first|refine gE ?_|refine gR ?_);simp (maxSteps:=9^7) only[ss,tab,simprocAttr, -List.reduceReplicate,W0,Vy,Y3p,Xha,X0,hg,hlt,gt_iff_lt,decide_true,decide_false])|exact Vn|((with_reducible refine Vz ?_);refine Xv (.inr rfl) rfl rfl rfl (fun _ _=>rfl) ?_ rfl<;>first|rfl|(exact AV.le.rfl _)|(simp only[X4,sl,W0,Vy,Y3p,Xha,X0,hg,hlt,gt_iff_lt,decide_true,decide_false];done)|rfl|skip)|(refine X3 (cw0) ?_)|(refine X3 (cw1) ?_)|((with_reducible refine Vg (fun hg=> ?_) (fun hg=> ?_))<;>(try simp only[nb] at hg)<;>simp (maxSteps:=9^7) only[ss,tab,simprocAttr, -List.reduceReplicate,hg,W0,Vy,Y3p,Xha,X0,hlt,gt_iff_lt,decide_true,decide_false])|(refine hK _ ?_;clear hK K)|refine Vt rfl ?_|refine Vf rfl ?_|refine Vi rfl (fun hg=> ?_) (fun hg=> ?_)|clear hK K)
    all_goals exact .sh _ _ _
theorem Ds (d:Dsk) (g:BitVec 32) (hm:may d=true):Xr Try.prog 75 [Y3p d,w32 g] [] (w32 (if 4294967295<Y68 d g then 0 else BitVec.ofNat 32 (Y68 d g))) []:=by
 have csl:=Lf g
 have hsl:=Y50 (g+1)
 have hs1:=P4 g
 have hgl:=g.isLt
 have hg:=P1 g
 obtain⟨z,hz⟩:∃z,z=Y3q (g+1):=⟨_,rfl⟩
 have hsub:IntKind.i64.wrap (16 - (Y3q g:Int))=(z:Int):=by
  rw[hz,hs1]
  unfold Y3q
  rw[wrap_i64]<;>omega
 rw[← hz] at hsl
 have hml:=fun i hi=>Dn hm hsl hgl i hi
 have hN:=A3 hm g
 have hB:Yd4 d g=Z2 d z g.toNat 16:=by unfold Yd4;rw[hz]
 simp only[Y3p,Xha]
 refine Xc 1 Try.func75 rfl fun n out _ _=> ?_
 simp only[Try.ntmps75,List.length_cons,List.length_nil,List.length_map,List.length_replicate,Xf,Nat.reduceAdd,Nat.reduceSub,List.replicate,List.cons_append,List.nil_append]
 repeat' (first|(with_reducible first|refine Vk fun K hK=> ?_|refine V0 ?_|refine Vb ?_|refine Vc ?_|refine Vr ?_|refine Vs ?_|apply And.intro|refine Vq (by kernel_rfl) ?_)|((with_reducible first|refine gE ?_|refine gR ?_);simp (maxSteps:=9^7) only[ss,X1,tab,simprocAttr, -List.reduceReplicate,Xha,hsub,hg])|exact Vn|((with_reducible refine Vz ?_);refine Vo rfl rfl rfl (fun _ _=>rfl) ?_<;>first|rfl|skip)|(refine X3 (csl) ?_)|((with_reducible refine Vx ?_);simp only[sb,reduceIte,Nat.reduceEqDiff])|(refine hK _ ?_;clear hK K)|refine Vt rfl ?_|refine Vf rfl ?_|refine Vi rfl (fun hg=> ?_) (fun hg=> ?_)|clear hK K)
 refine Xe ?_
 refine Xz (fun i:Nat=>[(6,i64 (Z2 d z g.toNat i:Nat)),(7,i64 (i:Int)),(8,.top),(15,.top),(16,.top),(17,.top),(18,.top),(19,.top),(20,.top),(21,.top),(22,.top),(23,.top),(24,.top),(25,.top),(26,.top),(27,.top),(28,.top),(29,.top),(30,.top),(31,.top)]) (fun i=>[some (.box 43 (Xha d))]) (fun i=>out) (fun i=>i≤16) (fun i=>16 - i) 0 (Nat.zero_le _) ?_ fun i hi=> ?_
 ·refine X2 ?_ ?_ (by first|rfl|(simp only[Z2,Xha];rfl)|simp only[Z2,Xha]) rfl rfl rfl<;>simp only[X4,sl,Z2,Xha]
 simp only[X4,s_0,s_s]
 have hw:=Yl (n:=i) 1 1 rfl (by omega)
 by_cases hlt:i<16
 ·have hlt':(i:Int)<16:=by omega
  have hws:=Yl (n:=z) (i:Int) i rfl (by omega)
  have cs:=Ycm d (z+i) hm (by omega)
  rw[← Y5i hm (by omega)] at cs
  have hl:=Y7i hm (show z+i<32 by omega)
  have l1:((Xkr d ((z+i:Nat):Int)).take 4).length=4:=by rw[List.length_take];omega
  have l2:((Xkr d ((z+i:Nat):Int)).drop 124).length=4:=by rw[List.length_drop];omega
  have ca:=fun md=>Ls ((Xkr d ((z+i:Nat):Int)).take 4) md (by omega) (by omega)
  have cb:=fun md=>Ls ((Xkr d ((z+i:Nat):Int)).drop 124) md (by omega) (by omega)
  have hS:Z2 d z g.toNat (i+1)=max (max (Z2 d z g.toNat i) (Zs ((Xkr d ((z+i:Nat):Int)).take 4))) (Zs ((Xkr d ((z+i:Nat):Int)).drop 124)):=rfl
  have t0:(Xkr d ((z+i:Nat):Int)).take 4=((Xkr d ((z+i:Nat):Int)).drop 0).take 4:=by rw[List.drop_zero]
  have t1:((Xkr d ((z+i:Nat):Int)).drop 124).take 4=(Xkr d ((z+i:Nat):Int)).drop 124:=List.take_of_length_le (by omega)
  generalize Xkr d ((z+i:Nat):Int)=B at*
  generalize Z2 d z g.toNat i=X at*
  generalize Zs (B.take 4)=Y at*
  generalize Zs (B.drop 124)=Z at*
  have hmx:(if (if (X:Int)<(Y:Int) then(Y:Int) else(X:Int))<(Z:Int) then(Z:Int) else if (X:Int)<(Y:Int) then(Y:Int) else(X:Int))=((Z2 d z g.toNat (i+1):Nat):Int):=by
   rw[hS]
   split<;>split<;>omega
  have hmx2:(if (if X<Y then(Y:Int) else(X:Int))<(Z:Int) then(Z:Int) else if X<Y then(Y:Int) else(X:Int))=((Z2 d z g.toNat (i+1):Nat):Int):=by
   rw[hS]
   split<;>split<;>omega
  simp only[Y3p,Xha] at cs
  repeat' (first|(with_reducible first|refine Vk fun K hK=> ?_|refine V0 ?_|refine Vb ?_|refine Vc ?_|refine Vr ?_|refine Vs ?_|apply And.intro|refine Vq (by kernel_rfl) ?_)|((with_reducible first|refine gE ?_|refine gR ?_);simp (maxSteps:=9^7) only[ss,X1,tab,simprocAttr, -List.reduceReplicate,hmx2,Xha,hlt',hws,X5,hl,P6,Nh,Q2,Q1,Int.reduceToNat,Nat.reduceSub,Nat.sub_zero,List.drop_zero,t1,Ydj,hmx,hw])|exact Vn|((with_reducible refine Vz ?_);refine Vo rfl rfl rfl (fun _ _=>rfl) ?_<;>first|rfl|skip)|(refine X3 (cs) ?_)|(refine X3 (ca _) ?_)|(refine X3 (cb _) ?_)|((with_reducible refine Vx ?_);simp only[sb,reduceIte,Nat.reduceEqDiff])|(refine hK _ ?_;clear hK K)|refine Vt rfl ?_|refine Vf rfl ?_|refine Vi rfl (fun hg=> ?_) (fun hg=> ?_)|clear hK K)
  refine⟨i+1,by omega,by omega,?_⟩
  refine X2 ?_ ?_ rfl rfl rfl rfl<;>simp only[X4,sl,Xha,hlt',decide_true]
 ·obtain rfl:i=16:=by omega
  have hX:=hml 16 (Nat.le_refl _)
  rw[← hz] at hN
  rw[hB] at hN
  generalize Z2 d z g.toNat 16=X at*
  have hw1:=Yl (n:=X) 1 1 rfl (by omega)
  have hw2:=Yl (n:=X+1) 1 1 rfl (by omega)
  have hc32:IntKind.u32.wrap ((X+1:Nat):Int)=((BitVec.ofNat 32 (X+1)).toNat:Int):=by rw[Xar,BitVec.toNat_ofNat];omega
  have cs2:=Lf (BitVec.ofNat 32 (X+1))
  generalize Y68 d g=N at*
  by_cases hq:Y3q (BitVec.ofNat 32 (X+1))=z
  ·rw[if_pos hq] at hN
   subst hN
   have hne:((Y3q (BitVec.ofNat 32 (X+1)):Int) !=(z:Int))=false:=by simp;omega
   by_cases hbig:4294967295<X+1
   ·have hge:decide (((X+1:Nat):Int)≥4294967296)=true:=decide_eq_true (by omega)
    rw[if_pos hbig]
    repeat' (first|(with_reducible first|refine Vk fun K hK=> ?_|refine V0 ?_|refine Vb ?_|refine Vc ?_|refine Vr ?_|refine Vs ?_|apply And.intro|refine Vq (by kernel_rfl) ?_)|((with_reducible first|refine gE ?_|refine gR ?_);simp (maxSteps:=9^7) only[ss,X1,tab,simprocAttr, -List.reduceReplicate,Xha,hw1,hc32,hne,hge,w0])|exact Vn|((with_reducible refine Vz ?_);refine Vo rfl rfl rfl (fun _ _=>rfl) ?_<;>first|rfl|skip)|(refine X3 (cs2) ?_)|((with_reducible refine Vx ?_);simp only[sb,reduceIte,Nat.reduceEqDiff])|(refine hK _ ?_;clear hK K)|refine Vt rfl ?_|refine Vf rfl ?_|refine Vi rfl (fun hg=> ?_) (fun hg=> ?_)|clear hK K)
    rw[if_pos hbig];rfl
   ·have hge:decide (((X+1:Nat):Int)≥4294967296)=false:=decide_eq_false (by omega)
    rw[if_neg hbig]
    repeat' (first|(with_reducible first|refine Vk fun K hK=> ?_|refine V0 ?_|refine Vb ?_|refine Vc ?_|refine Vr ?_|refine Vs ?_|apply And.intro|refine Vq (by kernel_rfl) ?_)|((with_reducible first|refine gE ?_|refine gR ?_);simp (maxSteps:=9^7) only[ss,X1,tab,simprocAttr, -List.reduceReplicate,Xha,hw1,hc32,hne,hge])|exact Vn|((with_reducible refine Vz ?_);refine Vo rfl rfl rfl (fun _ _=>rfl) ?_<;>first|rfl|skip)|(refine X3 (cs2) ?_)|((with_reducible refine Vx ?_);simp only[sb,reduceIte,Nat.reduceEqDiff])|(refine hK _ ?_;clear hK K)|refine Vt rfl ?_|refine Vf rfl ?_|refine Vi rfl (fun hg=> ?_) (fun hg=> ?_)|clear hK K)
    rw[if_neg hbig];rfl
  ·rw[if_neg hq] at hN
   subst hN
   have hne:((Y3q (BitVec.ofNat 32 (X+1)):Int) !=(z:Int))=true:=by simp;omega
   have hc33:IntKind.u32.wrap ((X+1+1:Nat):Int)=((BitVec.ofNat 32 (X+2)).toNat:Int):=by rw[Xar,BitVec.toNat_ofNat];omega
   by_cases hbig:4294967295<X+2
   ·have hge:decide (((X+1+1:Nat):Int)≥4294967296)=true:=decide_eq_true (by omega)
    rw[if_pos hbig]
    repeat' (first|(with_reducible first|refine Vk fun K hK=> ?_|refine V0 ?_|refine Vb ?_|refine Vc ?_|refine Vr ?_|refine Vs ?_|apply And.intro|refine Vq (by kernel_rfl) ?_)|((with_reducible first|refine gE ?_|refine gR ?_);simp (maxSteps:=9^7) only[ss,X1,tab,simprocAttr, -List.reduceReplicate,Xha,hw1,hw2,hc32,hne,hge,w0])|exact Vn|((with_reducible refine Vz ?_);refine Vo rfl rfl rfl (fun _ _=>rfl) ?_<;>first|rfl|skip)|(refine X3 (cs2) ?_)|((with_reducible refine Vx ?_);simp only[sb,reduceIte,Nat.reduceEqDiff])|(refine hK _ ?_;clear hK K)|refine Vt rfl ?_|refine Vf rfl ?_|refine Vi rfl (fun hg=> ?_) (fun hg=> ?_)|clear hK K)
    rw[if_pos hbig];rfl
   ·have hge:decide (((X+1+1:Nat):Int)≥4294967296)=false:=decide_eq_false (by omega)
    rw[if_neg hbig]
    repeat' (first|(with_reducible first|refine Vk fun K hK=> ?_|refine V0 ?_|refine Vb ?_|refine Vc ?_|refine Vr ?_|refine Vs ?_|apply And.intro|refine Vq (by kernel_rfl) ?_)|((with_reducible first|refine gE ?_|refine gR ?_);simp (maxSteps:=9^7) only[ss,X1,tab,simprocAttr, -List.reduceReplicate,Xha,hw1,hw2,hc32,hc33,hne,hge])|exact Vn|((with_reducible refine Vz ?_);refine Vo rfl rfl rfl (fun _ _=>rfl) ?_<;>first|rfl|skip)|(refine X3 (cs2) ?_)|((with_reducible refine Vx ?_);simp only[sb,reduceIte,Nat.reduceEqDiff])|(refine hK _ ?_;clear hK K)|refine Vt rfl ?_|refine Vf rfl ?_|refine Vi rfl (fun hg=> ?_) (fun hg=> ?_)|clear hK K)
    rw[if_neg hbig];rfl
theorem Ych (d:Dsk) (g:BitVec 32):1≤Y68 d g:=by
 have h:=Y7o d (Y3q (g+1)) (g.toNat+1) (Nat.zero_le 16)
 have h0:Y6r d (Y3q (g+1)) (g.toNat+1) 0=g.toNat+1:=rfl
 unfold Y68;omega
theorem Ycv (d:Dsk) (g:BitVec 32) (h1:d.sectors.length≤1000) (h2:d.waits.length≤1000):Xr Try.prog 27 [Y3p d,w32 g] [] (.tup [w32 (X7s d g),i64 (V5 d g)]) []:=by
 have cm:=X5w d h1 h2
 simp only[Y3p,Xha] at cm
 cases hm:may d with
 |false=>
  have e1:V5 d g=8:=by unfold V5;rw[hm];rfl
  have e2:X7s d g=0:=by unfold X7s;rw[e1];rfl
  rw[hm] at cm
  rw[e1,e2]
  refine Xc 1 Try.func27 rfl fun n out _ _=> ?_
  simp only[Try.ntmps27,List.length_cons,List.length_nil,List.length_map,List.length_replicate,Xf,Nat.reduceAdd,Nat.reduceSub,List.replicate,List.cons_append,List.nil_append]
  repeat' (first|(with_reducible first|refine Vk fun K hK=> ?_|refine V0 ?_|refine Vs ?_|apply And.intro)|((with_reducible first|refine gE ?_|refine gR ?_);simp (maxSteps:=9^7) only[ss,X1,tab,simprocAttr, -List.reduceReplicate,Y3p,Xha,Bool.not_false,w0])|exact Vn|((with_reducible refine Vz ?_);refine Vp rfl rfl rfl (fun _ _=>rfl) ?_ ?_<;>first|rfl|skip)|(refine X3 (cm) ?_)|(refine hK _ ?_;clear hK K)|refine Vt rfl ?_|refine Vf rfl ?_|refine Vi rfl (fun hg=> ?_) (fun hg=> ?_)|clear hK K)
 |true=>
  rw[hm] at cm
  have cb:=Ds d g hm
  simp only[Y3p,Xha] at cb
  have hp:=Ych d g
  by_cases hN:4294967295<Y68 d g
  ·have e1:V5 d g=9:=by unfold V5;rw[hm,if_pos rfl,if_pos hN]
   have e2:X7s d g=0:=by unfold X7s;rw[e1];rfl
   rw[if_pos hN,w0] at cb
   rw[e1,e2]
   refine Xc 1 Try.func27 rfl fun n out _ _=> ?_
   simp only[Try.ntmps27,List.length_cons,List.length_nil,List.length_map,List.length_replicate,Xf,Nat.reduceAdd,Nat.reduceSub,List.replicate,List.cons_append,List.nil_append]
   repeat' (first|(with_reducible first|refine Vk fun K hK=> ?_|refine V0 ?_|refine Vs ?_|apply And.intro)|((with_reducible first|refine gE ?_|refine gR ?_);simp (maxSteps:=9^7) only[ss,X1,tab,simprocAttr, -List.reduceReplicate,Y3p,Xha,Bool.not_true,w0])|exact Vn|((with_reducible refine Vz ?_);refine Vp rfl rfl rfl (fun _ _=>rfl) ?_ ?_<;>first|rfl|skip)|(refine X3 (cm) ?_)|(refine X3 (cb) ?_)|(refine hK _ ?_;clear hK K)|refine Vt rfl ?_|refine Vf rfl ?_|refine Vi rfl (fun hg=> ?_) (fun hg=> ?_)|clear hK K)
  ·have e1:V5 d g=0:=by unfold V5;rw[hm,if_pos rfl,if_neg hN]
   have e2:X7s d g=BitVec.ofNat 32 (Y68 d g):=by unfold X7s;rw[e1];rfl
   rw[if_neg hN] at cb
   rw[e1,e2]
   generalize Y68 d g=N at*
   have hz:(((BitVec.ofNat 32 N).toNat:Int)==0)=false:=by
    rw[BitVec.toNat_ofNat,Nat.mod_eq_of_lt (by omega)];simp;omega
   refine Xc 1 Try.func27 rfl fun n out _ _=> ?_
   simp only[Try.ntmps27,List.length_cons,List.length_nil,List.length_map,List.length_replicate,Xf,Nat.reduceAdd,Nat.reduceSub,List.replicate,List.cons_append,List.nil_append]
   repeat' (first|(with_reducible first|refine Vk fun K hK=> ?_|refine V0 ?_|refine Vs ?_|apply And.intro)|((with_reducible first|refine gE ?_|refine gR ?_);simp (maxSteps:=9^7) only[ss,X1,tab,simprocAttr, -List.reduceReplicate,Y3p,Xha,Bool.not_true,hz])|exact Vn|((with_reducible refine Vz ?_);refine Vp rfl rfl rfl (fun _ _=>rfl) ?_ ?_<;>first|rfl|skip)|(refine X3 (cm) ?_)|(refine X3 (cb) ?_)|(refine hK _ ?_;clear hK K)|refine Vt rfl ?_|refine Vf rfl ?_|refine Vi rfl (fun hg=> ?_) (fun hg=> ?_)|clear hK K)
theorem Ycw (d:Dsk) (h1:d.sectors.length≤1000) (h2:d.waits.length≤1000):Xr Try.prog 25 [Y3p d] [] (.tup [.sl 2 ((Y3s d).map rcC) .sh,i64 (if may d then 0 else 8)]) []:=by
 have cm:=X5w d h1 h2
 simp only[Y3p,Xha] at cm
 cases hm:may d with
 |false=>
  have hF:Y3s d=[]:=by unfold Y3s;rw[hm];rfl
  rw[hm] at cm
  rw[hF]
  refine Xc 1 Try.func25 rfl fun n out _ _=> ?_
  simp only[Try.ntmps25,List.length_cons,List.length_nil,List.length_map,List.length_replicate,Xf,Nat.reduceAdd,Nat.reduceSub,List.replicate,List.cons_append,List.nil_append]
  repeat' (first|(with_reducible first|refine Vk fun K hK=> ?_|refine V0 ?_|refine Vs ?_|apply And.intro)|((with_reducible first|refine gE ?_|refine gR ?_);simp (maxSteps:=9^7) only[ss,X1,tab,simprocAttr, -List.reduceReplicate,Y3p,Xha,Bool.not_false,List.map_nil,Bool.false_eq_true])|exact Vn|((with_reducible refine Vz ?_);refine Za (.inr rfl) rfl rfl rfl (fun _ _=>rfl) rfl rfl ?_ ?_<;>first|rfl|(exact AV.le.rfl _)|(simp only[X4,sl,Y3p,Xha,Bool.not_false,List.map_nil,Bool.false_eq_true,if_false];done)|rfl|skip)|(refine X3 (cm) ?_)|(refine hK _ ?_;clear hK K)|refine Vt rfl ?_|refine Vf rfl ?_|refine Vi rfl (fun hg=> ?_) (fun hg=> ?_)|clear hK K)
 |true=>
  rw[hm] at cm
  have cw:=As d hm
  simp only[Y3p,Xha] at cw
  refine Xc 1 Try.func25 rfl fun n out _ _=> ?_
  simp only[Try.ntmps25,List.length_cons,List.length_nil,List.length_map,List.length_replicate,Xf,Nat.reduceAdd,Nat.reduceSub,List.replicate,List.cons_append,List.nil_append]
  repeat' (first|(with_reducible first|refine Vk fun K hK=> ?_|refine V0 ?_|refine Vs ?_|apply And.intro)|((with_reducible first|refine gE ?_|refine gR ?_);simp (maxSteps:=9^7) only[ss,X1,tab,simprocAttr, -List.reduceReplicate,Y3p,Xha,Bool.not_true])|exact Vn|((with_reducible refine Vz ?_);refine Za (.inr rfl) rfl rfl rfl (fun _ _=>rfl) rfl rfl ?_ ?_<;>first|rfl|(exact AV.le.rfl _)|(simp only[X4,sl,Y3p,Xha,Bool.not_true,if_true];done)|rfl|skip)|(refine X3 (cm) ?_)|(refine X3 (cw) ?_)|(refine hK _ ?_;clear hK K)|refine Vt rfl ?_|refine Vf rfl ?_|refine Vi rfl (fun hg=> ?_) (fun hg=> ?_)|clear hK K)
theorem Yci (l:List Rc) (hl:l.length≤1000):Xr Try.prog 28 [.sl 2 (l.map rcC) .sh,.sl 2 (l.map rcC) .sh] [] (bool true) []:=by
 have q0:∀x:List UInt8,(x==x)=true:=fun x=>beq_self_eq_true x
 have q1:∀x:Int,(x !=x)=false:=fun x=>bne_self_eq_false x
 refine Xc 0 Try.func28 rfl fun n out _ _=> ?_
 simp only[Try.ntmps28,List.length_cons,List.length_nil,List.length_map,List.length_replicate,Xf,Nat.reduceAdd,Nat.reduceSub,List.replicate,List.cons_append,List.nil_append]
 repeat' (first|(with_reducible first|refine Vk fun K hK=> ?_|refine V0 ?_|refine Vb ?_|refine Vc ?_|refine Vr ?_|refine Vs ?_|apply And.intro|refine Vq (by kernel_rfl) ?_)|((with_reducible first|refine gE ?_|refine gR ?_);simp (maxSteps:=9^7) only[ss,X1,tab,simprocAttr, -List.reduceReplicate,q1])|exact Vn|((with_reducible refine Vz ?_);refine Vo rfl rfl rfl (fun _ _=>rfl) ?_<;>first|rfl|skip)|((with_reducible refine Vg (fun hg=> ?_) (fun hg=> ?_))<;>(try simp only[nb] at hg)<;>simp (maxSteps:=9^7) only[ss,X1,tab,simprocAttr, -List.reduceReplicate,hg,q1])|((with_reducible refine Vx ?_);simp only[sb,reduceIte,Nat.reduceEqDiff])|(refine hK _ ?_;clear hK K)|refine Vt rfl ?_|refine Vf rfl ?_|refine Vi rfl (fun hg=> ?_) (fun hg=> ?_)|clear hK K)
 refine Xe ?_
 refine Xz (fun i:Nat=>[(5,i64 (i:Int)),(4,.top),(11,.top),(12,.top),(13,.top),(14,.top),(15,.top),(16,.top),(17,.top),(18,.top),(19,.top),(20,.top),(21,.top),(22,.top),(23,.top),(24,.top),(25,.top),(26,.top),(27,.top),(28,.top),(29,.top),(30,.top),(31,.top),(32,.top),(33,.top),(34,.top),(35,.top),(36,.top),(37,.top),(38,.top),(39,.top),(40,.top),(41,.top),(42,.top)]) (fun i=>[]) (fun i=>out) (fun i=>i≤l.length) (fun i=>l.length - i) 0 (Nat.zero_le _) ?_ fun i hi=> ?_
 ·refine X2 ?_ ?_ rfl rfl rfl rfl<;>simp only[X4,sl]
 simp only[X4,s_0,s_s]
 have hw:=Yl (n:=i) 1 1 rfl (by omega)
 by_cases hlt:i<l.length
 ·have gi:=Xg rcC l i [] hlt
  repeat' (first|(with_reducible first|refine Vk fun K hK=> ?_|refine V0 ?_|refine Vb ?_|refine Vc ?_|refine Vr ?_|refine Vs ?_|apply And.intro|refine Vq (by kernel_rfl) ?_)|((with_reducible first|refine gE ?_|refine gR ?_);simp (maxSteps:=9^7) only[ss,X1,tab,simprocAttr, -List.reduceReplicate,List.length_map,hlt,gi,rcC,q0,q1,Ya,Z5,Bool.not_true,hw])|exact Vn|((with_reducible refine Vz ?_);refine Vo rfl rfl rfl (fun _ _=>rfl) ?_<;>first|rfl|skip)|((with_reducible refine Vg (fun hg=> ?_) (fun hg=> ?_))<;>(try simp only[nb] at hg)<;>simp (maxSteps:=9^7) only[ss,X1,tab,simprocAttr, -List.reduceReplicate,hg,List.length_map,hlt,gi,rcC,q0,q1,Ya,Z5,Bool.not_true,hw])|((with_reducible refine Vx ?_);simp only[sb,reduceIte,Nat.reduceEqDiff])|(refine hK _ ?_;clear hK K)|refine Vt rfl ?_|refine Vf rfl ?_|refine Vi rfl (fun hg=> ?_) (fun hg=> ?_)|clear hK K)
  refine⟨i+1,by omega,by omega,?_⟩
  refine X2 ?_ ?_ rfl rfl rfl rfl<;>simp only[X4,sl,List.length_map,hlt,decide_true]
 ·obtain rfl:i=l.length:=by omega
  repeat' (first|(with_reducible first|refine Vk fun K hK=> ?_|refine V0 ?_|refine Vb ?_|refine Vc ?_|refine Vr ?_|refine Vs ?_|apply And.intro|refine Vq (by kernel_rfl) ?_)|((with_reducible first|refine gE ?_|refine gR ?_);simp (maxSteps:=9^7) only[ss,X1,tab,simprocAttr, -List.reduceReplicate,List.length_map,hlt])|exact Vn|((with_reducible refine Vz ?_);refine Vo rfl rfl rfl (fun _ _=>rfl) ?_<;>first|rfl|skip)|((with_reducible refine Vg (fun hg=> ?_) (fun hg=> ?_))<;>(try simp only[nb] at hg)<;>simp (maxSteps:=9^7) only[ss,X1,tab,simprocAttr, -List.reduceReplicate,hg,List.length_map,hlt])|((with_reducible refine Vx ?_);simp only[sb,reduceIte,Nat.reduceEqDiff])|(refine hK _ ?_;clear hK K)|refine Vt rfl ?_|refine Vf rfl ?_|refine Vi rfl (fun hg=> ?_) (fun hg=> ?_)|clear hK K)
end Go.Proofs.Ytjgbbjooeibppaa
