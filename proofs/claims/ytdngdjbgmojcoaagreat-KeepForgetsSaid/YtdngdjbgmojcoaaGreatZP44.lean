/- The layer of abstract values, joined. -/
import Derived.Test.YtdngdjbgmojcoaaGreatZPR
import Derived.Test.YtdngdjbgmojcoaaGreatZKC
import Derived.Test.YtdngdjbgmojcoaaGreatZQ0
import Derived.Test.YtdngdjbgmojcoaaGreatZP49
import Derived.Test.YtdngdjbgmojcoaaGreatZWD
import Derived.Test.YtdngdjbgmojcoaaGreatZP3
namespace Go.Proofs.YtdngdjbgmojcoaaGreat.Pln
set_option linter.unusedSimpArgs false
set_option linter.unusedVariables false
set_option maxHeartbeats 8000000
set_option maxRecDepth 4000
open Go Go.VS Tab
theorem Xz7 (t:List UInt8) (ht:t.length≤65536):Xr Tryz.prog 54 [.sl 1 (Xo t) .sh] [] (.tup [.sl 1 (Xo (Xoh t)) .sh,i64 0]) []:=by
 have cP:=fun k=>Xr4 k (t.length:Int) ⟨by omega,by omega⟩
 have z1:decide ((t.length:Int)>65536)=false:=by simp;omega
 have z2:=R5 (t.length:Int)
 have y1:(Y2 (t.length:Int)).length+t.length≤140737488355328:=by omega
 have y2:(Y2 (t.length:Int)).length+t.length≤9223372036854775807:=by omega
 have y3:t.length≤9223372036854775807:=by omega
 unfold Xoh
 generalize hP:Y2 (t.length:Int)=P at*
 refine Xc 2 Tryz.func54 rfl fun n out _ _=> ?_
 simp only[sn,Tryz.ntmps54,Nat.reduceAdd,Nat.reduceSub]
 repeat' (first|(with_reducible first|refine Vk fun K hK=> ?_|refine V0 ?_|refine Vs ?_|apply And.intro)|((with_reducible first|refine gE ?_|refine gR ?_);simp only[zA,simprocAttr,X5,z1,y1,y2,L6])|exact Vn|((with_reducible refine Vz ?_);refine Za (.inr rfl) rfl rfl rfl (fun _ _=>rfl) rfl rfl ?_ ?_<;>first|rfl|(exact AV.le.rfl _)|(simp only[sL];done)|rfl|skip)|(refine Sb (cP (n+0)) (X6 _ (Nat.le_refl _) 0) (Xb _ (by simp)) (by simp) ?_)|(refine hK _ ?_;clear hK K)|refine Vt rfl ?_|refine Vf rfl ?_|refine Vi rfl (fun hg=> ?_) (fun hg=> ?_)|clear hK K)
theorem Xwv (els:List (List AV)) (hl:els.length≤1000000):Xr Tryz.prog 113 [.sl 1 els .sh] [] (.sl 1 els .sh) []:=by
 refine Xbz (fun h=> ?_) ?_
 ·subst h
  refine Xc 0 Tryz.func113 rfl fun n out _ _=> ?_
  simp only[sn,Tryz.ntmps113,Nat.reduceAdd,Nat.reduceSub]
  refine Vy fun K hK=> ?_
  simp only[zA,simprocAttr]
  repeat' (first|(with_reducible refine hK _ ?_;clear hK K)|with_reducible apply And.intro)
  refine Vk fun KB hKB=> ?_
  refine Vy fun K hK=> ?_
  simp only[zA,simprocAttr]
  repeat' (first|(with_reducible refine hK _ ?_;clear hK K)|with_reducible apply And.intro)
  refine Wm rfl ?_
  refine Vy fun K hK=> ?_
  simp only[zA,simprocAttr]
  repeat' (first|(with_reducible refine hK _ ?_;clear hK K)|with_reducible apply And.intro)
  refine Vz ?_
  exact Xv (.inr rfl) rfl rfl rfl (fun _ _=>rfl) ((Py _ _).2 trivial) rfl
 ·refine Xc 0 Tryz.func113 rfl fun n out _ _=> ?_
  simp only[sn,Tryz.ntmps113,Nat.reduceAdd,Nat.reduceSub]
  refine Vy fun K hK=> ?_
  simp only[zA,simprocAttr]
  repeat' (first|(with_reducible refine hK _ ?_;clear hK K)|with_reducible apply And.intro)
  refine Vk fun KB hKB=> ?_
  refine Vy fun K hK=> ?_
  simp only[zA,simprocAttr]
  repeat' (first|(with_reducible refine hK _ ?_;clear hK K)|with_reducible apply And.intro)
  refine Uy rfl (Xhj (hKB _ ?_))
  refine Vy fun K hK=> ?_
  simp only[zA,simprocAttr,show els.length≤140737488355328 by omega,show els.length≤9223372036854775807 by omega]
  repeat' (first|(with_reducible refine hK _ ?_;clear hK K)|with_reducible apply And.intro)
  refine Vz ?_
  refine Xv (.inr rfl) rfl rfl rfl (fun _ _=>rfl) ?_ rfl
  simp only[sL]
theorem Xww (b:List UInt8) (hb:b.length≤1000000) (at':Nat) (h:at'≤b.length):∃(X:List UInt8) (y z:Int),Xr Tryz.prog 61 [.sl 1 (Xo b) .sh,i64 (at':Int),i64 65536] [] (.tup [.sl 1 (Xo X) .sh,i64 y,i64 z]) []∧(unW b at'=none→z≠0)∧∀r,unW b at'=some r→X=r.1∧y=(r.2:Int)∧z=0:=by
 have cG:=Xqg b at' .sh h hb
 have d1:decide ((at':Int)<0)=false:=decide_eq_false (by omega)
 have d2:decide (b.length<at')=false:=decide_eq_false (by omega)
 have eN:([]:List (List AV))=Xo []:=rfl
 unfold unW
 cases hg:Jt (b.drop at') with
 |none=>
  rw[Gn hg] at cG
  refine⟨[],0,8,?_,fun _=>by decide,fun r hr=>by cases hr⟩
  rw[← eN]
  refine Xc 0 Tryz.func61 rfl fun n out _ _=> ?_
  simp only[sn,Tryz.ntmps61,Nat.reduceAdd,Nat.reduceSub]
  repeat' (first|(with_reducible first|refine Vk fun K hK=> ?_|refine V0 ?_|refine Vb ?_|refine Vc ?_|refine Vr ?_|refine Vs ?_|apply And.intro)|((with_reducible first|refine gE ?_|refine gR ?_);simp only[zA,simprocAttr,X5,d1,d2,gt_iff_lt])|exact Vn|((with_reducible refine Vz ?_);refine Zv (.inr rfl) rfl rfl rfl (fun _ _=>rfl) rfl rfl rfl ?_ ?_ ?_<;>first|rfl|(exact AV.le.rfl _)|(simp only[sL];done)|rfl|skip)|(refine X3 (cG) ?_)|((with_reducible refine Vg (fun hg=> ?_) (fun hg=> ?_))<;>(try simp only[nb] at hg)<;>simp only[zA,simprocAttr,hg,X5,d1,d2,gt_iff_lt])|(refine hK _ ?_;clear hK K)|refine Vt rfl ?_|refine Vf rfl ?_|refine Vi rfl (fun hg=> ?_) (fun hg=> ?_)|clear hK K)
 |some r=>
  obtain⟨n,k⟩:=r
  have eT:X1x b at'=((n:Int),((at'+k:Nat):Int),0):=by unfold X1x;rw[hg]
  rw[eT] at cG
  obtain⟨g1,g2⟩:=Xsu hg
  rw[List.length_drop] at g1
  dsimp only at g1 g2
  dsimp only
  by_cases h1:65536<n
  ·rw[if_pos (.inl h1)]
   have d3:decide ((65536:Int)<(n:Int))=true:=decide_eq_true (by omega)
   refine⟨[],0,4,?_,fun _=>by decide,fun r hr=>by cases hr⟩
   rw[← eN]
   refine Xc 0 Tryz.func61 rfl fun n out _ _=> ?_
   simp only[sn,Tryz.ntmps61,Nat.reduceAdd,Nat.reduceSub]
   repeat' (first|(with_reducible first|refine Vk fun K hK=> ?_|refine V0 ?_|refine Vb ?_|refine Vc ?_|refine Vr ?_|refine Vs ?_|apply And.intro)|((with_reducible first|refine gE ?_|refine gR ?_);simp only[zA,simprocAttr,X5,d1,d2,d3,gt_iff_lt])|exact Vn|((with_reducible refine Vz ?_);refine Zv (.inr rfl) rfl rfl rfl (fun _ _=>rfl) rfl rfl rfl ?_ ?_ ?_<;>first|rfl|(exact AV.le.rfl _)|(simp only[sL];done)|rfl|skip)|(refine X3 (cG) ?_)|((with_reducible refine Vg (fun hg=> ?_) (fun hg=> ?_))<;>(try simp only[nb] at hg)<;>simp only[zA,simprocAttr,hg,X5,d1,d2,d3,gt_iff_lt])|(refine hK _ ?_;clear hK K)|refine Vt rfl ?_|refine Vf rfl ?_|refine Vi rfl (fun hg=> ?_) (fun hg=> ?_)|clear hK K)
  ·have d3:decide ((65536:Int)<(n:Int))=false:=decide_eq_false (by omega)
   have w1:IntKind.i64.wrap ((b.length:Int) - ((at'+k:Nat):Int))=((b.length - (at'+k):Nat):Int):=by rw[wrap_i64]<;>omega
   by_cases h2:b.length - (at'+k)<n
   ·rw[if_pos (.inr h2)]
    have d4:decide (b.length - (at'+k)<n)=true:=decide_eq_true (by omega)
    refine⟨[],0,8,?_,fun _=>by decide,fun r hr=>by cases hr⟩
    rw[← eN]
    refine Xc 0 Tryz.func61 rfl fun n out _ _=> ?_
    simp only[sn,Tryz.ntmps61,Nat.reduceAdd,Nat.reduceSub]
    repeat' (first|(with_reducible first|refine Vk fun K hK=> ?_|refine V0 ?_|refine Vb ?_|refine Vc ?_|refine Vr ?_|refine Vs ?_|apply And.intro)|((with_reducible first|refine gE ?_|refine gR ?_);simp only[zA,simprocAttr,X5,d1,d2,d3,d4,w1,gt_iff_lt])|exact Vn|((with_reducible refine Vz ?_);refine Zv (.inr rfl) rfl rfl rfl (fun _ _=>rfl) rfl rfl rfl ?_ ?_ ?_<;>first|rfl|(exact AV.le.rfl _)|(simp only[sL];done)|rfl|skip)|(refine X3 (cG) ?_)|((with_reducible refine Vg (fun hg=> ?_) (fun hg=> ?_))<;>(try simp only[nb] at hg)<;>simp only[zA,simprocAttr,hg,X5,d1,d2,d3,d4,w1,gt_iff_lt])|(refine hK _ ?_;clear hK K)|refine Vt rfl ?_|refine Vf rfl ?_|refine Vi rfl (fun hg=> ?_) (fun hg=> ?_)|clear hK K)
   ·rw[if_neg (by omega)]
    have d4:decide (b.length - (at'+k)<n)=false:=decide_eq_false (by omega)
    have w2:IntKind.i64.wrap (((at'+k:Nat):Int)+(n:Int))=((at'+k+n:Nat):Int):=by rw[wrap_i64]<;>omega
    have k1:at'+k+n≤b.length:=by omega
    have k2:at'+k+n - (at'+k)=n:=by omega
    have k3:at'+k≤at'+k+n:=by omega
    have cc:=Xwv (Xo ((b.drop (at'+k)).take n)) (by rw[X5,List.length_take];omega)
    refine⟨(b.drop (at'+k)).take n,((at'+k+n:Nat):Int),0,?_,(fun h=>nomatch h),(fun r hr=>by injection hr with hr;subst hr;exact⟨rfl,rfl,rfl⟩)⟩
    generalize hX:(b.drop (at'+k)).take n=X at*
    refine Xc 0 Tryz.func61 rfl fun n out _ _=> ?_
    simp only[sn,Tryz.ntmps61,Nat.reduceAdd,Nat.reduceSub]
    repeat' (first|(with_reducible first|refine Vk fun K hK=> ?_|refine V0 ?_|refine Vb ?_|refine Vc ?_|refine Vr ?_|refine Vs ?_|apply And.intro)|((with_reducible first|refine gE ?_|refine gR ?_);simp only[zA,simprocAttr,X5,d1,d2,d3,d4,w1,w2,k1,k2,k3,gt_iff_lt,P6,Nh,Q1,Q2,hX])|exact Vn|((with_reducible refine Vz ?_);refine Zv (.inr rfl) rfl rfl rfl (fun _ _=>rfl) rfl rfl rfl ?_ ?_ ?_<;>first|rfl|(exact AV.le.rfl _)|(simp only[sL,X5,d1,d2,d3,d4,w1,w2,k1,k2,k3,gt_iff_lt,Int.reduceBNe,P6,Nh,Q1,Q2,hX];done)|rfl|skip)|(refine X3 (cG) ?_)|(refine X3 (cc) ?_)|((with_reducible refine Vg (fun hg=> ?_) (fun hg=> ?_))<;>(try simp only[nb] at hg)<;>simp only[zA,simprocAttr,hg,X5,d1,d2,d3,d4,w1,w2,k1,k2,k3,gt_iff_lt,P6,Nh,Q1,Q2,hX])|(refine hK _ ?_;clear hK K)|refine Vt rfl ?_|refine Vf rfl ?_|refine Vi rfl (fun hg=> ?_) (fun hg=> ?_)|clear hK K)
def txC (t:List UInt8):List AV:=[.sl 1 (Xo t) .sh]
theorem Xq6 {α:Type} (f:α→List UInt8) {l:List α} {i:Nat} (h:i<l.length):(l.take i).flatMap f++f l[i]=(l.take (i+1)).flatMap f:=by
 rw[List.take_succ_eq_append_getElem h,List.flatMap_append];simp
theorem Xyb (ts:List (List UInt8)) (ns:List Int) (md md':Md) (ht:∀t,t∈ts→t.length≤65536) (hl:ts.length≤10) (hn:ns.length≤10000):Xr Tryz.prog 27 [.sl 1 (ts.map txC) md,.sl 1 (ns.map Ym) md'] [] (.sl 1 (Xo (ts.flatMap Xoh++ns.flatMap Y2)) .sh) []:=by
 obtain⟨T,hT⟩:∃T:Nat→List UInt8,T=fun i=>(ts.take i).flatMap Xoh:=⟨_,rfl⟩
 obtain⟨Z,hZ⟩:∃Z:Nat→List UInt8,Z=fun i=>ts.flatMap Xoh++(ns.take i).flatMap Y2:=⟨_,rfl⟩
 have T0:T 0=[]:=by rw[hT];rfl
 have Ts:∀i (h:i<ts.length),T i++Xoh ts[i]=T (i+1):=fun i h=>by rw[hT];exact Xq6 _ h
 have Tl:∀i,(T i).length≤1000000:=fun i=>by
  rw[hT]
  have:=R6 (f:=Xoh) (m:=65541) (l:=ts.take i) fun x hx=>by
   have h1:=ht x (List.mem_of_mem_take hx)
   have h2:=R5 (x.length:Int)
   unfold Xoh
   rw[List.length_append];omega
  rw[List.length_take] at this
  have h3:min i ts.length*65541≤10*65541:=Nat.mul_le_mul_right _ (by omega)
  exact Nat.le_trans this (by omega)
 have TZ:T ts.length=Z 0:=by rw[hT,hZ];simp
 have Zs:∀i (h:i<ns.length),Z i++Y2 ns[i]=Z (i+1):=fun i h=>by rw[hZ];dsimp only;rw[List.append_assoc,Xq6 _ h]
 have Zn:Z ns.length=ts.flatMap Xoh++ns.flatMap Y2:=by rw[hZ];simp
 have Zl:∀i,i≤ns.length→(Z i).length≤1000000+i*5:=fun i hi=>by
  rw[hZ]
  have h1:=Tl ts.length
  rw[hT] at h1
  dsimp only at h1
  rw[List.take_length] at h1
  have:=R6 (f:=Y2) (m:=5) (l:=ns.take i) fun x _=>R5 x
  rw[List.length_take,Nat.min_eq_left hi] at this
  rw[List.length_append];omega
 rw[← Zn]
 clear hT hZ Zn
 have bn:Xo []=[]:=rfl
 refine Xc 2 Tryz.func27 rfl fun n out _ _=> ?_
 simp only[sn,Tryz.ntmps27,Nat.reduceAdd,Nat.reduceSub]
 repeat' (first|(with_reducible first|refine Vk fun K hK=> ?_|refine V0 ?_|refine Vb ?_|refine Vc ?_|refine Vr ?_|refine Vs ?_|apply And.intro)|((with_reducible first|refine gE ?_|refine gR ?_);simp only[zA,simprocAttr])|exact Vn|((with_reducible refine Vz ?_);refine Vo rfl rfl rfl (fun _ _=>rfl) ?_<;>first|rfl|skip)|((with_reducible refine Vx ?_);simp only[sb,reduceIte,Nat.reduceEqDiff])|(refine hK _ ?_;clear hK K)|refine Vt rfl ?_|refine Vf rfl ?_|refine Vi rfl (fun hg=> ?_) (fun hg=> ?_)|clear hK K)
 refine Yy (Q9 (i:=0) 5 1 rfl) ?_
 simp only[s_0,s_s]
 refine V5 ?_
 refine Xrd (ts.length) (fun m i=>tr 16 12 [(15,i64 (i:Int)),(4,.sl 1 (Xo (T i)) (.own (m+0))),(6,.top),(7,.top),(8,.top)]) (fun m i=>[some (.row 5 1 (T i).length),none]) ?_ fun m i hm hi=> ?_
 ·refine X2 ?_ ?_ (by first|rfl|(simp only[T0,bn,List.length_nil];rfl)|simp only[T0,bn,List.length_nil]) rfl rfl rfl<;>simp only[sL,T0,bn,List.length_nil]
 simp only[pt]
 have hw:=Yl (n:=i) 1 1 rfl (by omega)
 by_cases hlt:i<ts.length
 ·have gi:=Xg txC ts i [] hlt
  have cw:=Xz7 ts[i] (ht _ (List.getElem_mem hlt))
  have t1:=Ts i hlt
  have t2:=Tl (i+1)
  have t3:(T i).length+(Xoh ts[i]).length=(T (i+1)).length:=by rw[← t1,List.length_append]
  have y1:(T (i+1)).length≤140737488355328:=by omega
  have y2:(T (i+1)).length≤9223372036854775807:=by omega
  generalize Xoh ts[i]=w at*
  repeat' (first|(with_reducible first|refine Vk fun K hK=> ?_|refine V0 ?_|refine Vb ?_|refine Vc ?_|refine Vr ?_|refine Vs ?_|apply And.intro)|((with_reducible first|refine gE ?_|refine gR ?_);simp only[zA,simprocAttr,Xi hm,txC,X5,hlt,gi,hw,y1,y2,L6,t1,t3])|exact Vn|((with_reducible refine Vz ?_);refine Vo rfl rfl rfl (fun _ _=>rfl) ?_<;>first|rfl|skip)|(refine X3 (cw) ?_)|((with_reducible refine Vx ?_);simp only[sb,reduceIte,Nat.reduceEqDiff])|(refine hK _ ?_;clear hK K)|refine Vt rfl ?_|refine Vf rfl ?_|refine Vi rfl (fun hg=> ?_) (fun hg=> ?_)|clear hK K)
  refine⟨i+1,by omega,by omega,?_⟩
  refine Xx [true,false] ?_ ?_<;>intro n_<;>simp only[sM]
 obtain rfl:i=ts.length:=by omega
 rw[TZ]
 clear hw hi hlt Ts Tl T0
 repeat' (first|(with_reducible first|refine Vk fun K hK=> ?_|refine V0 ?_|refine Vb ?_|refine Vc ?_|refine Vr ?_|refine Vs ?_|apply And.intro)|((with_reducible first|refine gE ?_|refine gR ?_);simp only[zA,simprocAttr,Nat.lt_irrefl])|exact Vn|((with_reducible refine Vz ?_);refine Vo rfl rfl rfl (fun _ _=>rfl) ?_<;>first|rfl|skip)|((with_reducible refine Vx ?_);simp only[sb])|(refine hK _ ?_;clear hK K)|refine Vt rfl ?_|refine Vf rfl ?_|refine Vi rfl (fun hg=> ?_) (fun hg=> ?_)|clear hK K)
 refine V5 ?_
 refine Xrd (ns.length) (fun m i=>tr 31 12 [(30,i64 (i:Int)),(4,.sl 1 (Xo (Z i)) (.own (m+0))),(6,.top),(7,.top),(8,.top),(10,.top),(11,.top),(12,.top)]) (fun m i=>[some (.row 5 1 (Z i).length),none]) ?_ fun m i hm hi=> ?_
 ·refine La rfl ?_ ?_<;>simp only[sL]
 simp only[pt]
 have hw:=Yl (n:=i) 1 1 rfl (by omega)
 by_cases hlt:i<ns.length
 ·have gi:=Xg Ym ns i [] hlt
  have cp:=Gr ns[i]
  have t1:=Zs i hlt
  have t2:=Zl (i+1) hlt
  have t3:(Z i).length+(Y2 ns[i]).length=(Z (i+1)).length:=by rw[← t1,List.length_append]
  have y1:(Z (i+1)).length≤140737488355328:=by omega
  have y2:(Z (i+1)).length≤9223372036854775807:=by omega
  generalize Y2 ns[i]=w at*
  generalize (if 0≤ns[i]∧ns[i]≤2147483647 then 0 else 2:Int)=e at*
  repeat' (first|(with_reducible first|refine Vk fun K hK=> ?_|refine V0 ?_|refine Vb ?_|refine Vc ?_|refine Vr ?_|refine Vs ?_|apply And.intro)|((with_reducible first|refine gE ?_|refine gR ?_);simp only[zA,simprocAttr,Xi hm,Ym,X5,hlt,gi,hw,y1,y2,L6,t1,t3])|exact Vn|((with_reducible refine Vz ?_);refine Vo rfl rfl rfl (fun _ _=>rfl) ?_<;>first|rfl|skip)|(refine X3 (cp) ?_)|((with_reducible refine Vx ?_);simp only[sb,reduceIte,Nat.reduceEqDiff])|(refine hK _ ?_;clear hK K)|refine Vt rfl ?_|refine Vf rfl ?_|refine Vi rfl (fun hg=> ?_) (fun hg=> ?_)|clear hK K)
  refine⟨i+1,by omega,by omega,?_⟩
  refine Xx [true,false] ?_ ?_<;>intro n_<;>simp only[sM]
 obtain rfl:i=ns.length:=by omega
 clear hw hi hlt Zs Zl
 repeat' (first|(with_reducible first|refine Vk fun K hK=> ?_|refine V0 ?_|refine Vb ?_|refine Vc ?_|refine Vr ?_|refine Vs ?_|apply And.intro)|((with_reducible first|refine gE ?_|refine gR ?_);simp only[zA,simprocAttr,Nat.lt_irrefl])|exact Vn|((with_reducible refine Vz ?_);refine Xv (.inr rfl) rfl rfl rfl (fun _ _=>rfl) ?_ rfl<;>first|rfl|(exact AV.le.rfl _)|(simp only[sL];done)|rfl|skip)|((with_reducible refine Vx ?_);simp only[sb])|(refine hK _ ?_;clear hK K)|refine Vt rfl ?_|refine Vf rfl ?_|refine Vi rfl (fun hg=> ?_) (fun hg=> ?_)|clear hK K)
theorem Xfy (a b:Sec) (hl:a.ends.length≤1000000):Xr Tryz.prog 96 [Qh a,Qh b] [] (bool (Mw a b)) []:=by
 have c:=Xga a.ends b.ends (by omega)
 unfold Mw
 generalize (a.ends==b.ends)=E at*
 refine Xc 2 Tryz.func96 rfl fun n out _ _=> ?_
 simp only[sn,Tryz.ntmps96,Nat.reduceAdd,Nat.reduceSub]
 repeat' (first|(with_reducible first|refine Vk fun K hK=> ?_|refine V0 ?_|refine Vs ?_|apply And.intro)|((with_reducible first|refine gE ?_|refine gR ?_);simp only[zA,simprocAttr,Qh,Y6])|exact Vn|((with_reducible refine Vz ?_);refine Vo rfl rfl rfl (fun _ _=>rfl) ?_<;>first|rfl|(simp only[g_0,g_s];refine congrArg VS.bool ?_;simp_all;done)|skip)|(refine X3 (c) ?_)|((with_reducible refine Vg (fun hg=> ?_) (fun hg=> ?_))<;>(try simp only[nb] at hg)<;>simp only[zA,simprocAttr,hg])|(refine hK _ ?_;clear hK K)|clear hK K)
theorem Xfz (a b:Rt) (h:a.path.length≤1000000∧a.over.length≤1000000∧a.flanks.length≤1000000):Xr Tryz.prog 99 [rtA a,rtA b] [] (bool (Ks a b)) []:=by
 have c1:=Xf5 a.path b.path (by omega)
 have c2:=Xf5 a.over b.over (by omega)
 have c3:=Xgc a.flanks b.flanks (by omega)
 unfold Ks
 generalize (a.path==b.path)=P1 at*
 generalize (a.over==b.over)=P2 at*
 generalize (a.flanks==b.flanks)=P3 at*
 refine Xc 2 Tryz.func99 rfl fun n out _ _=> ?_
 simp only[sn,Tryz.ntmps99,Nat.reduceAdd,Nat.reduceSub]
 repeat' (first|(with_reducible first|refine Vk fun K hK=> ?_|refine V0 ?_|refine Vs ?_|apply And.intro)|((with_reducible first|refine gE ?_|refine gR ?_);simp only[zA,simprocAttr,rtA,rtC])|exact Vn|((with_reducible refine Vz ?_);refine Vo rfl rfl rfl (fun _ _=>rfl) ?_<;>first|rfl|(simp only[g_0,g_s];refine congrArg VS.bool ?_;simp_all;done)|skip)|(refine X3 (c1) ?_)|(refine X3 (c2) ?_)|(refine X3 (c3) ?_)|((with_reducible refine Vg (fun hg=> ?_) (fun hg=> ?_))<;>(try simp only[nb] at hg)<;>simp only[zA,simprocAttr,hg])|(refine hK _ ?_;clear hK K)|clear hK K)
theorem Xgf (a b:Pl) (ha:Sm a):Xr Tryz.prog 53 [plA a,plA b] [] (bool (Sy a b)) []:=by
 have hB1:Xd Tryz.prog 96=True:=hb0 _ (by decide) (by decide)
 have hB2:Xd Tryz.prog 99=True:=hb0 _ (by decide) (by decide)
 have q1:=ha.secs
 have q2:=ha.pts
 have q3:=ha.sgs
 have q4:=ha.rts
 have c1:=Xeq a.secs b.secs 96 [] Mw hB1 (by omega) fun x hx y _=>Xfy x y (by have:=ha.ends x hx;omega)
 have c2:=Xf0 a.rts b.rts 99 [] Ks hB2 (by omega) fun x hx y _=>Xfz x y (by obtain⟨x,y,z⟩:=ha.rt _ hx;omega)
 have c3:=Xgb a.pts b.pts (by omega)
 have c4:=Xgd a.sgs b.sgs (by omega)
 unfold Sy Lw
 generalize (Fv Mw a.secs b.secs)=P1 at*
 generalize (Fv Ks a.rts b.rts)=P2 at*
 generalize (a.pts==b.pts)=P3 at*
 generalize (a.sgs==b.sgs)=P4 at*
 refine Xc 2 Tryz.func53 rfl fun n out _ _=> ?_
 simp only[sn,Tryz.ntmps53,Nat.reduceAdd,Nat.reduceSub]
 repeat' (first|(with_reducible first|refine Vk fun K hK=> ?_|refine V0 ?_|refine Vs ?_|apply And.intro)|((with_reducible first|refine gE ?_|refine gR ?_);simp only[zA,simprocAttr,plA,plC])|exact Vn|((with_reducible refine Vz ?_);refine Vo rfl rfl rfl (fun _ _=>rfl) ?_<;>first|rfl|(simp only[g_0,g_s];refine congrArg VS.bool ?_;simp_all;done)|skip)|(refine X3 (c1) ?_)|(refine X3 (c2) ?_)|(refine X3 (c3) ?_)|(refine X3 (c4) ?_)|((with_reducible refine Vg (fun hg=> ?_) (fun hg=> ?_))<;>(try simp only[nb] at hg)<;>simp only[zA,simprocAttr,hg])|(refine hK _ ?_;clear hK K)|clear hK K)
end Go.Proofs.YtdngdjbgmojcoaaGreat.Pln
