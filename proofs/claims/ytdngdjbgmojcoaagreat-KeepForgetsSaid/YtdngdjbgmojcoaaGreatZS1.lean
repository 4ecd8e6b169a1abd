/- The layer of abstract values, joined. -/
import Derived.Test.YtdngdjbgmojcoaaGreatZPR
import Derived.Test.YtdngdjbgmojcoaaGreatZS0
import Derived.Test.YtdngdjbgmojcoaaGreatZP3
namespace Go.Proofs.YtdngdjbgmojcoaaGreat.Pln
set_option linter.unusedVariables false
set_option linter.unusedSimpArgs false
open Go Go.VS Tab
set_option maxHeartbeats 4000000
set_option maxRecDepth 4000
theorem Xr8 (x y:UInt8):((x.toNat:Int)==(y.toNat:Int))=(x==y):=by
 rw[Bool.eq_iff_iff]
 simp only[beq_iff_eq]
 constructor
 ·intro h
  exact UInt8.toNat_inj.1 (by omega)
 ·rintro rfl;rfl
theorem Xqo (a b:Int×UInt8):Nk [i64 a.1,b8 a.2] [i64 b.1,b8 b.2]=some (a==b):=by
 rw[show(a==b)=((a.1==b.1)&&(a.2==b.2)) from rfl,← Xr8];simp [Nk]
theorem Xqp (a b:Int×UInt8×Int×Int):Nk [i64 a.1,b8 a.2.1,i64 a.2.2.1,i64 a.2.2.2] [i64 b.1,b8 b.2.1,i64 b.2.2.1,i64 b.2.2.2]=some (a==b):=by
 rw[show(a==b)=((a.1==b.1)&&((a.2.1==b.2.1)&&((a.2.2.1==b.2.2.1)&&(a.2.2.2==b.2.2.2)))) from rfl,← Xr8];simp [Nk]
theorem Xyi (l m':List (Int×UInt8)) (hl:l.length≤1000000000):Xr Tryz.prog 47 [.sl 2 (l.map tkC) .sh,.sl 2 (m'.map tkC) .sh] [] (bool (l==m')) []:=by
 refine Xc 0 Tryz.func47 rfl fun n out _ _=> ?_
 simp only[sn,Tryz.ntmps47,Nat.reduceAdd,Nat.reduceSub]
 repeat' (first|(with_reducible first|refine Vk fun K hK=> ?_|refine V0 ?_|refine Vb ?_|refine Vc ?_|refine Vr ?_|refine Vs ?_|apply And.intro|refine Vq (by kernel_rfl) ?_)|((with_reducible first|refine gE ?_|refine gR ?_);simp only[zA,simprocAttr])|exact Vn|((with_reducible refine Vz ?_);refine Vo rfl rfl rfl (fun _ _=>rfl) ?_<;>first|rfl|(rw[Mu (by intro h;simp [h] at hg)];rfl)|skip)|((with_reducible refine Vx ?_);simp only[sb,reduceIte,Nat.reduceEqDiff])|(refine hK _ ?_;clear hK K)|refine Vt rfl ?_|refine Vf rfl ?_|refine Vi rfl (fun hg=> ?_) (fun hg=> ?_)|((first|show Program.eqGuardType _ _ _=false|show Xs _ _ _=true|show Program.stoodInHeld _ _=false);kernel_rfl)|clear hK K)
 have hlen:l.length=m'.length:=by
  have h1:((l.length:Int) !=(m'.length:Int))=false:=hg
  simp at h1;omega
 refine V5 ?_
 refine Xse (l.length) (fun i=>(∀j (hj:j<l.length) (hj':j<m'.length),j<i→l[j]=m'[j])) (fun i=>tp [4,5] (tr 14 12 [(13,i64 (i:Int))])) (fun i=>[]) (by intros;omega) ?_ fun i hi=> ?_
 ·refine La rfl ?_ ?_<;>simp only[sL]
 obtain⟨hi,hq⟩:=hi
 simp only[pt]
 refine Vy fun K hK=> ?_
 simp only[zA,simprocAttr]
 repeat' (first|(with_reducible refine hK _ ?_;clear hK K)|with_reducible apply And.intro)
 refine Vk fun KC hKC=> ?_
 refine Uz rfl (fun ht=>Xhj (hKC _ ?_)) (fun hf=>Qi (id ?_))
 rotate_left
 ·simp only[Qd,Z4,if_true]
  refine hK _ ?_
  clear hK K hKC KC
  have h_ib:i=l.length:=by have:=of_decide_eq_false hf;omega
  subst h_ib
  have e:=Ua (l:=l) (m:=m') hlen fun i hi hi'=>hq i hi hi' hi
  rw[e]
  repeat' (first|(with_reducible first|refine Vk fun K hK=> ?_|refine V0 ?_|refine Vb ?_|refine Vc ?_|refine Vr ?_|refine Vs ?_|apply And.intro|refine Vq (by kernel_rfl) ?_)|((with_reducible first|refine gE ?_|refine gR ?_);simp only[zA,simprocAttr])|exact Vn|((with_reducible refine Vz ?_);refine Vo rfl rfl rfl (fun _ _=>rfl) ?_<;>first|rfl|skip)|((with_reducible refine Vx ?_);simp only[sb,reduceIte,Nat.reduceEqDiff])|(refine hK _ ?_;clear hK K)|refine Vt rfl ?_|refine Vf rfl ?_|refine Vi rfl (fun hg=> ?_) (fun hg=> ?_)|((first|show Program.eqGuardType _ _ _=false|show Xs _ _ _=true|show Program.stoodInHeld _ _=false);kernel_rfl)|clear hK K)
 clear hKC KC
 have hlt:i<l.length:=by have:=of_decide_eq_true ht;omega
 refine Vk fun KC hKC=>Xe ?_
 have hlt':i<m'.length:=by omega
 refine Vy fun K hK=> ?_
 simp only[zA,simprocAttr]
 repeat' (first|(with_reducible refine hK _ ?_;clear hK K)|with_reducible apply And.intro)
 refine Vy2 (by kernel_rfl) fun K hK=> ?_
 simp only[zA,simprocAttr,hlt,hlt',Xg tkC l i [] hlt,Xg tkC m' i [] hlt',tkC,Xqo]
 repeat' (first|(with_reducible refine hK _ ?_;clear hK K)|with_reducible apply And.intro)
 all_goals first|(decide;done)|kernel_rfl|skip
 refine Uz rfl (fun ht=> ?_) (fun hf=>Xhj ?_)
 ·have e:=Ut (l:=l) (m:=m') hlt hlt' (by simpa using ht)
  refine Vy fun K hK=> ?_
  simp only[zA,simprocAttr]
  repeat' (first|(with_reducible refine hK _ ?_;clear hK K)|with_reducible apply And.intro)
  rw[← e]
  refine Vz ?_
  exact Qv (.inr rfl) rfl rfl rfl (fun _ _=>rfl) rfl
 repeat refine And.intro (by omega) ?_
 refine hKC _ ?_
 clear hKC KC
 refine Xn Xj [] ?_
 simp only[zA,simprocAttr,Yl (n:=i) 1 1 rfl (by omega)]
 refine⟨i+1,⟨by omega,?_⟩,by omega,?_⟩
 ·intro j hj hj' hji
  by_cases h:j=i
  ·subst h;simpa using hf
  ·exact hq j hj hj' (by omega)
 refine La rfl ?_ ?_<;>simp only[sL]
theorem Xyj (l m':List (Int×Int×Int)) (hl:l.length≤1000000000):Xr Tryz.prog 48 [.sl 3 (l.map sgC) .sh,.sl 3 (m'.map sgC) .sh] [] (bool (l==m')) []:=by
 refine Xc 0 Tryz.func48 rfl fun n out _ _=> ?_
 simp only[sn,Tryz.ntmps48,Nat.reduceAdd,Nat.reduceSub]
 repeat' (first|(with_reducible first|refine Vk fun K hK=> ?_|refine V0 ?_|refine Vb ?_|refine Vc ?_|refine Vr ?_|refine Vs ?_|apply And.intro|refine Vq (by kernel_rfl) ?_)|((with_reducible first|refine gE ?_|refine gR ?_);simp only[zA,simprocAttr])|exact Vn|((with_reducible refine Vz ?_);refine Vo rfl rfl rfl (fun _ _=>rfl) ?_<;>first|rfl|(rw[Mu (by intro h;simp [h] at hg)];rfl)|skip)|((with_reducible refine Vx ?_);simp only[sb,reduceIte,Nat.reduceEqDiff])|(refine hK _ ?_;clear hK K)|refine Vt rfl ?_|refine Vf rfl ?_|refine Vi rfl (fun hg=> ?_) (fun hg=> ?_)|((first|show Program.eqGuardType _ _ _=false|show Xs _ _ _=true|show Program.stoodInHeld _ _=false);kernel_rfl)|clear hK K)
 have hlen:l.length=m'.length:=by
  have h1:((l.length:Int) !=(m'.length:Int))=false:=hg
  simp at h1;omega
 refine V5 ?_
 refine Xse (l.length) (fun i=>(∀j (hj:j<l.length) (hj':j<m'.length),j<i→l[j]=m'[j])) (fun i=>tp [4,5] (tr 14 12 [(13,i64 (i:Int))])) (fun i=>[]) (by intros;omega) ?_ fun i hi=> ?_
 ·refine La rfl ?_ ?_<;>simp only[sL]
 obtain⟨hi,hq⟩:=hi
 simp only[pt]
 refine Vy fun K hK=> ?_
 simp only[zA,simprocAttr]
 repeat' (first|(with_reducible refine hK _ ?_;clear hK K)|with_reducible apply And.intro)
 refine Vk fun KC hKC=> ?_
 refine Uz rfl (fun ht=>Xhj (hKC _ ?_)) (fun hf=>Qi (id ?_))
 rotate_left
 ·simp only[Qd,Z4,if_true]
  refine hK _ ?_
  clear hK K hKC KC
  have h_ib:i=l.length:=by have:=of_decide_eq_false hf;omega
  subst h_ib
  have e:=Ua (l:=l) (m:=m') hlen fun i hi hi'=>hq i hi hi' hi
  rw[e]
  repeat' (first|(with_reducible first|refine Vk fun K hK=> ?_|refine V0 ?_|refine Vb ?_|refine Vc ?_|refine Vr ?_|refine Vs ?_|apply And.intro|refine Vq (by kernel_rfl) ?_)|((with_reducible first|refine gE ?_|refine gR ?_);simp only[zA,simprocAttr])|exact Vn|((with_reducible refine Vz ?_);refine Vo rfl rfl rfl (fun _ _=>rfl) ?_<;>first|rfl|skip)|((with_reducible refine Vx ?_);simp only[sb,reduceIte,Nat.reduceEqDiff])|(refine hK _ ?_;clear hK K)|refine Vt rfl ?_|refine Vf rfl ?_|refine Vi rfl (fun hg=> ?_) (fun hg=> ?_)|((first|show Program.eqGuardType _ _ _=false|show Xs _ _ _=true|show Program.stoodInHeld _ _=false);kernel_rfl)|clear hK K)
 clear hKC KC
 have hlt:i<l.length:=by have:=of_decide_eq_true ht;omega
 refine Vk fun KC hKC=>Xe ?_
 have hlt':i<m'.length:=by omega
 refine Vy fun K hK=> ?_
 simp only[zA,simprocAttr]
 repeat' (first|(with_reducible refine hK _ ?_;clear hK K)|with_reducible apply And.intro)
 refine Vy2 (by kernel_rfl) fun K hK=> ?_
 simp only[zA,simprocAttr,hlt,hlt',Xg sgC l i [] hlt,Xg sgC m' i [] hlt',sgC,E4]
 repeat' (first|(with_reducible refine hK _ ?_;clear hK K)|with_reducible apply And.intro)
 all_goals first|(decide;done)|kernel_rfl|skip
 refine Uz rfl (fun ht=> ?_) (fun hf=>Xhj ?_)
 ·have e:=Ut (l:=l) (m:=m') hlt hlt' (by simpa using ht)
  refine Vy fun K hK=> ?_
  simp only[zA,simprocAttr]
  repeat' (first|(with_reducible refine hK _ ?_;clear hK K)|with_reducible apply And.intro)
  rw[← e]
  refine Vz ?_
  exact Qv (.inr rfl) rfl rfl rfl (fun _ _=>rfl) rfl
 repeat refine And.intro (by omega) ?_
 refine hKC _ ?_
 clear hKC KC
 refine Xn Xj [] ?_
 simp only[zA,simprocAttr,Yl (n:=i) 1 1 rfl (by omega)]
 refine⟨i+1,⟨by omega,?_⟩,by omega,?_⟩
 ·intro j hj hj' hji
  by_cases h:j=i
  ·subst h;simpa using hf
  ·exact hq j hj hj' (by omega)
 refine La rfl ?_ ?_<;>simp only[sL]
theorem Xyk (l m':List (Int×UInt8×Int×Int)) (hl:l.length≤1000000000):Xr Tryz.prog 49 [.sl 4 (l.map lkC) .sh,.sl 4 (m'.map lkC) .sh] [] (bool (l==m')) []:=by
 refine Xc 0 Tryz.func49 rfl fun n out _ _=> ?_
 simp only[sn,Tryz.ntmps49,Nat.reduceAdd,Nat.reduceSub]
 repeat' (first|(with_reducible first|refine Vk fun K hK=> ?_|refine V0 ?_|refine Vb ?_|refine Vc ?_|refine Vr ?_|refine Vs ?_|apply And.intro|refine Vq (by kernel_rfl) ?_)|((with_reducible first|refine gE ?_|refine gR ?_);simp only[zA,simprocAttr])|exact Vn|((with_reducible refine Vz ?_);refine Vo rfl rfl rfl (fun _ _=>rfl) ?_<;>first|rfl|(rw[Mu (by intro h;simp [h] at hg)];rfl)|skip)|((with_reducible refine Vx ?_);simp only[sb,reduceIte,Nat.reduceEqDiff])|(refine hK _ ?_;clear hK K)|refine Vt rfl ?_|refine Vf rfl ?_|refine Vi rfl (fun hg=> ?_) (fun hg=> ?_)|((first|show Program.eqGuardType _ _ _=false|show Xs _ _ _=true|show Program.stoodInHeld _ _=false);kernel_rfl)|clear hK K)
 have hlen:l.length=m'.length:=by
  have h1:((l.length:Int) !=(m'.length:Int))=false:=hg
  simp at h1;omega
 refine V5 ?_
 refine Xse (l.length) (fun i=>(∀j (hj:j<l.length) (hj':j<m'.length),j<i→l[j]=m'[j])) (fun i=>tp [4,5] (tr 14 12 [(13,i64 (i:Int))])) (fun i=>[]) (by intros;omega) ?_ fun i hi=> ?_
 ·refine La rfl ?_ ?_<;>simp only[sL]
 obtain⟨hi,hq⟩:=hi
 simp only[pt]
 refine Vy fun K hK=> ?_
 simp only[zA,simprocAttr]
 repeat' (first|(with_reducible refine hK _ ?_;clear hK K)|with_reducible apply And.intro)
 refine Vk fun KC hKC=> ?_
 refine Uz rfl (fun ht=>Xhj (hKC _ ?_)) (fun hf=>Qi (id ?_))
 rotate_left
 ·simp only[Qd,Z4,if_true]
  refine hK _ ?_
  clear hK K hKC KC
  have h_ib:i=l.length:=by have:=of_decide_eq_false hf;omega
  subst h_ib
  have e:=Ua (l:=l) (m:=m') hlen fun i hi hi'=>hq i hi hi' hi
  rw[e]
  repeat' (first|(with_reducible first|refine Vk fun K hK=> ?_|refine V0 ?_|refine Vb ?_|refine Vc ?_|refine Vr ?_|refine Vs ?_|apply And.intro|refine Vq (by kernel_rfl) ?_)|((with_reducible first|refine gE ?_|refine gR ?_);simp only[zA,simprocAttr])|exact Vn|((with_reducible refine Vz ?_);refine Vo rfl rfl rfl (fun _ _=>rfl) ?_<;>first|rfl|skip)|((with_reducible refine Vx ?_);simp only[sb,reduceIte,Nat.reduceEqDiff])|(refine hK _ ?_;clear hK K)|refine Vt rfl ?_|refine Vf rfl ?_|refine Vi rfl (fun hg=> ?_) (fun hg=> ?_)|((first|show Program.eqGuardType _ _ _=false|show Xs _ _ _=true|show Program.stoodInHeld _ _=false);kernel_rfl)|clear hK K)
 clear hKC KC
 have hlt:i<l.length:=by have:=of_decide_eq_true ht;omega
 refine Vk fun KC hKC=>Xe ?_
 have hlt':i<m'.length:=by omega
 refine Vy fun K hK=> ?_
 simp only[zA,simprocAttr]
 repeat' (first|(with_reducible refine hK _ ?_;clear hK K)|with_reducible apply And.intro)
 refine Vy2 (by kernel_rfl) fun K hK=> ?_
 simp only[zA,simprocAttr,hlt,hlt',Xg lkC l i [] hlt,Xg lkC m' i [] hlt',lkC,Xqp]
 repeat' (first|(with_reducible refine hK _ ?_;clear hK K)|with_reducible apply And.intro)
 all_goals first|(decide;done)|kernel_rfl|skip
 refine Uz rfl (fun ht=> ?_) (fun hf=>Xhj ?_)
 ·have e:=Ut (l:=l) (m:=m') hlt hlt' (by simpa using ht)
  refine Vy fun K hK=> ?_
  simp only[zA,simprocAttr]
  repeat' (first|(with_reducible refine hK _ ?_;clear hK K)|with_reducible apply And.intro)
  rw[← e]
  refine Vz ?_
  exact Qv (.inr rfl) rfl rfl rfl (fun _ _=>rfl) rfl
 repeat refine And.intro (by omega) ?_
 refine hKC _ ?_
 clear hKC KC
 refine Xn Xj [] ?_
 simp only[zA,simprocAttr,Yl (n:=i) 1 1 rfl (by omega)]
 refine⟨i+1,⟨by omega,?_⟩,by omega,?_⟩
 ·intro j hj hj' hji
  by_cases h:j=i
  ·subst h;simpa using hf
  ·exact hq j hj hj' (by omega)
 refine La rfl ?_ ?_<;>simp only[sL]
theorem Xsw (l:List (Int×UInt8)) (m':List (Sec)) (fid:FuncId) (caps:List AV) (p:Int×UInt8→Sec→Bool) (hb:Xd Tryz.prog fid=True) (hl:l.length≤1000000000)
  (hp:∀x,x∈l→∀y,y∈m'→Xr Tryz.prog fid (tkA x::Qh y::caps) [] (bool (p x y)) []):
  Xr Tryz.prog 167 [.sl 2 (l.map tkC) .sh,.sl 3 (m'.map Y6) .sh,.fn (.func fid) caps] [] (bool (Fv p l m')) []:=by
 refine Xc 2 Tryz.func167 rfl fun n out _ _=> ?_
 simp only[sn,Tryz.ntmps167,Nat.reduceAdd,Nat.reduceSub]
 repeat' (first|(with_reducible first|refine Vk fun K hK=> ?_|refine V0 ?_|refine Vb ?_|refine Vc ?_|refine Vr ?_|refine Vs ?_|apply And.intro)|((with_reducible first|refine gE ?_|refine gR ?_);simp only[zA,simprocAttr])|exact Vn|((with_reducible refine Vz ?_);refine Vo rfl rfl rfl (fun _ _=>rfl) ?_<;>first|rfl|(rw[Rj (p:=p) (l:=l) (m:=m') (by intro h;simp [h] at hg)];rfl)|skip)|((with_reducible refine Vx ?_);simp only[sb,reduceIte,Nat.reduceEqDiff])|(refine hK _ ?_;clear hK K)|refine Vt rfl ?_|refine Vf rfl ?_|refine Vi rfl (fun hg=> ?_) (fun hg=> ?_)|clear hK K)
 have hlen:l.length=m'.length:=by
  have h1:((l.length:Int) !=(m'.length:Int))=false:=hg
  simp at h1;omega
 refine V5 ?_
 refine Xpw (l.length) (fun i=>(∀j (hj:j<l.length) (hj':j<m'.length),j<i→p l[j] m'[j]=true)) (fun m i=>tr 18 14 (tr 6 4 [(17,i64 (i:Int))])) (fun m i=>[none,none]) (by intros;omega) ?_ fun m i hm hi=> ?_
 ·refine La rfl ?_ ?_<;>simp only[sL]
 obtain⟨hi,hq⟩:=hi
 simp only[pt]
 refine Vy fun K hK=> ?_
 simp only[zA,simprocAttr]
 repeat' (first|(with_reducible refine hK _ ?_;clear hK K)|with_reducible apply And.intro)
 refine Vk fun KC hKC=> ?_
 refine Uz rfl (fun ht=>Xhj (hKC _ ?_)) (fun hf=>Qi (id ?_))
 rotate_left
 ·simp only[Qd,Z4,if_true]
  refine hK _ ?_
  clear hK K hKC KC
  have h_ib:i=l.length:=by have:=of_decide_eq_false hf;omega
  subst h_ib
  have e:=Xo4 (p:=p) hlen fun i hi hi'=>hq i hi hi' hi
  rw[e]
  repeat' (first|(with_reducible first|refine Vk fun K hK=> ?_|refine V0 ?_|refine Vb ?_|refine Vc ?_|refine Vr ?_|refine Vs ?_|apply And.intro)|((with_reducible first|refine gE ?_|refine gR ?_);simp only[zA,simprocAttr])|exact Vn|((with_reducible refine Vz ?_);refine Vo rfl rfl rfl (fun _ _=>rfl) ?_<;>first|rfl|skip)|((with_reducible refine Vx ?_);simp only[sb,reduceIte,Nat.reduceEqDiff])|(refine hK _ ?_;clear hK K)|refine Vt rfl ?_|refine Vf rfl ?_|refine Vi rfl (fun hg=> ?_) (fun hg=> ?_)|clear hK K)
 clear hKC KC
 have hlt:i<l.length:=by have:=of_decide_eq_true ht;omega
 refine Vk fun KC hKC=>Xe ?_
 have hlt':i<m'.length:=by omega
 refine Vy fun K hK=> ?_
 simp only[zA,simprocAttr,Xi hm,hlt,Xg tkC l i [] hlt,X0,tkC]
 repeat' (first|(with_reducible refine hK _ ?_;clear hK K)|with_reducible apply And.intro)
 refine Vy fun K hK=> ?_
 simp only[zA,simprocAttr,Xi hm,hlt',Xg Y6 m' i [] hlt',X0,Y6]
 repeat' (first|(with_reducible refine hK _ ?_;clear hK K)|with_reducible apply And.intro)
 refine Vy fun K hK=> ?_
 simp only[zA,simprocAttr,Xi hm,hb]
 repeat' (first|(with_reducible refine hK _ ?_;clear hK K)|with_reducible apply And.intro)
 refine X3 (hp _ (List.getElem_mem hlt) _ (List.getElem_mem hlt')) ?_
 simp only[zA,simprocAttr]
 repeat' (first|(with_reducible refine hK _ ?_;clear hK K)|with_reducible apply And.intro)
 refine Uz rfl (fun ht=> ?_) (fun hf=>Xhj ?_)
 ·have e:=Xo5 hlt hlt' (by simpa using ht)
  refine Vy fun K hK=> ?_
  simp only[zA,simprocAttr]
  repeat' (first|(with_reducible refine hK _ ?_;clear hK K)|with_reducible apply And.intro)
  rw[← e]
  refine Vz ?_
  exact Qv (.inr rfl) rfl rfl rfl (fun _ _=>rfl) rfl
 repeat refine And.intro (by omega) ?_
 refine hKC _ ?_
 clear hKC KC
 refine Xn Xj [] ?_
 simp only[zA,simprocAttr,Yl (n:=i) 1 1 rfl (by omega)]
 refine⟨i+1,⟨by omega,?_⟩,by omega,?_⟩
 ·intro j hj hj' hji
  by_cases h:j=i
  ·subst h;simpa using hf
  ·exact hq j hj hj' (by omega)
 refine Xx [false,false] ?_ ?_<;>intro n_<;>simp only[sM]
theorem Xsx (l:List (Int×Int×Int)) (m':List (Int×Int)) (fid:FuncId) (caps:List AV) (p:Int×Int×Int→Int×Int→Bool) (hb:Xd Tryz.prog fid=True) (hl:l.length≤1000000000)
  (hp:∀x,x∈l→∀y,y∈m'→Xr Tryz.prog fid (sgA x::jnA y::caps) [] (bool (p x y)) []):
  Xr Tryz.prog 169 [.sl 3 (l.map sgC) .sh,.sl 2 (m'.map jnC) .sh,.fn (.func fid) caps] [] (bool (Fv p l m')) []:=by
 refine Xc 2 Tryz.func169 rfl fun n out _ _=> ?_
 simp only[sn,Tryz.ntmps169,Nat.reduceAdd,Nat.reduceSub]
 repeat' (first|(with_reducible first|refine Vk fun K hK=> ?_|refine V0 ?_|refine Vb ?_|refine Vc ?_|refine Vr ?_|refine Vs ?_|apply And.intro)|((with_reducible first|refine gE ?_|refine gR ?_);simp only[zA,simprocAttr])|exact Vn|((with_reducible refine Vz ?_);refine Vo rfl rfl rfl (fun _ _=>rfl) ?_<;>first|rfl|(rw[Rj (p:=p) (l:=l) (m:=m') (by intro h;simp [h] at hg)];rfl)|skip)|((with_reducible refine Vx ?_);simp only[sb,reduceIte,Nat.reduceEqDiff])|(refine hK _ ?_;clear hK K)|refine Vt rfl ?_|refine Vf rfl ?_|refine Vi rfl (fun hg=> ?_) (fun hg=> ?_)|clear hK K)
 have hlen:l.length=m'.length:=by
  have h1:((l.length:Int) !=(m'.length:Int))=false:=hg
  simp at h1;omega
 refine V5 ?_
 refine Xpw (l.length) (fun i=>(∀j (hj:j<l.length) (hj':j<m'.length),j<i→p l[j] m'[j]=true)) (fun m i=>tr 18 14 (tr 6 4 [(17,i64 (i:Int))])) (fun m i=>[none,none]) (by intros;omega) ?_ fun m i hm hi=> ?_
 ·refine La rfl ?_ ?_<;>simp only[sL]
 obtain⟨hi,hq⟩:=hi
 simp only[pt]
 refine Vy fun K hK=> ?_
 simp only[zA,simprocAttr]
 repeat' (first|(with_reducible refine hK _ ?_;clear hK K)|with_reducible apply And.intro)
 refine Vk fun KC hKC=> ?_
 refine Uz rfl (fun ht=>Xhj (hKC _ ?_)) (fun hf=>Qi (id ?_))
 rotate_left
 ·simp only[Qd,Z4,if_true]
  refine hK _ ?_
  clear hK K hKC KC
  have h_ib:i=l.length:=by have:=of_decide_eq_false hf;omega
  subst h_ib
  have e:=Xo4 (p:=p) hlen fun i hi hi'=>hq i hi hi' hi
  rw[e]
  repeat' (first|(with_reducible first|refine Vk fun K hK=> ?_|refine V0 ?_|refine Vb ?_|refine Vc ?_|refine Vr ?_|refine Vs ?_|apply And.intro)|((with_reducible first|refine gE ?_|refine gR ?_);simp only[zA,simprocAttr])|exact Vn|((with_reducible refine Vz ?_);refine Vo rfl rfl rfl (fun _ _=>rfl) ?_<;>first|rfl|skip)|((with_reducible refine Vx ?_);simp only[sb,reduceIte,Nat.reduceEqDiff])|(refine hK _ ?_;clear hK K)|refine Vt rfl ?_|refine Vf rfl ?_|refine Vi rfl (fun hg=> ?_) (fun hg=> ?_)|clear hK K)
 clear hKC KC
 have hlt:i<l.length:=by have:=of_decide_eq_true ht;omega
 refine Vk fun KC hKC=>Xe ?_
 have hlt':i<m'.length:=by omega
 refine Vy fun K hK=> ?_
 simp only[zA,simprocAttr,Xi hm,hlt,Xg sgC l i [] hlt,X0,sgC]
 repeat' (first|(with_reducible refine hK _ ?_;clear hK K)|with_reducible apply And.intro)
 refine Vy fun K hK=> ?_
 simp only[zA,simprocAttr,Xi hm,hlt',Xg jnC m' i [] hlt',X0,jnC]
 repeat' (first|(with_reducible refine hK _ ?_;clear hK K)|with_reducible apply And.intro)
 refine Vy fun K hK=> ?_
 simp only[zA,simprocAttr,Xi hm,hb]
 repeat' (first|(with_reducible refine hK _ ?_;clear hK K)|with_reducible apply And.intro)
 refine X3 (hp _ (List.getElem_mem hlt) _ (List.getElem_mem hlt')) ?_
 simp only[zA,simprocAttr]
 repeat' (first|(with_reducible refine hK _ ?_;clear hK K)|with_reducible apply And.intro)
 refine Uz rfl (fun ht=> ?_) (fun hf=>Xhj ?_)
 ·have e:=Xo5 hlt hlt' (by simpa using ht)
  refine Vy fun K hK=> ?_
  simp only[zA,simprocAttr]
  repeat' (first|(with_reducible refine hK _ ?_;clear hK K)|with_reducible apply And.intro)
  rw[← e]
  refine Vz ?_
  exact Qv (.inr rfl) rfl rfl rfl (fun _ _=>rfl) rfl
 repeat refine And.intro (by omega) ?_
 refine hKC _ ?_
 clear hKC KC
 refine Xn Xj [] ?_
 simp only[zA,simprocAttr,Yl (n:=i) 1 1 rfl (by omega)]
 refine⟨i+1,⟨by omega,?_⟩,by omega,?_⟩
 ·intro j hj hj' hji
  by_cases h:j=i
  ·subst h;simpa using hf
  ·exact hq j hj hj' (by omega)
 refine Xx [false,false] ?_ ?_<;>intro n_<;>simp only[sM]
theorem Xsy (l:List (Int×UInt8×Int×Int)) (m':List (Rt)) (fid:FuncId) (caps:List AV) (p:Int×UInt8×Int×Int→Rt→Bool) (hb:Xd Tryz.prog fid=True) (hl:l.length≤1000000000)
  (hp:∀x,x∈l→∀y,y∈m'→Xr Tryz.prog fid (lkA x::rtA y::caps) [] (bool (p x y)) []):
  Xr Tryz.prog 171 [.sl 4 (l.map lkC) .sh,.sl 7 (m'.map rtC) .sh,.fn (.func fid) caps] [] (bool (Fv p l m')) []:=by
 refine Xc 2 Tryz.func171 rfl fun n out _ _=> ?_
 simp only[sn,Tryz.ntmps171,Nat.reduceAdd,Nat.reduceSub]
 repeat' (first|(with_reducible first|refine Vk fun K hK=> ?_|refine V0 ?_|refine Vb ?_|refine Vc ?_|refine Vr ?_|refine Vs ?_|apply And.intro)|((with_reducible first|refine gE ?_|refine gR ?_);simp only[zA,simprocAttr])|exact Vn|((with_reducible refine Vz ?_);refine Vo rfl rfl rfl (fun _ _=>rfl) ?_<;>first|rfl|(rw[Rj (p:=p) (l:=l) (m:=m') (by intro h;simp [h] at hg)];rfl)|skip)|((with_reducible refine Vx ?_);simp only[sb,reduceIte,Nat.reduceEqDiff])|(refine hK _ ?_;clear hK K)|refine Vt rfl ?_|refine Vf rfl ?_|refine Vi rfl (fun hg=> ?_) (fun hg=> ?_)|clear hK K)
 have hlen:l.length=m'.length:=by
  have h1:((l.length:Int) !=(m'.length:Int))=false:=hg
  simp at h1;omega
 refine V5 ?_
 refine Xpw (l.length) (fun i=>(∀j (hj:j<l.length) (hj':j<m'.length),j<i→p l[j] m'[j]=true)) (fun m i=>tr 18 14 (tr 6 4 [(17,i64 (i:Int))])) (fun m i=>[none,none]) (by intros;omega) ?_ fun m i hm hi=> ?_
 ·refine La rfl ?_ ?_<;>simp only[sL]
 obtain⟨hi,hq⟩:=hi
 simp only[pt]
 refine Vy fun K hK=> ?_
 simp only[zA,simprocAttr]
 repeat' (first|(with_reducible refine hK _ ?_;clear hK K)|with_reducible apply And.intro)
 refine Vk fun KC hKC=> ?_
 refine Uz rfl (fun ht=>Xhj (hKC _ ?_)) (fun hf=>Qi (id ?_))
 rotate_left
 ·simp only[Qd,Z4,if_true]
  refine hK _ ?_
  clear hK K hKC KC
  have h_ib:i=l.length:=by have:=of_decide_eq_false hf;omega
  subst h_ib
  have e:=Xo4 (p:=p) hlen fun i hi hi'=>hq i hi hi' hi
  rw[e]
  repeat' (first|(with_reducible first|refine Vk fun K hK=> ?_|refine V0 ?_|refine Vb ?_|refine Vc ?_|refine Vr ?_|refine Vs ?_|apply And.intro)|((with_reducible first|refine gE ?_|refine gR ?_);simp only[zA,simprocAttr])|exact Vn|((with_reducible refine Vz ?_);refine Vo rfl rfl rfl (fun _ _=>rfl) ?_<;>first|rfl|skip)|((with_reducible refine Vx ?_);simp only[sb,reduceIte,Nat.reduceEqDiff])|(refine hK _ ?_;clear hK K)|refine Vt rfl ?_|refine Vf rfl ?_|refine Vi rfl (fun hg=> ?_) (fun hg=> ?_)|clear hK K)
 clear hKC KC
 have hlt:i<l.length:=by have:=of_decide_eq_true ht;omega
 refine Vk fun KC hKC=>Xe ?_
 have hlt':i<m'.length:=by omega
 refine Vy fun K hK=> ?_
 simp only[zA,simprocAttr,Xi hm,hlt,Xg lkC l i [] hlt,X0,lkC]
 repeat' (first|(with_reducible refine hK _ ?_;clear hK K)|with_reducible apply And.intro)
 refine Vy fun K hK=> ?_
 simp only[zA,simprocAttr,Xi hm,hlt',Xg rtC m' i [] hlt',X0,rtC]
 repeat' (first|(with_reducible refine hK _ ?_;clear hK K)|with_reducible apply And.intro)
 refine Vy fun K hK=> ?_
 simp only[zA,simprocAttr,Xi hm,hb]
 repeat' (first|(with_reducible refine hK _ ?_;clear hK K)|with_reducible apply And.intro)
 refine X3 (hp _ (List.getElem_mem hlt) _ (List.getElem_mem hlt')) ?_
 simp only[zA,simprocAttr]
 repeat' (first|(with_reducible refine hK _ ?_;clear hK K)|with_reducible apply And.intro)
 refine Uz rfl (fun ht=> ?_) (fun hf=>Xhj ?_)
 ·have e:=Xo5 hlt hlt' (by simpa using ht)
  refine Vy fun K hK=> ?_
  simp only[zA,simprocAttr]
  repeat' (first|(with_reducible refine hK _ ?_;clear hK K)|with_reducible apply And.intro)
  rw[← e]
  refine Vz ?_
  exact Qv (.inr rfl) rfl rfl rfl (fun _ _=>rfl) rfl
 repeat refine And.intro (by omega) ?_
 refine hKC _ ?_
 clear hKC KC
 refine Xn Xj [] ?_
 simp only[zA,simprocAttr,Yl (n:=i) 1 1 rfl (by omega)]
 refine⟨i+1,⟨by omega,?_⟩,by omega,?_⟩
 ·intro j hj hj' hji
  by_cases h:j=i
  ·subst h;simpa using hf
  ·exact hq j hj hj' (by omega)
 refine Xx [false,false] ?_ ?_<;>intro n_<;>simp only[sM]
theorem Xta (l:List (Int×Int×Int)) (m':List (Int×Int×Int)) (fid:FuncId) (caps:List AV) (p:Int×Int×Int→Int×Int×Int→Bool) (hb:Xd Tryz.prog fid=True) (hl:l.length≤1000000000)
  (hp:∀x,x∈l→∀y,y∈m'→Xr Tryz.prog fid (sgA x::sgA y::caps) [] (bool (p x y)) []):
  Xr Tryz.prog 44 [.sl 3 (l.map sgC) .sh,.sl 3 (m'.map sgC) .sh,.fn (.func fid) caps] [] (bool (Fv p l m')) []:=by
 refine Xc 2 Tryz.func44 rfl fun n out _ _=> ?_
 simp only[sn,Tryz.ntmps44,Nat.reduceAdd,Nat.reduceSub]
 repeat' (first|(with_reducible first|refine Vk fun K hK=> ?_|refine V0 ?_|refine Vb ?_|refine Vc ?_|refine Vr ?_|refine Vs ?_|apply And.intro)|((with_reducible first|refine gE ?_|refine gR ?_);simp only[zA,simprocAttr])|exact Vn|((with_reducible refine Vz ?_);refine Vo rfl rfl rfl (fun _ _=>rfl) ?_<;>first|rfl|(rw[Rj (p:=p) (l:=l) (m:=m') (by intro h;simp [h] at hg)];rfl)|skip)|((with_reducible refine Vx ?_);simp only[sb,reduceIte,Nat.reduceEqDiff])|(refine hK _ ?_;clear hK K)|refine Vt rfl ?_|refine Vf rfl ?_|refine Vi rfl (fun hg=> ?_) (fun hg=> ?_)|clear hK K)
 have hlen:l.length=m'.length:=by
  have h1:((l.length:Int) !=(m'.length:Int))=false:=hg
  simp at h1;omega
 refine V5 ?_
 refine Xpw (l.length) (fun i=>(∀j (hj:j<l.length) (hj':j<m'.length),j<i→p l[j] m'[j]=true)) (fun m i=>tr 18 14 (tr 6 4 [(17,i64 (i:Int))])) (fun m i=>[none,none]) (by intros;omega) ?_ fun m i hm hi=> ?_
 ·refine La rfl ?_ ?_<;>simp only[sL]
 obtain⟨hi,hq⟩:=hi
 simp only[pt]
 refine Vy fun K hK=> ?_
 simp only[zA,simprocAttr]
 repeat' (first|(with_reducible refine hK _ ?_;clear hK K)|with_reducible apply And.intro)
 refine Vk fun KC hKC=> ?_
 refine Uz rfl (fun ht=>Xhj (hKC _ ?_)) (fun hf=>Qi (id ?_))
 rotate_left
 ·simp only[Qd,Z4,if_true]
  refine hK _ ?_
  clear hK K hKC KC
  have h_ib:i=l.length:=by have:=of_decide_eq_false hf;omega
  subst h_ib
  have e:=Xo4 (p:=p) hlen fun i hi hi'=>hq i hi hi' hi
  rw[e]
  repeat' (first|(with_reducible first|refine Vk fun K hK=> ?_|refine V0 ?_|refine Vb ?_|refine Vc ?_|refine Vr ?_|refine Vs ?_|apply And.intro)|((with_reducible first|refine gE ?_|refine gR ?_);simp only[zA,simprocAttr])|exact Vn|((with_reducible refine Vz ?_);refine Vo rfl rfl rfl (fun _ _=>rfl) ?_<;>first|rfl|skip)|((with_reducible refine Vx ?_);simp only[sb,reduceIte,Nat.reduceEqDiff])|(refine hK _ ?_;clear hK K)|refine Vt rfl ?_|refine Vf rfl ?_|refine Vi rfl (fun hg=> ?_) (fun hg=> ?_)|clear hK K)
 clear hKC KC
 have hlt:i<l.length:=by have:=of_decide_eq_true ht;omega
 refine Vk fun KC hKC=>Xe ?_
 have hlt':i<m'.length:=by omega
 refine Vy fun K hK=> ?_
 simp only[zA,simprocAttr,Xi hm,hlt,Xg sgC l i [] hlt,X0,sgC]
 repeat' (first|(with_reducible refine hK _ ?_;clear hK K)|with_reducible apply And.intro)
 refine Vy fun K hK=> ?_
 simp only[zA,simprocAttr,Xi hm,hlt',Xg sgC m' i [] hlt',X0,sgC]
 repeat' (first|(with_reducible refine hK _ ?_;clear hK K)|with_reducible apply And.intro)
 refine Vy fun K hK=> ?_
 simp only[zA,simprocAttr,Xi hm,hb]
 repeat' (first|(with_reducible refine hK _ ?_;clear hK K)|with_reducible apply And.intro)
 refine X3 (hp _ (List.getElem_mem hlt) _ (List.getElem_mem hlt')) ?_
 simp only[zA,simprocAttr]
 repeat' (first|(with_reducible refine hK _ ?_;clear hK K)|with_reducible apply And.intro)
 refine Uz rfl (fun ht=> ?_) (fun hf=>Xhj ?_)
 ·have e:=Xo5 hlt hlt' (by simpa using ht)
  refine Vy fun K hK=> ?_
  simp only[zA,simprocAttr]
  repeat' (first|(with_reducible refine hK _ ?_;clear hK K)|with_reducible apply And.intro)
  rw[← e]
  refine Vz ?_
  exact Qv (.inr rfl) rfl rfl rfl (fun _ _=>rfl) rfl
 repeat refine And.intro (by omega) ?_
 refine hKC _ ?_
 clear hKC KC
 refine Xn Xj [] ?_
 simp only[zA,simprocAttr,Yl (n:=i) 1 1 rfl (by omega)]
 refine⟨i+1,⟨by omega,?_⟩,by omega,?_⟩
 ·intro j hj hj' hji
  by_cases h:j=i
  ·subst h;simpa using hf
  ·exact hq j hj hj' (by omega)
 refine Xx [false,false] ?_ ?_<;>intro n_<;>simp only[sM]
theorem Xtb (l:List (Int×UInt8×Int×Int)) (m':List (Int×UInt8×Int×Int)) (fid:FuncId) (caps:List AV) (p:Int×UInt8×Int×Int→Int×UInt8×Int×Int→Bool) (hb:Xd Tryz.prog fid=True) (hl:l.length≤1000000000)
  (hp:∀x,x∈l→∀y,y∈m'→Xr Tryz.prog fid (lkA x::lkA y::caps) [] (bool (p x y)) []):
  Xr Tryz.prog 45 [.sl 4 (l.map lkC) .sh,.sl 4 (m'.map lkC) .sh,.fn (.func fid) caps] [] (bool (Fv p l m')) []:=by
 refine Xc 2 Tryz.func45 rfl fun n out _ _=> ?_
 simp only[sn,Tryz.ntmps45,Nat.reduceAdd,Nat.reduceSub]
 repeat' (first|(with_reducible first|refine Vk fun K hK=> ?_|refine V0 ?_|refine Vb ?_|refine Vc ?_|refine Vr ?_|refine Vs ?_|apply And.intro)|((with_reducible first|refine gE ?_|refine gR ?_);simp only[zA,simprocAttr])|exact Vn|((with_reducible refine Vz ?_);refine Vo rfl rfl rfl (fun _ _=>rfl) ?_<;>first|rfl|(rw[Rj (p:=p) (l:=l) (m:=m') (by intro h;simp [h] at hg)];rfl)|skip)|((with_reducible refine Vx ?_);simp only[sb,reduceIte,Nat.reduceEqDiff])|(refine hK _ ?_;clear hK K)|refine Vt rfl ?_|refine Vf rfl ?_|refine Vi rfl (fun hg=> ?_) (fun hg=> ?_)|clear hK K)
 have hlen:l.length=m'.length:=by
  have h1:((l.length:Int) !=(m'.length:Int))=false:=hg
  simp at h1;omega
 refine V5 ?_
 refine Xpw (l.length) (fun i=>(∀j (hj:j<l.length) (hj':j<m'.length),j<i→p l[j] m'[j]=true)) (fun m i=>tr 18 14 (tr 6 4 [(17,i64 (i:Int))])) (fun m i=>[none,none]) (by intros;omega) ?_ fun m i hm hi=> ?_
 ·refine La rfl ?_ ?_<;>simp only[sL]
 obtain⟨hi,hq⟩:=hi
 simp only[pt]
 refine Vy fun K hK=> ?_
 simp only[zA,simprocAttr]
 repeat' (first|(with_reducible refine hK _ ?_;clear hK K)|with_reducible apply And.intro)
 refine Vk fun KC hKC=> ?_
 refine Uz rfl (fun ht=>Xhj (hKC _ ?_)) (fun hf=>Qi (id ?_))
 rotate_left
 ·simp only[Qd,Z4,if_true]
  refine hK _ ?_
  clear hK K hKC KC
  have h_ib:i=l.length:=by have:=of_decide_eq_false hf;omega
  subst h_ib
  have e:=Xo4 (p:=p) hlen fun i hi hi'=>hq i hi hi' hi
  rw[e]
  repeat' (first|(with_reducible first|refine Vk fun K hK=> ?_|refine V0 ?_|refine Vb ?_|refine Vc ?_|refine Vr ?_|refine Vs ?_|apply And.intro)|((with_reducible first|refine gE ?_|refine gR ?_);simp only[zA,simprocAttr])|exact Vn|((with_reducible refine Vz ?_);refine Vo rfl rfl rfl (fun _ _=>rfl) ?_<;>first|rfl|skip)|((with_reducible refine Vx ?_);simp only[sb,reduceIte,Nat.reduceEqDiff])|(refine hK _ ?_;clear hK K)|refine Vt rfl ?_|refine Vf rfl ?_|refine Vi rfl (fun hg=> ?_) (fun hg=> ?_)|clear hK K)
 clear hKC KC
 have hlt:i<l.length:=by have:=of_decide_eq_true ht;omega
 refine Vk fun KC hKC=>Xe ?_
 have hlt':i<m'.length:=by omega
 refine Vy fun K hK=> ?_
 simp only[zA,simprocAttr,Xi hm,hlt,Xg lkC l i [] hlt,X0,lkC]
 repeat' (first|(with_reducible refine hK _ ?_;clear hK K)|with_reducible apply And.intro)
 refine Vy fun K hK=> ?_
 simp only[zA,simprocAttr,Xi hm,hlt',Xg lkC m' i [] hlt',X0,lkC]
 repeat' (first|(with_reducible refine hK _ ?_;clear hK K)|with_reducible apply And.intro)
 refine Vy fun K hK=> ?_
 simp only[zA,simprocAttr,Xi hm,hb]
 repeat' (first|(with_reducible refine hK _ ?_;clear hK K)|with_reducible apply And.intro)
 refine X3 (hp _ (List.getElem_mem hlt) _ (List.getElem_mem hlt')) ?_
 simp only[zA,simprocAttr]
 repeat' (first|(with_reducible refine hK _ ?_;clear hK K)|with_reducible apply And.intro)
 refine Uz rfl (fun ht=> ?_) (fun hf=>Xhj ?_)
 ·have e:=Xo5 hlt hlt' (by simpa using ht)
  refine Vy fun K hK=> ?_
  simp only[zA,simprocAttr]
  repeat' (first|(with_reducible refine hK _ ?_;clear hK K)|with_reducible apply And.intro)
  rw[← e]
  refine Vz ?_
  exact Qv (.inr rfl) rfl rfl rfl (fun _ _=>rfl) rfl
 repeat refine And.intro (by omega) ?_
 refine hKC _ ?_
 clear hKC KC
 refine Xn Xj [] ?_
 simp only[zA,simprocAttr,Yl (n:=i) 1 1 rfl (by omega)]
 refine⟨i+1,⟨by omega,?_⟩,by omega,?_⟩
 ·intro j hj hj' hji
  by_cases h:j=i
  ·subst h;simpa using hf
  ·exact hq j hj hj' (by omega)
 refine Xx [false,false] ?_ ?_<;>intro n_<;>simp only[sM]
end Go.Proofs.YtdngdjbgmojcoaaGreat.Pln
