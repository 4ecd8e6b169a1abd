/- The layer of abstract values, joined. -/
import Derived.Test.YtdngdjbgmojcoaaGreatZPR
import Derived.Test.YtdngdjbgmojcoaaGreatZP5
namespace Go.Proofs.YtdngdjbgmojcoaaGreat.Pln
set_option linter.unusedVariables false
set_option linter.unusedSimpArgs false
open Go Go.VS Tab
set_option maxHeartbeats 1000000
set_option maxRecDepth 4000
theorem Lj (a b:Int×Int):Nk [i64 a.1,i64 a.2] [i64 b.1,i64 b.2]=some (a==b):=by
 rw[X32];simp [Nk]
theorem E4 (a b:Int×Int×Int):Nk [i64 a.1,i64 a.2.1,i64 a.2.2] [i64 b.1,i64 b.2.1,i64 b.2.2]=some (a==b):=by
 rw[Xgy];simp [Nk]
theorem Xf5 (l m':List (Int)) (hl:l.length≤1000000000):Xr Tryz.prog 100 [.sl 1 (l.map Ym) .sh,.sl 1 (m'.map Ym) .sh] [] (bool (l==m')) []:=by
 refine Xc 0 Tryz.func100 rfl fun n out _ _=> ?_
 simp only[sn,Tryz.ntmps100,Nat.reduceAdd,Nat.reduceSub]
 repeat' (first|(with_reducible first|refine Vk fun K hK=> ?_|refine V0 ?_|refine Vb ?_|refine Vc ?_|refine Vr ?_|refine Vs ?_|apply And.intro|refine Vq (by kernel_rfl) ?_)|((with_reducible first|refine gE ?_|refine gR ?_);simp only[zA,simprocAttr])|exact Vn|((with_reducible refine Vz ?_);refine Vo rfl rfl rfl (fun _ _=>rfl) ?_<;>first|rfl|(rw[Mu (by intro h;simp [h] at hg)];rfl)|skip)|((with_reducible refine Vx ?_);simp only[sb,reduceIte,Nat.reduceEqDiff])|(refine hK _ ?_;clear hK K)|refine Vt rfl ?_|refine Vf rfl ?_|refine Vi rfl (fun hg=> ?_) (fun hg=> ?_)|clear hK K)
 have hlen:l.length=m'.length:=by
  have h1:((l.length:Int) !=(m'.length:Int))=false:=hg
  simp at h1;omega
 refine V5 ?_
 refine Xse (l.length) (fun i=>(∀j (hj:j<l.length) (hj':j<m'.length),j<i→l[j]=m'[j])) (fun i=>tp [4,5] (tr 14 12 [(13,i64 (i:Int))])) (fun i=>[]) (by intros;omega) ?_ fun i hi=> ?_
 ·refine La rfl ?_ ?_<;>simp only[sL]
 obtain⟨hi,hq⟩:=hi
 simp only[pt]
 refine Vy fun K hK=> ?_
 simp only[zA,simprocAttr]
 repeat' (first|(with_reducible refine hK _ ?_;clear hK K)|with_reducible apply And.intro)
 refine Vk fun KC hKC=> ?_
 refine Uz rfl (fun ht=>Xhj (hKC _ ?_)) (fun hf=>Qi (id ?_))
 rotate_left
 ·simp only[Qd,Z4,if_true]
  refine hK _ ?_
  clear hK K hKC KC
  have h_ib:i=l.length:=by have:=of_decide_eq_false hf;omega
  subst h_ib
  have e:=Ua (l:=l) (m:=m') hlen fun i hi hi'=>hq i hi hi' hi
  rw[e]
  repeat' (first|(with_reducible first|refine Vk fun K hK=> ?_|refine V0 ?_|refine Vb ?_|refine Vc ?_|refine Vr ?_|refine Vs ?_|apply And.intro|refine Vq (by kernel_rfl) ?_)|((with_reducible first|refine gE ?_|refine gR ?_);simp only[zA,simprocAttr])|exact Vn|((with_reducible refine Vz ?_);refine Vo rfl rfl rfl (fun _ _=>rfl) ?_<;>first|rfl|skip)|((with_reducible refine Vx ?_);simp only[sb,reduceIte,Nat.reduceEqDiff])|(refine hK _ ?_;clear hK K)|refine Vt rfl ?_|refine Vf rfl ?_|refine Vi rfl (fun hg=> ?_) (fun hg=> ?_)|clear hK K)
 clear hKC KC
 have hlt:i<l.length:=by have:=of_decide_eq_true ht;omega
 refine Vk fun KC hKC=>Xe ?_
 have hlt':i<m'.length:=by omega
 refine Vy fun K hK=> ?_
 simp only[zA,simprocAttr]
 repeat' (first|(with_reducible refine hK _ ?_;clear hK K)|with_reducible apply And.intro)
 refine Vy2 (by kernel_rfl) fun K hK=> ?_
 simp only[zA,simprocAttr,hlt,hlt',Xg Ym l i [] hlt,Xg Ym m' i [] hlt',Ym]
 repeat' (first|(with_reducible refine hK _ ?_;clear hK K)|with_reducible apply And.intro)
 all_goals first|(decide;done)|kernel_rfl|skip
 refine Uz rfl (fun ht=> ?_) (fun hf=>Xhj ?_)
 ·have e:=Ut (l:=l) (m:=m') hlt hlt' (by simpa using ht)
  refine Vy fun K hK=> ?_
  simp only[zA,simprocAttr]
  repeat' (first|(with_reducible refine hK _ ?_;clear hK K)|with_reducible apply And.intro)
  rw[← e]
  refine Vz ?_
  exact Qv (.inr rfl) rfl rfl rfl (fun _ _=>rfl) rfl
 repeat refine And.intro (by omega) ?_
 refine hKC _ ?_
 clear hKC KC
 refine Xn Xj [] ?_
 simp only[zA,simprocAttr,Yl (n:=i) 1 1 rfl (by omega)]
 refine⟨i+1,⟨by omega,?_⟩,by omega,?_⟩
 ·intro j hj hj' hji
  by_cases h:j=i
  ·subst h;simpa using hf
  ·exact hq j hj hj' (by omega)
 refine La rfl ?_ ?_<;>simp only[sL]
theorem Xga (l m':List (Int×Int)) (hl:l.length≤1000000000):Xr Tryz.prog 97 [.sl 2 (l.map jnC) .sh,.sl 2 (m'.map jnC) .sh] [] (bool (l==m')) []:=by
 refine Xc 0 Tryz.func97 rfl fun n out _ _=> ?_
 simp only[sn,Tryz.ntmps97,Nat.reduceAdd,Nat.reduceSub]
 repeat' (first|(with_reducible first|refine Vk fun K hK=> ?_|refine V0 ?_|refine Vb ?_|refine Vc ?_|refine Vr ?_|refine Vs ?_|apply And.intro|refine Vq (by kernel_rfl) ?_)|((with_reducible first|refine gE ?_|refine gR ?_);simp only[zA,simprocAttr])|exact Vn|((with_reducible refine Vz ?_);refine Vo rfl rfl rfl (fun _ _=>rfl) ?_<;>first|rfl|(rw[Mu (by intro h;simp [h] at hg)];rfl)|skip)|((with_reducible refine Vx ?_);simp only[sb,reduceIte,Nat.reduceEqDiff])|(refine hK _ ?_;clear hK K)|refine Vt rfl ?_|refine Vf rfl ?_|refine Vi rfl (fun hg=> ?_) (fun hg=> ?_)|((first|show Program.eqGuardType _ _ _=false|show Xs _ _ _=true|show Program.stoodInHeld _ _=false);kernel_rfl)|clear hK K)
 have hlen:l.length=m'.length:=by
  have h1:((l.length:Int) !=(m'.length:Int))=false:=hg
  simp at h1;omega
 refine V5 ?_
 refine Xse (l.length) (fun i=>(∀j (hj:j<l.length) (hj':j<m'.length),j<i→l[j]=m'[j])) (fun i=>tp [4,5] (tr 14 12 [(13,i64 (i:Int))])) (fun i=>[]) (by intros;omega) ?_ fun i hi=> ?_
 ·refine La rfl ?_ ?_<;>simp only[sL]
 obtain⟨hi,hq⟩:=hi
 simp only[pt]
 refine Vy fun K hK=> ?_
 simp only[zA,simprocAttr]
 repeat' (first|(with_reducible refine hK _ ?_;clear hK K)|with_reducible apply And.intro)
 refine Vk fun KC hKC=> ?_
 refine Uz rfl (fun ht=>Xhj (hKC _ ?_)) (fun hf=>Qi (id ?_))
 rotate_left
 ·simp only[Qd,Z4,if_true]
  refine hK _ ?_
  clear hK K hKC KC
  have h_ib:i=l.length:=by have:=of_decide_eq_false hf;omega
  subst h_ib
  have e:=Ua (l:=l) (m:=m') hlen fun i hi hi'=>hq i hi hi' hi
  rw[e]
  repeat' (first|(with_reducible first|refine Vk fun K hK=> ?_|refine V0 ?_|refine Vb ?_|refine Vc ?_|refine Vr ?_|refine Vs ?_|apply And.intro|refine Vq (by kernel_rfl) ?_)|((with_reducible first|refine gE ?_|refine gR ?_);simp only[zA,simprocAttr])|exact Vn|((with_reducible refine Vz ?_);refine Vo rfl rfl rfl (fun _ _=>rfl) ?_<;>first|rfl|skip)|((with_reducible refine Vx ?_);simp only[sb,reduceIte,Nat.reduceEqDiff])|(refine hK _ ?_;clear hK K)|refine Vt rfl ?_|refine Vf rfl ?_|refine Vi rfl (fun hg=> ?_) (fun hg=> ?_)|((first|show Program.eqGuardType _ _ _=false|show Xs _ _ _=true|show Program.stoodInHeld _ _=false);kernel_rfl)|clear hK K)
 clear hKC KC
 have hlt:i<l.length:=by have:=of_decide_eq_true ht;omega
 refine Vk fun KC hKC=>Xe ?_
 have hlt':i<m'.length:=by omega
 refine Vy fun K hK=> ?_
 simp only[zA,simprocAttr]
 repeat' (first|(with_reducible refine hK _ ?_;clear hK K)|with_reducible apply And.intro)
 refine Vy2 (by kernel_rfl) fun K hK=> ?_
 simp only[zA,simprocAttr,hlt,hlt',Xg jnC l i [] hlt,Xg jnC m' i [] hlt',jnC,Lj]
 repeat' (first|(with_reducible refine hK _ ?_;clear hK K)|with_reducible apply And.intro)
 all_goals first|(decide;done)|kernel_rfl|skip
 refine Uz rfl (fun ht=> ?_) (fun hf=>Xhj ?_)
 ·have e:=Ut (l:=l) (m:=m') hlt hlt' (by simpa using ht)
  refine Vy fun K hK=> ?_
  simp only[zA,simprocAttr]
  repeat' (first|(with_reducible refine hK _ ?_;clear hK K)|with_reducible apply And.intro)
  rw[← e]
  refine Vz ?_
  exact Qv (.inr rfl) rfl rfl rfl (fun _ _=>rfl) rfl
 repeat refine And.intro (by omega) ?_
 refine hKC _ ?_
 clear hKC KC
 refine Xn Xj [] ?_
 simp only[zA,simprocAttr,Yl (n:=i) 1 1 rfl (by omega)]
 refine⟨i+1,⟨by omega,?_⟩,by omega,?_⟩
 ·intro j hj hj' hji
  by_cases h:j=i
  ·subst h;simpa using hf
  ·exact hq j hj hj' (by omega)
 refine La rfl ?_ ?_<;>simp only[sL]
theorem Xgb (l m':List (Int×Int)) (hl:l.length≤1000000000):Xr Tryz.prog 102 [.sl 2 (l.map jnC) .sh,.sl 2 (m'.map jnC) .sh] [] (bool (l==m')) []:=by
 refine Xc 0 Tryz.func102 rfl fun n out _ _=> ?_
 simp only[sn,Tryz.ntmps102,Nat.reduceAdd,Nat.reduceSub]
 repeat' (first|(with_reducible first|refine Vk fun K hK=> ?_|refine V0 ?_|refine Vb ?_|refine Vc ?_|refine Vr ?_|refine Vs ?_|apply And.intro|refine Vq (by kernel_rfl) ?_)|((with_reducible first|refine gE ?_|refine gR ?_);simp only[zA,simprocAttr])|exact Vn|((with_reducible refine Vz ?_);refine Vo rfl rfl rfl (fun _ _=>rfl) ?_<;>first|rfl|(rw[Mu (by intro h;simp [h] at hg)];rfl)|skip)|((with_reducible refine Vx ?_);simp only[sb,reduceIte,Nat.reduceEqDiff])|(refine hK _ ?_;clear hK K)|refine Vt rfl ?_|refine Vf rfl ?_|refine Vi rfl (fun hg=> ?_) (fun hg=> ?_)|((first|show Program.eqGuardType _ _ _=false|show Xs _ _ _=true|show Program.stoodInHeld _ _=false);kernel_rfl)|clear hK K)
 have hlen:l.length=m'.length:=by
  have h1:((l.length:Int) !=(m'.length:Int))=false:=hg
  simp at h1;omega
 refine V5 ?_
 refine Xse (l.length) (fun i=>(∀j (hj:j<l.length) (hj':j<m'.length),j<i→l[j]=m'[j])) (fun i=>tp [4,5] (tr 14 12 [(13,i64 (i:Int))])) (fun i=>[]) (by intros;omega) ?_ fun i hi=> ?_
 ·refine La rfl ?_ ?_<;>simp only[sL]
 obtain⟨hi,hq⟩:=hi
 simp only[pt]
 refine Vy fun K hK=> ?_
 simp only[zA,simprocAttr]
 repeat' (first|(with_reducible refine hK _ ?_;clear hK K)|with_reducible apply And.intro)
 refine Vk fun KC hKC=> ?_
 refine Uz rfl (fun ht=>Xhj (hKC _ ?_)) (fun hf=>Qi (id ?_))
 rotate_left
 ·simp only[Qd,Z4,if_true]
  refine hK _ ?_
  clear hK K hKC KC
  have h_ib:i=l.length:=by have:=of_decide_eq_false hf;omega
  subst h_ib
  have e:=Ua (l:=l) (m:=m') hlen fun i hi hi'=>hq i hi hi' hi
  rw[e]
  repeat' (first|(with_reducible first|refine Vk fun K hK=> ?_|refine V0 ?_|refine Vb ?_|refine Vc ?_|refine Vr ?_|refine Vs ?_|apply And.intro|refine Vq (by kernel_rfl) ?_)|((with_reducible first|refine gE ?_|refine gR ?_);simp only[zA,simprocAttr])|exact Vn|((with_reducible refine Vz ?_);refine Vo rfl rfl rfl (fun _ _=>rfl) ?_<;>first|rfl|skip)|((with_reducible refine Vx ?_);simp only[sb,reduceIte,Nat.reduceEqDiff])|(refine hK _ ?_;clear hK K)|refine Vt rfl ?_|refine Vf rfl ?_|refine Vi rfl (fun hg=> ?_) (fun hg=> ?_)|((first|show Program.eqGuardType _ _ _=false|show Xs _ _ _=true|show Program.stoodInHeld _ _=false);kernel_rfl)|clear hK K)
 clear hKC KC
 have hlt:i<l.length:=by have:=of_decide_eq_true ht;omega
 refine Vk fun KC hKC=>Xe ?_
 have hlt':i<m'.length:=by omega
 refine Vy fun K hK=> ?_
 simp only[zA,simprocAttr]
 repeat' (first|(with_reducible refine hK _ ?_;clear hK K)|with_reducible apply And.intro)
 refine Vy2 (by kernel_rfl) fun K hK=> ?_
 simp only[zA,simprocAttr,hlt,hlt',Xg jnC l i [] hlt,Xg jnC m' i [] hlt',jnC,Lj]
 repeat' (first|(with_reducible refine hK _ ?_;clear hK K)|with_reducible apply And.intro)
 all_goals first|(decide;done)|kernel_rfl|skip
 refine Uz rfl (fun ht=> ?_) (fun hf=>Xhj ?_)
 ·have e:=Ut (l:=l) (m:=m') hlt hlt' (by simpa using ht)
  refine Vy fun K hK=> ?_
  simp only[zA,simprocAttr]
  repeat' (first|(with_reducible refine hK _ ?_;clear hK K)|with_reducible apply And.intro)
  rw[← e]
  refine Vz ?_
  exact Qv (.inr rfl) rfl rfl rfl (fun _ _=>rfl) rfl
 repeat refine And.intro (by omega) ?_
 refine hKC _ ?_
 clear hKC KC
 refine Xn Xj [] ?_
 simp only[zA,simprocAttr,Yl (n:=i) 1 1 rfl (by omega)]
 refine⟨i+1,⟨by omega,?_⟩,by omega,?_⟩
 ·intro j hj hj' hji
  by_cases h:j=i
  ·subst h;simpa using hf
  ·exact hq j hj hj' (by omega)
 refine La rfl ?_ ?_<;>simp only[sL]
theorem Xgc (l m':List (Int×Int)) (hl:l.length≤1000000000):Xr Tryz.prog 101 [.sl 2 (l.map jnC) .sh,.sl 2 (m'.map jnC) .sh] [] (bool (l==m')) []:=by
 refine Xc 0 Tryz.func101 rfl fun n out _ _=> ?_
 simp only[sn,Tryz.ntmps101,Nat.reduceAdd,Nat.reduceSub]
 repeat' (first|(with_reducible first|refine Vk fun K hK=> ?_|refine V0 ?_|refine Vb ?_|refine Vc ?_|refine Vr ?_|refine Vs ?_|apply And.intro|refine Vq (by kernel_rfl) ?_)|((with_reducible first|refine gE ?_|refine gR ?_);simp only[zA,simprocAttr])|exact Vn|((with_reducible refine Vz ?_);refine Vo rfl rfl rfl (fun _ _=>rfl) ?_<;>first|rfl|(rw[Mu (by intro h;simp [h] at hg)];rfl)|skip)|((with_reducible refine Vx ?_);simp only[sb,reduceIte,Nat.reduceEqDiff])|(refine hK _ ?_;clear hK K)|refine Vt rfl ?_|refine Vf rfl ?_|refine Vi rfl (fun hg=> ?_) (fun hg=> ?_)|((first|show Program.eqGuardType _ _ _=false|show Xs _ _ _=true|show Program.stoodInHeld _ _=false);kernel_rfl)|clear hK K)
 have hlen:l.length=m'.length:=by
  have h1:((l.length:Int) !=(m'.length:Int))=false:=hg
  simp at h1;omega
 refine V5 ?_
 refine Xse (l.length) (fun i=>(∀j (hj:j<l.length) (hj':j<m'.length),j<i→l[j]=m'[j])) (fun i=>tp [4,5] (tr 14 12 [(13,i64 (i:Int))])) (fun i=>[]) (by intros;omega) ?_ fun i hi=> ?_
 ·refine La rfl ?_ ?_<;>simp only[sL]
 obtain⟨hi,hq⟩:=hi
 simp only[pt]
 refine Vy fun K hK=> ?_
 simp only[zA,simprocAttr]
 repeat' (first|(with_reducible refine hK _ ?_;clear hK K)|with_reducible apply And.intro)
 refine Vk fun KC hKC=> ?_
 refine Uz rfl (fun ht=>Xhj (hKC _ ?_)) (fun hf=>Qi (id ?_))
 rotate_left
 ·simp only[Qd,Z4,if_true]
  refine hK _ ?_
  clear hK K hKC KC
  have h_ib:i=l.length:=by have:=of_decide_eq_false hf;omega
  subst h_ib
  have e:=Ua (l:=l) (m:=m') hlen fun i hi hi'=>hq i hi hi' hi
  rw[e]
  repeat' (first|(with_reducible first|refine Vk fun K hK=> ?_|refine V0 ?_|refine Vb ?_|refine Vc ?_|refine Vr ?_|refine Vs ?_|apply And.intro|refine Vq (by kernel_rfl) ?_)|((with_reducible first|refine gE ?_|refine gR ?_);simp only[zA,simprocAttr])|exact Vn|((with_reducible refine Vz ?_);refine Vo rfl rfl rfl (fun _ _=>rfl) ?_<;>first|rfl|skip)|((with_reducible refine Vx ?_);simp only[sb,reduceIte,Nat.reduceEqDiff])|(refine hK _ ?_;clear hK K)|refine Vt rfl ?_|refine Vf rfl ?_|refine Vi rfl (fun hg=> ?_) (fun hg=> ?_)|((first|show Program.eqGuardType _ _ _=false|show Xs _ _ _=true|show Program.stoodInHeld _ _=false);kernel_rfl)|clear hK K)
 clear hKC KC
 have hlt:i<l.length:=by have:=of_decide_eq_true ht;omega
 refine Vk fun KC hKC=>Xe ?_
 have hlt':i<m'.length:=by omega
 refine Vy fun K hK=> ?_
 simp only[zA,simprocAttr]
 repeat' (first|(with_reducible refine hK _ ?_;clear hK K)|with_reducible apply And.intro)
 refine Vy2 (by kernel_rfl) fun K hK=> ?_
 simp only[zA,simprocAttr,hlt,hlt',Xg jnC l i [] hlt,Xg jnC m' i [] hlt',jnC,Lj]
 repeat' (first|(with_reducible refine hK _ ?_;clear hK K)|with_reducible apply And.intro)
 all_goals first|(decide;done)|kernel_rfl|skip
 refine Uz rfl (fun ht=> ?_) (fun hf=>Xhj ?_)
 ·have e:=Ut (l:=l) (m:=m') hlt hlt' (by simpa using ht)
  refine Vy fun K hK=> ?_
  simp only[zA,simprocAttr]
  repeat' (first|(with_reducible refine hK _ ?_;clear hK K)|with_reducible apply And.intro)
  rw[← e]
  refine Vz ?_
  exact Qv (.inr rfl) rfl rfl rfl (fun _ _=>rfl) rfl
 repeat refine And.intro (by omega) ?_
 refine hKC _ ?_
 clear hKC KC
 refine Xn Xj [] ?_
 simp only[zA,simprocAttr,Yl (n:=i) 1 1 rfl (by omega)]
 refine⟨i+1,⟨by omega,?_⟩,by omega,?_⟩
 ·intro j hj hj' hji
  by_cases h:j=i
  ·subst h;simpa using hf
  ·exact hq j hj hj' (by omega)
 refine La rfl ?_ ?_<;>simp only[sL]
theorem Xgd (l m':List (Int×Int×Int)) (hl:l.length≤1000000000):Xr Tryz.prog 103 [.sl 3 (l.map sgC) .sh,.sl 3 (m'.map sgC) .sh] [] (bool (l==m')) []:=by
 refine Xc 0 Tryz.func103 rfl fun n out _ _=> ?_
 simp only[sn,Tryz.ntmps103,Nat.reduceAdd,Nat.reduceSub]
 repeat' (first|(with_reducible first|refine Vk fun K hK=> ?_|refine V0 ?_|refine Vb ?_|refine Vc ?_|refine Vr ?_|refine Vs ?_|apply And.intro|refine Vq (by kernel_rfl) ?_)|((with_reducible first|refine gE ?_|refine gR ?_);simp only[zA,simprocAttr])|exact Vn|((with_reducible refine Vz ?_);refine Vo rfl rfl rfl (fun _ _=>rfl) ?_<;>first|rfl|(rw[Mu (by intro h;simp [h] at hg)];rfl)|skip)|((with_reducible refine Vx ?_);simp only[sb,reduceIte,Nat.reduceEqDiff])|(refine hK _ ?_;clear hK K)|refine Vt rfl ?_|refine Vf rfl ?_|refine Vi rfl (fun hg=> ?_) (fun hg=> ?_)|((first|show Program.eqGuardType _ _ _=false|show Xs _ _ _=true|show Program.stoodInHeld _ _=false);kernel_rfl)|clear hK K)
 have hlen:l.length=m'.length:=by
  have h1:((l.length:Int) !=(m'.length:Int))=false:=hg
  simp at h1;omega
 refine V5 ?_
 refine Xse (l.length) (fun i=>(∀j (hj:j<l.length) (hj':j<m'.length),j<i→l[j]=m'[j])) (fun i=>tp [4,5] (tr 14 12 [(13,i64 (i:Int))])) (fun i=>[]) (by intros;omega) ?_ fun i hi=> ?_
 ·refine La rfl ?_ ?_<;>simp only[sL]
 obtain⟨hi,hq⟩:=hi
 simp only[pt]
 refine Vy fun K hK=> ?_
 simp only[zA,simprocAttr]
 repeat' (first|(with_reducible refine hK _ ?_;clear hK K)|with_reducible apply And.intro)
 refine Vk fun KC hKC=> ?_
 refine Uz rfl (fun ht=>Xhj (hKC _ ?_)) (fun hf=>Qi (id ?_))
 rotate_left
 ·simp only[Qd,Z4,if_true]
  refine hK _ ?_
  clear hK K hKC KC
  have h_ib:i=l.length:=by have:=of_decide_eq_false hf;omega
  subst h_ib
  have e:=Ua (l:=l) (m:=m') hlen fun i hi hi'=>hq i hi hi' hi
  rw[e]
  repeat' (first|(with_reducible first|refine Vk fun K hK=> ?_|refine V0 ?_|refine Vb ?_|refine Vc ?_|refine Vr ?_|refine Vs ?_|apply And.intro|refine Vq (by kernel_rfl) ?_)|((with_reducible first|refine gE ?_|refine gR ?_);simp only[zA,simprocAttr])|exact Vn|((with_reducible refine Vz ?_);refine Vo rfl rfl rfl (fun _ _=>rfl) ?_<;>first|rfl|skip)|((with_reducible refine Vx ?_);simp only[sb,reduceIte,Nat.reduceEqDiff])|(refine hK _ ?_;clear hK K)|refine Vt rfl ?_|refine Vf rfl ?_|refine Vi rfl (fun hg=> ?_) (fun hg=> ?_)|((first|show Program.eqGuardType _ _ _=false|show Xs _ _ _=true|show Program.stoodInHeld _ _=false);kernel_rfl)|clear hK K)
 clear hKC KC
 have hlt:i<l.length:=by have:=of_decide_eq_true ht;omega
 refine Vk fun KC hKC=>Xe ?_
 have hlt':i<m'.length:=by omega
 refine Vy fun K hK=> ?_
 simp only[zA,simprocAttr]
 repeat' (first|(with_reducible refine hK _ ?_;clear hK K)|with_reducible apply And.intro)
 refine Vy2 (by kernel_rfl) fun K hK=> ?_
 simp only[zA,simprocAttr,hlt,hlt',Xg sgC l i [] hlt,Xg sgC m' i [] hlt',sgC,E4]
 repeat' (first|(with_reducible refine hK _ ?_;clear hK K)|with_reducible apply And.intro)
 all_goals first|(decide;done)|kernel_rfl|skip
 refine Uz rfl (fun ht=> ?_) (fun hf=>Xhj ?_)
 ·have e:=Ut (l:=l) (m:=m') hlt hlt' (by simpa using ht)
  refine Vy fun K hK=> ?_
  simp only[zA,simprocAttr]
  repeat' (first|(with_reducible refine hK _ ?_;clear hK K)|with_reducible apply And.intro)
  rw[← e]
  refine Vz ?_
  exact Qv (.inr rfl) rfl rfl rfl (fun _ _=>rfl) rfl
 repeat refine And.intro (by omega) ?_
 refine hKC _ ?_
 clear hKC KC
 refine Xn Xj [] ?_
 simp only[zA,simprocAttr,Yl (n:=i) 1 1 rfl (by omega)]
 refine⟨i+1,⟨by omega,?_⟩,by omega,?_⟩
 ·intro j hj hj' hji
  by_cases h:j=i
  ·subst h;simpa using hf
  ·exact hq j hj hj' (by omega)
 refine La rfl ?_ ?_<;>simp only[sL]
def Fv {α β:Type} (p:α→β→Bool):List α→List β→Bool
 |[],[]=>true
 |x::l,y::m=>p x y&&Fv p l m
 | _,_=>false
theorem Rj {α β:Type} {p:α→β→Bool}:∀{l:List α} {m:List β},l.length≠m.length→Fv p l m=false
 |[],[],h=>(h rfl).elim
 |x::l,y::m,h=>by rw[Fv,Rj (by simpa using h),Bool.and_false]
 |[],_:: _,_=>rfl
 | _:: _,[],_=>rfl
theorem Xo4 {α β:Type} {p:α→β→Bool}:∀{l:List α} {m:List β},l.length=m.length→(∀i (hi:i<l.length) (hi':i<m.length),p l[i] m[i]=true)→Fv p l m=true
 |[],[],_,_=>rfl
 |x::l,y::m,h,hp=>by
  rw[Fv,Xo4 (by simpa using h) fun i hi hi'=>hp (i+1) (by simpa using hi) (by simpa using hi'),Bool.and_true]
  exact hp 0 (by simp) (by simp)
 |[],_:: _,h,_=>by simp at h
 | _:: _,[],h,_=>by simp at h
theorem Xo5 {α β:Type} {p:α→β→Bool}:∀{l:List α} {m:List β} {i:Nat} (hi:i<l.length) (hi':i<m.length),p l[i] m[i]=false→Fv p l m=false
 |x::l,y::m,0,_,_,h=>by
  have h':p x y=false:=h
  simp [Fv,h']
 |x::l,y::m,i+1,hi,hi',h=>by
  have h':=Xo5 (p:=p) (l:=l) (m:=m) (i:=i) (by simpa using hi) (by simpa using hi') h
  simp [Fv,h']
 |[],_,_,hi,_,_=>by simp at hi
 | _:: _,[],_,_,hi',_=>by simp at hi'
theorem Xeq (l m':List (Sec)) (fid:FuncId) (caps:List AV) (p:Sec→Sec→Bool) (hb:Xd Tryz.prog fid=True) (hl:l.length≤1000000000)
  (hp:∀x,x∈l→∀y,y∈m'→Xr Tryz.prog fid (Qh x::Qh y::caps) [] (bool (p x y)) []):
  Xr Tryz.prog 95 [.sl 3 (l.map Y6) .sh,.sl 3 (m'.map Y6) .sh,.fn (.func fid) caps] [] (bool (Fv p l m')) []:=by
 refine Xc 2 Tryz.func95 rfl fun n out _ _=> ?_
 simp only[sn,Tryz.ntmps95,Nat.reduceAdd,Nat.reduceSub]
 repeat' (first|(with_reducible first|refine Vk fun K hK=> ?_|refine V0 ?_|refine Vb ?_|refine Vc ?_|refine Vr ?_|refine Vs ?_|apply And.intro)|((with_reducible first|refine gE ?_|refine gR ?_);simp only[zA,simprocAttr])|exact Vn|((with_reducible refine Vz ?_);refine Vo rfl rfl rfl (fun _ _=>rfl) ?_<;>first|rfl|(rw[Rj (p:=p) (l:=l) (m:=m') (by intro h;simp [h] at hg)];rfl)|skip)|((with_reducible refine Vx ?_);simp only[sb,reduceIte,Nat.reduceEqDiff])|(refine hK _ ?_;clear hK K)|refine Vt rfl ?_|refine Vf rfl ?_|refine Vi rfl (fun hg=> ?_) (fun hg=> ?_)|clear hK K)
 have hlen:l.length=m'.length:=by
  have h1:((l.length:Int) !=(m'.length:Int))=false:=hg
  simp at h1;omega
 refine V5 ?_
 refine Xpw (l.length) (fun i=>(∀j (hj:j<l.length) (hj':j<m'.length),j<i→p l[j] m'[j]=true)) (fun m i=>tr 18 14 (tr 6 4 [(17,i64 (i:Int))])) (fun m i=>[none,none]) (by intros;omega) ?_ fun m i hm hi=> ?_
 ·refine La rfl ?_ ?_<;>simp only[sL]
 obtain⟨hi,hq⟩:=hi
 simp only[pt]
 refine Vy fun K hK=> ?_
 simp only[zA,simprocAttr]
 repeat' (first|(with_reducible refine hK _ ?_;clear hK K)|with_reducible apply And.intro)
 refine Vk fun KC hKC=> ?_
 refine Uz rfl (fun ht=>Xhj (hKC _ ?_)) (fun hf=>Qi (id ?_))
 rotate_left
 ·simp only[Qd,Z4,if_true]
  refine hK _ ?_
  clear hK K hKC KC
  have h_ib:i=l.length:=by have:=of_decide_eq_false hf;omega
  subst h_ib
  have e:=Xo4 (p:=p) hlen fun i hi hi'=>hq i hi hi' hi
  rw[e]
  repeat' (first|(with_reducible first|refine Vk fun K hK=> ?_|refine V0 ?_|refine Vb ?_|refine Vc ?_|refine Vr ?_|refine Vs ?_|apply And.intro)|((with_reducible first|refine gE ?_|refine gR ?_);simp only[zA,simprocAttr])|exact Vn|((with_reducible refine Vz ?_);refine Vo rfl rfl rfl (fun _ _=>rfl) ?_<;>first|rfl|skip)|((with_reducible refine Vx ?_);simp only[sb,reduceIte,Nat.reduceEqDiff])|(refine hK _ ?_;clear hK K)|refine Vt rfl ?_|refine Vf rfl ?_|refine Vi rfl (fun hg=> ?_) (fun hg=> ?_)|clear hK K)
 clear hKC KC
 have hlt:i<l.length:=by have:=of_decide_eq_true ht;omega
 refine Vk fun KC hKC=>Xe ?_
 have hlt':i<m'.length:=by omega
 refine Vy fun K hK=> ?_
 simp only[zA,simprocAttr,Xi hm,hlt,Xg Y6 l i [] hlt,X0,Y6]
 repeat' (first|(with_reducible refine hK _ ?_;clear hK K)|with_reducible apply And.intro)
 refine Vy fun K hK=> ?_
 simp only[zA,simprocAttr,Xi hm,hlt',Xg Y6 m' i [] hlt',X0,Y6]
 repeat' (first|(with_reducible refine hK _ ?_;clear hK K)|with_reducible apply And.intro)
 refine Vy fun K hK=> ?_
 simp only[zA,simprocAttr,Xi hm,hb]
 repeat' (first|(with_reducible refine hK _ ?_;clear hK K)|with_reducible apply And.intro)
 refine X3 (hp _ (List.getElem_mem hlt) _ (List.getElem_mem hlt')) ?_
 simp only[zA,simprocAttr]
 repeat' (first|(with_reducible refine hK _ ?_;clear hK K)|with_reducible apply And.intro)
 refine Uz rfl (fun ht=> ?_) (fun hf=>Xhj ?_)
 ·have e:=Xo5 hlt hlt' (by simpa using ht)
  refine Vy fun K hK=> ?_
  simp only[zA,simprocAttr]
  repeat' (first|(with_reducible refine hK _ ?_;clear hK K)|with_reducible apply And.intro)
  rw[← e]
  refine Vz ?_
  exact Qv (.inr rfl) rfl rfl rfl (fun _ _=>rfl) rfl
 repeat refine And.intro (by omega) ?_
 refine hKC _ ?_
 clear hKC KC
 refine Xn Xj [] ?_
 simp only[zA,simprocAttr,Yl (n:=i) 1 1 rfl (by omega)]
 refine⟨i+1,⟨by omega,?_⟩,by omega,?_⟩
 ·intro j hj hj' hji
  by_cases h:j=i
  ·subst h;simpa using hf
  ·exact hq j hj hj' (by omega)
 refine Xx [false,false] ?_ ?_<;>intro n_<;>simp only[sM]
theorem Xf0 (l m':List (Rt)) (fid:FuncId) (caps:List AV) (p:Rt→Rt→Bool) (hb:Xd Tryz.prog fid=True) (hl:l.length≤1000000000)
  (hp:∀x,x∈l→∀y,y∈m'→Xr Tryz.prog fid (rtA x::rtA y::caps) [] (bool (p x y)) []):
  Xr Tryz.prog 98 [.sl 7 (l.map rtC) .sh,.sl 7 (m'.map rtC) .sh,.fn (.func fid) caps] [] (bool (Fv p l m')) []:=by
 refine Xc 2 Tryz.func98 rfl fun n out _ _=> ?_
 simp only[sn,Tryz.ntmps98,Nat.reduceAdd,Nat.reduceSub]
 repeat' (first|(with_reducible first|refine Vk fun K hK=> ?_|refine V0 ?_|refine Vb ?_|refine Vc ?_|refine Vr ?_|refine Vs ?_|apply And.intro)|((with_reducible first|refine gE ?_|refine gR ?_);simp only[zA,simprocAttr])|exact Vn|((with_reducible refine Vz ?_);refine Vo rfl rfl rfl (fun _ _=>rfl) ?_<;>first|rfl|(rw[Rj (p:=p) (l:=l) (m:=m') (by intro h;simp [h] at hg)];rfl)|skip)|((with_reducible refine Vx ?_);simp only[sb,reduceIte,Nat.reduceEqDiff])|(refine hK _ ?_;clear hK K)|refine Vt rfl ?_|refine Vf rfl ?_|refine Vi rfl (fun hg=> ?_) (fun hg=> ?_)|clear hK K)
 have hlen:l.length=m'.length:=by
  have h1:((l.length:Int) !=(m'.length:Int))=false:=hg
  simp at h1;omega
 refine V5 ?_
 refine Xpw (l.length) (fun i=>(∀j (hj:j<l.length) (hj':j<m'.length),j<i→p l[j] m'[j]=true)) (fun m i=>tr 18 14 (tr 6 4 [(17,i64 (i:Int))])) (fun m i=>[none,none]) (by intros;omega) ?_ fun m i hm hi=> ?_
 ·refine La rfl ?_ ?_<;>simp only[sL]
 obtain⟨hi,hq⟩:=hi
 simp only[pt]
 refine Vy fun K hK=> ?_
 simp only[zA,simprocAttr]
 repeat' (first|(with_reducible refine hK _ ?_;clear hK K)|with_reducible apply And.intro)
 refine Vk fun KC hKC=> ?_
 refine Uz rfl (fun ht=>Xhj (hKC _ ?_)) (fun hf=>Qi (id ?_))
 rotate_left
 ·simp only[Qd,Z4,if_true]
  refine hK _ ?_
  clear hK K hKC KC
  have h_ib:i=l.length:=by have:=of_decide_eq_false hf;omega
  subst h_ib
  have e:=Xo4 (p:=p) hlen fun i hi hi'=>hq i hi hi' hi
  rw[e]
  repeat' (first|(with_reducible first|refine Vk fun K hK=> ?_|refine V0 ?_|refine Vb ?_|refine Vc ?_|refine Vr ?_|refine Vs ?_|apply And.intro)|((with_reducible first|refine gE ?_|refine gR ?_);simp only[zA,simprocAttr])|exact Vn|((with_reducible refine Vz ?_);refine Vo rfl rfl rfl (fun _ _=>rfl) ?_<;>first|rfl|skip)|((with_reducible refine Vx ?_);simp only[sb,reduceIte,Nat.reduceEqDiff])|(refine hK _ ?_;clear hK K)|refine Vt rfl ?_|refine Vf rfl ?_|refine Vi rfl (fun hg=> ?_) (fun hg=> ?_)|clear hK K)
 clear hKC KC
 have hlt:i<l.length:=by have:=of_decide_eq_true ht;omega
 refine Vk fun KC hKC=>Xe ?_
 have hlt':i<m'.length:=by omega
 refine Vy fun K hK=> ?_
 simp only[zA,simprocAttr,Xi hm,hlt,Xg rtC l i [] hlt,X0,rtC]
 repeat' (first|(with_reducible refine hK _ ?_;clear hK K)|with_reducible apply And.intro)
 refine Vy fun K hK=> ?_
 simp only[zA,simprocAttr,Xi hm,hlt',Xg rtC m' i [] hlt',X0,rtC]
 repeat' (first|(with_reducible refine hK _ ?_;clear hK K)|with_reducible apply And.intro)
 refine Vy fun K hK=> ?_
 simp only[zA,simprocAttr,Xi hm,hb]
 repeat' (first|(with_reducible refine hK _ ?_;clear hK K)|with_reducible apply And.intro)
 refine X3 (hp _ (List.getElem_mem hlt) _ (List.getElem_mem hlt')) ?_
 simp only[zA,simprocAttr]
 repeat' (first|(with_reducible refine hK _ ?_;clear hK K)|with_reducible apply And.intro)
 refine Uz rfl (fun ht=> ?_) (fun hf=>Xhj ?_)
 ·have e:=Xo5 hlt hlt' (by simpa using ht)
  refine Vy fun K hK=> ?_
  simp only[zA,simprocAttr]
  repeat' (first|(with_reducible refine hK _ ?_;clear hK K)|with_reducible apply And.intro)
  rw[← e]
  refine Vz ?_
  exact Qv (.inr rfl) rfl rfl rfl (fun _ _=>rfl) rfl
 repeat refine And.intro (by omega) ?_
 refine hKC _ ?_
 clear hKC KC
 refine Xn Xj [] ?_
 simp only[zA,simprocAttr,Yl (n:=i) 1 1 rfl (by omega)]
 refine⟨i+1,⟨by omega,?_⟩,by omega,?_⟩
 ·intro j hj hj' hji
  by_cases h:j=i
  ·subst h;simpa using hf
  ·exact hq j hj hj' (by omega)
 refine Xx [false,false] ?_ ?_<;>intro n_<;>simp only[sM]
end Go.Proofs.YtdngdjbgmojcoaaGreat.Pln
