/- The layer of abstract values, joined. -/
import Derived.Test.YtdngdjbgmojcoaaGreatZPR
import Derived.Test.YtdngdjbgmojcoaaGreatZPN
namespace Go.Proofs.YtdngdjbgmojcoaaGreat.Pln
set_option linter.unusedVariables false
set_option linter.unusedSimpArgs false
open Go Go.VS Tab
set_option maxHeartbeats 4000000
set_option maxRecDepth 4000
theorem Re (x:Int×Int):Xr Tryz.prog 181 [jnA x] [] (i64 (x.1)) []:=by
 refine Xc 2 Tryz.func181 rfl fun n out _ _=> ?_
 simp only[sn,Tryz.ntmps181,Nat.reduceAdd,Nat.reduceSub]
 repeat' (first|(with_reducible first|refine Vk fun K hK=> ?_|refine V0 ?_|refine Vb ?_)|((with_reducible refine gE ?_);simp only[zA,simprocAttr,jnA,jnC,X0,Qj])|((with_reducible refine Vz ?_);refine Vo rfl rfl rfl (fun _ _=>rfl) ?_<;>first|rfl|skip)|(refine hK _ ?_;clear hK K)|refine Vt rfl ?_)
theorem Rg (x:Int×Int×Int):Xr Tryz.prog 183 [sgA x] [] (i64 (x.1)) []:=by
 refine Xc 2 Tryz.func183 rfl fun n out _ _=> ?_
 simp only[sn,Tryz.ntmps183,Nat.reduceAdd,Nat.reduceSub]
 repeat' (first|(with_reducible first|refine Vk fun K hK=> ?_|refine V0 ?_|refine Vb ?_)|((with_reducible refine gE ?_);simp only[zA,simprocAttr,sgA,sgC,X0,Qj])|((with_reducible refine Vz ?_);refine Vo rfl rfl rfl (fun _ _=>rfl) ?_<;>first|rfl|skip)|(refine hK _ ?_;clear hK K)|refine Vt rfl ?_|refine Vf rfl ?_)
theorem Bo (x:Rt):Xr Tryz.prog 142 [rtA x] [] (i64 (x.id)) []:=by
 refine Xc 2 Tryz.func142 rfl fun n out _ _=> ?_
 simp only[sn,Tryz.ntmps142,Nat.reduceAdd,Nat.reduceSub]
 repeat' (first|(with_reducible first|refine Vk fun K hK=> ?_|refine V0 ?_|refine Vb ?_)|((with_reducible refine gE ?_);simp only[zA,simprocAttr,rtA,rtC,X0,Qj])|((with_reducible refine Vz ?_);refine Vo rfl rfl rfl (fun _ _=>rfl) ?_<;>first|rfl|skip)|(refine hK _ ?_;clear hK K)|refine Vt rfl ?_|refine Vf rfl ?_)
theorem Lh {l:List Int} {i:Nat} (hi:i<l.length) (hq:∀j (hj:j<l.length),j<i→Ye (l.take j) l[j]=true):Ye (l.take i) l[i]=(Uk l[i]&&(decide (i=0)||decide ((l[i - 1]'(by omega))<l[i]))):=by
 have e:=Bs (fun x:Int=>x) l i hi fun j hj k hk=>by
  have:=hq j (by omega) hj
  simp only[Ye,Bool.and_eq_true,List.all_eq_true,decide_eq_true_eq] at this
  exact this.2 _ (Z8 hk (by omega))
 unfold Ye
 rw[e]
theorem Gy (l:List (Int×Int)) (most:Int) (hl:l.length≤1000000):Xr Tryz.prog 137 [.sl 2 (l.map jnC) .sh,i64 most] [] (bool (Ue Ye (l.map (fun x:Int×Int=>x.1))&&decide ((l.length:Int)≤most))) []:=by
 refine Xc 1 Tryz.func137 rfl fun n out _ _=> ?_
 simp only[sn,Tryz.ntmps137,Nat.reduceAdd,Nat.reduceSub]
 repeat' (first|(with_reducible first|refine Vk fun K hK=> ?_|refine V0 ?_)|((with_reducible refine gE ?_);simp only[zA,simprocAttr])|(refine hK _ ?_;clear hK K))
 refine V5 ?_
 refine Xpw (l.length) (fun i=>(∀j (hj:j<(l.map (fun x:Int×Int=>x.1)).length),j<i→Ye ((l.map (fun x:Int×Int=>x.1)).take j) (l.map (fun x:Int×Int=>x.1))[j]=true)) (fun m i=>tr 11 27 (tr 4 4 [(10,i64 (i:Int))])) (fun m i=>[none]) (by intros;omega) ?_ fun m i hm hi=> ?_
 ·refine X2 ?_ ?_ (by first|rfl|(simp only[List.length_map];rfl)|simp only[List.length_map]) rfl rfl rfl<;>simp only[sL]
 obtain⟨hi,hq⟩:=hi
 simp only[pt]
 have hw:=Yl (n:=i) 1 1 rfl (by omega)
 by_cases hlt:i<l.length
 ·have gi:=Xg jnC l i [] hlt
  have hltm:i<(l.map (fun x:Int×Int=>x.1)).length:=by simpa using hlt
  have key:=Lh hltm hq
  rw[show(l.map (fun x:Int×Int=>x.1))[i]=l[i].1 by simp,show(l.map (fun x:Int×Int=>x.1))[i - 1]'(by omega)=(l[i - 1]'(by omega)).1 by simp] at key
  have next:Ye ((l.map (fun x:Int×Int=>x.1)).take i) l[i].1=true→∀j (hj:j<(l.map (fun x:Int×Int=>x.1)).length),j<i+1→Ye ((l.map (fun x:Int×Int=>x.1)).take j) (l.map (fun x:Int×Int=>x.1))[j]=true:=fun h j hj hji=>by
   by_cases h':j=i
   ·subst h';rw[show(l.map (fun x:Int×Int=>x.1))[j]=l[j].1 by simp];exact h
   ·exact hq j hj (by omega)
  have bad:Ye ((l.map (fun x:Int×Int=>x.1)).take i) l[i].1=false→Ue Ye (l.map (fun x:Int×Int=>x.1))=false:=fun h=>Yz hltm (by rw[show(l.map (fun x:Int×Int=>x.1))[i]=l[i].1 by simp];exact h)
  by_cases h0:i=0
  ·have hd0:decide ((i:Int)>0)=false:=decide_eq_false (by omega)
   rw[decide_eq_true h0,Bool.true_or,Bool.and_true] at key
   repeat' (first|(with_reducible first|refine Vk fun K hK=> ?_|refine V0 ?_|refine Vb ?_|refine Vs ?_)|((with_reducible first|refine gE ?_|refine gR ?_);simp only[zA,simprocAttr,Xi hm,hlt,gi,jnC,X0,hw])|((with_reducible refine Vz ?_);refine Vo rfl rfl rfl (fun _ _=>rfl) ?_<;>first|rfl|(rw[bad (by rw[key];simp [Uk] at*;omega)];rfl)|skip)|(refine X3 (Re l[i]) ?_)|((with_reducible refine Vg (fun hg=> ?_) (fun hg=> ?_))<;>(try simp only[nb] at hg)<;>simp only[zA,simprocAttr,hg,hd0])|(refine hK _ ?_;clear hK K)|refine Vt rfl ?_|refine Vf rfl ?_|clear hK K)
   refine⟨i+1,⟨by omega,fun j hj=>next (by rw[key];simp [Uk] at*;omega) j (by simpa using hj)⟩,by omega,?_⟩
   refine Xx [false] ?_ ?_<;>intro n_<;>simp only[sM]
  ·have hd0:decide ((i:Int)>0)=true:=decide_eq_true (by omega)
   have hs1:=X25 (n:=i) 1 1 rfl (by omega) (by omega)
   have hl1:i - 1<l.length:=by omega
   have g1:=Xg jnC l (i - 1) [] hl1
   rw[decide_eq_false h0,Bool.false_or] at key
   repeat' (first|(with_reducible first|refine Vk fun K hK=> ?_|refine V0 ?_|refine Vb ?_|refine Vs ?_)|((with_reducible first|refine gE ?_|refine gR ?_);simp only[zA,simprocAttr,Xi hm,hlt,gi,jnC,X0,hw])|((with_reducible refine Vz ?_);refine Vo rfl rfl rfl (fun _ _=>rfl) ?_<;>first|rfl|(rw[bad (by rw[key];simp [Uk] at*;omega)];rfl)|skip)|(refine X3 (Re l[i]) ?_)|(refine X3 (Re l[i - 1]) ?_)|((with_reducible refine Vg (fun hg=> ?_) (fun hg=> ?_))<;>(try simp only[nb] at hg)<;>simp only[zA,simprocAttr,hg,jnC,hd0,hs1,hl1,g1])|(refine hK _ ?_;clear hK K)|refine Vt rfl ?_|refine Vi rfl (fun hg=> ?_) (fun hg=> ?_)|clear hK K)
   refine⟨i+1,⟨by omega,fun j hj=>next (by rw[key];simp [Uk] at*;omega) j (by simpa using hj)⟩,by omega,?_⟩
   refine Xx [false] ?_ ?_<;>intro n_<;>simp only[sM]
 ·have hall:=Q3 (f:=Ye) (l:=l.map (fun x:Int×Int=>x.1)) fun j hj=>hq j hj (by simp at hj;omega)
  repeat' (first|(with_reducible first|refine Vk fun K hK=> ?_|refine V0 ?_)|((with_reducible refine gE ?_);simp only[zA,simprocAttr,hlt])|((with_reducible refine Vz ?_);refine Vo rfl rfl rfl (fun _ _=>rfl) ?_<;>first|rfl|(rw[hall,Bool.true_and];rfl)|skip)|((with_reducible refine Vx ?_);simp only[sb])|(refine hK _ ?_;clear hK K)|refine Vf rfl ?_|clear hK K)
theorem Gz (l:List (Int×Int×Int)) (most:Int) (hl:l.length≤1000000):Xr Tryz.prog 140 [.sl 3 (l.map sgC) .sh,i64 most] [] (bool (Ue Ye (l.map (fun x:Int×Int×Int=>x.1))&&decide ((l.length:Int)≤most))) []:=by
 refine Xc 1 Tryz.func140 rfl fun n out _ _=> ?_
 simp only[sn,Tryz.ntmps140,Nat.reduceAdd,Nat.reduceSub]
 repeat' (first|(with_reducible first|refine Vk fun K hK=> ?_|refine V0 ?_)|((with_reducible refine gE ?_);simp only[zA,simprocAttr])|(refine hK _ ?_;clear hK K))
 refine V5 ?_
 refine Xpw (l.length) (fun i=>(∀j (hj:j<(l.map (fun x:Int×Int×Int=>x.1)).length),j<i→Ye ((l.map (fun x:Int×Int×Int=>x.1)).take j) (l.map (fun x:Int×Int×Int=>x.1))[j]=true)) (fun m i=>tr 11 27 (tr 4 4 [(10,i64 (i:Int))])) (fun m i=>[none]) (by intros;omega) ?_ fun m i hm hi=> ?_
 ·refine X2 ?_ ?_ (by first|rfl|(simp only[List.length_map];rfl)|simp only[List.length_map]) rfl rfl rfl<;>simp only[sL]
 obtain⟨hi,hq⟩:=hi
 simp only[pt]
 have hw:=Yl (n:=i) 1 1 rfl (by omega)
 by_cases hlt:i<l.length
 ·have gi:=Xg sgC l i [] hlt
  have hltm:i<(l.map (fun x:Int×Int×Int=>x.1)).length:=by simpa using hlt
  have key:=Lh hltm hq
  rw[show(l.map (fun x:Int×Int×Int=>x.1))[i]=l[i].1 by simp,show(l.map (fun x:Int×Int×Int=>x.1))[i - 1]'(by omega)=(l[i - 1]'(by omega)).1 by simp] at key
  have next:Ye ((l.map (fun x:Int×Int×Int=>x.1)).take i) l[i].1=true→∀j (hj:j<(l.map (fun x:Int×Int×Int=>x.1)).length),j<i+1→Ye ((l.map (fun x:Int×Int×Int=>x.1)).take j) (l.map (fun x:Int×Int×Int=>x.1))[j]=true:=fun h j hj hji=>by
   by_cases h':j=i
   ·subst h';rw[show(l.map (fun x:Int×Int×Int=>x.1))[j]=l[j].1 by simp];exact h
   ·exact hq j hj (by omega)
  have bad:Ye ((l.map (fun x:Int×Int×Int=>x.1)).take i) l[i].1=false→Ue Ye (l.map (fun x:Int×Int×Int=>x.1))=false:=fun h=>Yz hltm (by rw[show(l.map (fun x:Int×Int×Int=>x.1))[i]=l[i].1 by simp];exact h)
  by_cases h0:i=0
  ·have hd0:decide ((i:Int)>0)=false:=decide_eq_false (by omega)
   rw[decide_eq_true h0,Bool.true_or,Bool.and_true] at key
   repeat' (first|(with_reducible first|refine Vk fun K hK=> ?_|refine V0 ?_|refine Vb ?_|refine Vs ?_)|((with_reducible first|refine gE ?_|refine gR ?_);simp only[zA,simprocAttr,Xi hm,hlt,gi,sgC,X0,hw])|((with_reducible refine Vz ?_);refine Vo rfl rfl rfl (fun _ _=>rfl) ?_<;>first|rfl|(rw[bad (by rw[key];simp [Uk] at*;omega)];rfl)|skip)|(refine X3 (Rg l[i]) ?_)|((with_reducible refine Vg (fun hg=> ?_) (fun hg=> ?_))<;>(try simp only[nb] at hg)<;>simp only[zA,simprocAttr,hg,hd0])|(refine hK _ ?_;clear hK K)|refine Vt rfl ?_|refine Vf rfl ?_|clear hK K)
   refine⟨i+1,⟨by omega,fun j hj=>next (by rw[key];simp [Uk] at*;omega) j (by simpa using hj)⟩,by omega,?_⟩
   refine Xx [false] ?_ ?_<;>intro n_<;>simp only[sM]
  ·have hd0:decide ((i:Int)>0)=true:=decide_eq_true (by omega)
   have hs1:=X25 (n:=i) 1 1 rfl (by omega) (by omega)
   have hl1:i - 1<l.length:=by omega
   have g1:=Xg sgC l (i - 1) [] hl1
   rw[decide_eq_false h0,Bool.false_or] at key
   repeat' (first|(with_reducible first|refine Vk fun K hK=> ?_|refine V0 ?_|refine Vb ?_|refine Vs ?_)|((with_reducible first|refine gE ?_|refine gR ?_);simp only[zA,simprocAttr,Xi hm,hlt,gi,sgC,X0,hw])|((with_reducible refine Vz ?_);refine Vo rfl rfl rfl (fun _ _=>rfl) ?_<;>first|rfl|(rw[bad (by rw[key];simp [Uk] at*;omega)];rfl)|skip)|(refine X3 (Rg l[i]) ?_)|(refine X3 (Rg l[i - 1]) ?_)|((with_reducible refine Vg (fun hg=> ?_) (fun hg=> ?_))<;>(try simp only[nb] at hg)<;>simp only[zA,simprocAttr,hg,sgC,hd0,hs1,hl1,g1])|(refine hK _ ?_;clear hK K)|refine Vt rfl ?_|refine Vi rfl (fun hg=> ?_) (fun hg=> ?_)|clear hK K)
   refine⟨i+1,⟨by omega,fun j hj=>next (by rw[key];simp [Uk] at*;omega) j (by simpa using hj)⟩,by omega,?_⟩
   refine Xx [false] ?_ ?_<;>intro n_<;>simp only[sM]
 ·have hall:=Q3 (f:=Ye) (l:=l.map (fun x:Int×Int×Int=>x.1)) fun j hj=>hq j hj (by simp at hj;omega)
  repeat' (first|(with_reducible first|refine Vk fun K hK=> ?_|refine V0 ?_)|((with_reducible refine gE ?_);simp only[zA,simprocAttr,hlt])|((with_reducible refine Vz ?_);refine Vo rfl rfl rfl (fun _ _=>rfl) ?_<;>first|rfl|(rw[hall,Bool.true_and];rfl)|skip)|((with_reducible refine Vx ?_);simp only[sb])|(refine hK _ ?_;clear hK K)|refine Vf rfl ?_|clear hK K)
theorem H0 (l:List (Rt)) (most:Int) (hl:l.length≤1000000):Xr Tryz.prog 80 [.sl 7 (l.map rtC) .sh,i64 most] [] (bool (Ue Ye (l.map Rt.id)&&decide ((l.length:Int)≤most))) []:=by
 refine Xc 1 Tryz.func80 rfl fun n out _ _=> ?_
 simp only[sn,Tryz.ntmps80,Nat.reduceAdd,Nat.reduceSub]
 repeat' (first|(with_reducible first|refine Vk fun K hK=> ?_|refine V0 ?_)|((with_reducible refine gE ?_);simp only[zA,simprocAttr])|(refine hK _ ?_;clear hK K))
 refine V5 ?_
 refine Xpw (l.length) (fun i=>(∀j (hj:j<(l.map Rt.id).length),j<i→Ye ((l.map Rt.id).take j) (l.map Rt.id)[j]=true)) (fun m i=>tr 11 27 (tr 4 4 [(10,i64 (i:Int))])) (fun m i=>[none]) (by intros;omega) ?_ fun m i hm hi=> ?_
 ·refine X2 ?_ ?_ (by first|rfl|(simp only[List.length_map];rfl)|simp only[List.length_map]) rfl rfl rfl<;>simp only[sL]
 obtain⟨hi,hq⟩:=hi
 simp only[pt]
 have hw:=Yl (n:=i) 1 1 rfl (by omega)
 by_cases hlt:i<l.length
 ·have gi:=Xg rtC l i [] hlt
  have hltm:i<(l.map Rt.id).length:=by simpa using hlt
  have key:=Lh hltm hq
  rw[show(l.map Rt.id)[i]=l[i].id by simp,show(l.map Rt.id)[i - 1]'(by omega)=(l[i - 1]'(by omega)).id by simp] at key
  have next:Ye ((l.map Rt.id).take i) l[i].id=true→∀j (hj:j<(l.map Rt.id).length),j<i+1→Ye ((l.map Rt.id).take j) (l.map Rt.id)[j]=true:=fun h j hj hji=>by
   by_cases h':j=i
   ·subst h';rw[show(l.map Rt.id)[j]=l[j].id by simp];exact h
   ·exact hq j hj (by omega)
  have bad:Ye ((l.map Rt.id).take i) l[i].id=false→Ue Ye (l.map Rt.id)=false:=fun h=>Yz hltm (by rw[show(l.map Rt.id)[i]=l[i].id by simp];exact h)
  by_cases h0:i=0
  ·have hd0:decide ((i:Int)>0)=false:=decide_eq_false (by omega)
   rw[decide_eq_true h0,Bool.true_or,Bool.and_true] at key
   repeat' (first|(with_reducible first|refine Vk fun K hK=> ?_|refine V0 ?_|refine Vb ?_|refine Vs ?_)|((with_reducible first|refine gE ?_|refine gR ?_);simp only[zA,simprocAttr,Xi hm,hlt,gi,rtC,X0,hw])|((with_reducible refine Vz ?_);refine Vo rfl rfl rfl (fun _ _=>rfl) ?_<;>first|rfl|(rw[bad (by rw[key];simp [Uk] at*;omega)];rfl)|skip)|(refine X3 (Bo l[i]) ?_)|((with_reducible refine Vg (fun hg=> ?_) (fun hg=> ?_))<;>(try simp only[nb] at hg)<;>simp only[zA,simprocAttr,hg,hd0])|(refine hK _ ?_;clear hK K)|refine Vt rfl ?_|refine Vf rfl ?_|clear hK K)
   refine⟨i+1,⟨by omega,fun j hj=>next (by rw[key];simp [Uk] at*;omega) j (by simpa using hj)⟩,by omega,?_⟩
   refine Xx [false] ?_ ?_<;>intro n_<;>simp only[sM]
  ·have hd0:decide ((i:Int)>0)=true:=decide_eq_true (by omega)
   have hs1:=X25 (n:=i) 1 1 rfl (by omega) (by omega)
   have hl1:i - 1<l.length:=by omega
   have g1:=Xg rtC l (i - 1) [] hl1
   rw[decide_eq_false h0,Bool.false_or] at key
   repeat' (first|(with_reducible first|refine Vk fun K hK=> ?_|refine V0 ?_|refine Vb ?_|refine Vs ?_)|((with_reducible first|refine gE ?_|refine gR ?_);simp only[zA,simprocAttr,Xi hm,hlt,gi,rtC,X0,hw])|((with_reducible refine Vz ?_);refine Vo rfl rfl rfl (fun _ _=>rfl) ?_<;>first|rfl|(rw[bad (by rw[key];simp [Uk] at*;omega)];rfl)|skip)|(refine X3 (Bo l[i]) ?_)|(refine X3 (Bo l[i - 1]) ?_)|((with_reducible refine Vg (fun hg=> ?_) (fun hg=> ?_))<;>(try simp only[nb] at hg)<;>simp only[zA,simprocAttr,hg,rtC,hd0,hs1,hl1,g1])|(refine hK _ ?_;clear hK K)|refine Vt rfl ?_|refine Vi rfl (fun hg=> ?_) (fun hg=> ?_)|clear hK K)
   refine⟨i+1,⟨by omega,fun j hj=>next (by rw[key];simp [Uk] at*;omega) j (by simpa using hj)⟩,by omega,?_⟩
   refine Xx [false] ?_ ?_<;>intro n_<;>simp only[sM]
 ·have hall:=Q3 (f:=Ye) (l:=l.map Rt.id) fun j hj=>hq j hj (by simp at hj;omega)
  repeat' (first|(with_reducible first|refine Vk fun K hK=> ?_|refine V0 ?_)|((with_reducible refine gE ?_);simp only[zA,simprocAttr,hlt])|((with_reducible refine Vz ?_);refine Vo rfl rfl rfl (fun _ _=>rfl) ?_<;>first|rfl|(rw[hall,Bool.true_and];rfl)|skip)|((with_reducible refine Vx ?_);simp only[sb])|(refine hK _ ?_;clear hK K)|refine Vf rfl ?_|clear hK K)
end Go.Proofs.YtdngdjbgmojcoaaGreat.Pln
