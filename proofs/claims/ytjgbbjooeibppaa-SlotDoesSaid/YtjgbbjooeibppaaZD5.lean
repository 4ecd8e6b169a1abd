/- The layer of abstract values, joined. -/
import Derived.Test.YtjgbbjooeibppaaZD2
namespace Go.Proofs.Ytjgbbjooeibppaa
set_option linter.unusedSimpArgs false
set_option linter.unusedVariables false
set_option maxHeartbeats 1000000
set_option maxRecDepth 4000
open Go Go.VS Tab
theorem Xua {α β:Type} (g:α→β) (l:List α) (i:Nat) (h:i<l.length):(l.take i).map g++[g l[i]]=(l.take (i+1)).map g:=by
 rw[List.take_succ_eq_append_getElem h,List.map_append];rfl
theorem Xm6 (k:Nat) (l:List Wr) (fid:FuncId) (caps:List AV) (val:Wr→AV) (g:Wr→List AV) (hb:Xd Try.prog fid=True) (hl:l.length≤1000000)
  (hg:∀x,(val x).parts=some (g x)) (hgl:∀x,(g x).length=1) (hp:∀x,x∈l→Xr Try.prog fid (wrA x::caps) [] (val x) []):
  Xr Try.prog 84 [.sl 2 (l.map wrC) .sh,.fn (.func fid) caps] [(k,none)] (.sl 1 (l.map g) (.own k)) [(k,.row 44 1 l.length)]:=by
 refine Xc 1 Try.func84 rfl fun n out _ _=> ?_
 simp only[Try.ntmps84,List.length_cons,List.length_nil,List.length_map,List.length_replicate,Xf,Nat.reduceAdd,Nat.reduceSub,List.replicate,List.cons_append,List.nil_append]
 rename_i hneeds hgv
 obtain⟨hk,_⟩:=hneeds
 obtain⟨hkn,_⟩:=hgv
 refine X9 fun K hK=>Xn Xj [] ?_
 simp (maxSteps:=9^7) only[ss,X1,tab,simprocAttr, -List.reduceReplicate]
 (refine hK _ ?_;clear hK K)
 refine X9 fun KB hKB=> ?_
 refine X9 fun K hK=>Xn Xj [] ?_
 simp (maxSteps:=9^7) only[ss,X1,tab,simprocAttr, -List.reduceReplicate]
 (refine hK _ ?_;clear hK K)
 refine Yy (X3x (k:=k) 44 1 (by rw[X7 hkn];trivial) (by rw[X8 hkn];exact hk)) ?_
 rw[X79 hkn]
 refine Xe ?_
 refine Xl (fun m (i:Nat)=>[(9,i64 (i:Int)),(4,.sl 1 ((l.take i).map g) (.own k)),(6,.top),(10,.top),(11,.top),(12,.top),(13,.top),(14,.top),(15,.top),(16,.top),(17,.top),(18,.top),(19,.top)]) (fun m i=>[none]) (fun i=>Xw out k (.row 44 1 i)) (fun i=>i≤l.length) (fun i=>l.length - i) 0 (Nat.zero_le _) ?_ fun m i hm hi=> ?_
 ·refine X2 ?_ ?_ (by first|rfl|(simp only[List.take_zero,List.map_nil];rfl)|simp only[List.take_zero,List.map_nil]) rfl rfl rfl<;>simp only[X4,sl,List.take_zero,List.map_nil]
 simp only[X4,s_0,s_s]
 refine X9 fun K hK=>Xn Xj [] ?_
 simp (maxSteps:=9^7) only[ss,X1,tab,simprocAttr, -List.reduceReplicate,List.take_zero,List.map_nil]
 (refine hK _ ?_;clear hK K)
 refine X9 fun KC hKC=> ?_
 refine Uz rfl (fun ht=>Xhj (hKC _ ?_)) (fun hf=>Qi (id ?_))
 rotate_left
 ·simp only[Qd,Z4,if_true]
  refine hKB _ ?_
  clear hKB KB hKC KC
  have h_ib:i=l.length:=by have:=of_decide_eq_false hf;omega
  subst h_ib
  rw[List.take_length]
  refine Yd ?_
  exact Qv (.inr rfl) rfl rfl rfl (fun _ _=>rfl) rfl
 clear hKC KC
 have hlt:i<l.length:=by have:=of_decide_eq_true ht;omega
 refine X9 fun KC hKC=>Xe ?_
 refine X9 fun K hK=>Xn Xj [] ?_
 simp (maxSteps:=9^7) only[ss,X1,tab,simprocAttr, -List.reduceReplicate,Xi hm,hlt,List.length_map,Xg wrC l i [] hlt,X0,wrC]
 (refine hK _ ?_;clear hK K)
 have lit:∀(σ:AState) (K:AV→List (Nat×Res)→Prop),X1 tab σ K none 40 1 [(0,val l[i])]=K (.sl 1 [g l[i]] .full) []:=fun σ K=>Yk (T:=tab) (ti:=ti40) (te:=ti44) rfl rfl rfl (by decide) (by decide) (hg _) (hgl _)
 refine Xn Xj [] ?_
 simp (maxSteps:=9^7) only[ss,tab,simprocAttr, -List.reduceReplicate,Xi hm,hb]
 refine X3 (hp _ (List.getElem_mem hlt)) ?_
 simp (maxSteps:=9^7) only[ss,tab,simprocAttr, -List.reduceReplicate,Xi hm,lit,X8 hkn,X7 hkn,Cz hkn,Xt,Jp,List.length_map,List.length_take,Nat.min_eq_left hi,show(i+1)≤140737488355328 by omega,show i+1≤9223372036854775807 by omega,Xua g l i hlt]
 repeat refine And.intro (by omega) ?_
 refine hKC _ ?_
 clear hKC KC
 refine Xn Xj [] ?_
 simp (maxSteps:=9^7) only[ss,X1,tab,simprocAttr, -List.reduceReplicate,Xi hm,Yl (n:=i) 1 1 rfl (by omega)]
 refine⟨i+1,by omega,by omega,?_⟩
 refine Xx [false] (fun n_=> ?_) (fun n_=> ?_)<;>simp only[X4,sm]
theorem Xm7 (k:Nat) (l:List Wr) (fid:FuncId) (caps:List AV) (val:Wr→AV) (g:Wr→List AV) (hb:Xd Try.prog fid=True) (hl:l.length≤1000000)
  (hg:∀x,(val x).parts=some (g x)) (hgl:∀x,(g x).length=1) (hp:∀x,x∈l→Xr Try.prog fid (wrA x::caps) [] (val x) []):
  Xr Try.prog 87 [.sl 2 (l.map wrC) .sh,.fn (.func fid) caps] [(k,none)] (.sl 1 (l.map g) (.own k)) [(k,.row 3 1 l.length)]:=by
 refine Xc 1 Try.func87 rfl fun n out _ _=> ?_
 simp only[Try.ntmps87,List.length_cons,List.length_nil,List.length_map,List.length_replicate,Xf,Nat.reduceAdd,Nat.reduceSub,List.replicate,List.cons_append,List.nil_append]
 rename_i hneeds hgv
 obtain⟨hk,_⟩:=hneeds
 obtain⟨hkn,_⟩:=hgv
 refine X9 fun K hK=>Xn Xj [] ?_
 simp (maxSteps:=9^7) only[ss,X1,tab,simprocAttr, -List.reduceReplicate]
 (refine hK _ ?_;clear hK K)
 refine X9 fun KB hKB=> ?_
 refine X9 fun K hK=>Xn Xj [] ?_
 simp (maxSteps:=9^7) only[ss,X1,tab,simprocAttr, -List.reduceReplicate]
 (refine hK _ ?_;clear hK K)
 refine Yy (X3x (k:=k) 3 1 (by rw[X7 hkn];trivial) (by rw[X8 hkn];exact hk)) ?_
 rw[X79 hkn]
 refine Xe ?_
 refine Xl (fun m (i:Nat)=>[(9,i64 (i:Int)),(4,.sl 1 ((l.take i).map g) (.own k)),(6,.top),(10,.top),(11,.top),(12,.top),(13,.top),(14,.top),(15,.top),(16,.top),(17,.top),(18,.top),(19,.top)]) (fun m i=>[none]) (fun i=>Xw out k (.row 3 1 i)) (fun i=>i≤l.length) (fun i=>l.length - i) 0 (Nat.zero_le _) ?_ fun m i hm hi=> ?_
 ·refine X2 ?_ ?_ (by first|rfl|(simp only[List.take_zero,List.map_nil];rfl)|simp only[List.take_zero,List.map_nil]) rfl rfl rfl<;>simp only[X4,sl,List.take_zero,List.map_nil]
 simp only[X4,s_0,s_s]
 refine X9 fun K hK=>Xn Xj [] ?_
 simp (maxSteps:=9^7) only[ss,X1,tab,simprocAttr, -List.reduceReplicate,List.take_zero,List.map_nil]
 (refine hK _ ?_;clear hK K)
 refine X9 fun KC hKC=> ?_
 refine Uz rfl (fun ht=>Xhj (hKC _ ?_)) (fun hf=>Qi (id ?_))
 rotate_left
 ·simp only[Qd,Z4,if_true]
  refine hKB _ ?_
  clear hKB KB hKC KC
  have h_ib:i=l.length:=by have:=of_decide_eq_false hf;omega
  subst h_ib
  rw[List.take_length]
  refine Yd ?_
  exact Qv (.inr rfl) rfl rfl rfl (fun _ _=>rfl) rfl
 clear hKC KC
 have hlt:i<l.length:=by have:=of_decide_eq_true ht;omega
 refine X9 fun KC hKC=>Xe ?_
 refine X9 fun K hK=>Xn Xj [] ?_
 simp (maxSteps:=9^7) only[ss,X1,tab,simprocAttr, -List.reduceReplicate,Xi hm,hlt,List.length_map,Xg wrC l i [] hlt,X0,wrC]
 (refine hK _ ?_;clear hK K)
 have lit:∀(σ:AState) (K:AV→List (Nat×Res)→Prop),X1 tab σ K none 31 1 [(0,val l[i])]=K (.sl 1 [g l[i]] .full) []:=fun σ K=>Yk (T:=tab) (ti:=ti31) (te:=ti3) rfl rfl rfl (by decide) (by decide) (hg _) (hgl _)
 refine Xn Xj [] ?_
 simp (maxSteps:=9^7) only[ss,tab,simprocAttr, -List.reduceReplicate,Xi hm,hb]
 refine X3 (hp _ (List.getElem_mem hlt)) ?_
 simp (maxSteps:=9^7) only[ss,tab,simprocAttr, -List.reduceReplicate,Xi hm,lit,X8 hkn,X7 hkn,Cz hkn,Xt,Jp,List.length_map,List.length_take,Nat.min_eq_left hi,show(i+1)≤140737488355328 by omega,show i+1≤9223372036854775807 by omega,Xua g l i hlt]
 repeat refine And.intro (by omega) ?_
 refine hKC _ ?_
 clear hKC KC
 refine Xn Xj [] ?_
 simp (maxSteps:=9^7) only[ss,X1,tab,simprocAttr, -List.reduceReplicate,Xi hm,Yl (n:=i) 1 1 rfl (by omega)]
 refine⟨i+1,by omega,by omega,?_⟩
 refine Xx [false] (fun n_=> ?_) (fun n_=> ?_)<;>simp only[X4,sm]
theorem Xkc (k:Nat) (l:List Wr) (fid:FuncId) (caps:List AV) (val:Wr→AV) (g:Wr→List AV) (hb:Xd Try.prog fid=True) (hl:l.length≤1000000)
  (hg:∀x,(val x).parts=some (g x)) (hgl:∀x,(g x).length=2) (hp:∀x,x∈l→Xr Try.prog fid (wrA x::caps) [] (val x) []):
  Xr Try.prog 58 [.sl 2 (l.map wrC) .sh,.fn (.func fid) caps] [(k,none)] (.sl 2 (l.map g) (.own k)) [(k,.row 76 2 l.length)]:=by
 refine Xc 1 Try.func58 rfl fun n out _ _=> ?_
 simp only[Try.ntmps58,List.length_cons,List.length_nil,List.length_map,List.length_replicate,Xf,Nat.reduceAdd,Nat.reduceSub,List.replicate,List.cons_append,List.nil_append]
 rename_i hneeds hgv
 obtain⟨hk,_⟩:=hneeds
 obtain⟨hkn,_⟩:=hgv
 refine X9 fun K hK=>Xn Xj [] ?_
 simp (maxSteps:=9^7) only[ss,X1,tab,simprocAttr, -List.reduceReplicate]
 (refine hK _ ?_;clear hK K)
 refine X9 fun KB hKB=> ?_
 refine X9 fun K hK=>Xn Xj [] ?_
 simp (maxSteps:=9^7) only[ss,X1,tab,simprocAttr, -List.reduceReplicate]
 (refine hK _ ?_;clear hK K)
 refine Yy (X3x (k:=k) 76 2 (by rw[X7 hkn];trivial) (by rw[X8 hkn];exact hk)) ?_
 rw[X79 hkn]
 refine Xe ?_
 refine Xl (fun m (i:Nat)=>[(9,i64 (i:Int)),(4,.sl 2 ((l.take i).map g) (.own k)),(6,.top),(10,.top),(11,.top),(12,.top),(13,.top),(14,.top),(15,.top),(16,.top),(17,.top),(18,.top),(19,.top)]) (fun m i=>[none]) (fun i=>Xw out k (.row 76 2 i)) (fun i=>i≤l.length) (fun i=>l.length - i) 0 (Nat.zero_le _) ?_ fun m i hm hi=> ?_
 ·refine X2 ?_ ?_ (by first|rfl|(simp only[List.take_zero,List.map_nil];rfl)|simp only[List.take_zero,List.map_nil]) rfl rfl rfl<;>simp only[X4,sl,List.take_zero,List.map_nil]
 simp only[X4,s_0,s_s]
 refine X9 fun K hK=>Xn Xj [] ?_
 simp (maxSteps:=9^7) only[ss,X1,tab,simprocAttr, -List.reduceReplicate,List.take_zero,List.map_nil]
 (refine hK _ ?_;clear hK K)
 refine X9 fun KC hKC=> ?_
 refine Uz rfl (fun ht=>Xhj (hKC _ ?_)) (fun hf=>Qi (id ?_))
 rotate_left
 ·simp only[Qd,Z4,if_true]
  refine hKB _ ?_
  clear hKB KB hKC KC
  have h_ib:i=l.length:=by have:=of_decide_eq_false hf;omega
  subst h_ib
  rw[List.take_length]
  refine Yd ?_
  exact Qv (.inr rfl) rfl rfl rfl (fun _ _=>rfl) rfl
 clear hKC KC
 have hlt:i<l.length:=by have:=of_decide_eq_true ht;omega
 refine X9 fun KC hKC=>Xe ?_
 refine X9 fun K hK=>Xn Xj [] ?_
 simp (maxSteps:=9^7) only[ss,X1,tab,simprocAttr, -List.reduceReplicate,Xi hm,hlt,List.length_map,Xg wrC l i [] hlt,X0,wrC]
 (refine hK _ ?_;clear hK K)
 have lit:∀(σ:AState) (K:AV→List (Nat×Res)→Prop),X1 tab σ K none 41 1 [(0,val l[i])]=K (.sl 2 [g l[i]] .full) []:=fun σ K=>Yk (T:=tab) (ti:=ti41) (te:=ti76) rfl rfl rfl (by decide) (by decide) (hg _) (hgl _)
 refine Xn Xj [] ?_
 simp (maxSteps:=9^7) only[ss,tab,simprocAttr, -List.reduceReplicate,Xi hm,hb]
 refine X3 (hp _ (List.getElem_mem hlt)) ?_
 simp (maxSteps:=9^7) only[ss,tab,simprocAttr, -List.reduceReplicate,Xi hm,lit,X8 hkn,X7 hkn,Cz hkn,Xt,Jp,List.length_map,List.length_take,Nat.min_eq_left hi,show(i+1)≤140737488355328 by omega,show i+1≤9223372036854775807 by omega,Xua g l i hlt]
 repeat refine And.intro (by omega) ?_
 refine hKC _ ?_
 clear hKC KC
 refine Xn Xj [] ?_
 simp (maxSteps:=9^7) only[ss,X1,tab,simprocAttr, -List.reduceReplicate,Xi hm,Yl (n:=i) 1 1 rfl (by omega)]
 refine⟨i+1,by omega,by omega,?_⟩
 refine Xx [false] (fun n_=> ?_) (fun n_=> ?_)<;>simp only[X4,sm]
def Fv {α β:Type} (p:α→β→Bool):List α→List β→Bool
 |[],[]=>true
 |x::l,y::m=>p x y&&Fv p l m
 | _,_=>false
theorem Rj {α β:Type} {p:α→β→Bool}:∀{l:List α} {m:List β},l.length≠m.length→Fv p l m=false
 |[],[],h=>(h rfl).elim
 |x::l,y::m,h=>by rw[Fv,Rj (by simpa using h),Bool.and_false]
 |[],_:: _,_=>rfl
 | _:: _,[],_=>rfl
theorem Xo4 {α β:Type} {p:α→β→Bool}:∀{l:List α} {m:List β},l.length=m.length→(∀i (hi:i<l.length) (hi':i<m.length),p l[i] m[i]=true)→Fv p l m=true
 |[],[],_,_=>rfl
 |x::l,y::m,h,hp=>by
  rw[Fv,Xo4 (by simpa using h) fun i hi hi'=>hp (i+1) (by simpa using hi) (by simpa using hi'),Bool.and_true]
  exact hp 0 (by simp) (by simp)
 |[],_:: _,h,_=>by simp at h
 | _:: _,[],h,_=>by simp at h
theorem Xo5 {α β:Type} {p:α→β→Bool}:∀{l:List α} {m:List β} {i:Nat} (hi:i<l.length) (hi':i<m.length),p l[i] m[i]=false→Fv p l m=false
 |x::l,y::m,0,_,_,h=>by
  have h':p x y=false:=h
  simp [Fv,h']
 |x::l,y::m,i+1,hi,hi',h=>by
  have h':=Xo5 (p:=p) (l:=l) (m:=m) (i:=i) (by simpa using hi) (by simpa using hi') h
  simp [Fv,h']
 |[],_,_,hi,_,_=>by simp at hi
 | _:: _,[],_,_,hi',_=>by simp at hi'
theorem Xjz (l m':List (List UInt8)) (fid:FuncId) (caps:List AV) (p:List UInt8→List UInt8→Bool) (hb:Xd Try.prog fid=True) (hl:l.length≤1000000000)
  (hp:∀x,x∈l→∀y,y∈m'→Xr Try.prog fid (bs x::bs y::caps) [] (bool (p x y)) []):
  Xr Try.prog 54 [.sl 1 (l.map Y6) .sh,.sl 1 (m'.map Y6) .sh,.fn (.func fid) caps] [] (bool (Fv p l m')) []:=by
 refine Xc 0 Try.func54 rfl fun n out _ _=> ?_
 simp only[Try.ntmps54,List.length_cons,List.length_nil,List.length_map,List.length_replicate,Xf,Nat.reduceAdd,Nat.reduceSub,List.replicate,List.cons_append,List.nil_append]
 refine X9 fun K hK=>Xn Xj [] ?_
 simp (maxSteps:=9^7) only[ss,X1,tab,simprocAttr, -List.reduceReplicate]
 (refine hK _ ?_;clear hK K)
 refine X9 fun KA hKA=> ?_
 refine X9 fun K hK=>Xn Xj [] ?_
 simp (maxSteps:=9^7) only[ss,X1,tab,simprocAttr, -List.reduceReplicate,List.length_map]
 (refine hK _ ?_;clear hK K)
 refine Uz rfl (fun ht=> ?_) (fun hf=>Xhj (hKA _ ?_))
 ·have e:=Rj (p:=p) (l:=l) (m:=m') (by intro h;rw[h] at ht;simp at ht)
  rw[e]
  refine X9 fun K hK=>Xn Xj [] ?_
  simp (maxSteps:=9^7) only[ss,X1,tab,simprocAttr, -List.reduceReplicate]
  (refine hK _ ?_;clear hK K)
  refine Yd ?_
  exact Qv (.inr rfl) rfl rfl rfl (fun _ _=>rfl) rfl
 clear hKA KA
 have hlen:l.length=m'.length:=by
  have h1:((l.length:Int) !=(m'.length:Int))=false:=hf
  simp at h1;omega
 refine X9 fun KB hKB=> ?_
 refine X9 fun K hK=>Xn Xj [] ?_
 simp (maxSteps:=9^7) only[ss,X1,tab,simprocAttr, -List.reduceReplicate]
 (refine hK _ ?_;clear hK K)
 refine Xe ?_
 refine Xz (fun i:Nat=>[(17,i64 (i:Int)),(6,.top),(7,.top),(8,.top),(9,.top),(18,.top),(19,.top),(20,.top),(21,.top),(22,.top),(23,.top),(24,.top),(25,.top),(26,.top),(27,.top),(28,.top),(29,.top),(30,.top),(31,.top)]) (fun i=>[]) (fun i=>out) (fun i=>i≤l.length∧(∀j (hj:j<l.length) (hj':j<m'.length),j<i→p l[j] m'[j]=true)) (fun i=>l.length - i) 0 ⟨Nat.zero_le _,by intros;omega⟩ ?_ fun i hi=> ?_
 ·refine X2 ?_ ?_ rfl rfl rfl rfl<;>simp only[X4,sl]
 obtain⟨hi,hq⟩:=hi
 simp only[X4,s_0,s_s]
 refine X9 fun K hK=>Xn Xj [] ?_
 simp (maxSteps:=9^7) only[ss,X1,tab,simprocAttr, -List.reduceReplicate]
 (refine hK _ ?_;clear hK K)
 refine X9 fun KC hKC=> ?_
 refine Uz rfl (fun ht=>Xhj (hKC _ ?_)) (fun hf=>Qi (id ?_))
 rotate_left
 ·simp only[Qd,Z4,if_true]
  refine hKB _ ?_
  clear hKB KB hKC KC
  have h_ib:i=l.length:=by have:=of_decide_eq_false hf;omega
  subst h_ib
  have e:=Xo4 (p:=p) hlen fun i hi hi'=>hq i hi hi' hi
  rw[e]
  refine X9 fun K hK=>Xn Xj [] ?_
  simp (maxSteps:=9^7) only[ss,X1,tab,simprocAttr, -List.reduceReplicate]
  (refine hK _ ?_;clear hK K)
  refine Yd ?_
  exact Qv (.inr rfl) rfl rfl rfl (fun _ _=>rfl) rfl
 clear hKC KC
 have hlt:i<l.length:=by have:=of_decide_eq_true ht;omega
 refine X9 fun KC hKC=>Xe ?_
 have hlt':i<m'.length:=by omega
 refine X9 fun K hK=>Xn Xj [] ?_
 simp (maxSteps:=9^7) only[ss,X1,tab,simprocAttr, -List.reduceReplicate,hlt,List.length_map,Xg Y6 l i [] hlt,X0,Y6]
 (refine hK _ ?_;clear hK K)
 refine X9 fun K hK=>Xn Xj [] ?_
 simp (maxSteps:=9^7) only[ss,X1,tab,simprocAttr, -List.reduceReplicate,hlt',List.length_map,Xg Y6 m' i [] hlt',X0,Y6]
 (refine hK _ ?_;clear hK K)
 refine X9 fun K hK=>Xn Xj [] ?_
 simp (maxSteps:=9^7) only[ss,X1,tab,simprocAttr, -List.reduceReplicate,hb]
 skip
 refine X3 (hp _ (List.getElem_mem hlt) _ (List.getElem_mem hlt')) ?_
 simp (maxSteps:=9^7) only[ss,X1,tab,simprocAttr, -List.reduceReplicate]
 (refine hK _ ?_;clear hK K)
 refine Uz rfl (fun ht=> ?_) (fun hf=>Xhj ?_)
 ·have e:=Xo5 hlt hlt' (by simpa using ht)
  refine X9 fun K hK=>Xn Xj [] ?_
  simp (maxSteps:=9^7) only[ss,X1,tab,simprocAttr, -List.reduceReplicate]
  (refine hK _ ?_;clear hK K)
  rw[← e]
  refine Yd ?_
  exact Qv (.inr rfl) rfl rfl rfl (fun _ _=>rfl) rfl
 repeat refine And.intro (by omega) ?_
 refine hKC _ ?_
 clear hKC KC
 refine Xn Xj [] ?_
 simp (maxSteps:=9^7) only[ss,X1,tab,simprocAttr, -List.reduceReplicate,Yl (n:=i) 1 1 rfl (by omega)]
 refine⟨i+1,⟨by omega,?_⟩,by omega,?_⟩
 ·intro j hj hj' hji
  by_cases h:j=i
  ·subst h;simpa using hf
  ·exact hq j hj hj' (by omega)
 refine X2 ?_ ?_ rfl rfl rfl rfl<;>simp only[X4,sl]
theorem Xl9 (k:Nat) (l:List (List UInt8)) (fid:FuncId) (caps:List AV) (val:List UInt8→AV) (g:List UInt8→List AV) (hb:Xd Try.prog fid=True) (hl:l.length≤1000000)
  (hg:∀x,(val x).parts=some (g x)) (hgl:∀x,(g x).length=1) (hp:∀x,x∈l→Xr Try.prog fid (bs x::caps) [] (val x) []):
  Xr Try.prog 56 [.sl 1 (l.map Y6) .sh,.fn (.func fid) caps] [(k,none)] (.sl 1 (l.map g) (.own k)) [(k,.row 44 1 l.length)]:=by
 refine Xc 0 Try.func56 rfl fun n out _ _=> ?_
 simp only[Try.ntmps56,List.length_cons,List.length_nil,List.length_map,List.length_replicate,Xf,Nat.reduceAdd,Nat.reduceSub,List.replicate,List.cons_append,List.nil_append]
 rename_i hneeds hgv
 obtain⟨hk,_⟩:=hneeds
 obtain⟨hkn,_⟩:=hgv
 refine X9 fun K hK=>Xn Xj [] ?_
 simp (maxSteps:=9^7) only[ss,X1,tab,simprocAttr, -List.reduceReplicate]
 (refine hK _ ?_;clear hK K)
 refine X9 fun KB hKB=> ?_
 refine X9 fun K hK=>Xn Xj [] ?_
 simp (maxSteps:=9^7) only[ss,X1,tab,simprocAttr, -List.reduceReplicate]
 (refine hK _ ?_;clear hK K)
 refine Yy (X3x (k:=k) 44 1 (by rw[X7 hkn];trivial) (by rw[X8 hkn];exact hk)) ?_
 rw[X79 hkn]
 refine Xe ?_
 refine Xz (fun i:Nat=>[(9,i64 (i:Int)),(4,.sl 1 ((l.take i).map g) (.own k)),(6,.top),(10,.top),(11,.top),(12,.top),(13,.top),(14,.top),(15,.top),(16,.top),(17,.top),(18,.top),(19,.top)]) (fun i=>[]) (fun i=>Xw out k (.row 44 1 i)) (fun i=>i≤l.length) (fun i=>l.length - i) 0 (Nat.zero_le _) ?_ fun i hi=> ?_
 ·refine X2 ?_ ?_ (by first|rfl|(simp only[List.take_zero,List.map_nil];rfl)|simp only[List.take_zero,List.map_nil]) rfl rfl rfl<;>simp only[X4,sl,List.take_zero,List.map_nil]
 simp only[X4,s_0,s_s]
 refine X9 fun K hK=>Xn Xj [] ?_
 simp (maxSteps:=9^7) only[ss,X1,tab,simprocAttr, -List.reduceReplicate,List.take_zero,List.map_nil]
 (refine hK _ ?_;clear hK K)
 refine X9 fun KC hKC=> ?_
 refine Uz rfl (fun ht=>Xhj (hKC _ ?_)) (fun hf=>Qi (id ?_))
 rotate_left
 ·simp only[Qd,Z4,if_true]
  refine hKB _ ?_
  clear hKB KB hKC KC
  have h_ib:i=l.length:=by have:=of_decide_eq_false hf;omega
  subst h_ib
  rw[List.take_length]
  refine Yd ?_
  exact Qv (.inr rfl) rfl rfl rfl (fun _ _=>rfl) rfl
 clear hKC KC
 have hlt:i<l.length:=by have:=of_decide_eq_true ht;omega
 refine X9 fun KC hKC=>Xe ?_
 refine X9 fun K hK=>Xn Xj [] ?_
 simp (maxSteps:=9^7) only[ss,X1,tab,simprocAttr, -List.reduceReplicate,hlt,List.length_map,Xg Y6 l i [] hlt,Y6]
 (refine hK _ ?_;clear hK K)
 have lit:∀(σ:AState) (K:AV→List (Nat×Res)→Prop),X1 tab σ K none 40 1 [(0,val l[i])]=K (.sl 1 [g l[i]] .full) []:=fun σ K=>Yk (T:=tab) (ti:=ti40) (te:=ti44) rfl rfl rfl (by decide) (by decide) (hg _) (hgl _)
 refine Xn Xj [] ?_
 simp (maxSteps:=9^7) only[ss,tab,simprocAttr, -List.reduceReplicate,hb]
 refine X3 (hp _ (List.getElem_mem hlt)) ?_
 simp (maxSteps:=9^7) only[ss,tab,simprocAttr, -List.reduceReplicate,lit,X8 hkn,X7 hkn,Cz hkn,Xt,Jp,List.length_map,List.length_take,Nat.min_eq_left hi,show(i+1)≤140737488355328 by omega,show i+1≤9223372036854775807 by omega,Xua g l i hlt]
 repeat refine And.intro (by omega) ?_
 refine hKC _ ?_
 clear hKC KC
 refine Xn Xj [] ?_
 simp (maxSteps:=9^7) only[ss,X1,tab,simprocAttr, -List.reduceReplicate,Yl (n:=i) 1 1 rfl (by omega)]
 refine⟨i+1,by omega,by omega,?_⟩
 refine X2 ?_ ?_ rfl rfl rfl rfl<;>simp only[X4,sl]
theorem Xm8 {α:Type} (g:α→List AV) (l:List α) (i:Nat) (h:i<l.length):(l.take i).flatMap g++g l[i]=(l.take (i+1)).flatMap g:=by
 rw[List.take_succ_eq_append_getElem h,List.flatMap_append];simp
theorem Xkf (k:Nat) (l:List (List UInt8)) (fid:FuncId) (caps:List AV) (val:List UInt8→AV) (g:List UInt8→List AV) (hb:Xd Try.prog fid=True) (hl:l.length≤1000000) (h0:0<l.length)
  (hg:∀x,(val x).parts=some (g x)) (hgl:∀x,(g x).length=1) (hp:∀x,x∈l→Xr Try.prog fid (bs x::caps) [] (val x) []):
  Xr Try.prog 56 [.sl 1 (l.map Y6) .sh,.fn (.func fid) caps] [(k,none)] (.bsl k 0 l.length false) [(k,.box 44 (l.flatMap g))]:=by
 refine Xc 1 Try.func56 rfl fun n out _ _=> ?_
 simp only[Try.ntmps56,List.length_cons,List.length_nil,List.length_map,List.length_replicate,Xf,Nat.reduceAdd,Nat.reduceSub,List.replicate,List.cons_append,List.nil_append]
 rename_i hneeds hgv
 obtain⟨hk,_⟩:=hneeds
 obtain⟨hkn,_⟩:=hgv
 refine X9 fun K hK=>Xn Xj [] ?_
 simp (maxSteps:=9^7) only[ss,X1,tab,simprocAttr, -List.reduceReplicate]
 (refine hK _ ?_;clear hK K)
 refine X9 fun KB hKB=> ?_
 refine X9 fun K hK=>Xn Xj [] ?_
 simp (maxSteps:=9^7) only[ss,X1,tab,simprocAttr, -List.reduceReplicate]
 (refine hK _ ?_;clear hK K)
 refine Yy (Xnt (i:=0) (t:=4) (sz:=1) 44 rfl rfl (.inl rfl)) ?_
 simp only[s_0,s_s]
 refine Xe ?_
 refine Xz (fun i:Nat=>[(9,i64 (i:Int)),(4,.vsl (n+0) i),(6,.top),(10,.top),(11,.top),(12,.top),(13,.top),(14,.top),(15,.top),(16,.top),(17,.top),(18,.top),(19,.top)]) (fun i=>[some (.vec 44 1 i ((l.take i).flatMap g))]) (fun i=>out) (fun i=>i≤l.length) (fun i=>l.length - i) 0 (Nat.zero_le _) ?_ fun i hi=> ?_
 ·refine X2 ?_ ?_ (by first|rfl|(simp only[List.take_zero,List.flatMap_nil];rfl)|simp only[List.take_zero,List.flatMap_nil]) rfl rfl rfl<;>simp only[X4,sl,List.take_zero,List.flatMap_nil]
 simp only[X4,s_0,s_s]
 refine X9 fun K hK=>Xn Xj [] ?_
 simp (maxSteps:=9^7) only[ss,X1,tab,simprocAttr, -List.reduceReplicate,List.take_zero,List.flatMap_nil]
 (refine hK _ ?_;clear hK K)
 refine X9 fun KC hKC=> ?_
 refine Uz rfl (fun ht=>Xhj (hKC _ ?_)) (fun hf=>Qi (id ?_))
 rotate_left
 ·simp only[Qd,Z4,if_true]
  refine hKB _ ?_
  clear hKB KB hKC KC
  have h_ib:i=l.length:=by have:=of_decide_eq_false hf;omega
  subst h_ib
  rw[List.take_length]
  refine Yy (Xf9 (i:=0) (m:=l.length) (sz:=1) (e:=44) (cs:=l.flatMap g) rfl h0) ?_
  simp only[List.map_cons,List.map_nil,AV.bxv,s_0,s_s,reduceCtorEq,if_true,if_false,Nat.reduceEqDiff,reduceIte,and_self]
  refine Yy (Ja (i:=0) (k:=k) rfl (by exact hkn) (by exact hk)) ?_
  simp only[List.map_cons,List.map_nil,Option.map_some,Option.map_none,Res.ren1,AV.ren1,Nat.add_left_cancel_iff,Nat.reduceEqDiff,Nat.one_ne_zero,reduceIte,Xoe,s_0,s_s]
  refine Yd ?_
  exact Qv (.inr rfl) rfl rfl rfl (fun _ _=>rfl) rfl
 clear hKC KC
 have hlt:i<l.length:=by have:=of_decide_eq_true ht;omega
 refine X9 fun KC hKC=>Xe ?_
 refine X9 fun K hK=>Xn Xj [] ?_
 simp (maxSteps:=9^7) only[ss,X1,tab,simprocAttr, -List.reduceReplicate,hlt,List.length_map,Xg Y6 l i [] hlt,Y6]
 (refine hK _ ?_;clear hK K)
 have lit:∀(σ:AState) (K:AV→List (Nat×Res)→Prop),X1 tab σ K none 40 1 [(0,val l[i])]=K (.sl 1 [g l[i]] .full) []:=fun σ K=>Yk (T:=tab) (ti:=ti40) (te:=ti44) rfl rfl rfl (by decide) (by decide) (hg _) (hgl _)
 refine Xn Xj [] ?_
 simp (maxSteps:=9^7) only[ss,tab,simprocAttr, -List.reduceReplicate,hb]
 refine X3 (hp _ (List.getElem_mem hlt)) ?_
 simp (maxSteps:=9^7) only[ss,tab,simprocAttr, -List.reduceReplicate,lit,show(i+1)≤140737488355328 by omega,show i+1≤9223372036854775807 by omega,List.flatten_cons,List.flatten_nil,List.append_nil,Xm8 g l i hlt]
 repeat refine And.intro (by omega) ?_
 refine hKC _ ?_
 clear hKC KC
 refine Xn Xj [] ?_
 simp (maxSteps:=9^7) only[ss,X1,tab,simprocAttr, -List.reduceReplicate,Yl (n:=i) 1 1 rfl (by omega)]
 refine⟨i+1,by omega,by omega,?_⟩
 refine X2 ?_ ?_ rfl rfl rfl rfl<;>simp only[X4,sl]
end Go.Proofs.Ytjgbbjooeibppaa
