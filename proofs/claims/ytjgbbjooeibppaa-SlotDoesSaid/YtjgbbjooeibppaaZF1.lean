/- The layer of abstract values, joined. -/
import Derived.Test.YtjgbbjooeibppaaZD2
import Derived.Test.YtjgbbjooeibppaaZF0
import Derived.Test.YtjgbbjooeibppaaZD27
namespace Go.Proofs.Ytjgbbjooeibppaa
set_option linter.unusedVariables false
set_option linter.unusedSimpArgs false
open Go Go.VS Tab
set_option maxHeartbeats 4000000
set_option maxRecDepth 4000
def Xi2 (b:List UInt8):Res:=bxD 5 (Xo b)
def scB (k:Nat) (b:List UInt8):List AV:=[.bsl k 0 b.length false]
def wrB (k:Nat) (w:Wr):List AV:=[i64 w.at',.bsl k 0 w.data.length false]
theorem Xa7 (l:List UInt8):(Xo l).flatten=l.map b8:=by
 induction l with
 |nil=>rfl
 |cons x xs ih=>exact congrArg (b8 x:: ·) ih
theorem Xir {b:List UInt8} (h:0<b.length):Xi2 b= .box 5 (b.map b8):=by
 unfold Xi2
 rw[K1 (by rw[X5];exact h),Xa7]
theorem Xk4 (k:Nat) (l:List UInt8) (hl:l.length≤100000000):Xr Try.prog 57 [bs l] [(k,none)] (.bsl k 0 l.length false) [(k,Xi2 l)]:=by
 by_cases h0:l.length=0
 ·obtain rfl:l=[]:=List.eq_nil_of_length_eq_zero h0
  refine Xq4 (sz:=1) (Xbz (fun h=> ?_) ?_)
  ·refine Xc 0 Try.func57 rfl fun n out _ _=> ?_
   simp only[Try.ntmps57,List.length_cons,List.length_nil,List.length_map,List.length_replicate,Xf,Nat.reduceAdd,Nat.reduceSub,List.replicate,List.cons_append,List.nil_append]
   refine X9 fun K hK=>Xn Xj [] ?_
   simp (maxSteps:=9^7) only[ss,X1,tab,simprocAttr, -List.reduceReplicate]
   repeat' (first|(with_reducible refine hK _ ?_;clear hK K)|with_reducible apply And.intro)
   refine X9 fun KB hKB=> ?_
   refine X9 fun K hK=>Xn Xj [] ?_
   simp (maxSteps:=9^7) only[ss,X1,tab,simprocAttr, -List.reduceReplicate]
   repeat' (first|(with_reducible refine hK _ ?_;clear hK K)|with_reducible apply And.intro)
   refine Wm rfl ?_
   refine X9 fun K hK=>Xn Xj [] ?_
   simp (maxSteps:=9^7) only[ss,X1,tab,simprocAttr, -List.reduceReplicate]
   repeat' (first|(with_reducible refine hK _ ?_;clear hK K)|with_reducible apply And.intro)
   refine Yd ?_
   exact Xv (.inr rfl) rfl rfl rfl (fun _ _=>rfl) ((Cp _ _).2 trivial) rfl
  ·refine Xc 0 Try.func57 rfl fun n out _ _=> ?_
   simp only[Try.ntmps57,List.length_cons,List.length_nil,List.length_map,List.length_replicate,Xf,Nat.reduceAdd,Nat.reduceSub,List.replicate,List.cons_append,List.nil_append]
   refine X9 fun K hK=>Xn Xj [] ?_
   simp (maxSteps:=9^7) only[ss,X1,tab,simprocAttr, -List.reduceReplicate]
   repeat' (first|(with_reducible refine hK _ ?_;clear hK K)|with_reducible apply And.intro)
   refine X9 fun KB hKB=> ?_
   refine X9 fun K hK=>Xn Xj [] ?_
   simp (maxSteps:=9^7) only[ss,X1,tab,simprocAttr, -List.reduceReplicate]
   repeat' (first|(with_reducible refine hK _ ?_;clear hK K)|with_reducible apply And.intro)
   refine Uy rfl (Xhj (hKB _ ?_))
   refine X9 fun K hK=>Xn Xj [] ?_
   simp (maxSteps:=9^7) only[ss,X1,tab,simprocAttr, -List.reduceReplicate,X5,List.length_nil]
   repeat' (first|(with_reducible refine hK _ ?_;clear hK K)|with_reducible apply And.intro)
   refine Yd ?_
   exact Xv (.inr rfl) rfl rfl rfl (fun _ _=>rfl) (.rfl _) rfl
 ·rw[Xir (by omega)]
  exact Xl8 k l hl (by omega)
theorem Xle (k:Nat) (w:Wr) (h:w.data.length≤100000000):Xr Try.prog 59 [wrA w] [(k,none)] (.agg (wrB k w)) [(k,Xi2 w.data)]:=by
 have c1:=Xk4 k w.data h
 generalize Xi2 w.data=q at*
 refine Xc 2 Try.func59 rfl fun n out _ _=> ?_
 simp only[Try.ntmps59,List.length_cons,List.length_nil,List.length_map,List.length_replicate,Xf,Nat.reduceAdd,Nat.reduceSub,List.replicate,List.cons_append,List.nil_append]
 rename_i hneeds hgv
 obtain⟨hk,_⟩:=hneeds
 obtain⟨hkn,_⟩:=hgv
 refine X9 fun K hK=>Xn Xj [] ?_
 simp (maxSteps:=9^7) only[ss,X1,tab,simprocAttr, -List.reduceReplicate,wrA,wrC]
 repeat' (first|(with_reducible refine hK _ ?_;clear hK K)|with_reducible apply And.intro)
 refine X9 fun K hK=>Xn Xj [] ?_
 simp (maxSteps:=9^7) only[ss,X1,tab,simprocAttr, -List.reduceReplicate]
 repeat' (first|(with_reducible refine hK _ ?_;clear hK K)|with_reducible apply And.intro)
 refine Sb c1 (by rw[X8 hkn];exact hk) (by rw[X7 hkn];trivial) (by simp) ?_
 simp (maxSteps:=9^7) only[ss,X1,tab,simprocAttr, -List.reduceReplicate,Xa hkn]
 repeat' (first|(with_reducible refine hK _ ?_;clear hK K)|with_reducible apply And.intro)
 refine X9 fun K hK=>Xn Xj [] ?_
 simp (maxSteps:=9^7) only[ss,X1,tab,simprocAttr, -List.reduceReplicate]
 repeat' (first|(with_reducible refine hK _ ?_;clear hK K)|with_reducible apply And.intro)
 refine Yd ?_
 exact X1b (.inr rfl) rfl rfl rfl (fun _ _=>rfl) ok76 (k:=n+1) (off:=0) rfl (Xb _ (by simp)) (X6 _ (Nat.le_refl _) 1) rfl
def Xj5 (l:List (List UInt8)):List (Option Res):=l.map fun b=>some (Xi2 b)
def Xkq (l:List Wr):List (Option Res):=l.map fun w=>some (Xi2 w.data)
theorem Xhk (l:List (List UInt8)):(Xj5 l).length=l.length:=List.length_map _
theorem Xjb (l:List Wr):(Xkq l).length=l.length:=List.length_map _
theorem Xk5 {α β:Type} (f:α→β) (l:List α) (g:Nat→α→β):stg l.length (fun _=>f) g l=l.map f:=by
 rw[Y7d (Nat.le_refl _)]
 apply List.ext_getElem?
 intro i
 simp
theorem Xkj (k K:Nat) (l:List (List UInt8)) (fid:FuncId) (hkK:k<K∨K+l.length≤k) (hb:Xd Try.prog fid=True) (hl:l.length≤1000000)
  (hp:∀x,x∈l→∀k,Xr Try.prog fid [bs x] [(k,none)] (.bsl k 0 x.length false) [(k,Xi2 x)]):
  Xr Try.prog 56 [.sl 1 (l.map Y6) .sh,.fn (.func fid) []] ((k,none)::Xev K (Xj5 l)) (.sl 1 (l.mapIdx fun i x=>scB (K+i) x) (.own k)) ((k,.row 44 1 l.length)::Y62 K (Xj5 l)):=by
 obtain⟨E,hE⟩:∃E,E=l.mapIdx fun i x=>scB (K+i) x:=⟨_,rfl⟩
 have hEl:E.length=l.length:=by rw[hE];simp
 rw[← hE]
 refine Xc 1 Try.func56 rfl fun n out _ _=> ?_
 simp only[Try.ntmps56,List.length_cons,List.length_nil,List.length_map,List.length_replicate,Xf,Nat.reduceAdd,Nat.reduceSub,List.replicate,List.cons_append,List.nil_append]
 rename_i hneeds hgv
 obtain⟨hk,hkf⟩:=hneeds
 obtain⟨hkn,hkg⟩:=hgv
 refine X9 fun K hK=>Xn Xj [] ?_
 simp (maxSteps:=9^7) only[ss,X1,tab,simprocAttr, -List.reduceReplicate]
 repeat' (first|(with_reducible refine hK _ ?_;clear hK K)|with_reducible apply And.intro)
 refine X9 fun KB hKB=> ?_
 refine X9 fun K hK=>Xn Xj [] ?_
 simp (maxSteps:=9^7) only[ss,X1,tab,simprocAttr, -List.reduceReplicate]
 repeat' (first|(with_reducible refine hK _ ?_;clear hK K)|with_reducible apply And.intro)
 refine Yy (X3x (k:=k) 44 1 (by rw[X7 hkn];trivial) (by rw[X8 hkn];exact hk)) ?_
 rw[X79 hkn]
 have o0:Xw (ofL out K (stg 0 (fun _ x=>some (Xi2 x)) (fun _ _=>none) l)) k (.row 44 1 0)=Xw out k (.row 44 1 0):=by
  rw[Xwl,Xfh (fun x hx=>by simp at hx;exact hx.2.symm)]
 refine Xe ?_
 refine Xl (fun m (i:Nat)=>[(9,i64 (i:Int)),(4,.sl 1 (E.take i) (.own k)),(6,.top),(10,.top),(11,.top),(12,.top),(13,.top),(14,.top),(15,.top),(16,.top),(17,.top),(18,.top),(19,.top)]) (fun m i=>[none]) (fun i=>Xw (ofL out K (stg i (fun _ x=>some (Xi2 x)) (fun _ _=>none) l)) k (.row 44 1 i)) (fun i=>i≤l.length) (fun i=>l.length - i) 0 (Nat.zero_le _) ?_ fun m i hm hi=> ?_
 ·refine X2 ?_ ?_ (by first|rfl|(simp only[List.take_zero,o0];rfl)|simp only[List.take_zero,o0]) rfl rfl rfl<;>simp only[X4,sl,List.take_zero,o0]
 simp only[X4,s_0,s_s]
 refine X9 fun K hK=>Xn Xj [] ?_
 simp (maxSteps:=9^7) only[ss,X1,tab,simprocAttr, -List.reduceReplicate,List.take_zero,o0]
 repeat' (first|(with_reducible refine hK _ ?_;clear hK K)|with_reducible apply And.intro)
 refine X9 fun KC hKC=> ?_
 refine Uz rfl (fun ht=>Xhj (hKC _ ?_)) (fun hf=>Qi (id ?_))
 rotate_left
 ·simp only[Qd,Z4,if_true]
  refine hKB _ ?_
  clear hKB KB hKC KC
  have h_ib:i=l.length:=by have:=of_decide_eq_false hf;omega
  subst h_ib
  rw[List.take_of_length_le (by omega),Xk5,← Xj8 (by simpa using hkK),← K3]
  refine Yd ?_
  exact Qv (.inr rfl) rfl rfl rfl (fun _ _=>rfl) rfl
 clear hKC KC
 have hlt:i<l.length:=by have:=of_decide_eq_true ht;omega
 refine X9 fun KC hKC=>Xe ?_
 have hiE:i<E.length:=by omega
 have hsn:E.take i++[E[i]]=E.take (i+1):=(List.take_succ_eq_append_getElem hiE).symm
 obtain⟨x,hx⟩:∃x,x=l[i]:=⟨_,rfl⟩
 have gx:l[i]? =some x:=by rw[hx];exact List.getElem?_eq_getElem hlt
 have hEi:E[i]=scB (K+i) x:=by subst hE;rw[hx];simp
 rw[hEi] at hsn
 have gL:(Xj5 l)[i]? =some (some (Xi2 x)):=by unfold Xj5;rw[List.getElem?_map,gx];rfl
 have hKi:K+i<n:=K2 hkg gL
 have oN:out (K+i)=none:=Y4i hkf gL
 have ne1:K+i≠k:=by omega
 have oB:Xw (ofL out K (stg i (fun _ x=>some (Xi2 x)) (fun _ _=>none) l)) k (.row 44 1 i) (K+i)=none:=by
  rw[Zp _ _ ne1,Xf6 (Rf gx (Nat.le_refl _))];exact oN
 have oK:Xw (Xw (ofL out K (stg i (fun _ x=>some (Xi2 x)) (fun _ _=>none) l)) k (.row 44 1 i)) (K+i) (Xi2 x) k=some (.row 44 1 i):=by
  rw[Zp _ _ (Ne.symm ne1),Xt]
 have oS:Xw (Xw (Xw (ofL out K (stg i (fun _ x=>some (Xi2 x)) (fun _ _=>none) l)) k (.row 44 1 i)) (K+i) (Xi2 x)) k (.row 44 1 (i+1))=Xw (ofL out K (stg (i+1) (fun _ x=>some (Xi2 x)) (fun _ _=>none) l)) k (.row 44 1 (i+1)):=by
  rw[← Xuz gx,← Y6k (by rw[V8];exact hlt)]
  funext j
  simp only[Xw]
  by_cases h1:j=k
  ·simp [h1]
  ·simp [h1]
 obtain⟨O',hO'⟩:∃O',O'=Xw (ofL out K (stg (i+1) (fun _ x=>some (Xi2 x)) (fun _ _=>none) l)) k (.row 44 1 (i+1)):=⟨_,rfl⟩
 rw[← hO'] at oS
 generalize Xw (ofL out K (stg i (fun _ x=>some (Xi2 x)) (fun _ _=>none) l)) k (.row 44 1 i)=O at*
 have cp:=hp x (List.mem_of_getElem? gx) (K+i)
 refine X9 fun K hK=>Xn Xj [] ?_
 simp (maxSteps:=9^7) only[ss,X1,tab,simprocAttr, -List.reduceReplicate,Xi hm,hlt,List.length_map,Xg Y6 l i [] hlt,← hx,Y6,X0]
 repeat' (first|(with_reducible refine hK _ ?_;clear hK K)|with_reducible apply And.intro)
 have lit:∀(σ:AState) (K':AV→List (Nat×Res)→Prop) (k:Nat),X1 tab σ K' none 40 1 [(0,.bsl k 0 x.length false)]=K' (.sl 1 [scB k x] .full) []:=fun σ K' k=>Yk (T:=tab) (ti:=ti40) (te:=ti44) rfl rfl rfl (by decide) (by decide) rfl rfl
 generalize Xi2 x=Q at*
 refine Xn Xj [] ?_
 simp (maxSteps:=9^7) only[ss,tab,simprocAttr, -List.reduceReplicate,Xi hm,hb]
 refine Sb cp (by rw[X8 hKi];exact oB) (by rw[X7 hKi];trivial) (by simp) ?_
 simp (maxSteps:=9^7) only[ss,tab,simprocAttr, -List.reduceReplicate,Xi hm,lit,X8 hkn,X7 hkn,Xa hKi,Xa hkn,oK,oS,List.length_take,hEl,Nat.min_eq_left hi,show(i+1)≤140737488355328 by omega,show i+1≤9223372036854775807 by omega,hsn]
 repeat refine And.intro (by omega) ?_
 refine hKC _ ?_
 clear hKC KC
 refine Xn Xj [] ?_
 simp (maxSteps:=9^7) only[ss,X1,tab,simprocAttr, -List.reduceReplicate,Xi hm,Yl (n:=i) 1 1 rfl (by omega)]
 refine⟨i+1,by omega,by omega,?_⟩
 rw[hO']
 refine Xx [false] (fun n_=> ?_) (fun n_=> ?_)<;>simp only[X4,sm]
theorem Xll (k K:Nat) (l:List (Wr)) (fid:FuncId) (hkK:k<K∨K+l.length≤k) (hb:Xd Try.prog fid=True) (hl:l.length≤1000000)
  (hp:∀x,x∈l→∀k,Xr Try.prog fid [wrA x] [(k,none)] (.agg (wrB k x)) [(k,Xi2 x.data)]):
  Xr Try.prog 58 [.sl 2 (l.map wrC) .sh,.fn (.func fid) []] ((k,none)::Xev K (Xkq l)) (.sl 2 (l.mapIdx fun i x=>wrB (K+i) x) (.own k)) ((k,.row 76 2 l.length)::Y62 K (Xkq l)):=by
 obtain⟨E,hE⟩:∃E,E=l.mapIdx fun i x=>wrB (K+i) x:=⟨_,rfl⟩
 have hEl:E.length=l.length:=by rw[hE];simp
 rw[← hE]
 refine Xc 1 Try.func58 rfl fun n out _ _=> ?_
 simp only[Try.ntmps58,List.length_cons,List.length_nil,List.length_map,List.length_replicate,Xf,Nat.reduceAdd,Nat.reduceSub,List.replicate,List.cons_append,List.nil_append]
 rename_i hneeds hgv
 obtain⟨hk,hkf⟩:=hneeds
 obtain⟨hkn,hkg⟩:=hgv
 refine X9 fun K hK=>Xn Xj [] ?_
 simp (maxSteps:=9^7) only[ss,X1,tab,simprocAttr, -List.reduceReplicate]
 repeat' (first|(with_reducible refine hK _ ?_;clear hK K)|with_reducible apply And.intro)
 refine X9 fun KB hKB=> ?_
 refine X9 fun K hK=>Xn Xj [] ?_
 simp (maxSteps:=9^7) only[ss,X1,tab,simprocAttr, -List.reduceReplicate]
 repeat' (first|(with_reducible refine hK _ ?_;clear hK K)|with_reducible apply And.intro)
 refine Yy (X3x (k:=k) 76 2 (by rw[X7 hkn];trivial) (by rw[X8 hkn];exact hk)) ?_
 rw[X79 hkn]
 have o0:Xw (ofL out K (stg 0 (fun _ x=>some (Xi2 x.data)) (fun _ _=>none) l)) k (.row 76 2 0)=Xw out k (.row 76 2 0):=by
  rw[Xwl,Xfh (fun x hx=>by simp at hx;exact hx.2.symm)]
 refine Xe ?_
 refine Xl (fun m (i:Nat)=>[(9,i64 (i:Int)),(4,.sl 2 (E.take i) (.own k)),(6,.top),(10,.top),(11,.top),(12,.top),(13,.top),(14,.top),(15,.top),(16,.top),(17,.top),(18,.top),(19,.top)]) (fun m i=>[none]) (fun i=>Xw (ofL out K (stg i (fun _ x=>some (Xi2 x.data)) (fun _ _=>none) l)) k (.row 76 2 i)) (fun i=>i≤l.length) (fun i=>l.length - i) 0 (Nat.zero_le _) ?_ fun m i hm hi=> ?_
 ·refine X2 ?_ ?_ (by first|rfl|(simp only[List.take_zero,o0];rfl)|simp only[List.take_zero,o0]) rfl rfl rfl<;>simp only[X4,sl,List.take_zero,o0]
 simp only[X4,s_0,s_s]
 refine X9 fun K hK=>Xn Xj [] ?_
 simp (maxSteps:=9^7) only[ss,X1,tab,simprocAttr, -List.reduceReplicate,List.take_zero,o0]
 repeat' (first|(with_reducible refine hK _ ?_;clear hK K)|with_reducible apply And.intro)
 refine X9 fun KC hKC=> ?_
 refine Uz rfl (fun ht=>Xhj (hKC _ ?_)) (fun hf=>Qi (id ?_))
 rotate_left
 ·simp only[Qd,Z4,if_true]
  refine hKB _ ?_
  clear hKB KB hKC KC
  have h_ib:i=l.length:=by have:=of_decide_eq_false hf;omega
  subst h_ib
  rw[List.take_of_length_le (by omega),Xk5,← Xj8 (by simpa using hkK),← K3]
  refine Yd ?_
  exact Qv (.inr rfl) rfl rfl rfl (fun _ _=>rfl) rfl
 clear hKC KC
 have hlt:i<l.length:=by have:=of_decide_eq_true ht;omega
 refine X9 fun KC hKC=>Xe ?_
 have hiE:i<E.length:=by omega
 have hsn:E.take i++[E[i]]=E.take (i+1):=(List.take_succ_eq_append_getElem hiE).symm
 obtain⟨x,hx⟩:∃x,x=l[i]:=⟨_,rfl⟩
 have gx:l[i]? =some x:=by rw[hx];exact List.getElem?_eq_getElem hlt
 have hEi:E[i]=wrB (K+i) x:=by subst hE;rw[hx];simp
 rw[hEi] at hsn
 have gL:(Xkq l)[i]? =some (some (Xi2 x.data)):=by unfold Xkq;rw[List.getElem?_map,gx];rfl
 have hKi:K+i<n:=K2 hkg gL
 have oN:out (K+i)=none:=Y4i hkf gL
 have ne1:K+i≠k:=by omega
 have oB:Xw (ofL out K (stg i (fun _ x=>some (Xi2 x.data)) (fun _ _=>none) l)) k (.row 76 2 i) (K+i)=none:=by
  rw[Zp _ _ ne1,Xf6 (Rf gx (Nat.le_refl _))];exact oN
 have oK:Xw (Xw (ofL out K (stg i (fun _ x=>some (Xi2 x.data)) (fun _ _=>none) l)) k (.row 76 2 i)) (K+i) (Xi2 x.data) k=some (.row 76 2 i):=by
  rw[Zp _ _ (Ne.symm ne1),Xt]
 have oS:Xw (Xw (Xw (ofL out K (stg i (fun _ x=>some (Xi2 x.data)) (fun _ _=>none) l)) k (.row 76 2 i)) (K+i) (Xi2 x.data)) k (.row 76 2 (i+1))=Xw (ofL out K (stg (i+1) (fun _ x=>some (Xi2 x.data)) (fun _ _=>none) l)) k (.row 76 2 (i+1)):=by
  rw[← Xuz gx,← Y6k (by rw[V8];exact hlt)]
  funext j
  simp only[Xw]
  by_cases h1:j=k
  ·simp [h1]
  ·simp [h1]
 obtain⟨O',hO'⟩:∃O',O'=Xw (ofL out K (stg (i+1) (fun _ x=>some (Xi2 x.data)) (fun _ _=>none) l)) k (.row 76 2 (i+1)):=⟨_,rfl⟩
 rw[← hO'] at oS
 generalize Xw (ofL out K (stg i (fun _ x=>some (Xi2 x.data)) (fun _ _=>none) l)) k (.row 76 2 i)=O at*
 have cp:=hp x (List.mem_of_getElem? gx) (K+i)
 refine X9 fun K hK=>Xn Xj [] ?_
 simp (maxSteps:=9^7) only[ss,X1,tab,simprocAttr, -List.reduceReplicate,Xi hm,hlt,List.length_map,Xg wrC l i [] hlt,← hx,wrC,X0]
 repeat' (first|(with_reducible refine hK _ ?_;clear hK K)|with_reducible apply And.intro)
 have lit:∀(σ:AState) (K':AV→List (Nat×Res)→Prop) (k:Nat),X1 tab σ K' none 41 1 [(0,.agg (wrB k x))]=K' (.sl 2 [wrB k x] .full) []:=fun σ K' k=>Yk (T:=tab) (ti:=ti41) (te:=ti76) rfl rfl rfl (by decide) (by decide) rfl rfl
 generalize Xi2 x.data=Q at*
 refine Xn Xj [] ?_
 simp (maxSteps:=9^7) only[ss,tab,simprocAttr, -List.reduceReplicate,Xi hm,hb]
 refine Sb cp (by rw[X8 hKi];exact oB) (by rw[X7 hKi];trivial) (by simp) ?_
 simp (maxSteps:=9^7) only[ss,tab,simprocAttr, -List.reduceReplicate,Xi hm,lit,X8 hkn,X7 hkn,Xa hKi,Xa hkn,oK,oS,List.length_take,hEl,Nat.min_eq_left hi,show(i+1)≤140737488355328 by omega,show i+1≤9223372036854775807 by omega,hsn]
 repeat refine And.intro (by omega) ?_
 refine hKC _ ?_
 clear hKC KC
 refine Xn Xj [] ?_
 simp (maxSteps:=9^7) only[ss,X1,tab,simprocAttr, -List.reduceReplicate,Xi hm,Yl (n:=i) 1 1 rfl (by omega)]
 refine⟨i+1,by omega,by omega,?_⟩
 rw[hO']
 refine Xx [false] (fun n_=> ?_) (fun n_=> ?_)<;>simp only[X4,sm]
end Go.Proofs.Ytjgbbjooeibppaa
