/- The layer of abstract values, joined. -/
import Derived.Test.YtjgbbjooeibppaaZVsBits
import Derived.Test.YtjgbbjooeibppaaZTab
namespace Go.VS
set_option linter.defProp false
set_option linter.unusedVariables false
section
variable {P:Program} {T:TypeId→Option TI} {bx:List (Nat×Option Nat)} {σ:AState} {d:Option Tmp}
def Eb (P:Program) (T:TypeId→Option TI) (bx:List (Nat×Option Nat)) (ops:Array Oper) (K:AState→Prop) (a b:List Nat) (rd wr:List (List Nat)) (d:Option Tmp) (op:Op) (l:List Oper) (σ:AState) (o:Option Bool):Prop:=match o with
 |some true=>Uc P T bx (σ.seen a) (Lt b (Qy P T bx ops K rd wr l) σ d) d op
 |some false=>Qy P T bx ops K rd wr l (σ.next d (.tup []) [])
 |none=>False
theorem Jv (a b:List Nat) (rd wr:List (List Nat)) (ops:Array Oper) (K:AState→Prop) (op:Op) (ty:TypeId) (pos:String) (aft:Array Edge) (l:List Oper) (g:Nat×Bool):
  Qy P T bx ops K (a::rd) (b::wr) (⟨d,op,ty,pos,aft,some g⟩::l) σ=Eb P T bx ops K a b rd wr d op l σ (Zw ops σ ⟨d,op,ty,pos,aft,some g⟩):=rfl
theorem X2b (a b:List Nat) (rd wr:List (List Nat)) (ops:Array Oper) (K:AState→Prop) (op:Op) (l:List Oper):Eb P T bx ops K a b rd wr d op l σ (some true)=Uc P T bx (σ.seen a) (Lt b (Qy P T bx ops K rd wr l) σ d) d op:=rfl
theorem X2c (a b:List Nat) (rd wr:List (List Nat)) (ops:Array Oper) (K:AState→Prop) (op:Op) (l:List Oper):Eb P T bx ops K a b rd wr d op l σ (some false)=Qy P T bx ops K rd wr l (σ.next d (.tup []) []):=rfl
theorem Y5 {a b:List Nat} {rd wr:List (List Nat)} {ops:Array Oper} {K:AState→Prop} {op:Op} {l:List Oper} {v w:Bool} (ht:v=true→Eb P T bx ops K a b rd wr d op l σ (some (true==w))) (hf:v=false→Eb P T bx ops K a b rd wr d op l σ (some (false==w))):
  Eb P T bx ops K a b rd wr d op l σ (some (v==w)):=by
 cases v
 ·exact hf rfl
 ·exact ht rfl
def sg:=And.intro @Jv<|And.intro @X2b<| @X2c
end
section
variable {fr:List AV} {lo:List (Option Res)} {out:Nat→Option Res} {n0 n:Nat} {df:List Deferred}
theorem Xjn (h:n0≤n) (d:Option Tmp) (x:AV) (i:Nat) (r:Res) (g:List (Nat×Res)):AState.next ⟨fr,lo,out,n0,n,df⟩ d x ((n+i,r)::g)=AState.next ⟨fr,lo.set i (some r),out,n0,n,df⟩ d x g:=by
 have h':¬n+i<n0:=by omega
 cases d<;>simp [AState.next,AState.put,AState.give,h']
theorem Xa {k:Nat} (h:k<n0) (d:Option Tmp) (x:AV) (r:Res) (g:List (Nat×Res)):AState.next ⟨fr,lo,out,n0,n,df⟩ d x ((k,r)::g)=AState.next ⟨fr,lo,Xw out k r,n0,n,df⟩ d x g:=by
 cases d<;>simp [AState.next,AState.put,AState.give,h]
end
theorem gE {P:Program} {T:TypeId→Option TI} {bx:List (Nat×Option Nat)} {q:Bool} {ops:Array Oper} {K:AState→Prop} {l:List Oper} {σ:AState} (h:Xp0 P T bx q ops K l σ):Xp0 P T bx q ops K l σ:=h
theorem gR {q:Bool} {R:AState→Prop} {σ:AState} {d:Option Tmp} {r:AV} {g:List (Nat×Res)} (h:Pg q R σ d r g):Pg q R σ d r g:=h
theorem gD {P:Program} {T:TypeId→Option TI} {bx:List (Nat×Option Nat)} {ops:Array Oper} {K:AState→Prop} {rd wr:List (List Nat)} {l:List Oper} {σ:AState} (h:Qy P T bx ops K rd wr l σ):Qy P T bx ops K rd wr l σ:=h
theorem gF {wr:List Nat} {R:AState→Prop} {σ:AState} {d:Option Tmp} {r:AV} {g:List (Nat×Res)} (h:Lt wr R σ d r g):Lt wr R σ d r g:=h
def nb:=And.intro @Bool.not_eq_true' @Bool.not_eq_false'
def su:=And.intro sx<|And.intro sy<|And.intro @ne_eq.{1}<|And.intro @eq_self.{1}<|And.intro @if_true.{1}<|And.intro @if_false.{1}<|And.intro @Nv.eq_def<|And.intro @Tk.eq_def<| @Cl.eq_def
theorem Xif (s:Nat→Option Res) (k:Nat) (r:Res) (j:Nat):Xw s k r j=if j=k then some r else s j:=rfl
theorem Zc (s:Nat→Option Res) (k:Nat) (r:Res) (l:List (Nat×Res)):upd s ((k,r)::l)=upd (Xw s k r) l:=rfl
theorem Wz (s:Nat→Option Res):upd s []=s:=rfl
end Go.VS
namespace Go.Proofs.Ytjgbbjooeibppaa.Tab
set_option linter.defProp false
open Go Go.VS
section
variable {K:AState→Prop} {Q:Exit→AState→Prop} {σ:AState}
theorem X96:Qd K Q .normal σ=K σ:=rfl
theorem X97 (i:Nat):Qd K Q (.exit i) σ=Q (.exit i) σ:=rfl
theorem X98 (i:Nat):Qd K Q (.goto i) σ=Q (.goto i) σ:=rfl
theorem X99:Qd K Q .ret σ=Q .ret σ:=rfl
theorem X9a (i:Nat):Z4 i Q .normal σ=Q .normal σ:=rfl
theorem X9b (i j:Nat):Z4 i Q (.exit j) σ=if j=i then Q .normal σ else Q (.exit j) σ:=rfl
theorem X9c (i j:Nat):Z4 i Q (.goto j) σ=Q (.goto j) σ:=rfl
theorem X9d (i:Nat):Z4 i Q .ret σ=Q .ret σ:=rfl
end
def sb:=And.intro @X96<|And.intro @X97<|And.intro @X98<|And.intro @X99<|And.intro @X9a<|And.intro @X9b<|And.intro @X9c<|And.intro @X9d<|And.intro @if_true.{1}<| @if_false.{1}
def ss:=And.intro su<|And.intro sb hbT
def Vk:= @X9
def Ve:= @Xn Try.prog tab Xj
def V0:= @Xn Try.prog tab Xj []
def Vs:= @Xhj
def Vb:= @Cw
def Vc:= @Cx
def Vr:= @Cy
def Vq {Q:Exit→AState→Prop} {σ:AState} {id:Nat} {l:List Oper}:= @Xqf Try.prog tab Xj Q σ id l follows
def Vd (id:Nat) (bx:List (Nat×Option Nat)) (rd wr:List (List Nat)) {Q:Exit→AState→Prop} {σ:AState} {l:List Oper}:= @Ny Try.prog tab Xj bx rd wr Q σ id l follows
def Vt:= @Wm
def Vf:= @Uy
def Vi:= @Uz
def Vx:= @Qi
def Vz:= @Yd
def Vg:= @Jo
theorem Vn {a:Nat}:a=a:=rfl
section
variable {P:Program} {n:Nat} {fn:Func} {out:Nat→Option Res} {gives:List (Nat×Res)} {r q:AV} {t u:Tmp} {σ:AState}
theorem Vo (hr:fn.results= #[.tmp t]) (hd:σ.df=[]) (h0:σ.n0=n) (ho:∀k,k<n→σ.out k=upd out gives k) (hx:σ.fr.getD t .top=r):Zq P n fn out gives r .ret σ:=Qv (.inr rfl) hr hd h0 ho hx
theorem Vp (hr:fn.results= #[.tmp t,.tmp u]) (hd:σ.df=[]) (h0:σ.n0=n) (ho:∀k,k<n→σ.out k=upd out gives k) (hx:σ.fr.getD t .top=r) (hy:σ.fr.getD u .top=q):Zq P n fn out gives (.tup [r,q]) .ret σ:=X0r (.inr rfl) hr hd h0 ho hx hy
end
end Go.Proofs.Ytjgbbjooeibppaa.Tab
namespace Go.Proofs.Ytjgbbjooeibppaa
set_option linter.unusedSimpArgs false
set_option linter.unusedVariables false
set_option maxHeartbeats 1000000
open Go Go.VS Tab
def idx {α:Type} (p:α→Bool) (l:List α):Int:=match l.findIdx? p with
 |some i=>i
 |none=> -1
theorem Kn {α:Type} {p:α→Bool} {l:List α} (h:∀i (hi:i<l.length),p l[i]=false):idx p l= -1:=by
 have:l.findIdx? p=none:=by
  rw[List.findIdx?_eq_none_iff]
  intro x hx
  obtain⟨i,hi,rfl⟩:=List.getElem_of_mem hx
  exact h i hi
 rw[idx,this]
theorem Ko {α:Type} {p:α→Bool} {l:List α} {i:Nat} (hi:i<l.length) (hp:p l[i]=true) (h:∀j (hj:j<i),p (l[j]'(by omega))=false):idx p l=i:=by
 have:l.findIdx? p=some i:=by
  rw[List.findIdx?_eq_some_iff_getElem]
  exact⟨hi,hp,fun j hj=>by simp [h j hj]⟩
 rw[idx,this]
theorem X3h {α:Type} (p:α→Bool) (l:List α):decide (idx p l≥0)=l.any p:=by
 unfold idx
 cases h:l.findIdx? p with
 |none=>
  rw[List.findIdx?_eq_none_iff] at h
  have:l.any p=false:=by rw[List.any_eq_false];intro x hx;simp [h x hx]
  rw[this];rfl
 |some i=>
  rw[List.findIdx?_eq_some_iff_getElem] at h
  obtain⟨hi,hp,_⟩:=h
  have:l.any p=true:=List.any_eq_true.2 ⟨_,List.getElem_mem hi,hp⟩
  rw[this]
  simp
theorem Xg {α β:Type} (f:α→β) (l:List α) (i:Nat) (d:β) (h:i<l.length):(l.map f).getD i d=f l[i]:=by
 simp [List.getD_eq_getElem?_getD,h]
theorem Xj3 {α:Type} (f:α→List AV) (cell:α→AV) (l:List α) (fid:FuncId) (caps:List AV) (p:α→Bool) (hb:Xd Try.prog fid=True) (hl:l.length≤1000000000)
  (hcell:∀x,pick false 1 (f x)=some (cell x)) (hp:∀x,x∈l→Xr Try.prog fid (cell x::caps) [] (bool (p x)) []):
  Xr Try.prog 104 [.sl 1 (l.map f) .sh,.fn (.func fid) caps] [] (i64 (idx p l)) []:=by
 refine Xc 0 Try.func104 rfl fun n out _ _=> ?_
 simp only[Try.ntmps104,List.length_cons,List.length_nil,List.length_map,List.length_replicate,Xf,Nat.reduceAdd,Nat.reduceSub,List.replicate,List.cons_append,List.nil_append]
 refine X9 fun K hK=>Xn Xj [] ?_
 simp (maxSteps:=9^7) only[ss,X1,tab,simprocAttr, -List.reduceReplicate]
 (refine hK _ ?_;clear hK K)
 refine X9 fun KB hKB=> ?_
 refine X9 fun K hK=>Xn Xj [] ?_
 simp (maxSteps:=9^7) only[ss,X1,tab,simprocAttr, -List.reduceReplicate]
 (refine hK _ ?_;clear hK K)
 refine Xe ?_
 refine Xz (fun i:Nat=>[(8,i64 (i:Int)),(4,.top),(5,.top),(9,.top),(10,.top),(11,.top),(12,.top),(13,.top),(14,.top),(15,.top),(16,.top),(17,.top),(18,.top)]) (fun i=>[]) (fun i=>out) (fun i=>i≤l.length∧(∀j (hj:j<l.length),j<i→p l[j]=false)) (fun i=>l.length - i) 0 ⟨Nat.zero_le _,by intros;omega⟩ ?_ fun i hi=> ?_
 ·refine X2 ?_ ?_ rfl rfl rfl rfl<;>simp only[X4,sl]
 obtain⟨hi,hq⟩:=hi
 simp only[X4,s_0,s_s]
 refine X9 fun K hK=>Xn Xj [] ?_
 simp (maxSteps:=9^7) only[ss,X1,tab,simprocAttr, -List.reduceReplicate]
 (refine hK _ ?_;clear hK K)
 refine X9 fun KC hKC=> ?_
 refine Uz rfl (fun ht=>Xhj (hKC _ ?_)) (fun hf=>Qi (id ?_))
 rotate_left
 ·simp only[Qd,Z4,if_true]
  refine hKB _ ?_
  clear hKB KB hKC KC
  have h_ib:i=l.length:=by have:=of_decide_eq_false hf;omega
  subst h_ib
  have e:=Kn (p:=p) (l:=l) fun i hi=>hq i hi hi
  rw[e]
  refine X9 fun K hK=>Xn Xj [] ?_
  simp (maxSteps:=9^7) only[ss,X1,tab,simprocAttr, -List.reduceReplicate]
  (refine hK _ ?_;clear hK K)
  refine Yd ?_
  exact Qv (.inr rfl) rfl rfl rfl (fun _ _=>rfl) rfl
 clear hKC KC
 have hlt:i<l.length:=by have:=of_decide_eq_true ht;omega
 refine X9 fun KC hKC=>Xe ?_
 refine X9 fun K hK=>Xn Xj [] ?_
 simp (maxSteps:=9^7) only[ss,X1,tab,simprocAttr, -List.reduceReplicate]
 (refine hK _ ?_;clear hK K)
 refine X9 fun K hK=>Xn Xj [] ?_
 simp (maxSteps:=9^7) only[ss,X1,tab,simprocAttr, -List.reduceReplicate,hlt,List.length_map,Xg f l i [] hlt,hcell,hb]
 skip
 refine X3 (hp _ (List.getElem_mem hlt)) ?_
 simp (maxSteps:=9^7) only[ss,X1,tab,simprocAttr, -List.reduceReplicate]
 (refine hK _ ?_;clear hK K)
 refine Uz rfl (fun ht=> ?_) (fun hf=>Xhj ?_)
 ·have e:=Ko hlt ht fun j hj=>hq j (by omega) hj
  refine X9 fun K hK=>Xn Xj [] ?_
  simp (maxSteps:=9^7) only[ss,X1,tab,simprocAttr, -List.reduceReplicate]
  (refine hK _ ?_;clear hK K)
  rw[← e]
  refine Yd ?_
  exact Qv (.inr rfl) rfl rfl rfl (fun _ _=>rfl) rfl
 repeat refine And.intro (by omega) ?_
 refine hKC _ ?_
 clear hKC KC
 refine Xn Xj [] ?_
 simp (maxSteps:=9^7) only[ss,X1,tab,simprocAttr, -List.reduceReplicate,Yl (n:=i) 1 1 rfl (by omega)]
 refine⟨i+1,⟨by omega,?_⟩,by omega,?_⟩
 ·intro j hj hji
  by_cases h:j=i
  ·subst h;exact hf
  ·exact hq j hj (by omega)
 refine X2 ?_ ?_ rfl rfl rfl rfl<;>simp only[X4,sl]
theorem Xig {α:Type} (f:α→List AV) (cell:α→AV) (l:List α) (fid:FuncId) (caps:List AV) (p:α→Bool) (hb:Xd Try.prog fid=True) (hl:l.length≤1000000000)
  (hcell:∀x,pick false 1 (f x)=some (cell x)) (hp:∀x,x∈l→Xr Try.prog fid (cell x::caps) [] (bool (p x)) []):
  Xr Try.prog 85 [.sl 1 (l.map f) .sh,.fn (.func fid) caps] [] (bool (l.any p)) []:=by
 refine Xc 0 Try.func85 rfl fun n out _ _=> ?_
 simp only[Try.ntmps85,List.length_cons,List.length_nil,List.length_map,List.length_replicate,Xf,Nat.reduceAdd,Nat.reduceSub,List.replicate,List.cons_append,List.nil_append]
 refine X9 fun K hK=>Xn Xj [] ?_
 simp (maxSteps:=9^7) only[ss,X1,tab,simprocAttr, -List.reduceReplicate]
 (refine hK _ ?_;clear hK K)
 refine X9 fun K hK=>Xn Xj [] ?_
 simp (maxSteps:=9^7) only[ss,X1,tab,simprocAttr, -List.reduceReplicate]
 skip
 refine X3 (Xj3 f cell l fid caps p hb hl hcell hp) ?_
 simp (maxSteps:=9^7) only[ss,X1,tab,simprocAttr, -List.reduceReplicate]
 (refine hK _ ?_;clear hK K)
 rw[X3h]
 refine Yd ?_
 exact Qv (.inr rfl) rfl rfl rfl (fun _ _=>rfl) rfl
theorem Xj4 {α:Type} (f:α→List AV) (cell:α→AV) (l:List α) (fid:FuncId) (caps:List AV) (p:α→Bool) (hb:Xd Try.prog fid=True) (hl:l.length≤1000000000)
  (hcell:∀x,pick false 1 (f x)=some (cell x)) (hp:∀x,x∈l→Xr Try.prog fid (cell x::caps) [] (bool (p x)) []):
  Xr Try.prog 91 [.sl 1 (l.map f) .sh,.fn (.func fid) caps] [] (i64 (idx p l)) []:=by
 refine Xc 0 Try.func91 rfl fun n out _ _=> ?_
 simp only[Try.ntmps91,List.length_cons,List.length_nil,List.length_map,List.length_replicate,Xf,Nat.reduceAdd,Nat.reduceSub,List.replicate,List.cons_append,List.nil_append]
 refine X9 fun K hK=>Xn Xj [] ?_
 simp (maxSteps:=9^7) only[ss,X1,tab,simprocAttr, -List.reduceReplicate]
 (refine hK _ ?_;clear hK K)
 refine X9 fun KB hKB=> ?_
 refine X9 fun K hK=>Xn Xj [] ?_
 simp (maxSteps:=9^7) only[ss,X1,tab,simprocAttr, -List.reduceReplicate]
 (refine hK _ ?_;clear hK K)
 refine Xe ?_
 refine Xz (fun i:Nat=>[(8,i64 (i:Int)),(4,.top),(5,.top),(9,.top),(10,.top),(11,.top),(12,.top),(13,.top),(14,.top),(15,.top),(16,.top),(17,.top),(18,.top)]) (fun i=>[]) (fun i=>out) (fun i=>i≤l.length∧(∀j (hj:j<l.length),j<i→p l[j]=false)) (fun i=>l.length - i) 0 ⟨Nat.zero_le _,by intros;omega⟩ ?_ fun i hi=> ?_
 ·refine X2 ?_ ?_ rfl rfl rfl rfl<;>simp only[X4,sl]
 obtain⟨hi,hq⟩:=hi
 simp only[X4,s_0,s_s]
 refine X9 fun K hK=>Xn Xj [] ?_
 simp (maxSteps:=9^7) only[ss,X1,tab,simprocAttr, -List.reduceReplicate]
 (refine hK _ ?_;clear hK K)
 refine X9 fun KC hKC=> ?_
 refine Uz rfl (fun ht=>Xhj (hKC _ ?_)) (fun hf=>Qi (id ?_))
 rotate_left
 ·simp only[Qd,Z4,if_true]
  refine hKB _ ?_
  clear hKB KB hKC KC
  have h_ib:i=l.length:=by have:=of_decide_eq_false hf;omega
  subst h_ib
  have e:=Kn (p:=p) (l:=l) fun i hi=>hq i hi hi
  rw[e]
  refine X9 fun K hK=>Xn Xj [] ?_
  simp (maxSteps:=9^7) only[ss,X1,tab,simprocAttr, -List.reduceReplicate]
  (refine hK _ ?_;clear hK K)
  refine Yd ?_
  exact Qv (.inr rfl) rfl rfl rfl (fun _ _=>rfl) rfl
 clear hKC KC
 have hlt:i<l.length:=by have:=of_decide_eq_true ht;omega
 refine X9 fun KC hKC=>Xe ?_
 refine X9 fun K hK=>Xn Xj [] ?_
 simp (maxSteps:=9^7) only[ss,X1,tab,simprocAttr, -List.reduceReplicate]
 (refine hK _ ?_;clear hK K)
 refine X9 fun K hK=>Xn Xj [] ?_
 simp (maxSteps:=9^7) only[ss,X1,tab,simprocAttr, -List.reduceReplicate,hlt,List.length_map,Xg f l i [] hlt,hcell,hb]
 skip
 refine X3 (hp _ (List.getElem_mem hlt)) ?_
 simp (maxSteps:=9^7) only[ss,X1,tab,simprocAttr, -List.reduceReplicate]
 (refine hK _ ?_;clear hK K)
 refine Uz rfl (fun ht=> ?_) (fun hf=>Xhj ?_)
 ·have e:=Ko hlt ht fun j hj=>hq j (by omega) hj
  refine X9 fun K hK=>Xn Xj [] ?_
  simp (maxSteps:=9^7) only[ss,X1,tab,simprocAttr, -List.reduceReplicate]
  (refine hK _ ?_;clear hK K)
  rw[← e]
  refine Yd ?_
  exact Qv (.inr rfl) rfl rfl rfl (fun _ _=>rfl) rfl
 repeat refine And.intro (by omega) ?_
 refine hKC _ ?_
 clear hKC KC
 refine Xn Xj [] ?_
 simp (maxSteps:=9^7) only[ss,X1,tab,simprocAttr, -List.reduceReplicate,Yl (n:=i) 1 1 rfl (by omega)]
 refine⟨i+1,⟨by omega,?_⟩,by omega,?_⟩
 ·intro j hj hji
  by_cases h:j=i
  ·subst h;exact hf
  ·exact hq j hj (by omega)
 refine X2 ?_ ?_ rfl rfl rfl rfl<;>simp only[X4,sl]
theorem Xhl {α:Type} (f:α→List AV) (cell:α→AV) (l:List α) (fid:FuncId) (caps:List AV) (p:α→Bool) (hb:Xd Try.prog fid=True) (hl:l.length≤1000000000)
  (hcell:∀x,pick false 1 (f x)=some (cell x)) (hp:∀x,x∈l→Xr Try.prog fid (cell x::caps) [] (bool (p x)) []):
  Xr Try.prog 65 [.sl 1 (l.map f) .sh,.fn (.func fid) caps] [] (bool (l.any p)) []:=by
 refine Xc 0 Try.func65 rfl fun n out _ _=> ?_
 simp only[Try.ntmps65,List.length_cons,List.length_nil,List.length_map,List.length_replicate,Xf,Nat.reduceAdd,Nat.reduceSub,List.replicate,List.cons_append,List.nil_append]
 refine X9 fun K hK=>Xn Xj [] ?_
 simp (maxSteps:=9^7) only[ss,X1,tab,simprocAttr, -List.reduceReplicate]
 (refine hK _ ?_;clear hK K)
 refine X9 fun K hK=>Xn Xj [] ?_
 simp (maxSteps:=9^7) only[ss,X1,tab,simprocAttr, -List.reduceReplicate]
 skip
 refine X3 (Xj4 f cell l fid caps p hb hl hcell hp) ?_
 simp (maxSteps:=9^7) only[ss,X1,tab,simprocAttr, -List.reduceReplicate]
 (refine hK _ ?_;clear hK K)
 rw[X3h]
 refine Yd ?_
 exact Qv (.inr rfl) rfl rfl rfl (fun _ _=>rfl) rfl
abbrev bs (l:List UInt8):AV:= .sl 1 (Xo l) .sh
structure Wr where
 at':Int
 data:List UInt8
structure Dsk where
 sectors:List (List UInt8)
 waits:List Wr
def Y6 (b:List UInt8):List AV:=[bs b]
def wrC (w:Wr):List AV:=[i64 w.at',bs w.data]
def Xha (d:Dsk):List AV:=[.sl 1 (d.sectors.map Y6) .sh,.sl 2 (d.waits.map wrC) .sh]
def wrA (w:Wr):AV:= .agg (wrC w)
def Y3p (d:Dsk):AV:= .agg (Xha d)
def Ym (n:Int):List AV:=[i64 n]
theorem X0b (b:List UInt8):pick false 1 (Y6 b)=some (bs b):=rfl
theorem Xj7 (n:Int):pick false 1 (Ym n)=some (i64 n):=rfl
theorem Xds (l:List UInt8) (hl:l.length≤100000000):Xr Try.prog 57 [bs l] [] (bs l) []:=by
 refine Xbz (fun h=> ?_) ?_
 ·obtain rfl:l=[]:=by simpa [Xo] using h
  refine Xc 0 Try.func57 rfl fun n out _ _=> ?_
  simp only[Try.ntmps57,List.length_cons,List.length_nil,List.length_map,List.length_replicate,Xf,Nat.reduceAdd,Nat.reduceSub,List.replicate,List.cons_append,List.nil_append]
  refine X9 fun K hK=>Xn Xj [] ?_
  simp (maxSteps:=9^7) only[ss,X1,tab,simprocAttr, -List.reduceReplicate]
  (refine hK _ ?_;clear hK K)
  refine X9 fun KB hKB=> ?_
  refine X9 fun K hK=>Xn Xj [] ?_
  simp (maxSteps:=9^7) only[ss,X1,tab,simprocAttr, -List.reduceReplicate]
  (refine hK _ ?_;clear hK K)
  refine Wm rfl ?_
  refine X9 fun K hK=>Xn Xj [] ?_
  simp (maxSteps:=9^7) only[ss,X1,tab,simprocAttr, -List.reduceReplicate]
  (refine hK _ ?_;clear hK K)
  refine Yd ?_
  exact Xv (.inr rfl) rfl rfl rfl (fun _ _=>rfl) ((Py _ _).2 trivial) rfl
 ·refine Xc 0 Try.func57 rfl fun n out _ _=> ?_
  simp only[Try.ntmps57,List.length_cons,List.length_nil,List.length_map,List.length_replicate,Xf,Nat.reduceAdd,Nat.reduceSub,List.replicate,List.cons_append,List.nil_append]
  refine X9 fun K hK=>Xn Xj [] ?_
  simp (maxSteps:=9^7) only[ss,X1,tab,simprocAttr, -List.reduceReplicate]
  (refine hK _ ?_;clear hK K)
  refine X9 fun KB hKB=> ?_
  refine X9 fun K hK=>Xn Xj [] ?_
  simp (maxSteps:=9^7) only[ss,X1,tab,simprocAttr, -List.reduceReplicate]
  (refine hK _ ?_;clear hK K)
  refine Uy rfl (Xhj (hKB _ ?_))
  refine X9 fun K hK=>Xn Xj [] ?_
  simp (maxSteps:=9^7) only[ss,X1,tab,simprocAttr, -List.reduceReplicate,X5,show l.length≤140737488355328 by omega,show l.length≤9223372036854775807 by omega]
  (refine hK _ ?_;clear hK K)
  refine Yd ?_
  refine Xv (.inr rfl) rfl rfl rfl (fun _ _=>rfl) (.sh _ _ _) rfl
theorem Xl7 (a b:List UInt8):Xr Try.prog 52 [bs a,bs b] [] (bool (a==b)) []:=by
 refine Xc 0 Try.func52 rfl fun n out _ _=> ?_
 simp only[Try.ntmps52,List.length_cons,List.length_nil,List.length_map,List.length_replicate,Xf,Nat.reduceAdd,Nat.reduceSub,List.replicate,List.cons_append,List.nil_append]
 refine X9 fun K hK=>Xn Xj [] ?_
 simp (maxSteps:=9^7) only[ss,X1,tab,simprocAttr, -List.reduceReplicate]
 (refine hK _ ?_;clear hK K)
 refine X9 fun K hK=>Xn Xj [] ?_
 simp (maxSteps:=9^7) only[ss,X1,tab,simprocAttr, -List.reduceReplicate,Ya,Z5]
 (refine hK _ ?_;clear hK K)
 refine Yd ?_
 exact Qv (.inr rfl) rfl rfl rfl (fun _ _=>rfl) rfl
end Go.Proofs.Ytjgbbjooeibppaa
