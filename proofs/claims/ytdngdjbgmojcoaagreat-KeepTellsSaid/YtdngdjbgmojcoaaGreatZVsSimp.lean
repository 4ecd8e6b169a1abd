/-
 The value-semantics layer, part 13: equations by which states are reckoned.
-/
import Derived.Test.YtdngdjbgmojcoaaGreatZVsMove2
namespace Go.VS
set_option linter.all false
open Go Go.RowKit
section
variable {P:Program} {T:TypeId->Option TI} {bx:List (Nat×Option Nat)} {σ:AState} {K:AV->List (Nat×Res)->Prop} {d:Option Tmp}
variable {fr:List AV} {lo:List (Option Res)} {out:Nat->Option Res} {n0 n:Nat} {df:List Deferred}
theorem X8b (q:Bool) (ops:Array Oper) (K:AState->Prop):Xp0 P T bx q ops K [] σ=K σ:=rfl
theorem X6u (q:Bool) (ops:Array Oper) (K:AState->Prop) (op:Op) (ty:TypeId) (pos:String) (aft:Array Edge) (l:List Oper):
  Xp0 P T bx q ops K (⟨d,op,ty,pos,aft,none⟩::l) σ=Uc P T bx σ (Pg q (Xp0 P T bx q ops K l) σ d) d op:=rfl
def X5c (P:Program) (T:TypeId->Option TI) (bx:List (Nat×Option Nat)) (q:Bool) (ops:Array Oper) (K:AState->Prop) (d:Option Tmp) (op:Op) (l:List Oper) (σ:AState) (o:Option Bool):Prop:=match o with
 |some true=>Uc P T bx σ (Pg q (Xp0 P T bx q ops K l) σ d) d op
 |some false=>Xp0 P T bx q ops K l (σ.next d (.tup []) [])
 |none=>False
theorem X4m (q:Bool) (ops:Array Oper) (K:AState->Prop) (op:Op) (ty:TypeId) (pos:String) (aft:Array Edge) (l:List Oper) (g:Nat×Bool):
  Xp0 P T bx q ops K (⟨d,op,ty,pos,aft,some g⟩::l) σ=X5c P T bx q ops K d op l σ (Zw ops σ ⟨d,op,ty,pos,aft,some g⟩):=rfl
theorem X6v (q:Bool) (ops:Array Oper) (K:AState->Prop) (op:Op) (l:List Oper):X5c P T bx q ops K d op l σ (some true)=Uc P T bx σ (Pg q (Xp0 P T bx q ops K l) σ d) d op:=rfl
theorem X6w (q:Bool) (ops:Array Oper) (K:AState->Prop) (op:Op) (l:List Oper):X5c P T bx q ops K d op l σ (some false)=Xp0 P T bx q ops K l (σ.next d (.tup []) []):=rfl
theorem Jo {q:Bool} {ops:Array Oper} {K:AState->Prop} {op:Op} {l:List Oper} {b w:Bool} (ht:b=true->X5c P T bx q ops K d op l σ (some (true==w))) (hf:b=false->X5c P T bx q ops K d op l σ (some (false==w))):
  X5c P T bx q ops K d op l σ (some (b==w)):=by
 cases b
 ·exact hf rfl
 ·exact ht rfl
theorem Cw {Q:Exit->AState->Prop} {id:Nat} {x y:Code} (h:AWp P (.seq x y) (Z4 id Q) σ):AWp P (.block id (.seq x y)) Q σ:=Xe h
theorem Cx {Q:Exit->AState->Prop} {id:Nat} {c:Operand} {x y:Code} (h:AWp P (.cond c x y) (Z4 id Q) σ):AWp P (.block id (.cond c x y)) Q σ:=Xe h
theorem Cy {Q:Exit->AState->Prop} {id i:Nat} {l:Array Oper} {w:Bool} (h:AWp P (.region i l w) (Z4 id Q) σ):AWp P (.block id (.region i l w)) Q σ:=Xe h
def wgd (x:AV) (w:Bool):Option Bool:=match some x with
 |some (.val (.bool b))=>some (b==w)
 |some (.tup [])=>some false
 | _=>none
def Fr (ops:List Oper) (j:Nat):Option Tmp:=match ops,j with
 |[],_=>none
 |o:: _,0=>o.dst
 | _::l,j+1=>Fr l j
theorem X9s (d:Option Tmp) (op:Op) (ty:TypeId) (pos:String) (aft:Array Edge) (g:Option (Nat×Bool)) (l:List Oper):Fr (⟨d,op,ty,pos,aft,g⟩::l) 0=d:=rfl
theorem X9t (o:Oper) (l:List Oper) (j:Nat):Fr (o::l) (j+1)=Fr l j:=rfl
theorem E9:∀(ops:List Oper) (j:Nat),Fr ops j=(ops[j]?).bind (·.dst)
 |[],_=>rfl
 | _:: _,0=>rfl
 | _::l,j+1=>E9 l j
def wgo (fr:List AV) (o:Option Tmp) (w:Bool):Option Bool:=match o with
 |some d=>wgd (fr.getD d .top) w
 |none=>some false
theorem X1h (fr:List AV) (d:Tmp) (w:Bool):wgo fr (some d) w=wgd (fr.getD d .top) w:=rfl
theorem X9u (ops:List Oper) (op:Op) (ty:TypeId) (pos:String) (aft:Array Edge) (j:Nat) (w:Bool):
  Zw ops.toArray ⟨fr,lo,out,n0,n,df⟩ ⟨d,op,ty,pos,aft,some (j,w)⟩=wgo fr (Fr ops j) w:=by
 unfold Zw wgo;rw[E9];simp only[d7];cases (ops[j]?).bind (·.dst) with
 |none=>rfl
 |some t=>
  simp only[af];cases fr[t]? with
  |none=>rfl
  |some x=>
   simp only[Option.getD_some];unfold wgd;rfl
theorem X8c (b w:Bool):wgd (.val (.bool b)) w=some (b==w):=rfl
theorem X8d (w:Bool):wgd (.tup []) w=some false:=rfl
theorem X6x (rd wr:List (List Nat)) (ops:Array Oper) (K:AState->Prop):Qy P T bx ops K rd wr [] σ=K σ:=by cases rd<;>cases wr<;>rfl
theorem X4n (a b:List Nat) (rd wr:List (List Nat)) (ops:Array Oper) (K:AState->Prop) (op:Op) (ty:TypeId) (pos:String) (aft:Array Edge) (l:List Oper):
  Qy P T bx ops K (a::rd) (b::wr) (⟨d,op,ty,pos,aft,none⟩::l) σ=Uc P T bx (σ.seen a) (Lt b (Qy P T bx ops K rd wr l) σ d) d op:=rfl
theorem X6y (lst:Nat) (anc:List Nat) (ops:Array Oper) (K:AState->Prop) (i:Nat):Tp P T bx ops lst anc K i [] σ=K σ:=rfl
theorem X4o (lst:Nat) (anc:List Nat) (ops:Array Oper) (K:AState->Prop) (i:Nat) (op:Op) (ty:TypeId) (pos:String) (aft:Array Edge) (l:List Oper):
  Tp P T bx ops lst anc K i (⟨d,op,ty,pos,aft,none⟩::l) σ=Uc P T bx (if (i==lst||anc.contains i)=true then σ else σ.seen []) (FdT (i==lst) (Tp P T bx ops lst anc K (i+1) l) σ d) d op:=rfl
theorem X4p (a:List Nat):AState.seen ⟨fr,lo,out,n0,n,df⟩ a=⟨fr,Wt a 0 lo,fun _=>some .dead,n0,n,df⟩:=rfl
theorem X8e (t:Tmp):AState.ev ⟨fr,lo,out,n0,n,df⟩ (.tmp t)=fr.getD t .top:=rfl
theorem X4q (v:Value):AState.ev σ (.const v)=Yq v:=rfl
theorem X6z (f:FuncId):AState.ev σ (.func f)= .fn (.func f) []:=rfl
theorem X70 (k:IntKind) (a:Int):Yq (.int k a)= .val (.int k a):=rfl
theorem X29 (a:Bool):Yq (.bool a)= .val (.bool a):=rfl
theorem X1i (a:ByteArray):Yq (.string a)= .val (.string a):=rfl
theorem X8f:Yq (.slice none 0 0)= .sl 0 [] .nil:=rfl
theorem X71:Yq .nilFunc= .val .nilFunc:=rfl
theorem X72:Yq .nilIface= .val .nilIface:=rfl
theorem g_0 (a:AV) (l:List AV):(a::l).getD 0 .top=a:=rfl
theorem g_s (a:AV) (l:List AV) (i:Nat):(a::l).getD (i+1) .top=l.getD i .top:=rfl
theorem s_0 {α:Type} (a x:α) (l:List α):(a::l).set 0 x=x::l:=rfl
theorem s_s {α:Type} (a x:α) (l:List α) (i:Nat):(a::l).set (i+1) x=a::l.set i x:=rfl
theorem X73 (x:AV):AState.next ⟨fr,lo,out,n0,n,df⟩ none x []=⟨fr,lo,out,n0,n,df⟩:=rfl
theorem X74 (t:Tmp) (x:AV):AState.next ⟨fr,lo,out,n0,n,df⟩ (some t) x []=⟨fr.set t x,lo,out,n0,n,df⟩:=rfl
theorem X75 (t:Tmp) (x:AV) (i:Nat) (r:Res):AState.next ⟨fr,lo,out,n,n,df⟩ (some t) x [(n+i,r)]=⟨fr.set t x,lo.set i (some r),out,n,n,df⟩:=by
 have h:¬n+i<n:=by omega
 simp [AState.next,AState.put,AState.give,h]
theorem X76 (x:AV) (i:Nat) (r:Res):AState.next ⟨fr,lo,out,n,n,df⟩ none x [(n+i,r)]=⟨fr,lo.set i (some r),out,n,n,df⟩:=by
 have h:¬n+i<n:=by omega
 simp [AState.next,AState.put,AState.give,h]
theorem X2a (i:Nat):AState.look ⟨fr,lo,out,n,n,df⟩ (n+i)=(lo[i]?).join:=by
 have h:¬n+i<n:=by omega
 simp [AState.look,h]
theorem X77 (i:Nat):AState.dom ⟨fr,lo,out,n,n,df⟩ (n+i)=(i<lo.length):=by
 have h:¬n+i<n:=by omega
 simp [AState.dom,h]
theorem X78 (wr:List Nat) (R:AState->Prop) (r:AV) (x:Nat) (q:Res):Lt wr R ⟨fr,lo,out,n0,n,df⟩ d r [(n+x,q)]=(wr.contains x=true∧R (AState.next ⟨fr,lo,out,n0,n,df⟩ d r [(n+x,q)])):=Iz wr R _ d r x q
theorem Xi {n0 n:Nat} (h:n0<=n):(∀(fr:List AV) (lo:List (Option Res)) (out:Nat->Option Res) (df:List Deferred) (i:Nat),AState.look ⟨fr,lo,out,n0,n,df⟩ (n+i)=(lo[i]?).join)∧
  (∀(fr:List AV) (lo:List (Option Res)) (out:Nat->Option Res) (df:List Deferred) (i:Nat),AState.dom ⟨fr,lo,out,n0,n,df⟩ (n+i)=(i<lo.length))∧
  (∀(fr:List AV) (lo:List (Option Res)) (out:Nat->Option Res) (df:List Deferred) (t:Tmp) (x:AV) (i:Nat) (r:Res),AState.next ⟨fr,lo,out,n0,n,df⟩ (some t) x [(n+i,r)]=⟨fr.set t x,lo.set i (some r),out,n0,n,df⟩)∧
  (∀(fr:List AV) (lo:List (Option Res)) (out:Nat->Option Res) (df:List Deferred) (x:AV) (i:Nat) (r:Res),AState.next ⟨fr,lo,out,n0,n,df⟩ none x [(n+i,r)]=⟨fr,lo.set i (some r),out,n0,n,df⟩)∧
  (∀(fr:List AV) (lo:List (Option Res)) (out:Nat->Option Res) (df:List Deferred) (i:Nat) (r:Res),AState.give ⟨fr,lo,out,n0,n,df⟩ [(n+i,r)]=⟨fr,lo.set i (some r),out,n0,n,df⟩):=by
 refine⟨?_,?_,?_,?_,?_⟩<;>intro fr lo out df;all_goals intros
 all_goals (have hq:∀i,¬n+i<n0:=fun i=>by omega)
 all_goals simp [AState.look,AState.dom,AState.next,AState.put,AState.give,hq]
theorem X8 {k:Nat} (h:k<n):AState.look ⟨fr,lo,out,n,n0,df⟩ k=out k:=by simp [AState.look,h]
theorem X7 {k:Nat} (h:k<n):AState.dom ⟨fr,lo,out,n,n0,df⟩ k=True:=by simp [AState.dom,h]
theorem Cz {k:Nat} (h:k<n) (t:Tmp) (x:AV) (r:Res):AState.next ⟨fr,lo,out,n,n0,df⟩ (some t) x [(k,r)]=⟨fr.set t x,lo,Xw out k r,n,n0,df⟩:=by simp [AState.next,AState.put,AState.give,h]
theorem X79 {k:Nat} (h:k<n) (r:Res):AState.give ⟨fr,lo,out,n,n0,df⟩ [(k,r)]=⟨fr,lo,Xw out k r,n,n0,df⟩:=by simp [AState.give,h]
theorem Jp (s:Nat->Option Res) (k:Nat) (r q:Res):Xw (Xw s k r) k q=Xw s k q:=by
 funext j;unfold Xw;split<;>rfl
theorem Qb {s:Nat->Option Res} {k:Nat} {r:Res} (h:s k=some r):Xw s k r=s:=by
 funext j;unfold Xw;split
 ·rename_i e;rw[e,h]
 ·rfl
theorem X4r (l:List (Option Res)):ff (none::l)=0:=rfl
theorem X4s (r:Res) (l:List (Option Res)):ff (some r::l)=ff l+1:=rfl
theorem X4t:Qs ⟨fr,lo,out,n0,n,df⟩ none=n+ff lo:=rfl
theorem X4u (k:Nat):Qs σ (some k)=k:=rfl
theorem X4v:S9 σ none=M7 σ:=rfl
theorem Y3a (k:Nat):S9 σ (some k)=(σ.dom k∧σ.look k=none):=rfl
theorem X7a (d:Tmp):X6c [] (some d)=none:=rfl
theorem X4w (d t:Tmp) (o:Option Nat) (l:List (Nat×Option Nat)):X6c ((t,o)::l) (some d)=if d+1000=t then some o else X6c l (some d):=by
 show List.lookup (d+1000) ((t,o)::l)= _
 rw[List.lookup_cons];by_cases h:d+1000=t
 ·rw[if_pos h];simp [h]
 ·rw[if_neg h];have:(d+1000==t)=false:=by simpa using h
  rw[this];rfl
theorem X7b (d:Tmp):Ju [] (some d)=none:=rfl
theorem X4x (d t:Tmp) (o:Option Nat) (l:List (Nat×Option Nat)):Ju ((t,o)::l) (some d)=if d=t then some o else Ju l (some d):=by
 simp only[Ju,Option.getD_some,List.lookup];by_cases h:d=t
 ·simp [h]
 ·have hb:(d==t)=false:=beq_false_of_ne h;rw[hb,if_neg h]
theorem fa:M7 ⟨fr,lo,out,n0,n,df⟩=(lo[ff lo]? =some none):=rfl
theorem X7c (a:List Nat) (i:Nat):Wt a i []=[]:=rfl
theorem X4y (a:List Nat) (i:Nat) (r:Option Res) (l:List (Option Res)):Wt a i (r::l)=(if a.contains i then r else some .dead)::Wt a (i+1) l:=rfl
theorem X8g (x:Operand):Uc P T bx σ K d (.nilCheck x)=Ir K (σ.ev x):=rfl
theorem X4z (k off:Nat):Ir K (.ptr k off)=K (.ptr k off) []:=rfl
theorem X50 (cs:List AV):Ir K (.ref cs)=K (.ref cs) []:=rfl
theorem X7d (x:Operand):Uc P T bx σ K d (.move x)=K (σ.ev x) []:=rfl
theorem X1j (x:Operand):Uc P T bx σ K d (.assign x)=K (σ.ev x) []:=rfl
theorem X51 (t:TypeId):Uc P T bx σ K d (.alloc t)=match T t with
  |some ti=>M7 σ∧K (.ptr (σ.n+ff σ.lo) 0) [(σ.n+ff σ.lo,.box t (ti.zero.map Yq))]
  |none=>False:=rfl
theorem X8h (t:TypeId) (x:Operand):Uc P T bx σ K d (.box t x)=match (σ.ev x).parts with
  |some xs=>M7 σ∧K (.ptr (σ.n+ff σ.lo) 0) [(σ.n+ff σ.lo,.box t xs)]
  |none=>False:=rfl
theorem X7e (c x y:Operand):Uc P T bx σ K d (.pick c x y)=match σ.ev c with
  | .val (.bool b)=>K (if b then σ.ev x else σ.ev y) []
  | _=>False:=rfl
theorem X7f (t:TypeId) (x:Operand):Uc P T bx σ K d (.load t x)=Ti T σ K t (σ.ev x):=rfl
theorem X52 (t:TypeId) (x y:Operand):Uc P T bx σ K d (.store t x y)=Ns T σ K t (σ.ev x) (σ.ev y):=rfl
theorem X8i (op:BinOp) (t yt:TypeId) (x y:Operand):Uc P T bx σ K d (.binOp op t x y yt)=Ip P T K op t (σ.ev x) (σ.ev y) y:=rfl
theorem X9v (op:UnOp) (t:TypeId) (x:Operand):Uc P T bx σ K d (.unOp op t x)=X6d K op (σ.ev x):=rfl
theorem X7g (s t:TypeId) (x:Operand):Uc P T bx σ K d (.convert s t x)=Tj T σ K s t (σ.ev x):=rfl
theorem X53 (t:TypeId) (parts:List (Nat×Operand)):Uc P T bx σ K d (.build t parts.toArray)=Nv T K t (parts.map fun p=>(p.1,σ.ev p.2)):=rfl
theorem X8j (d':Tmp) (t:TypeId) (m:Nat) (parts:List (Nat×Operand)):Uc P T bx σ K (some d') (.buildSlice t m parts.toArray)=X1 T σ K (Ju bx (some d')) t m (parts.map fun p=>(p.1,σ.ev p.2)):=rfl
theorem X7h (d':Tmp) (t:TypeId) (x y:Operand):Uc P T bx σ K (some d') (.makeSlice t x y)=Tk T σ K (Ju bx (some d')) t (σ.ev x) (σ.ev y):=rfl
theorem X54 (t:TypeId) (x:Operand) (lo hi mx:Option Operand):Uc P T bx σ K d (.slice t x lo hi mx)=Nu T σ K t (σ.ev x) lo hi mx:=rfl
theorem X55 (s:TypeId) (x:Operand) (f:Nat):Uc P T bx σ K d (.fieldAddr s x f)=Vw T K s (σ.ev x) f true:=rfl
theorem X56 (s:TypeId) (x:Operand) (f:Nat):Uc P T bx σ K d (.field s x f)=Vw T K s (σ.ev x) f false:=rfl
theorem X57 (t:TypeId) (x y:Operand):Uc P T bx σ K d (.indexAddr t x y)=Io T K t (σ.ev x) (σ.ev y):=rfl
theorem X58 (t:TypeId) (x y:Operand):Uc P T bx σ K d (.index t x y)=Nt T K t (σ.ev x) (σ.ev y):=rfl
theorem X8k (x:Operand) (t:TypeId):Uc P T bx σ K d (.call {callee:= .builtin .len,args:= #[x],argTypes:= #[t]})=Iq T σ K t (σ.ev x):=rfl
theorem X8l (x:Operand) (t:TypeId):Uc P T bx σ K d (.call {callee:= .builtin .cap,args:= #[x],argTypes:= #[t]})=((match T t with|some si=>(match si.desc with| .slice _=>True| _=>False)|none=>False)∧match σ.ev x with
   | .sl _ els .full=>K (.val (.int .i64 els.length)) []
   | .sl _ _ .nil=>K (.val (.int .i64 0)) []
   | _=>False):=rfl
theorem X1k (d':Tmp) (x y:Operand) (t u:TypeId):Uc P T bx σ K (some d') (.call {callee:= .builtin .append,args:= #[x,y],argTypes:= #[t,u]})=L9 T σ K (Ju bx (some d')) (X6c bx (some d')) t u (σ.ev x) (σ.ev y):=rfl
theorem Jq (x:Operand) (i:Nat):Uc P T bx σ K d (.extract x i)=match σ.ev x with
  | .tup l=>match l[i]? with
   |some r=>K r []
   |none=>False
  | _=>False:=rfl
theorem X59 (t:TypeId) (x:Operand):Uc P T bx σ K d (.makeInterface t x)=match T t with
  |some ti=>Qj ti.desc∧K (.iface t (σ.ev x)) []
  |none=>False:=rfl
theorem X7j (f:Fn) (caps:List Operand):Uc P T bx σ K d (.makeFunc f #[] caps.toArray)=K (.fn f (caps.map σ.ev)) []:=by simp [Uc]
theorem X1l (x:Operand) (xt u:TypeId) (ok:Bool):Uc P T bx σ K d (.typeAssert x xt u ok)=match T u,σ.ev x with
  |some ti,.iface t y=>Qj ti.desc∧if t=u then K (if ok then .tup [y,.val (.bool true)] else y) [] else ok=true∧K (.tup [.top,.val (.bool false)]) []
  | _,_=>False:=rfl
theorem X8n (x y:Operand) (t u:TypeId):Uc P T bx σ K d (.call {callee:= .builtin .min,args:= #[x,y],argTypes:= #[t,u]})=match σ.ev x,σ.ev y with
  | .val (.int k a),.val (.int _ b)=>K (.val (.int k (if b<a then b else a))) []
  | _,_=>False:=rfl
def Xd (P:Program) (f:FuncId):Prop:=∃fn,P.funcs[f]? =some fn∧fn.body.isSome=true∧(fn.name== "runtime.NumGoroutine")=false
def Ea (P:Program) (f:FuncId):Bool:=match P.funcs[f]? with
 |some fn=>fn.body.isSome&& !(fn.name== "runtime.NumGoroutine")
 |none=>false
theorem Xup {n:Nat} (h:(List.range n).all (fun f=>Nat.ble f 2||Ea P f)=true) (f:Nat) (h2:2<f) (hf:f<n):Xd P f=True:=by
 have:=az.1 h f (dq.2 hf);rw[ck] at this;have:=this.resolve_left (by rw[Nat.ble_eq];omega);unfold Ea at this;split at this
 ·rename_i fn h1;rw[ad] at this;exact eq_true ⟨fn,h1,this.1,by simpa using this.2⟩
 ·cases this
theorem X7k (f:FuncId) (args:List Operand) (ats:Array TypeId):Uc P T bx σ K d (.call {callee:= .value (.func f),args:=args.toArray,argTypes:=ats})=(Xd P f∧M8 P σ K f (args.map σ.ev)):=by
 show((∃fn,P.funcs[f]? =some fn∧fn.body.isSome=true∧(fn.name== "runtime.NumGoroutine")=false)∧M8 P σ K f (args.map σ.ev++[]))= _
 rw[a9];rfl
theorem X9w (t:Tmp) (args:List Operand) (ats:Array TypeId):Uc P T bx σ K d (.call {callee:= .value (.tmp t),args:=args.toArray,argTypes:=ats})=match σ.ev (.tmp t) with
  | .fn (.func f) caps=>Xd P f∧M8 P σ K f (args.map σ.ev++caps)
  | .fn (.yield l) []=>X43 P σ K l (args.map σ.ev)
  | _=>False:=rfl
end
theorem X8o (k:IntKind) (a b:Int):Zr .add k a b=some (.int k (k.wrap (a+b))):=rfl
theorem X8p (k:IntKind) (a b:Int):Zr .sub k a b=some (.int k (k.wrap (a - b))):=rfl
theorem X8q (k:IntKind) (a b:Int):Zr .mul k a b=some (.int k (k.wrap (a*b))):=rfl
theorem X7l (k:IntKind) (a:Int) {b:Int} (h:b≠0):Zr .quo k a b=some (.int k (k.wrap (a.tdiv b))):=by simp [Zr,h]
theorem X5a (k:IntKind) (a:Int) {b:Int} (h:b≠0):Zr .rem k a b=some (.int k (a.tmod b)):=by simp [Zr,h]
theorem X8r (k:IntKind) (a b:Int):Zr .eql k a b=some (.bool (a==b)):=rfl
theorem X8s (k:IntKind) (a b:Int):Zr .neq k a b=some (.bool (a !=b)):=rfl
theorem X8t (k:IntKind) (a b:Int):Zr .lss k a b=some (.bool (decide (a<b))):=rfl
theorem X8u (k:IntKind) (a b:Int):Zr .leq k a b=some (.bool (decide (a<=b))):=rfl
theorem X8v (k:IntKind) (a b:Int):Zr .gtr k a b=some (.bool (decide (a>b))):=rfl
theorem X8w (k:IntKind) (a b:Int):Zr .geq k a b=some (.bool (decide (a>=b))):=rfl
theorem wrap_i64 {x:Int} (h: -9223372036854775808<=x) (h':x<=9223372036854775807):IntKind.i64.wrap x=x:=by
 have e:IntKind.i64.wrap x=if x % 18446744073709551616>=9223372036854775808 then x % 18446744073709551616 - 18446744073709551616 else x % 18446744073709551616:=by
  simp [IntKind.wrap,IntKind.bits,IntKind.signed]
 rw[e];split<;>omega
theorem X1m {x:Int} (h:0<=x) (h':x<=18446744073709551615):IntKind.u64.wrap x=x:=by
 have e:IntKind.u64.wrap x=x % 18446744073709551616:=by simp [IntKind.wrap,IntKind.bits,IntKind.signed]
 rw[e];omega
theorem Se {x:Int} (h:0<=x) (h':x<=255):IntKind.u8.wrap x=x:=by
 have e:IntKind.u8.wrap x=x % 256:=by simp [IntKind.wrap,IntKind.bits,IntKind.signed]
 rw[e];omega
theorem X1n (x:Int):IntKind.u8.wrap x=x % 256:=by simp [IntKind.wrap,IntKind.bits,IntKind.signed]
theorem X8x:(true==false)=false:=rfl
theorem X8y:(false==true)=false:=rfl
theorem X8z:(true==true)=true:=rfl
theorem X90:(false==false)=true:=rfl
theorem X9x:(!true)=false:=rfl
theorem X9y:(!false)=true:=rfl
end Go.VS
