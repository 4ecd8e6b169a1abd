/-
 The value-semantics layer, part 10: what each operation comes to, as a proposition that simp reckons; a region's run by it.
-/
import Derived.Test.YtdngdjbgmojcoaaGreatZVsRound
import Derived.Test.YtdngdjbgmojcoaaGreatZVsB
import Derived.Test.YtdngdjbgmojcoaaGreatZVsMap
namespace Go.VS
set_option linter.all false
open Go Go.RowKit
section
variable {P:Program} {d:Option Tmp} {ty:TypeId} {pos:String} {aft:Array Edge} {gd:Option (Nat×Bool)} {ρA:Operand->AV}
theorem L8 {t u e e':TypeId} {ti:TI} (ht:P.underlying t=some (.slice e)) (hu:P.underlying u=some (.slice e')) (he:TIok P e ti) (hs0:0<ti.size) {x y:Operand} {els els':List (List AV)} {md md':Md}
  (hx:ρA x= .sl ti.size els md) (hfull:md= .nil∨md= .full) (hy:ρA y= .sl ti.size els' md') (hbytes:(els.length+els'.length)*ti.bytes<=140737488355328) (h63:els.length+els'.length<=9223372036854775807):
  AOk P ⟨d,.call {callee:= .builtin .append,args:= #[x,y],argTypes:= #[t,u]},ty,pos,aft,gd⟩ ρA [] (.sl ti.size (els++els') .sh) []:=
 ⟨(by intro _ _ h;cases h),fun M N ρ hI hρ hcn hfn hn hN hun=>by
  by_cases hnil:els'=[]
  ·subst hnil;have:=(Q8 (P:=P) (d:=d) (ty:=ty) (pos:=pos) (aft:=aft) (gd:=gd) ht hu he hx hy).2 M N ρ hI hρ hcn hfn trivial hN trivial;refine this.mono fun v w' ⟨M',h1,h2,h3,h4,h5⟩=>⟨M',h1,h2,h3,h4,?_⟩
   have h6:=h5.le (.sh ti.size els md);simpa using h6
  ·obtain⟨K,hK⟩:=hI.fin;have hfree:M.st (max N K)=none:=hK _ (by omega);have:=(Un (P:=P) (d:=d) (ty:=ty) (pos:=pos) (aft:=aft) (gd:=gd) ht hu he hs0 (max N K) hx hfull hy hnil hbytes h63).2 M (max N K+1) ρ hI hρ hcn hfn ⟨hfree,trivial⟩ (fun k hk=>hN k (by omega)) ⟨by omega,trivial⟩;refine this.mono fun v w' ⟨M',h1,h2,h3,h4,h5⟩=>⟨M',h1,h2,h3,fun k hk=> ?_,?_⟩
   ·rw[h4 k (by omega)];simp only[upd,Xw];rw[if_neg (by omega)]
   ·exact h5.le (.sh ti.size (els++els') _)⟩
end
def Qw (P:Program) (T:TypeId->Option TI):Prop:=∀t ti,T t=some ti->TIok P t ti
def ff:List (Option Res)->Nat
 |[]=>0
 |none:: _=>0
 |some _::l=>ff l+1
def M7 (σ:AState):Prop:=σ.lo[ff σ.lo]? =some none
def Qs (σ:AState):Option Nat->Nat
 |none=>σ.n+ff σ.lo
 |some k=>k
def S9 (σ:AState):Option Nat->Prop
 |none=>M7 σ
 |some k=>σ.dom k∧σ.look k=none
def Ju (bx:List (Nat×Option Nat)) (d:Option Tmp):Option (Option Nat):=bx.lookup (d.getD 0)
def X6c (bx:List (Nat×Option Nat)) (d:Option Tmp):Option (Option Nat):=bx.lookup (d.getD 0+1000)
def Ti (T:TypeId->Option TI) (σ:AState) (K:AV->List (Nat×Res)->Prop) (t:TypeId) (x:AV):Prop:=
 match T t with
 |some ti=>
  match x with
  | .ref cs=>match pick ti.agg ti.size cs with
   |some r=>K r []
   |none=>False
  | .ptr k off=>match σ.look k with
   |some (.box _ cs)=>σ.dom k∧match pick ti.agg ti.size (cs.drop off) with
    |some r=>K r []
    |none=>False
   | _=>False
  | _=>False
 |none=>False
def Ns (T:TypeId->Option TI) (σ:AState) (K:AV->List (Nat×Res)->Prop) (t:TypeId) (x y:AV):Prop:=
 match T t with
 |some ti=>
  match x with
  | .ptr k off=>match σ.look k with
   |some (.box e cs)=>match y.parts with
    |some xs=>σ.dom k∧xs.length=ti.size∧off+xs.length<=cs.length∧K (.tup []) [(k,.box e (Yf cs off xs))]
    |none=>False
   | _=>False
  | _=>False
 |none=>False
def Vw (T:TypeId->Option TI) (K:AV->List (Nat×Res)->Prop) (s:TypeId) (x:AV) (f:Nat) (addr:Bool):Prop:=
 match T s with
 |some si=>match si.desc with
  | .struct fs=>match fs[f]? with
   |some fd=>match T fd.type with
    |some ti=>
     if addr then
      ti.size≠0∧match x with
       | .ref cs=>K (.ref (cs.drop fd.offset)) []
       | .ptr k off=>K (.ptr k (off+fd.offset)) []
       | _=>False
     else match x with
      | .agg cs=>match pick ti.agg ti.size (cs.drop fd.offset) with
       |some r=>K r []
       |none=>False
      | _=>False
    |none=>False
   |none=>False
  | _=>False
 |none=>False
def Io (T:TypeId->Option TI) (K:AV->List (Nat×Res)->Prop) (t:TypeId) (x y:AV):Prop:=
 match T t with
 |some si=>match si.desc,y with
  | .slice e,.val (.int _ z)=>match T e with
   |some ti=>match x with
    | .sl sz els _=>sz=ti.size∧0<=z∧z.toNat<els.length∧K (.ref (els.getD z.toNat [])) []
    | .bsl b off len _=>0<=z∧z<(len:Int)∧K (.ptr b (off+z.toNat*ti.size)) []
    | _=>False
   |none=>False
  | .array n e,.val (.int _ z)=>match T e with
   |some ti=>0<=z∧z<(n:Int)∧match x with
    | .ptr b off=>K (.ptr b (off+z.toNat*ti.size)) []
    | .ref cs=>K (.ref (cs.drop (z.toNat*ti.size))) []
    | _=>False
   |none=>False
  | _,_=>False
 |none=>False
def Nt (T:TypeId->Option TI) (K:AV->List (Nat×Res)->Prop) (t:TypeId) (x y:AV):Prop:=
 match T t with
 |some si=>match si.desc,y with
  | .array n e,.val (.int _ z)=>match T e with
   |some ti=>0<=z∧z<(n:Int)∧match x with
    | .agg cs=>match pick ti.agg ti.size (cs.drop (z.toNat*ti.size)) with
     |some r=>K r []
     |none=>False
    | _=>False
   |none=>False
  | _,_=>False
 |none=>False
def Cl:BinOp->Bool
 | .shl=>true
 | .shr=>true
 | _=>false
def Xs (T:TypeId->Option TI):Nat->List Field->Bool
 | _,[]=>true
 |o,f::fs=>f.name != "_" &&f.offset==o&&(match T f.type with|some ti=> !ti.agg&&(match ti.desc with| .int _=>true| _=>false)|none=>false)&&Xs T (o+1) fs
def onV (o:Option Value) (K:AV->List (Nat×Res)->Prop):Prop:=match o with
 |some v=>K (.val v) []
 |none=>False
theorem X12 (v:Value) (K:AV->List (Nat×Res)->Prop):onV (some v) K=K (.val v) []:=rfl
def Ip (P:Program) (T:TypeId->Option TI) (K:AV->List (Nat×Res)->Prop) (op:BinOp) (t:TypeId) (x y:AV) (yo:Operand):Prop:=
 match x,y with
 | .val (.int k a),.val (.int j b)=>(j=k∨Cl op=true)∧onV (Zr op k a b) K
 | .val (.bool a),.val (.bool b)=>(match T t with|some ti=>(match ti.desc with| .bool=>True| _=>False)|none=>False)∧match op with
  | .eql=>K (.val (.bool (a==b))) []
  | .neq=>K (.val (.bool (!(a==b)))) []
  | _=>False
 | .val (.string a),.val (.string b)=>match op with
  | .eql=>K (.val (.bool (a.toList==b.toList))) []
  | .neq=>K (.val (.bool (!(a.toList==b.toList)))) []
  | .add=>a.size+b.size<=9223372036854775807∧K (.val (.string (a++b))) []
  | _=>False
 | .sl _ els md,_=>(match T t with|some ti=>(match ti.desc with| .slice _=>True| _=>False)|none=>False)∧(match yo with| .const (.slice none 0 0)=>True| _=>False)∧match md with
  | .nil=>(match op with
   | .eql=>K (.val (.bool true)) []
   | .neq=>K (.val (.bool false)) []
   | _=>False)
  | .nn=>(match op with
   | .eql=>K (.val (.bool false)) []
   | .neq=>K (.val (.bool true)) []
   | _=>False)
  | _=>els≠[]∧match op with
   | .eql=>K (.val (.bool false)) []
   | .neq=>K (.val (.bool true)) []
   | _=>False
 | .agg cs,.agg ds=>match T t with
  |some ti=>P.eqGuardType P.depth t=false∧(match ti.desc with
   | .array n e=>False
   | .struct fs=>cs.length=fs.size∧Xs T 0 fs.toList=true∧P.stoodInHeld t=false
   | _=>False)∧match Nk cs ds with
    |some b=>match op with
     | .eql=>K (.val (.bool b)) []
     | .neq=>K (.val (.bool !b)) []
     | _=>False
    |none=>False
  |none=>False
 | _,_=>False
def X6d (K:AV->List (Nat×Res)->Prop) (op:UnOp) (x:AV):Prop:=
 match op,x with
 | .not,.val (.bool b)=>K (.val (.bool !b)) []
 | .neg,.val (.int k a)=>K (.val (.int k (k.wrap (0 - a)))) []
 | .xor,.val (.int k a)=>K (.val (.int k (k.wrap (BitVec.ofInt k.bits (if k.signed then -1 else k.max) ^^^ BitVec.ofInt k.bits a).toNat))) []
 | _,_=>False
def Tj (T:TypeId->Option TI) (σ:AState) (K:AV->List (Nat×Res)->Prop) (s t:TypeId) (x:AV):Prop:=
 match T s,T t with
 |some si,some ti=>match ti.desc,x with
  | .int k,.val (.int _ a)=>K (.val (.int k (k.wrap a))) []
  | .string,.val (.string a)=>(match si.desc with| .string=>True| _=>False)∧K (.val (.string a)) []
  | .string,.sl sz els _=>(match si.desc with| .slice e=>(match T e with|some te=>(match te.desc with| .int .u8=>True| _=>False)|none=>False)| _=>False)∧sz=1∧∃l,els=Xo l∧K (.val (.string ⟨l.toArray⟩)) []
  | .string,.bsl k off len _=>False
  | .slice e,.val (.string b)=>False
  | .slice e,.bsl k off len _=>False
  | _,_=>False
 | _,_=>False
def Nu (T:TypeId->Option TI) (σ:AState) (K:AV->List (Nat×Res)->Prop) (t:TypeId) (x:AV) (lo hi mx:Option Operand):Prop:=
 match T t with
 |some si=>match si.desc with
  | .slice e=>match T e with
   |some ti=>match x with
    | .sl sz els _=>sz=ti.size∧match P6 σ.ev lo,Nh σ.ev els.length hi with
     |some l,some h=>l<=h∧h<=els.length∧match mx with
      |none=>K (.sl sz ((els.drop l).take (h - l)) .sh) []
      |some m=>False
     | _,_=>False
    | .bsl b off len _=>mx=none∧match P6 σ.ev lo,Nh σ.ev len hi with
     |some l,some h=>l<=h∧h<=len∧K (.bsl b (off+l*ti.size) (h - l) false) []
     | _,_=>False
    | _=>False
   |none=>False
  | .array n e=>match T e with
   |some ti=>match x with
    | .ptr b off=>mx=none∧match P6 σ.ev lo,Nh σ.ev n hi with
     |some l,some h=>l<=h∧h<=n∧K (.bsl b (off+l*ti.size) (h - l) false) []
     | _,_=>False
    | .ref cs=>mx=none∧match P6 σ.ev lo,Nh σ.ev n hi with
     |some l,some h=>n*ti.size<=cs.length∧l<=h∧h<=n∧K (.sl ti.size (((Yh ti.size n cs).drop l).take (h - l)) .sh) []
     | _,_=>False
    | _=>False
   |none=>False
  | _=>False
 |none=>False
def Nv (T:TypeId->Option TI) (K:AV->List (Nat×Res)->Prop) (t:TypeId) (parts:List (Nat×AV)):Prop:=
 match T t with
 |some ti=>match ti.desc with
  | .struct _=>match U4 (W7 ti.pl) (ti.zero.map Yq) parts with
   |some r=>K (.agg r) []
   |none=>False
  | .array _ e=>match T e with
   |some te=>match U4 (fun i=>some (i*te.size,te.size)) (ti.zero.map Yq) parts with
    |some r=>K (.agg r) []
    |none=>False
   |none=>False
  | _=>False
 |none=>False
def X1 (T:TypeId->Option TI) (σ:AState) (K:AV->List (Nat×Res)->Prop) (bx:Option (Option Nat)) (t:TypeId) (n:Nat) (parts:List (Nat×AV)):Prop:=
 match T t with
 |some si=>match si.desc with
  | .slice e=>match T e with
   |some te=>0<te.size∧n*te.size<=16777216∧match U4 (fun i=>some (i*te.size,te.size)) (Y7 te.zero (n*te.size)) parts with
    |some r=>match bx with
     |some b=>S9 σ b∧K (.bsl (Qs σ b) 0 n true) [(Qs σ b,.box e r)]
     |none=>r.length=n*te.size∧K (.sl te.size (Yh te.size n r) .full) []
    |none=>False
   |none=>False
  | _=>False
 |none=>False
def Tk (T:TypeId->Option TI) (σ:AState) (K:AV->List (Nat×Res)->Prop) (bx:Option (Option Nat)) (t:TypeId) (x y:AV):Prop:=
 match T t with
 |some si=>match si.desc with
  | .slice e=>match T e with
   |some te=>match x,y with
    | .val (.int _ l),.val (.int _ c)=>0<te.size∧0<=l∧l<=c∧(te.bytes:Int)*c<=281474976710656∧c<=9223372036854775807∧
     match bx with
     |some b=>S9 σ b∧K (.bsl (Qs σ b) 0 l.toNat (l==c)) [(Qs σ b,.box e (Y7 te.zero (c.toNat*te.size)))]
     |none=>l=c∧K (.sl te.size (Yh te.size l.toNat (Y7 te.zero (l.toNat*te.size))) .full) []
    | _,_=>False
   |none=>False
  | _=>False
 |none=>False
def L9 (T:TypeId->Option TI) (σ:AState) (K:AV->List (Nat×Res)->Prop) (bx vx:Option (Option Nat)) (t u:TypeId) (x y:AV):Prop:=
 match T t,T u with
 |some si,some ui=>match si.desc,ui.desc with
  | .slice e,.slice _=>match T e with
   |some te=>match x,y with
    | .sl sz els md,.sl sz' els' md'=>(md= .nil∨sz=te.size)∧(md'= .nil∨sz'=te.size)∧0<te.size∧(els.length+els'.length)*te.bytes<=140737488355328∧els.length+els'.length<=9223372036854775807∧
     match md with
     | .own k=>match σ.look k with
      |some (.row e' sz2 m)=>σ.dom k∧e'=e∧sz2=te.size∧m=els.length∧K (.sl te.size (els++els') (.own k)) [(k,.row e te.size (els.length+els'.length))]
      | _=>False
     | .full=>
      match bx with
      |some b=>els'≠[]∧S9 σ b∧K (.sl te.size (els++els') (.own (Qs σ b))) [(Qs σ b,.row e te.size (els.length+els'.length))]
      |none=>match vx with
       |some b=>els=[]∧els'≠[]∧S9 σ b∧K (.vsl (Qs σ b) els'.length) [(Qs σ b,.vec e te.size els'.length els'.flatten)]
       |none=>K (.sl te.size (els++els') (if els'.isEmpty then .full else .sh)) []
     | .nil=>
      match bx with
      |some b=>els'≠[]∧S9 σ b∧K (.sl te.size (els++els') (.own (Qs σ b))) [(Qs σ b,.row e te.size (els.length+els'.length))]
      |none=>match vx with
       |some b=>els=[]∧els'≠[]∧S9 σ b∧K (.vsl (Qs σ b) els'.length) [(Qs σ b,.vec e te.size els'.length els'.flatten)]
       |none=>K (.sl te.size (els++els') .sh) []
     |md=>els'=[]∧K (.sl te.size els md) []
    | .vsl k m,.sl sz' els' md'=>match σ.look k with
     |some (.vec e' sz2 m2 cs)=>σ.dom k∧e'=e∧sz2=te.size∧m2=m∧(md'= .nil∨sz'=te.size)∧0<te.size∧(m+els'.length)*te.bytes<=140737488355328∧m+els'.length<=9223372036854775807∧K (.vsl k (m+els'.length)) [(k,.vec e te.size (m+els'.length) (cs++els'.flatten))]
     | _=>False
    | .bsl k off len _,.bsl k' off' len' _=>False
    | .sl sz els .full,.bsl k off len _=>match σ.look k with
     |some (.box e' cs)=>σ.dom k∧sz=te.size∧0<te.size∧off+len*te.size<=cs.length∧(els.length+len)*te.bytes<=140737488355328∧els.length+len<=9223372036854775807∧K (.sl te.size (els++Yh te.size len (cs.drop off)) .sh) []
     | _=>False
    | _,_=>False
   |none=>False
  | .slice e,.int _=>match T e with
   |some te=>match x,y with
    | .sl sz els (.own k),.val (.int _ c)=>(c=0∧K (.sl sz els (.own k)) [])∨(0<c∧sz=te.size∧0<te.size∧(els.length+c.toNat)*te.bytes<=140737488355328∧els.length+c.toNat<=9223372036854775807∧match σ.look k with
     |some (.row e' sz2 m)=>σ.dom k∧e'=e∧sz2=te.size∧m=els.length∧K (.sl te.size (els++Yh te.size c.toNat (Y7 te.zero (c.toNat*te.size))) (.own k)) [(k,.row e te.size (els.length+c.toNat))]
     | _=>False)
    | _,_=>False
   |none=>False
  | _,_=>False
 | _,_=>False
def Iq (T:TypeId->Option TI) (σ:AState) (K:AV->List (Nat×Res)->Prop) (t:TypeId) (x:AV):Prop:=
 match T t with
 |some si=>match si.desc,x with
  | .slice _,.sl _ els _=>K (.val (.int .i64 els.length)) []
  | .slice _,.bsl _ _ len _=>K (.val (.int .i64 len)) []
  | .slice _,.vsl k m=>match σ.look k with
   |some (.vec _ _ m2 _)=>σ.dom k∧m2=m∧K (.val (.int .i64 m)) []
   | _=>False
  | .string,.val (.string s)=>K (.val (.int .i64 s.size)) []
  | _,_=>False
 |none=>False
def Y3f (T:TypeId->Option TI) (σ:AState) (K:AV->List (Nat×Res)->Prop) (t u:TypeId) (x y:AV):Prop:=
 match T t,T u with
 |some si,some ui=>match si.desc,ui.desc with
  | .slice e,.slice _=>match T e with
   |some te=>match x,y with
    | .bsl k off len _,.sl sz els _=>match σ.look k with
     |some (.box eb cs)=>σ.dom k∧sz=te.size∧off+min els.length len*te.size<=cs.length∧K (.val (.int .i64 (min els.length len:Nat))) [(k,.box eb (Yf cs off (els.take len).flatten))]
     | _=>False
    | _,_=>False
   |none=>False
  | _,_=>False
 | _,_=>False
def M8 (P:Program) (σ:AState) (K:AV->List (Nat×Res)->Prop) (f:FuncId) (args:List AV):Prop:=
 ∃needs r gives,Xr P f args needs r gives∧holds σ.look needs∧L2 σ gives∧(∀x,x∈needs->σ.dom x.1∧x.2≠some .dead)∧K r gives
def X43 (P:Program) (σ:AState) (K:AV->List (Nat×Res)->Prop) (l:Nat) (args:List AV):Prop:=
 ∃needs r gives,X6t P l args needs r gives∧holds σ.look needs∧L2 σ gives∧(∀x,x∈needs->σ.dom x.1∧x.2≠some .dead)∧K r gives
def Xtt (σ:AState) (K:AV->List (Nat×Res)->Prop) (x y:AV):Prop:=match x,y with
 | .val (.map (some b)),.val (.int .i64 a)=>∃k l,σ.look k=some (.pin b (Xph l) [])∧σ.dom k∧K (.val (.int .i64 (Xyw l a))) []
 | _,_=>False
def Xtu (σ:AState) (K:AV->List (Nat×Res)->Prop) (x y z:AV):Prop:=match x,y,z with
 | .val (.map (some b)),.val (.int .i64 a),.val (.int .i64 v)=>∃k l,σ.look k=some (.pin b (Xph l) [])∧σ.dom k∧K (.tup []) [(k,.pin b (Xph (Xxz l a v)) [])]
 | _,_,_=>False
def Ir (K:AV->List (Nat×Res)->Prop):AV->Prop
 | .ptr k off=>K (.ptr k off) []
 | .ref cs=>K (.ref cs) []
 | _=>False
def Uc (P:Program) (T:TypeId->Option TI) (bx:List (Nat×Option Nat)) (σ:AState) (K:AV->List (Nat×Res)->Prop) (d:Option Tmp):Op->Prop
 | .move x=>K (σ.ev x) []
 | .assign x=>K (σ.ev x) []
 | .nilCheck x=>Ir K (σ.ev x)
 | .pick c x y=>match σ.ev c with
  | .val (.bool b)=>K (if b then σ.ev x else σ.ev y) []
  | _=>False
 | .alloc t=>match T t with
  |some ti=>M7 σ∧K (.ptr (σ.n+ff σ.lo) 0) [(σ.n+ff σ.lo,.box t (ti.zero.map Yq))]
  |none=>False
 | .box t x=>match (σ.ev x).parts with
  |some xs=>M7 σ∧K (.ptr (σ.n+ff σ.lo) 0) [(σ.n+ff σ.lo,.box t xs)]
  |none=>False
 | .build t parts=>Nv T K t (parts.toList.map fun p=>(p.1,σ.ev p.2))
 | .buildSlice t n parts=>X1 T σ K (Ju bx d) t n (parts.toList.map fun p=>(p.1,σ.ev p.2))
 | .load t x=>Ti T σ K t (σ.ev x)
 | .store t x y=>Ns T σ K t (σ.ev x) (σ.ev y)
 | .binOp op t x y _=>Ip P T K op t (σ.ev x) (σ.ev y) y
 | .unOp op _ x=>X6d K op (σ.ev x)
 | .convert s t x=>Tj T σ K s t (σ.ev x)
 | .sliceToArrayPointer t x=>match T t with
  |some si=>match si.desc,σ.ev x with
   | .array n _,.sl _ els _=>False
   | _,_=>False
  |none=>False
 | .makeInterface t x=>match T t with
  |some ti=>Qj ti.desc∧K (.iface t (σ.ev x)) []
  |none=>False
 | .makeFunc f first caps=>first= #[]∧K (.fn f (caps.toList.map σ.ev)) []
 | .makeSlice t x y=>Tk T σ K (Ju bx d) t (σ.ev x) (σ.ev y)
 | .slice t x lo hi mx=>Nu T σ K t (σ.ev x) lo hi mx
 | .fieldAddr s x f=>Vw T K s (σ.ev x) f true
 | .field s x f=>Vw T K s (σ.ev x) f false
 | .indexAddr t x y=>Io T K t (σ.ev x) (σ.ev y)
 | .index t x y=>Nt T K t (σ.ev x) (σ.ev y)
 | .extract x i=>match σ.ev x with
  | .tup l=>match l[i]? with
   |some r=>K r []
   |none=>False
  | _=>False
 | .typeAssert x _ u ok=>match T u,σ.ev x with
  |some ti,.iface t y=>Qj ti.desc∧if t=u then K (if ok then .tup [y,.val (.bool true)] else y) [] else ok=true∧K (.tup [.top,.val (.bool false)]) []
  | _,_=>False
 | .call c=>match c.callee,c.args.toList,c.argTypes.toList with
  | .builtin .len,[x],[t]=>Iq T σ K t (σ.ev x)
  | .builtin .cap,[x],[t]=>(match T t with|some si=>(match si.desc with| .slice _=>True| _=>False)|none=>False)∧match σ.ev x with
   | .sl _ els .full=>K (.val (.int .i64 els.length)) []
   | .sl _ _ .nil=>K (.val (.int .i64 0)) []
   | _=>False
  | .builtin .append,[x,y],[t,u]=>L9 T σ K (Ju bx d) (X6c bx d) t u (σ.ev x) (σ.ev y)
  | .builtin .copy,[x,y],[t,u]=>False
  | .builtin .min,[x,y],[_,_]=>match σ.ev x,σ.ev y with
   | .val (.int k a),.val (.int _ b)=>K (.val (.int k (if b<a then b else a))) []
   | _,_=>False
  | .builtin .max,[x,y],[_,_]=>match σ.ev x,σ.ev y with
   | .val (.int k a),.val (.int _ b)=>K (.val (.int k (if a<b then b else a))) []
   | _,_=>False
  | .builtin .max,[x,y,z],[_,_,_]=>match σ.ev x,σ.ev y,σ.ev z with
   | .val (.int k a),.val (.int _ b),.val (.int _ c)=>K (.val (.int k (if (if a<b then b else a)<c then c else if a<b then b else a))) []
   | _,_,_=>False
  | .value x,args,_=>match σ.ev x with
   | .fn (.func f) caps=>(∃fn,P.funcs[f]? =some fn∧fn.body.isSome=true∧(fn.name== "runtime.NumGoroutine")=false)∧M8 P σ K f (args.map σ.ev++caps)
   | .fn (.yield l) []=>X43 P σ K l (args.map σ.ev)
   | _=>False
  | _,_,_=>False
 | .lookup t x y ok=>ok=false∧Xrt P t∧Xtt σ K (σ.ev x) (σ.ev y)
 | .mapUpdate t x y z=>Xrt P t∧Xtu σ K (σ.ev x) (σ.ev y) (σ.ev z)
 | _=>False
end Go.VS
