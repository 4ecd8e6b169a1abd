/- The layer of abstract values, joined: VsB. -/
import Derived.Test.YtdngdjbgmojcoaaGreatZVsA
import Derived.Deep.AppendSrc
import Derived.WalkSpells
import Derived.ChangeKeysEq
import Derived.Lib.AppendZerosOnto
namespace Go.VS
set_option linter.all false
open Go Go.RowKit
structure TI where
 desc:TypeDesc
 size:Nat
 bytes:Nat
 zero:List Value
 agg:Bool
 pl:List (Nat×Nat):=[]
def X24:TypeDesc->Bool
 | .struct _=>true
 | .array _ _=>true
 | _=>false
structure TIok (P:Program) (t:TypeId) (ti:TI):Prop where
 und:P.underlying t=some ti.desc
 info:∃i z,P.info? t=some i∧i.size=ti.size∧i.bytes=ti.bytes∧i.zero=some z∧z.cells.toList=ti.zero
 leafs:ti.zero.all X0m=true
 len:ti.zero.length=ti.size
 agg:ti.agg=X24 ti.desc
 pl:∀fs,ti.desc= .struct fs->∀w,(fs.mapM fun f=>(do pure (f.offset,<- sizeOf f.type):Sem (Nat×Nat))).run P w= .ok ti.pl.toArray w
section
variable {P:Program} {w:World} {t:TypeId} {ti:TI}
theorem TIok.run_sizeOf (h:TIok P t ti) (w:World):(sizeOf t).run P w= .ok ti.size w:=by
 obtain⟨i,z,h1,h2,_⟩:=h.info;simp [sizeOf,typeInfo,h1,h2]
theorem TIok.run_isAgg (h:TIok P t ti) (w:World):(isAgg t).run P w= .ok ti.agg w:=by
 simp only[isAgg,a7,run_underlying h.und,Result.andThen_ok,h.agg];cases ti.desc<;>rfl
theorem TIok.run_zero (h:TIok P t ti) (w:World):∃z:Value,(zeroValue t).run P w= .ok z w∧z.cells.toList=ti.zero:=by
 obtain⟨i,z,h1,h2,h3,h4,h5⟩:=h.info;exact⟨z,by simp [zeroValue,typeInfo,h1,h4],h5⟩
theorem Xo8 {b o n:Nat}:Addr.add ⟨b,o,none⟩ n=⟨b,o+n,none⟩:=by
 unfold Addr.add;split
 ·rename_i h;subst h;rfl
 ·rfl
theorem Na (h:TIok P t ti) (ha:ti.agg=true) {b o:Nat} {vs:List Value} (hl:vs.length=ti.size) (hc:∀(j:Nat) (v:Value),vs[j]? =some v->w.cell? ⟨b,o+j,none⟩=some v):
  (loadVar t ⟨b,o,none⟩).run P w= .ok (.agg vs.toArray) w:=by
 simp only[loadVar,a7,h.run_isAgg,Result.andThen_ok,ha,if_true,h.run_sizeOf];rw[<- hl,run_loadCells_list w ⟨b,o,none⟩ vs (fun j v hv=>by rw[Xo8];exact hc j v hv)];rfl
theorem Nb (h:TIok P t ti) (ha:ti.agg=false) {b o:Nat} {v:Value} (hc:w.cell? ⟨b,o,none⟩=some v):
  (loadVar t ⟨b,o,none⟩).run P w= .ok v w:=by
 simp only[loadVar,a7,h.run_isAgg,Result.andThen_ok,ha,bl,if_false,run_load,hc]
theorem T5 (h:TIok P t ti) (ha:ti.agg=true) (cs:Array Value) (off:Nat):(part t cs off).run P w= .ok (.agg (cs.extract off (off+ti.size))) w:=by
 simp only[part,a7,h.run_isAgg,Result.andThen_ok,ha,if_true,h.run_sizeOf];rfl
theorem Qq (h:TIok P t ti) (ha:ti.agg=false) {cs:Array Value} {off:Nat} {v:Value} (hv:cs[off]? =some v):(part t cs off).run P w= .ok v w:=by
 simp only[part,a7,h.run_isAgg,Result.andThen_ok,ha,bl,if_false,hv];rfl
end
theorem I1 {M:Mem} (hI:Inv M) {N:Nat} {r:AV} {v:Value} (h:R M r v):Sf M N [] r v M.w:=⟨M,rfl,Ext.refl M,hI,fun _ _=>rfl,h⟩
def pick (agg:Bool) (size:Nat) (cs:List AV):Option AV:=
 if agg then(if size<=cs.length then some (.agg (cs.take size)) else none) else cs.head?
def AV.parts:AV->Option (List AV)
 | .agg cs=>some cs
 | .top=>none
 | .tup _=>none
 |x=>some [x]
theorem R.leaf {M:Mem} {x:AV} {v:Value} (h:R M x v) {cs:List AV} (hp:x.parts=some cs):
  v.cells.size=cs.length∧(∀(i:Nat) (u:Value),v.cells[i]? =some u->leaf u)∧(∀(i:Nat) (c:AV) (u:Value),cs[i]? =some c->v.cells[i]? =some u->R M c u):=by
 have one:∀(x:AV) (v:Value),R M x v->VS.leaf v->v.cells= #[v]->v.cells.size=[x].length∧(∀(i:Nat) (u:Value),v.cells[i]? =some u->VS.leaf u)∧(∀(i:Nat) (c:AV) (u:Value),[x][i]? =some c->v.cells[i]? =some u->R M c u):=by
  intro x v hr hl hc;rw[hc];refine⟨rfl,fun i u hu=> ?_,fun i c u hi hu=> ?_⟩
  ·cases i with
   |zero=>simp at hu;subst hu;exact hl
   |succ i=>simp at hu
  ·cases i with
   |zero=>simp at hi hu;subst hi;subst hu;exact hr
   |succ i=>simp at hu
 cases h with
 |top v=>cases hp
 |val v hl=>cases hp;exact one _ _ (.val v hl) hl (by cases v<;>first|rfl|exact hl.elim)
 |agg ds vs hl hf hc=>cases hp;exact⟨hl.symm,hf,hc⟩
 |nil sz md a h h'=>cases hp;exact one _ _ (.nil sz md a h h') trivial rfl
 |slice sz els md a cap hs hcap hsz hst hc hmd=>cases hp;exact one _ _ (.slice sz els md a cap hs hcap hsz hst hc hmd) trivial rfl
 |ptr k off h=>cases hp;exact one _ _ (.ptr k off h) trivial rfl
 |bsl k off len cap fl h hc hf=>cases hp;exact one _ _ (.bsl k off len cap fl h hc hf) trivial rfl
 |bsl0 k off a=>cases hp;exact one _ _ (.bsl0 k off a) trivial rfl
 |vsl k n a l c h=>cases hp;exact one _ _ (.vsl k n a l c h) trivial rfl
 |ref ds a hs hst hc=>cases hp;exact one _ _ (.ref ds a hs hst hc) trivial rfl
 |fn f caps vs hl hc=>cases hp;exact one _ _ (.fn f caps vs hl hc) trivial rfl
 |iface t x v h=>cases hp;exact one _ _ (.iface t x v h) trivial rfl
 |tup l vs hl hc=>cases hp
section
variable {P:Program} {d:Option Tmp} {ty:TypeId} {pos:String} {aft:Array Edge} {gd:Option (Nat×Bool)} {ρA:Operand->AV}
theorem Xm {o:Op} (hsel:∀cs b,o≠ .select cs b) {r:AV} {needs:List (Nat×Option Res)}
  (h:∀(M:Mem) (ρ:Operand->Value),Inv M->(∀x,x∈o.operands->R M (ρA x) (ρ x))->(∀v,ρ (.const v)=v)->(∀f,ρ (.func f)= .func (.func f) #[] #[])->holds M.st needs→
   ∃v,(execOp ρ ⟨d,o,ty,pos,aft,gd⟩).run P M.w= .ok (.value v) M.w∧R M r v):AOk P ⟨d,o,ty,pos,aft,gd⟩ ρA needs r []:=
 ⟨hsel,fun M N ρ hI hx hc hf hn _ _=>by
  obtain⟨v,hv,hr⟩:=h M ρ hI hx hc hf hn;rw[hv];exact I1 hI hr⟩
theorem X0s (x:Operand):AOk P ⟨d,.move x,ty,pos,aft,gd⟩ ρA [] (ρA x) []:=
 Xm (by intro _ _ h;cases h) fun M ρ _ hx _ _ _=>⟨ρ x,rfl,hx x (by simp [Op.operands])⟩
theorem F3 (x:Operand):AOk P ⟨d,.assign x,ty,pos,aft,gd⟩ ρA [] (ρA x) []:=
 Xm (by intro _ _ h;cases h) fun M ρ _ hx _ _ _=>⟨ρ x,rfl,hx x (by simp [Op.operands])⟩
theorem C0 {x:Operand} {k off:Nat} (hx:ρA x= .ptr k off):AOk P ⟨d,.nilCheck x,ty,pos,aft,gd⟩ ρA [] (.ptr k off) []:=
 Xm (by intro _ _ h;cases h) fun M ρ _ hr _ _ _=>by
  have h1:=hr x (by simp [Op.operands]);rw[hx] at h1;generalize hv:ρ x=v at h1;cases h1 with
  |ptr k off hb=>exact⟨_,by simp only[execOp,hv];rfl,.ptr k off hb⟩
theorem C5 {x:Operand} {cs:List AV} (hx:ρA x= .ref cs):AOk P ⟨d,.nilCheck x,ty,pos,aft,gd⟩ ρA [] (.ref cs) []:=
 Xm (by intro _ _ h;cases h) fun M ρ _ hr _ _ _=>by
  have h1:=hr x (by simp [Op.operands]);rw[hx] at h1;generalize hv:ρ x=v at h1;cases h1 with
  |ref cs a hs hst hc=>exact⟨_,by simp only[execOp,hv];rfl,.ref cs a hs hst hc⟩
theorem Yw {M:Mem} {v u:Value} (h:R M (.val v) u):u=v:=by cases h;rfl
theorem X0t (c x y:Operand) {b:Bool} (hc:ρA c= .val (.bool b)):AOk P ⟨d,.pick c x y,ty,pos,aft,gd⟩ ρA [] (if b then ρA x else ρA y) []:=
 Xm (by intro _ _ h;cases h) fun M ρ _ hx _ _ _=>by
  have h1:=hx c (by simp [Op.operands]);rw[hc] at h1;have h2:=Yw h1;refine⟨if b then ρ x else ρ y,by simp [execOp,h2,asBool],?_⟩;cases b
  ·exact hx y (by simp [Op.operands])
  ·exact hx x (by simp [Op.operands])
def Zr (op:BinOp) (k:IntKind) (a b:Int):Option Value:=
 match op with
 | .add=>some (.int k (k.wrap (a+b)))
 | .sub=>some (.int k (k.wrap (a - b)))
 | .mul=>some (.int k (k.wrap (a*b)))
 | .quo=>if b=0 then none else some (.int k (k.wrap (a.tdiv b)))
 | .rem=>if b=0 then none else some (.int k (a.tmod b))
 | .and=>some (.int k (k.wrap (BitVec.ofInt k.bits a&&&BitVec.ofInt k.bits b).toNat))
 | .or=>some (.int k (k.wrap (BitVec.ofInt k.bits a|||BitVec.ofInt k.bits b).toNat))
 | .xor=>some (.int k (k.wrap (BitVec.ofInt k.bits a ^^^ BitVec.ofInt k.bits b).toNat))
 | .andNot=>some (.int k (k.wrap (BitVec.ofInt k.bits a&&& ~~~BitVec.ofInt k.bits b).toNat))
 | .eql=>some (.bool (a==b))
 | .neq=>some (.bool (a !=b))
 | .lss=>some (.bool (a<b))
 | .leq=>some (.bool (a<=b))
 | .gtr=>some (.bool (a>b))
 | .geq=>some (.bool (a>=b))
 | .shl=>if b<0 then none else some (.int k (k.wrap (a*2 ^ min b.toNat k.bits)))
 | .shr=>if b<0 then none else some (.int k (a.fdiv (2 ^ min b.toNat k.bits)))
theorem F4 {op:BinOp} {k:IntKind} {a b:Int} {v:Value} (h:Zr op k a b=some v):leaf v:=by
 cases op<;>simp only[Zr] at h<;>first|(cases h;done)|(cases h;trivial)|(split at h<;>first|(cases h;done)|(cases h;trivial))
theorem Nc (op:BinOp) (t:TypeId) (x y:Operand) (k j:IntKind) (a b:Int) (w:World):(eqGuard op t x y (.int k a) (.int j b)).run P w= .ok () w:=by
 cases op<;>rfl
theorem X3o {op:BinOp} {t yt:TypeId} {x y:Operand} {k j:IntKind} {a b:Int} {v:Value} (hx:ρA x= .val (.int k a)) (hy:ρA y= .val (.int j b))
  (hk:j=k∨op= .shl∨op= .shr) (hv:Zr op k a b=some v):AOk P ⟨d,.binOp op t x y yt,ty,pos,aft,gd⟩ ρA [] (.val v) []:=
 Xm (by intro _ _ h;cases h) fun M ρ _ hr _ _ _=>by
  have h1:=hr x (by simp [Op.operands]);have h2:=hr y (by simp [Op.operands]);rw[hx] at h1;rw[hy] at h2;have e1:=Yw h1;have e2:=Yw h2;refine⟨v,?_,.val v (F4 hv)⟩;have key:(binOp op t (.int k a) (.int j b)).run P M.w= .ok v M.w:=by
   cases op<;>simp only[Zr] at hv<;>first
    |(cases hv;done)
    |(simp at hk;subst hk;simp only[binOp];simp [Op.intArith,Op.intBits,Op.intCmp,Op.intDiv] at hv⊢;simpa using hv)
    |(simp at hk;subst hk;split at hv<;>first|(cases hv;done)|(rename_i h0;injection hv with hv;subst hv;simp [binOp,Op.intDiv,h0]))
    |(split at hv<;>first|(cases hv;done)|(rename_i h0;injection hv with hv;subst hv;simp [binOp,Op.shift,h0]))
  simp only[execOp,a7,e1,e2,Nc,Result.andThen_ok,key];rfl
theorem Mf {t:TypeId} (ht:P.underlying t=some .bool) (n:Nat) (a b:Bool) (w:World):(Op.equalIn (n+1) t (.bool a) (.bool b)).run P w= .ok (a==b) w:=by
 simp only[Op.equalIn,a7,run_underlying ht,Result.andThen_ok];rfl
theorem Ww {t:TypeId} (ht:P.underlying t=some .bool) (a b:Bool) (w:World):(Op.equal t (.bool a) (.bool b)).run P w= .ok (a==b) w:=
 Mf ht 9999 a b w
theorem Nd {op:BinOp} {t yt:TypeId} {x y:Operand} {a b:Bool} {v:Value} (ht:P.underlying t=some .bool) (hx:ρA x= .val (.bool a)) (hy:ρA y= .val (.bool b))
  (hv:(op= .eql∧v= .bool (a==b))∨(op= .neq∧v= .bool (!(a==b)))):
  AOk P ⟨d,.binOp op t x y yt,ty,pos,aft,gd⟩ ρA [] (.val v) []:=
 Xm (by intro _ _ h;cases h) fun M ρ _ hr _ _ _=>by
  have h1:=hr x (by simp [Op.operands]);have h2:=hr y (by simp [Op.operands]);rw[hx] at h1;rw[hy] at h2;have e1:=Yw h1;have e2:=Yw h2;have hg:(eqGuard op t x y (.bool a) (.bool b)).run P M.w= .ok () M.w:=by cases op<;>rfl
  rcases hv with ⟨rfl,rfl⟩|⟨rfl,rfl⟩
  ·refine⟨_,?_,.val _ trivial⟩;have hb:binOp .eql t (.bool a) (.bool b)=(do pure (.bool (← Op.equal t (.bool a) (.bool b)))):=rfl;simp only[execOp,e1,e2,a7,hg,Result.andThen_ok,hb,Ww ht];rfl
  ·refine⟨_,?_,.val _ trivial⟩;have hb:binOp .neq t (.bool a) (.bool b)=(do pure (.bool (!(← Op.equal t (.bool a) (.bool b))))):=rfl;simp only[execOp,e1,e2,a7,hg,Result.andThen_ok,hb,Ww ht];rfl
theorem C6 {op:BinOp} {t yt:TypeId} {x y:Operand} {a b:ByteArray} {v:Value} (hx:ρA x= .val (.string a)) (hy:ρA y= .val (.string b))
  (hv:(op= .eql∧v= .bool (a.toList==b.toList))∨(op= .neq∧v= .bool (!(a.toList==b.toList)))∨(op= .add∧a.size+b.size<=9223372036854775807∧v= .string (a++b))):
  AOk P ⟨d,.binOp op t x y yt,ty,pos,aft,gd⟩ ρA [] (.val v) []:=
 Xm (by intro _ _ h;cases h) fun M ρ _ hr _ _ _=>by
  have h1:=hr x (by simp [Op.operands]);have h2:=hr y (by simp [Op.operands]);rw[hx] at h1;rw[hy] at h2;have e1:=Yw h1;have e2:=Yw h2;rcases hv with ⟨rfl,rfl⟩|⟨rfl,rfl⟩|⟨rfl,hsz,rfl⟩
  ·exact⟨_,by simp [execOp,e1,e2,eqGuard,binOp,Op.stringOp],.val _ trivial⟩
  ·exact⟨_,by simp [execOp,e1,e2,eqGuard,binOp,Op.stringOp],.val _ trivial⟩
  ·exact⟨_,by simp [execOp,e1,e2,eqGuard,binOp,Op.stringOp];omega,.val _ trivial⟩
theorem Nf {t e:TypeId} (ht:P.underlying t=some (.slice e)) (m:Nat) (a:Option Addr) (n c:Nat) (w:World):(Op.equalIn (m+1) t (.slice a n c) (.slice none 0 0)).run P w= .ok a.isNone w:=by
 cases a<;>simp only[Op.equalIn,a7,run_underlying ht,Result.andThen_ok]<;>rfl
theorem Xpq {t e:TypeId} (ht:P.underlying t=some (.slice e)) (a:Option Addr) (n c:Nat) (w:World):(Op.equal t (.slice a n c) (.slice none 0 0)).run P w= .ok a.isNone w:=
 Nf ht 9999 a n c w
theorem U6 {op:BinOp} {t e yt:TypeId} {x y:Operand} {sz:Nat} {els:List (List AV)} {md:Md} {nl:Bool} {v:Value} (ht:P.underlying t=some (.slice e)) (hx:ρA x= .sl sz els md) (hnl:(md= .nil∧nl=true)∨((md= .nn∨els≠[])∧nl=false))
  (hy:y= .const (.slice none 0 0)) (hv:(op= .eql∧v= .bool nl)∨(op= .neq∧v= .bool (!nl))):
  AOk P ⟨d,.binOp op t x y yt,ty,pos,aft,gd⟩ ρA [] (.val v) []:=
 Xm (by intro _ _ h;cases h) fun M ρ _ hr hcn _ _=>by
  have h1:=hr x (by simp [Op.operands]);have e2:ρ y= .slice none 0 0:=by rw[hy];exact hcn _
  rw[hx] at h1;obtain⟨a,n,c,e1,hn⟩:∃a n c,ρ x= .slice a n c∧a.isNone=nl:=by
   generalize ρ x=u at h1;cases h1 with
   |nil _ _ a hn hn'=>
    rcases hnl with ⟨h,rfl⟩|⟨h|h,rfl⟩
    ·exact⟨_,_,_,rfl,by rw[hn' h];rfl⟩
    ·refine⟨_,_,_,rfl,?_⟩;cases a with
     |none=>exact(hn h rfl).elim
     |some a=>rfl
    ·exact(h rfl).elim
   |slice _ _ _ a cap hs hcap hsz hst hc hmd=>
    rcases hnl with ⟨rfl,_⟩|⟨_,rfl⟩
    ·exact hmd.elim
    ·exact⟨_,_,_,rfl,rfl⟩
  have hg:(eqGuard op t x y (.slice a n c) (.slice none 0 0)).run P M.w= .ok () M.w:=by cases op<;>rfl
  rcases hv with ⟨rfl,rfl⟩|⟨rfl,rfl⟩
  ·refine⟨_,?_,.val _ trivial⟩;have hb:binOp .eql t (.slice a n c) (.slice none 0 0)=(do pure (.bool (← Op.equal t (.slice a n c) (.slice none 0 0)))):=rfl;simp only[execOp,e1,e2,a7,hg,Result.andThen_ok,hb,Xpq ht,hn];rfl
  ·refine⟨_,?_,.val _ trivial⟩;have hb:binOp .neq t (.slice a n c) (.slice none 0 0)=(do pure (.bool (!(← Op.equal t (.slice a n c) (.slice none 0 0))))):=rfl;simp only[execOp,e1,e2,a7,hg,Result.andThen_ok,hb,Xpq ht,hn];rfl
theorem X3p {t:TypeId} {x:Operand} {b:Bool} (hx:ρA x= .val (.bool b)):AOk P ⟨d,.unOp .not t x,ty,pos,aft,gd⟩ ρA [] (.val (.bool !b)) []:=
 Xm (by intro _ _ h;cases h) fun M ρ _ hr _ _ _=>by
  have h1:=hr x (by simp [Op.operands]);rw[hx] at h1;exact⟨_,by simp [execOp,Yw h1,Op.unary],.val _ trivial⟩
theorem X3q {t:TypeId} {x:Operand} {k:IntKind} {a:Int} (hx:ρA x= .val (.int k a)):AOk P ⟨d,.unOp .neg t x,ty,pos,aft,gd⟩ ρA [] (.val (.int k (k.wrap (0 - a)))) []:=
 Xm (by intro _ _ h;cases h) fun M ρ _ hr _ _ _=>by
  have h1:=hr x (by simp [Op.operands]);rw[hx] at h1;exact⟨_,by simp [execOp,Yw h1,Op.unary,Op.intArith],.val _ trivial⟩
theorem I2 {t:TypeId} {x:Operand} {k:IntKind} {a:Int} (hx:ρA x= .val (.int k a)):
  AOk P ⟨d,.unOp .xor t x,ty,pos,aft,gd⟩ ρA [] (.val (.int k (k.wrap (BitVec.ofInt k.bits (if k.signed then -1 else k.max) ^^^ BitVec.ofInt k.bits a).toNat))) []:=
 Xm (by intro _ _ h;cases h) fun M ρ _ hr _ _ _=>by
  have h1:=hr x (by simp [Op.operands]);rw[hx] at h1;exact⟨_,by simp only[execOp,Yw h1,Op.unary,Op.intBits];rfl,.val _ trivial⟩
theorem T6 {s t:TypeId} {x:Operand} {k j:IntKind} {a:Int} {ds:TypeDesc} (hs:P.underlying s=some ds) (ht:P.underlying t=some (.int k)) (hx:ρA x= .val (.int j a)):
  AOk P ⟨d,.convert s t x,ty,pos,aft,gd⟩ ρA [] (.val (.int k (k.wrap a))) []:=
 Xm (by intro _ _ h;cases h) fun M ρ _ hr _ _ _=>by
  have h1:=hr x (by simp [Op.operands]);rw[hx] at h1;refine⟨_,?_,.val _ trivial⟩;simp only[execOp,Yw h1,convert,a7,run_underlying hs,run_underlying ht,Result.andThen_ok,Conv.intToInt];rfl
theorem Rq {s t:TypeId} {x:Operand} {a:ByteArray} (hs:P.underlying s=some .string) (ht:P.underlying t=some .string) (hx:ρA x= .val (.string a)):
  AOk P ⟨d,.convert s t x,ty,pos,aft,gd⟩ ρA [] (.val (.string a)) []:=
 Xm (by intro _ _ h;cases h) fun M ρ _ hr _ _ _=>by
  have h1:=hr x (by simp [Op.operands]);rw[hx] at h1;refine⟨_,?_,.val _ trivial⟩;simp only[execOp,Yw h1,convert,a7,run_underlying hs,run_underlying ht,Result.andThen_ok];rfl
def Qj:TypeDesc->Prop
 | .interface _=>False
 | _=>True
theorem C7 {x:Operand} {i:Nat} {l:List AV} {r:AV} (hx:ρA x= .tup l) (hi:l[i]? =some r):AOk P ⟨d,.extract x i,ty,pos,aft,gd⟩ ρA [] r []:=
 Xm (by intro _ _ h;cases h) fun M ρ _ hr _ _ _=>by
  have h1:=hr x (by simp [Op.operands]);rw[hx] at h1;generalize hv:ρ x=v at h1;cases h1 with
  |tup l vs hl hc=>
   have hlt:i<vs.size:=by rw[<- hl];exact(ae.1 hi).1
   exact⟨vs[i],by simp [execOp,hv,Instr.extract,hlt],hc i r _ hi (by simp [hlt])⟩
theorem I3 {t:TypeId} {x:Operand} {ds:TypeDesc} (hs:P.underlying t=some ds) (hd:Qj ds):AOk P ⟨d,.makeInterface t x,ty,pos,aft,gd⟩ ρA [] (.iface t (ρA x)) []:=
 Xm (by intro _ _ h;cases h) fun M ρ _ hr _ _ _=>by
  have h1:=hr x (by simp [Op.operands]);refine⟨.iface t (ρ x),?_,.iface t _ _ h1⟩;simp only[execOp,Instr.makeInterface,a7,run_underlying hs,Result.andThen_ok];cases ds<;>first|rfl|exact hd.elim
theorem Pa {x:Operand} {xt u:TypeId} {ok:Bool} {y:AV} {ds:TypeDesc} (hs:P.underlying u=some ds) (hd:Qj ds) (hx:ρA x= .iface u y):
  AOk P ⟨d,.typeAssert x xt u ok,ty,pos,aft,gd⟩ ρA [] (if ok then .tup [y,.val (.bool true)] else y) []:=
 Xm (by intro _ _ h;cases h) fun M ρ _ hr _ _ _=>by
  have h1:=hr x (by simp [Op.operands]);rw[hx] at h1;generalize hv:ρ x=v at h1;cases h1 with
  |iface t y v h=>
   refine⟨if ok then .tuple #[v,.bool true] else v,?_,?_⟩
   ·simp only[execOp,hv,Instr.typeAssert,a7,run_underlying hs,Result.andThen_ok];cases ds<;>first|(simp;done)|exact hd.elim
   ·cases ok
    ·exact h
    ·exact .tup _ _ rfl fun i c v' hi hv'=>by
      match i,hi,hv' with
      |0,hi,hv'=>simp at hi hv';subst hi;subst hv';exact h
      |1,hi,hv'=>simp at hi hv';subst hi;subst hv';exact .val _ trivial
theorem Rr {x:Operand} {xt u t:TypeId} {y:AV} {ti:TI} (hs:TIok P u ti) (hd:Qj ti.desc) (hx:ρA x= .iface t y) (hn:t≠u):
  AOk P ⟨d,.typeAssert x xt u true,ty,pos,aft,gd⟩ ρA [] (.tup [.top,.val (.bool false)]) []:=
 Xm (by intro _ _ h;cases h) fun M ρ _ hr _ _ _=>by
  have h1:=hr x (by simp [Op.operands]);rw[hx] at h1;generalize hv:ρ x=v at h1;cases h1 with
  |iface t y v h=>
   obtain⟨z,hz,_⟩:=hs.run_zero M.w;refine⟨.tuple #[z,.bool false],?_,?_⟩
   ·have hu:=hs.und;revert hu hd;cases ti.desc<;>intro hd hu<;>first|exact hd.elim|simp [execOp,hv,Instr.typeAssert,a7,run_underlying hu,Result.andThen_ok,hn,hz]
   ·exact .tup _ _ rfl fun i c v' hi hv'=>by
     match i,hi,hv' with
     |0,hi,hv'=>simp at hi hv';subst hi;subst hv';exact .top _
     |1,hi,hv'=>simp at hi hv';subst hi;subst hv';exact .val _ trivial
theorem X0u {f:Fn} {caps:Array Operand}:AOk P ⟨d,.makeFunc f #[] caps,ty,pos,aft,gd⟩ ρA [] (.fn f (caps.toList.map ρA)) []:=
 Xm (by intro _ _ h;cases h) fun M ρ _ hr _ _ _=>by
  refine⟨.func f #[] (caps.map ρ),by simp [execOp,Instr.makeFunc],.fn f _ _ (by simp) fun i c v hi hv=> ?_⟩;simp only[b9,bh] at hi;simp only[ft] at hv;cases ho:caps[i]? with
  |none=>rw[ho] at hi;cases hi
  |some o=>
   rw[ho] at hi hv;injection hi with hi;injection hv with hv
   subst hi;subst hv;exact hr o (by simpa [Op.operands] using gv ho)
end
section
variable {P:Program} {d:Option Tmp} {ty:TypeId} {pos:String} {aft:Array Edge} {gd:Option (Nat×Bool)} {ρA:Operand->AV}
theorem Z9 (a:Addr) (h:a.spot=none):a=⟨a.block,a.off,none⟩:=by cases a;simp at h;subst h;rfl
theorem Pt {M:Mem} {cs:List AV} {b o:Nat} (hc:∀j,j<cs.length->∃v,M.w.cell? ⟨b,o+j,none⟩=some v∧leaf v):
  ∃vs:List Value,vs.length=cs.length∧(∀(j:Nat) (v:Value),vs[j]? =some v->M.w.cell? ⟨b,o+j,none⟩=some v∧leaf v):=by
 induction cs generalizing o with
 |nil=>exact⟨[],rfl,fun j v h=>by simp at h⟩
 |cons c cs ih=>
  obtain⟨v0,h0,l0⟩:=hc 0 (by simp);obtain⟨vs,h1,h2⟩:=ih (o:=o+1) fun j hj=>by
   have:=hc (j+1) (by simp;omega);rwa [show o+(j+1)=o+1+j from by omega] at this
  refine⟨v0::vs,by simp [h1],fun j v hj=> ?_⟩;cases j with
  |zero=>simp at hj;subst hj;exact⟨h0,l0⟩
  |succ j=>
   simp at hj;have:=h2 j v hj;rwa [show o+1+j=o+(j+1) from by omega] at this
theorem U3 {M:Mem} {t:TypeId} {ti:TI} (h:TIok P t ti) {cs:List AV} {b o:Nat} {r:AV}
  (hc:∀j,j<cs.length->∃v,M.w.cell? ⟨b,o+j,none⟩=some v∧leaf v)
  (hR:∀(j:Nat) (c:AV) (v:Value),cs[j]? =some c->M.w.cell? ⟨b,o+j,none⟩=some v->R M c v) (hp:pick ti.agg ti.size cs=some r):
  ∃v,(loadVar t ⟨b,o,none⟩).run P M.w= .ok v M.w∧R M r v:=by
 unfold pick at hp;cases ha:ti.agg with
 |true=>
  rw[ha] at hp;simp only[if_true] at hp;split at hp
  ·rename_i hle;injection hp with hp;subst hp
   obtain⟨vs,h1,h2⟩:=Pt (cs:=cs.take ti.size) fun j hj=>hc j (by simp at hj;omega);have hlen:vs.length=ti.size:=by rw[h1];simp [hle]
   refine⟨_,Na h ha hlen fun j v hv=>(h2 j v hv).1,.agg _ _ (by simp [h1]) (fun i v hv=>(h2 i v (by simpa using hv)).2) fun i c v hi hv=> ?_⟩;have hi':i<ti.size:=by
    have:=(ae.1 hi).1;simp at this;omega
   exact hR i c v (by rw[<- hi,bc hi']) (h2 i v (by simpa using hv)).1
  ·cases hp
 |false=>
  rw[ha] at hp;simp only[bl,if_false] at hp;cases cs with
  |nil=>cases hp
  |cons c cs=>
   injection hp with hp;subst hp
   obtain⟨v,hv,_⟩:=hc 0 (by simp);exact⟨v,Nb h ha (by simpa using hv),hR 0 c v rfl hv⟩
theorem T7 {t:TypeId} {ti:TI} (h:TIok P t ti) {x:Operand} {cs:List AV} {r:AV} (hx:ρA x= .ref cs) (hp:pick ti.agg ti.size cs=some r):
  AOk P ⟨d,.load t x,ty,pos,aft,gd⟩ ρA [] r []:=
 Xm (by intro _ _ h;cases h) fun M ρ hI hr _ _ _=>by
  have h1:=hr x (by simp [Op.operands]);rw[hx] at h1;generalize hv:ρ x=v at h1;cases h1 with
  |ref cs a hs hst hc=>
   obtain⟨u,hu,hR⟩:=U3 (M:=M) h (cs:=cs) (b:=a.block) (o:=a.off) (fun j hj=>hI.stb _ _ (hst j hj)) hc hp;rw[<- Z9 a hs] at hu;exact⟨u,by simp only[execOp,Instr.loadAt,Instr.sureAddr,hv,a7,Sem.run_pure,Result.andThen_ok,hu],hR⟩
theorem Dy {M:Mem} {k off:Nat} {v:Value} (h:R M (.ptr k off) v):v= .pointer (some ⟨M.β k,off,none⟩):=by cases h;rfl
theorem T8 {t:TypeId} {ti:TI} (h:TIok P t ti) {x:Operand} {k off:Nat} {e:TypeId} {cs:List AV} {r:AV} (hx:ρA x= .ptr k off) (hp:pick ti.agg ti.size (cs.drop off)=some r):
  AOk P ⟨d,.load t x,ty,pos,aft,gd⟩ ρA [(k,some (.box e cs))] r []:=
 Xm (by intro _ _ h;cases h) fun M ρ hI hr _ _ hn=>by
  have h1:=hr x (by simp [Op.operands]);rw[hx] at h1;have hv:=Dy h1;obtain⟨vs,g1,g2,g3,g4,_⟩:=hI.box k e cs hn.1;have cell:∀j,M.w.cell? ⟨M.β k,j,none⟩=vs[j]? :=fun j=>Yj g1;obtain⟨u,hu,hR⟩:=U3 (M:=M) h (cs:=cs.drop off) (b:=M.β k) (o:=off)
   (fun j hj=>by
    have hj':off+j<vs.size:=by simp at hj;omega
    exact⟨vs[off+j],by rw[cell];simp [hj'],g3 (off+j) _ (by simp [hj'])⟩)
   (fun j c v hj hv=>g4 (off+j) c v (by rwa [bu] at hj) (by rwa [cell] at hv)) hp
  exact⟨u,by simp only[execOp,Instr.loadAt,Instr.sureAddr,hv,a7,Sem.run_pure,Result.andThen_ok,hu],hR⟩
def Yf (cs:List AV) (off:Nat) (xs:List AV):List AV:=cs.take off++xs++cs.drop (off+xs.length)
theorem I4 {t:TypeId} {ti:TI} (h:TIok P t ti) {x y:Operand} {k off:Nat} {e:TypeId} {cs xs:List AV} (hx:ρA x= .ptr k off) (hp:(ρA y).parts=some xs) (hl:xs.length=ti.size)
  (hb:off+xs.length<=cs.length):AOk P ⟨d,.store t x y,ty,pos,aft,gd⟩ ρA [(k,some (.box e cs))] (.tup []) [(k,.box e (Yf cs off xs))]:=
 ⟨(by intro _ _ h;cases h),fun M N ρ hI hr _ _ hn _ _=>by
  have h1:=hr x (by simp [Op.operands]);have h2:=hr y (by simp [Op.operands]);rw[hx] at h1;have hv:=Dy h1;obtain⟨p1,p2,p3⟩:=h2.leaf hp;obtain⟨us,g1,g2,g3,g4,g5⟩:=hI.box k e cs hn.1;have hone:∀v∈(ρ y).cells.toList,v.oneCell'=true:=fun v hv=>by
   obtain⟨i,hi,rfl⟩:=am hv;have:=p2 i ((ρ y).cells.toList[i]) (by simp at hi;simp [hi]);revert this;cases (ρ y).cells.toList[i]<;>simp [VS.leaf,Value.oneCell']
  have hst:=run_storeCells_at P (M.β k) off e (ρ y).cells.toList 0 us M.w g1 (by simp [p1];omega) hone;simp only[Nat.add_zero] at hst;have hrun:(execOp ρ ⟨d,.store t x y,ty,pos,aft,gd⟩).run P M.w= .ok .skip (M.w.setRow (M.β k) (List.take off us.toList++(ρ y).cells.toList++List.drop (off+(ρ y).cells.toList.length) us.toList).toArray):=by
   simp only[execOp,Instr.storeAt,Instr.sureAddr,hv,storeVar,a7,Sem.run_pure,Result.andThen_ok,h.run_sizeOf,p1,hl];simp only[ne_eq,not_true,if_false,hst,Result.andThen_ok]
  rw[hrun];have hlen:(ρ y).cells.toList.length=xs.length:=by simp [p1]
  refine⟨M.setBox k e _ (Yf cs off xs),rfl,Ext.setBox hI hn.1 _ _,hI.setBox hn.1 ?_ ?_ ?_,fun j _=>rfl,.tup [] #[] rfl (fun i c v hi=>by simp at hi)⟩
  ·simp [Yf,p1];omega
  ·intro i v hi;simp only[d7,aq] at hi;rcases Nat.lt_or_ge i off with ha|ha
   ·rw[ay (by simp;omega),bc ha] at hi;exact g3 i v (by simpa using hi)
   ·rw[au (by simp;omega)] at hi;simp only[ba,Array.length_toList] at hi;rw[Nat.min_eq_left (by omega)] at hi;rcases Nat.lt_or_ge (i - off) xs.length with hb'|hb'
    ·rw[ay (by omega)] at hi;exact p2 _ v (by simpa using hi)
    ·rw[au (by omega),bu] at hi;exact g3 _ v (by simpa using hi)
  ·intro i c v hc hi;simp only[d7,aq] at hi;simp only[Yf,aq] at hc;rcases Nat.lt_or_ge i off with ha|ha
   ·rw[ay (by simp;omega),bc ha] at hi;rw[ay (by simp;omega),bc ha] at hc;exact g4 i c v hc (by simpa using hi)
   ·rw[au (by simp;omega)] at hi;rw[au (by simp;omega)] at hc;simp only[ba,Array.length_toList] at hi hc;rw[Nat.min_eq_left (by omega)] at hi hc;rcases Nat.lt_or_ge (i - off) xs.length with hb'|hb'
    ·rw[ay (by omega)] at hi hc;exact p3 _ c v hc (by simpa using hi)
    ·rw[au (by omega),bu] at hi hc;exact g4 _ c v hc (by simpa [p1] using hi)⟩
theorem I5 {M:Mem} {ti:TI} {t:TypeId} (h:TIok P t ti) {z:Value} (hz:z.cells.toList=ti.zero):
  (∀(i:Nat) (v:Value),z.cells[i]? =some v->leaf v)∧(∀(i:Nat) (c:AV) (v:Value),(ti.zero.map Yq)[i]? =some c->z.cells[i]? =some v->R M c v):=by
 have hlf:∀v,v∈ti.zero->leaf v:=fun v hv=>Uw (az.1 h.leafs v hv);have hget:∀i v,z.cells[i]? =some v->ti.zero[i]? =some v:=fun i v hv=>by rw[<- hz,bh];exact hv
 refine⟨fun i v hv=>hlf v (ed (hget i v hv)),fun i c v hc hv=> ?_⟩;have hv':=hget i v hv;rw[b9,hv'] at hc;injection hc with hc;subst hc
 have hl:=hlf v (ed hv');unfold Yq;split
 ·exact .nil _ _ none (by intro h;cases h) (fun _=>rfl)
 ·exact hl.elim
 ·exact hl.elim
 ·exact .val _ hl
theorem I6 {t:TypeId} {ti:TI} (h:TIok P t ti) (k:Nat):AOk P ⟨d,.alloc t,ty,pos,aft,gd⟩ ρA [(k,none)] (.ptr k 0) [(k,.box t (ti.zero.map Yq))]:=
 ⟨(by intro _ _ h;cases h),fun M N ρ hI _ _ _ hn _ _=>by
  obtain⟨z,hz,hzc⟩:=h.run_zero M.w;have hrun:(execOp ρ ⟨d,.alloc t,ty,pos,aft,gd⟩).run P M.w= .ok (.value (.pointer (some ⟨M.w.heap.size,0,none⟩))) (M.w.alloc (.cells z.cells t)):=by
   simp only[execOp,Instr.alloc,a7,hz,Result.andThen_ok,newVar,newRow,run_newObj,Sem.run_pure];rfl
  rw[hrun];obtain⟨z1,z2⟩:=I5 (M:=M) h hzc;have hlen:(ti.zero.map Yq).length<=z.cells.size:=by rw[ai,<- hzc];simp
  refine⟨M.newBox k t z.cells (ti.zero.map Yq),rfl,Ext.newBox hI hn.1 _ _ _,hI.newBox hn.1 t hlen z1 z2,fun j _=>rfl,?_⟩;have hp:=R.ptr (M:=M.newBox k t z.cells (ti.zero.map Yq)) k 0 (by simp [Mem.newBox,Xw,Kt]);simpa [Mem.newBox] using hp⟩
theorem X3r {t:TypeId} {x:Operand} {xs:List AV} (hp:(ρA x).parts=some xs) (k:Nat):AOk P ⟨d,.box t x,ty,pos,aft,gd⟩ ρA [(k,none)] (.ptr k 0) [(k,.box t xs)]:=
 ⟨(by intro _ _ h;cases h),fun M N ρ hI hr _ _ hn _ _=>by
  have h2:=hr x (by simp [Op.operands]);obtain⟨p1,p2,p3⟩:=h2.leaf hp;have hrun:(execOp ρ ⟨d,.box t x,ty,pos,aft,gd⟩).run P M.w= .ok (.value (.pointer (some ⟨M.w.heap.size,0,none⟩))) (M.w.alloc (.cells (ρ x).cells t)):=by
   simp only[execOp,Instr.box,a7,newVar,newRow,run_newObj,Result.andThen_ok,Sem.run_pure];rfl
  rw[hrun];refine⟨M.newBox k t (ρ x).cells xs,rfl,Ext.newBox hI hn.1 _ _ _,hI.newBox hn.1 t (by omega) p2 p3,fun j _=>rfl,?_⟩;have hp':=R.ptr (M:=M.newBox k t (ρ x).cells xs) k 0 (by simp [Mem.newBox,Xw,Kt]);simpa [Mem.newBox] using hp'⟩
theorem Rs {s:TypeId} {fs:Array Field} {f:Nat} {fd:Field} {ti:TI} (hs:P.underlying s=some (.struct fs)) (hf:fs[f]? =some fd) (ht:TIok P fd.type ti) (h0:ti.size≠0)
  {x:Operand} {cs:List AV} (hx:ρA x= .ref cs):AOk P ⟨d,.fieldAddr s x f,ty,pos,aft,gd⟩ ρA [] (.ref (cs.drop fd.offset)) []:=
 Xm (by intro _ _ h;cases h) fun M ρ hI hr _ _ _=>by
  have h1:=hr x (by simp [Op.operands]);rw[hx] at h1;generalize hv:ρ x=v at h1;cases h1 with
  |ref cs a hsp hst hc=>
   have hrun:(execOp ρ ⟨d,.fieldAddr s x f,ty,pos,aft,gd⟩).run P M.w= .ok (.value (.pointer (some ⟨a.block,a.off+fd.offset,none⟩))) M.w:=by
    rw[Z9 a hsp] at hv;simp only[execOp,Instr.fieldAt,hv,a7,run_underlying hs,Result.andThen_ok,hf,Instr.sureAddr,Sem.run_pure,fieldPlace,ht.run_sizeOf,h0,if_false,Xo8]
   refine⟨_,hrun,.ref _ _ rfl (fun j hj=> ?_) fun j c u hj hu=> ?_⟩
   ·show M.stb a.block (a.off+fd.offset+j)
    rw[Nat.add_assoc];exact hst _ (by simp at hj;omega)
   ·rw[bu] at hj;exact hc _ c u hj (by rw[<- Nat.add_assoc];exact hu)
theorem Ru {s:TypeId} {fs:Array Field} {f:Nat} {fd:Field} {ti:TI} (hs:P.underlying s=some (.struct fs)) (hf:fs[f]? =some fd) (ht:TIok P fd.type ti) (h0:ti.size≠0)
  {x:Operand} {k off:Nat} (hx:ρA x= .ptr k off):AOk P ⟨d,.fieldAddr s x f,ty,pos,aft,gd⟩ ρA [] (.ptr k (off+fd.offset)) []:=
 Xm (by intro _ _ h;cases h) fun M ρ hI hr _ _ _=>by
  have h1:=hr x (by simp [Op.operands]);rw[hx] at h1;generalize hv:ρ x=v at h1;cases h1 with
  |ptr k off hb=>
   refine⟨_,?_,.ptr k (off+fd.offset) hb⟩;simp only[execOp,Instr.fieldAt,hv,a7,run_underlying hs,Result.andThen_ok,hf,Instr.sureAddr,Sem.run_pure,fieldPlace,ht.run_sizeOf,h0,if_false,Xo8]
theorem Y4v {M:Mem} {t:TypeId} {ti:TI} (h:TIok P t ti) {cs:List AV} {vs:Array Value} {off:Nat} {r:AV} (hl:cs.length=vs.size)
  (hlf:∀(i:Nat) (v:Value),vs[i]? =some v->leaf v) (hc:∀(i:Nat) (c:AV) (v:Value),cs[i]? =some c->vs[i]? =some v->R M c v)
  (hp:pick ti.agg ti.size (cs.drop off)=some r):∃v,(part t vs off).run P M.w= .ok v M.w∧R M r v:=by
 unfold pick at hp;cases ha:ti.agg with
 |true=>
  rw[ha] at hp;simp only[if_true] at hp;split at hp
  ·rename_i hle;injection hp with hp;subst hp
   simp only[bt] at hle;refine⟨_,T5 h ha vs off,.agg _ _ (by simp;omega) (fun i v hv=> ?_) fun i c v hi hv=> ?_⟩
   ·rw[Array.getElem?_extract] at hv;split at hv
    ·exact hlf _ v hv
    ·cases hv
   ·have hi':i<ti.size:=by
     have:=(ae.1 hi).1;simp at this;omega
    rw[bc hi',bu] at hi;rw[Array.getElem?_extract] at hv;split at hv
    ·exact hc _ c v hi hv
    ·cases hv
  ·cases hp
 |false=>
  rw[ha] at hp;simp only[bl,if_false,ie] at hp;have hlt:off<vs.size:=by rw[<- hl];exact(ae.1 hp).1
  exact⟨vs[off],Qq h ha (by simp [hlt]),hc off r _ hp (by simp [hlt])⟩
theorem I7 {s:TypeId} {fs:Array Field} {f:Nat} {fd:Field} {ti:TI} (hs:P.underlying s=some (.struct fs)) (hf:fs[f]? =some fd) (ht:TIok P fd.type ti)
  {x:Operand} {cs:List AV} {r:AV} (hx:ρA x= .agg cs) (hp:pick ti.agg ti.size (cs.drop fd.offset)=some r):AOk P ⟨d,.field s x f,ty,pos,aft,gd⟩ ρA [] r []:=
 Xm (by intro _ _ h;cases h) fun M ρ hI hr _ _ _=>by
  have h1:=hr x (by simp [Op.operands]);rw[hx] at h1;generalize hv:ρ x=v at h1;cases h1 with
  |agg cs vs hl hlf hc=>
   obtain⟨u,hu,hR⟩:=Y4v (M:=M) ht hl hlf hc hp;exact⟨u,by simp only[execOp,Instr.field,hv,a7,run_underlying hs,Result.andThen_ok,hf,asAgg,Sem.run_pure,hu],hR⟩
theorem Ng {sz n i:Nat} (h:i<n):i*sz+sz<=n*sz:=by
 calc i*sz+sz=(i+1)*sz:=by rw[e9]
  _<=n*sz:=cj _ h
theorem Rv {t e:TypeId} {ti:TI} (ht:P.underlying t=some (.slice e)) (he:TIok P e ti) {x y:Operand} {els:List (List AV)} {md:Md} {k:IntKind} {z:Int} {row:List AV}
  (hx:ρA x= .sl ti.size els md) (hy:ρA y= .val (.int k z)) (h0:0<=z) (hr:els[z.toNat]? =some row):AOk P ⟨d,.indexAddr t x y,ty,pos,aft,gd⟩ ρA [] (.ref row) []:=
 Xm (by intro _ _ h;cases h) fun M ρ hI hρ _ _ _=>by
  have h1:=hρ x (by simp [Op.operands]);have h2:=hρ y (by simp [Op.operands]);rw[hx] at h1;rw[hy] at h2;have e2:=Yw h2;have hlt:z.toNat<els.length:=(ae.1 hr).1;generalize hv:ρ x=v at h1;cases h1 with
  |nil sz md=>simp at hlt
  |slice sz els md a cap hs hcap hsz hst hc hmd=>
   have hz:(0<=z∧z<(els.length:Int)):=⟨h0,by omega⟩
   have hrow:=hsz row (ed hr);have hrun:(execOp ρ ⟨d,.indexAddr t x y,ty,pos,aft,gd⟩).run P M.w= .ok (.value (.pointer (some ⟨a.block,a.off+z.toNat*ti.size,none⟩))) M.w:=by
    rw[Z9 a hs] at hv;simp only[execOp,Instr.indexAt,hv,e2,asIntOf,a7,Sem.run_pure,run_underlying ht,Result.andThen_ok];simp only[hz,and_self,if_true,a7,he.run_sizeOf,Result.andThen_ok,Sem.run_pure,Xo8]
   refine⟨_,hrun,.ref _ _ rfl (fun j hj=> ?_) fun j c u hj hu=> ?_⟩
   ·show M.stb a.block (a.off+z.toNat*ti.size+j)
    rw[Nat.add_assoc];have:=Ng (sz:=ti.size) hlt;exact hst _ (by omega)
   ·exact hc _ j row c u hr hj (by rw[<- Nat.add_assoc];exact hu)
theorem Dz {M:Mem} {k off len:Nat} {fl:Bool} {v:Value} (h:R M (.bsl k off len fl) v) (hl:0<len):∃cap,v= .slice (some ⟨M.β k,off,none⟩) len cap∧len<=cap∧Kt (M.st k):=by
 cases h with
 |bsl k off len cap fl hb hc hf=>exact⟨cap,rfl,hc,hb⟩
 |bsl0=>omega
theorem C8 {t e:TypeId} {ti:TI} (ht:P.underlying t=some (.slice e)) (he:TIok P e ti) {x y:Operand} {b off len:Nat} {fl:Bool} {k:IntKind} {z:Int}
  (hx:ρA x= .bsl b off len fl) (hy:ρA y= .val (.int k z)) (h0:0<=z) (hz:z<(len:Int)):AOk P ⟨d,.indexAddr t x y,ty,pos,aft,gd⟩ ρA [] (.ptr b (off+z.toNat*ti.size)) []:=
 Xm (by intro _ _ h;cases h) fun M ρ hI hρ _ _ _=>by
  have h1:=hρ x (by simp [Op.operands]);have h2:=hρ y (by simp [Op.operands]);rw[hx] at h1;rw[hy] at h2;have e2:=Yw h2;obtain⟨cap,hv,hcap,hb⟩:=Dz h1 (by omega);have hz:(0<=z∧z<(len:Int)):=⟨h0,hz⟩
  refine⟨_,?_,.ptr b _ hb⟩;simp only[execOp,Instr.indexAt,hv,e2,asIntOf,a7,Sem.run_pure,run_underlying ht,Result.andThen_ok];simp only[hz,and_self,if_true,a7,he.run_sizeOf,Result.andThen_ok,Sem.run_pure,Xo8]
theorem C9 {t e:TypeId} {n:Nat} {ti:TI} (ht:P.underlying t=some (.array n e)) (he:TIok P e ti) {x y:Operand} {b off:Nat} {k:IntKind} {z:Int}
  (hx:ρA x= .ptr b off) (hy:ρA y= .val (.int k z)) (h0:0<=z) (hz:z<(n:Int)):AOk P ⟨d,.indexAddr t x y,ty,pos,aft,gd⟩ ρA [] (.ptr b (off+z.toNat*ti.size)) []:=
 Xm (by intro _ _ h;cases h) fun M ρ hI hρ _ _ _=>by
  have h1:=hρ x (by simp [Op.operands]);have h2:=hρ y (by simp [Op.operands]);rw[hx] at h1;rw[hy] at h2;have e2:=Yw h2;generalize hv:ρ x=v at h1;cases h1 with
  |ptr b off hb=>
   have hz:(0<=z∧z<(n:Int)):=⟨h0,hz⟩
   refine⟨_,?_,.ptr b _ hb⟩;simp only[execOp,Instr.indexAt,Instr.sureAddr,hv,e2,asIntOf,a7,Sem.run_pure,run_underlying ht,Result.andThen_ok];simp only[hz,and_self,if_true,a7,he.run_sizeOf,Result.andThen_ok,Sem.run_pure,Xo8]
theorem Ca {t e:TypeId} {n:Nat} {ti:TI} (ht:P.underlying t=some (.array n e)) (he:TIok P e ti) {x y:Operand} {cs:List AV} {k:IntKind} {z:Int}
  (hx:ρA x= .ref cs) (hy:ρA y= .val (.int k z)) (h0:0<=z) (hz:z<(n:Int)):AOk P ⟨d,.indexAddr t x y,ty,pos,aft,gd⟩ ρA [] (.ref (cs.drop (z.toNat*ti.size))) []:=
 Xm (by intro _ _ h;cases h) fun M ρ hI hρ _ _ _=>by
  have h1:=hρ x (by simp [Op.operands]);have h2:=hρ y (by simp [Op.operands]);rw[hx] at h1;rw[hy] at h2;have e2:=Yw h2;generalize hv:ρ x=v at h1;cases h1 with
  |ref cs a hs hst hc=>
   have hz:(0<=z∧z<(n:Int)):=⟨h0,hz⟩
   have hrun:(execOp ρ ⟨d,.indexAddr t x y,ty,pos,aft,gd⟩).run P M.w= .ok (.value (.pointer (some ⟨a.block,a.off+z.toNat*ti.size,none⟩))) M.w:=by
    rw[Z9 a hs] at hv;simp only[execOp,Instr.indexAt,Instr.sureAddr,hv,e2,asIntOf,a7,Sem.run_pure,run_underlying ht,Result.andThen_ok];simp only[hz,and_self,if_true,a7,he.run_sizeOf,Result.andThen_ok,Sem.run_pure,Xo8]
   refine⟨_,hrun,.ref _ _ rfl (fun j hj=> ?_) fun j c u hj hu=> ?_⟩
   ·show M.stb a.block (a.off+z.toNat*ti.size+j)
    rw[Nat.add_assoc];exact hst _ (by simp at hj;omega)
   ·rw[bu] at hj;exact hc _ c u hj (by rw[<- Nat.add_assoc];exact hu)
theorem I8 {t e:TypeId} {n:Nat} {ti:TI} (ht:P.underlying t=some (.array n e)) (he:TIok P e ti) {x y:Operand} {cs:List AV} {k:IntKind} {z:Int} {r:AV}
  (hx:ρA x= .agg cs) (hy:ρA y= .val (.int k z)) (h0:0<=z) (hz:z<(n:Int)) (hp:pick ti.agg ti.size (cs.drop (z.toNat*ti.size))=some r):AOk P ⟨d,.index t x y,ty,pos,aft,gd⟩ ρA [] r []:=
 Xm (by intro _ _ h;cases h) fun M ρ hI hρ _ _ _=>by
  have h1:=hρ x (by simp [Op.operands]);have h2:=hρ y (by simp [Op.operands]);rw[hx] at h1;rw[hy] at h2;have e2:=Yw h2;generalize hv:ρ x=v at h1;cases h1 with
  |agg cs vs hl hlf hc=>
   have hz:(0<=z∧z<(n:Int)):=⟨h0,hz⟩
   obtain⟨u,hu,hR⟩:=Y4v (M:=M) he hl hlf hc hp;refine⟨u,?_,hR⟩;simp only[execOp,Instr.index,hv,e2,asIntOf,a7,Sem.run_pure,run_underlying ht,Result.andThen_ok];simp only[hz,and_self,if_true,a7,he.run_sizeOf,Result.andThen_ok,hu]
theorem X3s {t e:TypeId} (ht:P.underlying t=some (.slice e)) {x:Operand} {sz:Nat} {els:List (List AV)} {md:Md} (hx:ρA x= .sl sz els md):
  AOk P ⟨d,.call {callee:= .builtin .len,args:= #[x],argTypes:= #[t]},ty,pos,aft,gd⟩ ρA [] (.val (.int .i64 els.length)) []:=
 Xm (by intro _ _ h;cases h) fun M ρ hI hρ _ _ _=>by
  have h1:=hρ x (by simp [Op.operands,Call.operands]);rw[hx] at h1;obtain⟨a,c,hv⟩:∃a c,ρ x= .slice a els.length c:=by
   generalize ρ x=v at h1;cases h1
   ·exact⟨_,_,rfl⟩
   ·exact⟨_,_,rfl⟩
  exact⟨_,by simp [execOp,resolve,invoke,builtin,Builtin.len_,run_underlying ht,hv,goInt],.val _ trivial⟩
theorem Cb {t e:TypeId} (ht:P.underlying t=some (.slice e)) {x:Operand} {b off len:Nat} {fl:Bool} (hx:ρA x= .bsl b off len fl):
  AOk P ⟨d,.call {callee:= .builtin .len,args:= #[x],argTypes:= #[t]},ty,pos,aft,gd⟩ ρA [] (.val (.int .i64 len)) []:=
 Xm (by intro _ _ h;cases h) fun M ρ hI hρ _ _ _=>by
  have h1:=hρ x (by simp [Op.operands,Call.operands]);rw[hx] at h1;obtain⟨a,c,hv⟩:∃a c,ρ x= .slice a len c:=by
   generalize ρ x=v at h1;cases h1
   ·exact⟨_,_,rfl⟩
   ·exact⟨_,_,rfl⟩
  exact⟨_,by simp [execOp,resolve,invoke,builtin,Builtin.len_,run_underlying ht,hv,goInt],.val _ trivial⟩
theorem Cc {t:TypeId} (ht:P.underlying t=some .string) {x:Operand} {s:ByteArray} (hx:ρA x= .val (.string s)):
  AOk P ⟨d,.call {callee:= .builtin .len,args:= #[x],argTypes:= #[t]},ty,pos,aft,gd⟩ ρA [] (.val (.int .i64 s.size)) []:=
 Xm (by intro _ _ h;cases h) fun M ρ hI hρ _ _ _=>by
  have h1:=hρ x (by simp [Op.operands,Call.operands]);rw[hx] at h1;exact⟨_,by simp [execOp,resolve,invoke,builtin,Builtin.len_,run_underlying ht,Yw h1,goInt],.val _ trivial⟩
theorem X3t {t e:TypeId} (ht:P.underlying t=some (.slice e)) {x:Operand} {sz:Nat} {els:List (List AV)} (hx:ρA x= .sl sz els .full):
  AOk P ⟨d,.call {callee:= .builtin .cap,args:= #[x],argTypes:= #[t]},ty,pos,aft,gd⟩ ρA [] (.val (.int .i64 els.length)) []:=
 Xm (by intro _ _ h;cases h) fun M ρ hI hρ _ _ _=>by
  have h1:=hρ x (by simp [Op.operands,Call.operands]);rw[hx] at h1;obtain⟨a,hv⟩:∃a,ρ x= .slice a els.length els.length:=by
   generalize ρ x=v at h1;cases h1 with
   |nil=>exact⟨_,rfl⟩
   |slice sz els md a cap hs hcap hsz hst hc hmd=>have:cap=els.length:=hmd;subst this;exact⟨_,rfl⟩
  exact⟨_,by simp [execOp,resolve,invoke,builtin,Builtin.cap_,run_underlying ht,hv,goInt],.val _ trivial⟩
theorem Cd {t e:TypeId} (ht:P.underlying t=some (.slice e)) {x:Operand} {sz:Nat} {els:List (List AV)} (hx:ρA x= .sl sz els .nil):
  AOk P ⟨d,.call {callee:= .builtin .cap,args:= #[x],argTypes:= #[t]},ty,pos,aft,gd⟩ ρA [] (.val (.int .i64 0)) []:=
 Xm (by intro _ _ h;cases h) fun M ρ hI hρ _ _ _=>by
  have h1:=hρ x (by simp [Op.operands,Call.operands]);rw[hx] at h1;obtain⟨a,hv⟩:∃a,ρ x= .slice a 0 0:=by
   generalize ρ x=v at h1;cases h1 with
   |nil=>exact⟨_,rfl⟩
   |slice sz els md a cap hs hcap hsz hst hc hmd=>exact hmd.elim
  exact⟨_,by simp [execOp,resolve,invoke,builtin,Builtin.cap_,run_underlying ht,hv,goInt],.val _ trivial⟩
theorem X3u {x y:Operand} {t u:TypeId} {k j:IntKind} {a b:Int} (hx:ρA x= .val (.int k a)) (hy:ρA y= .val (.int j b)):
  AOk P ⟨d,.call {callee:= .builtin .min,args:= #[x,y],argTypes:= #[t,u]},ty,pos,aft,gd⟩ ρA [] (.val (.int k (if b<a then b else a))) []:=
 Xm (by intro _ _ h;cases h) fun M ρ hI hρ _ _ _=>by
  have h1:=hρ x (by simp [Op.operands,Call.operands]);have h2:=hρ y (by simp [Op.operands,Call.operands]);rw[hx] at h1;rw[hy] at h2;refine⟨_,?_,.val _ trivial⟩;simp [execOp,resolve,invoke,builtin,Builtin.min_,Builtin.min2,Yw h1,Yw h2]
theorem M4 {f:FuncId} {fn:Func} (hf:P.funcs[f]? =some fn) (hb:fn.body.isSome=true) (hn:(fn.name== "runtime.NumGoroutine")=false) (args:Array Value) (w:World):(callFunc f args).run P w= .ok (.enter f args) w:=by
 have:fn.body.isNone=false:=by cases h:fn.body<;>simp_all
 simp only[callFunc,a7,run_program,Result.andThen_ok,hf,hn,this,bl,if_false];rfl
theorem X0v {x:Operand} {f:FuncId} {caps:List AV} {fn:Func} {args:Array Operand} {ats:Array TypeId} {needs:List (Nat×Option Res)} {r:AV} {gives:List (Nat×Res)}
  (hf:P.funcs[f]? =some fn) (hb:fn.body.isSome=true) (hn:(fn.name== "runtime.NumGoroutine")=false)
  (hx:ρA x= .fn (.func f) caps) (h:Xr P f (args.toList.map ρA++caps) needs r gives):AOk P ⟨d,.call {callee:= .value x,args:=args,argTypes:=ats},ty,pos,aft,gd⟩ ρA needs r gives:=
 ⟨(by intro _ _ h;cases h),fun M N ρ hI hρ _ _ hneeds hN hu=>by
  have h1:=hρ x (by simp [Op.operands,Call.operands]);rw[hx] at h1;generalize hv:ρ x=v at h1;cases h1 with
  |fn f' caps vs hl hc=>
   have hrun:(execOp ρ ⟨d,.call {callee:= .value x,args:=args,argTypes:=ats},ty,pos,aft,gd⟩).run P M.w= .ok (.enter f (args.map ρ++vs)) M.w:=by
    simp [execOp,resolve,Deferred.ofValue,hv,invoke,M4 hf hb hn]
   rw[hrun];refine h M N (args.map ρ++vs) hI ⟨by simp [hl],fun i c u hi hu'=> ?_⟩ hneeds hN hu;rcases Nat.lt_or_ge i args.size with ha|ha
   ·rw[ay (by simpa using ha)] at hi;rw[fq (by simpa using ha)] at hu';simp only[b9,bh] at hi;simp only[ft] at hu';rw[Array.getElem?_eq_getElem ha] at hi hu';injection hi with hi;injection hu' with hu'
    subst hi;subst hu';exact hρ _ (by simp [Op.operands,Call.operands])
   ·rw[au (by simpa using ha)] at hi;rw[fj (by simpa using ha)] at hu';simp only[ai,Array.length_toList,Array.size_map] at hi hu';exact hc _ c u hi hu'⟩
end
section
variable {P:Program} {d:Option Tmp} {ty:TypeId} {pos:String} {aft:Array Edge} {gd:Option (Nat×Bool)} {ρA:Operand->AV}
def P6 (ρA:Operand->AV):Option Operand->Option Nat
 |none=>some 0
 |some x=>match ρA x with
  | .val (.int _ z)=>if 0<=z then some z.toNat else none
  | _=>none
def Nh (ρA:Operand->AV) (len:Nat):Option Operand->Option Nat
 |none=>some len
 |some x=>match ρA x with
  | .val (.int _ z)=>if 0<=z then some z.toNat else none
  | _=>none
theorem Rw {M:Mem} {ρ:Operand->Value} {x:Operand} {n:Nat} (hr:R M (ρA x) (ρ x)) (h:(match ρA x with| .val (.int _ z)=>if 0<=z then some z.toNat else none| _=>none)=some n):
  ∃k z,ρ x= .int k z∧0<=z∧z.toNat=n:=by
 split at h
 ·rename_i k z e;rw[e] at hr;split at h
  ·rename_i h0;injection h with h
   exact⟨k,z,Yw hr,h0,h⟩
  ·cases h
 ·cases h
theorem Y45 {M:Mem} {ρ:Operand->Value} (isSlice:Bool) (len cap l h:Nat) {lo hi:Option Operand}
  (hlo:∀x,lo=some x->R M (ρA x) (ρ x)) (hhi:∀x,hi=some x->R M (ρA x) (ρ x)) (h1:P6 ρA lo=some l) (h2:Nh ρA len hi=some h) (hlh:l<=h) (hhc:h<=cap):
  (Instr.sliceBounds isSlice len cap (lo.map ρ) (hi.map ρ) none).run P M.w= .ok (l,h,cap) M.w:=by
 have hbl:∀(y:Nat) (code:BoundsCode),l<=y->∀x,lo=some x->(Instr.sliceBound (ρ x) y code).run P M.w= .ok l M.w:=fun y code hy x hx=>by
  subst hx;obtain⟨k,z,e,h0,hz⟩:=Rw (hlo x rfl) h1;rw[e];have:0<=z∧z<=(y:Int):=⟨h0,by omega⟩
  simp only[Instr.sliceBound,asIntOf,a7,Sem.run_pure,Result.andThen_ok,this,and_self,if_true,hz]
 have hbh:∀(y:Nat) (code:BoundsCode),h<=y->∀x,hi=some x->(Instr.sliceBound (ρ x) y code).run P M.w= .ok h M.w:=fun y code hy x hx=>by
  subst hx;obtain⟨k,z,e,h0,hz⟩:=Rw (hhi x rfl) h2;rw[e];have:0<=z∧z<=(y:Int):=⟨h0,by omega⟩
  simp only[Instr.sliceBound,asIntOf,a7,Sem.run_pure,Result.andThen_ok,this,and_self,if_true,hz]
 cases hi with
 |none=>
  simp only[Nh,bb] at h2;subst h2;cases lo with
  |none=>
   simp only[P6,bb] at h1;subst h1;simp [Instr.sliceBounds]
  |some x=>simp [Instr.sliceBounds,hbl _ _ hlh x rfl]
 |some y=>
  cases lo with
  |none=>
   simp only[P6,bb] at h1;subst h1;simp [Instr.sliceBounds,hbh _ _ hhc y rfl]
  |some x=>simp [Instr.sliceBounds,hbh _ _ hhc y rfl,hbl _ _ hlh x rfl]
theorem Q6 {x:Operand} {lo hi mx:Option Operand} {t:TypeId}:(∀y,lo=some y->y∈(Op.slice t x lo hi mx).operands)∧(∀y,hi=some y->y∈(Op.slice t x lo hi mx).operands)∧x∈(Op.slice t x lo hi mx).operands∧
  (∀y,mx=some y->y∈(Op.slice t x lo hi mx).operands):=by
 refine⟨fun y hy=> ?_,fun y hy=> ?_,?_,fun y hy=> ?_⟩<;>simp [Op.operands, *]
theorem Zx {P:Program} (w:World) (size:Nat) (a:Option Addr) (n cap:Nat):(Builtin.firstCells size 0 (.slice a n cap)).run P w= .ok #[] w:=by
 cases a with
 |none=>exact run_firstCells_none w size 0 n cap
 |some a=>exact run_firstCells_some w size 0 a n cap [] (by simp) (fun j v h=>by simp at h)
theorem Src.ofZero {P:Program} (w:World) {size:Nat} {tx e':TypeId} (hk:P.underlying tx=some (.slice e')) (a:Option Addr) (c:Nat):Src P size tx (.slice a 0 c) 0 [] w:=by
 cases a with
 |none=>exact Src.ofNil w hk c
 |some a=>exact Src.ofSlice w hk a 0 c [] (by simp) (fun j u h=>by simp at h) (fun u h=>by cases h)
theorem R.sub {M:Mem} {sz:Nat} {els:List (List AV)} {md:Md} {a:Addr} {cap:Nat} (h:R M (.sl sz els md) (.slice (some a) els.length cap)) {l n cap':Nat} (hl:l+n<=els.length) (hc:n<=cap')
  {md':Md} (hmd':md'= .sh∨(md'= .full∧cap'=n)) {a':Addr} (ha:n=0∨a'=⟨a.block,a.off+l*sz,none⟩) (hs':a'.spot=none):R M (.sl sz ((els.drop l).take n) md') (.slice (some a') n cap'):=by
 have hlen:((els.drop l).take n).length=n:=by simp;omega
 cases h with
 |nil=>
  have hn0:n=0:=by simp at hl;omega
  subst hn0;have key:=R.slice (M:=M) sz [] md' a' cap' hs' (br _) (by simp) (by simp) (by simp) (by rcases hmd' with rfl|⟨rfl,h⟩<;>simp [X3k, *]);simpa using key
 |slice sz els md a cap hs hcap hsz hst hcell hmd=>
  have key:=R.slice (M:=M) sz ((els.drop l).take n) md' a' cap' hs' (by omega) (fun row hr=>hsz row (iq (List.mem_of_mem_take hr)))
   (fun o ho=>by
    rw[hlen] at ho;rcases ha with h0|rfl
    ·subst h0;omega
    ·show M.stb a.block (a.off+l*sz+o)
     rw[Nat.add_assoc];refine hst _ ?_;have h2:(l+n)*sz<=els.length*sz:=cj _ hl;rw[Nat.add_mul] at h2;omega)
   (fun i j row c v hi hj hv=>by
    have hin:i<n:=by
     have:=(ae.1 hi).1;omega
    rcases ha with h0|rfl
    ·omega
    ·rw[bc hin,bu] at hi;refine hcell (l+i) j row c v hi hj ?_;rw[show a.off+((l+i)*sz+j)=a.off+l*sz+(i*sz+j) from by rw[Nat.add_mul];omega];exact hv)
   (by rw[hlen];rcases hmd' with rfl|⟨rfl,h⟩<;>simp [X3k, *])
  rw[hlen] at key;exact key
theorem I9 {t e:TypeId} {ti:TI} (ht:P.underlying t=some (.slice e)) (he:TIok P e ti) {x:Operand} {lo hi:Option Operand} {els:List (List AV)} {md:Md} {l h:Nat}
  (hx:ρA x= .sl ti.size els md) (h1:P6 ρA lo=some l) (h2:Nh ρA els.length hi=some h) (hlh:l<=h) (hhc:h<=els.length):
  AOk P ⟨d,.slice t x lo hi none,ty,pos,aft,gd⟩ ρA [] (.sl ti.size ((els.drop l).take (h - l)) .sh) []:=
 Xm (by intro _ _ h;cases h) fun M ρ hI hρ _ _ _=>by
  have hm:=Q6 (x:=x) (lo:=lo) (hi:=hi) (mx:=none) (t:=t);have hr:=hρ x hm.2.2.1;rw[hx] at hr;generalize hv:ρ x=v at hr;cases hr with
  |nil sz md a hn hn'=>
   have hl0:l=0:=by simp at hhc;omega
   have hh0:h=0:=by simp at hhc;omega
   subst hl0;subst hh0;refine⟨.slice a 0 0,?_,by simpa using R.nil _ Md.sh a (by intro h;cases h) (by intro h;cases h)⟩;simp only[execOp,Instr.sliceAt,hv,a7,run_underlying ht,Result.andThen_ok,Instr.slice,Option.map_none,
    Y45 (P:=P) true 0 0 0 0 (fun y hy=>hρ y (hm.1 y hy)) (fun y hy=>hρ y (hm.2.1 y hy)) h1 h2 (Nat.le_refl _) (Nat.le_refl _),he.run_sizeOf]
   rfl
  |slice sz els md a cap hs hcap hsz hst hc hmd=>
   have hR:=R.slice (M:=M) _ els md a cap hs hcap hsz hst hc hmd;refine⟨.slice (some (if cap=l then a else a.add (l*ti.size))) (h - l) (cap - l),?_,hR.sub (by omega) (by omega) (.inl rfl) ?_ ?_⟩
   ·simp only[execOp,Instr.sliceAt,hv,a7,run_underlying ht,Result.andThen_ok,Instr.slice,Option.map_none,
     Y45 (P:=P) true els.length cap l h (fun y hy=>hρ y (hm.1 y hy)) (fun y hy=>hρ y (hm.2.1 y hy)) h1 h2 hlh (by omega),he.run_sizeOf]
    by_cases hcl:cap=l<;>simp [hcl]
   ·by_cases hcl:cap=l
    ·exact .inl (by omega)
    ·right
     rw[if_neg hcl,Z9 a hs,Xo8]
   ·by_cases hcl:cap=l
    ·rw[if_pos hcl];exact hs
    ·rw[if_neg hcl,Z9 a hs,Xo8]
theorem Rx {t e:TypeId} {ti:TI} (ht:P.underlying t=some (.slice e)) (he:TIok P e ti) {x:Operand} {lo hi:Option Operand} {b off len:Nat} {fl:Bool} {l h:Nat}
  (hx:ρA x= .bsl b off len fl) (h1:P6 ρA lo=some l) (h2:Nh ρA len hi=some h) (hlh:l<=h) (hhc:h<=len):
  AOk P ⟨d,.slice t x lo hi none,ty,pos,aft,gd⟩ ρA [] (.bsl b (off+l*ti.size) (h - l) false) []:=
 Xm (by intro _ _ h;cases h) fun M ρ hI hρ _ _ _=>by
  have hm:=Q6 (x:=x) (lo:=lo) (hi:=hi) (mx:=none) (t:=t);have hr:=hρ x hm.2.2.1;rw[hx] at hr;obtain⟨a,cap,hv,hcap,hform⟩:∃a cap,ρ x= .slice a len cap∧len<=cap∧((a=some ⟨M.β b,off,none⟩∧Kt (M.st b))∨cap=0):=by
   generalize ρ x=v at hr;cases hr with
   |bsl b off len cap fl hb hc hf=>exact⟨_,_,rfl,hc,.inl ⟨rfl,hb⟩⟩
   |bsl0 b off a=>exact⟨_,_,rfl,br _,.inr rfl⟩
  refine⟨.slice (if cap=l then a else a.map (·.add (l*ti.size))) (h - l) (cap - l),?_,?_⟩
  ·simp only[execOp,Instr.sliceAt,hv,a7,run_underlying ht,Result.andThen_ok,Instr.slice,Option.map_none,
    Y45 (P:=P) true len cap l h (fun y hy=>hρ y (hm.1 y hy)) (fun y hy=>hρ y (hm.2.1 y hy)) h1 h2 hlh (by omega),he.run_sizeOf]
   rfl
  ·by_cases hcl:cap=l
   ·have h0:h - l=0:=by omega
    have h1':cap - l=0:=by omega
    rw[if_pos hcl,h0,h1'];exact .bsl0 _ _ _
   ·rcases hform with ⟨rfl,hb⟩|hc0
    ·rw[if_neg hcl];simp only[Option.map_some,Xo8];exact .bsl _ _ _ _ _ hb (by omega) (fun h=>by cases h)
    ·exact absurd (by omega) hcl
theorem Ry {t e:TypeId} {n:Nat} {ti:TI} (ht:P.underlying t=some (.array n e)) (he:TIok P e ti) {x:Operand} {lo hi:Option Operand} {b off:Nat} {l h:Nat}
  (hx:ρA x= .ptr b off) (h1:P6 ρA lo=some l) (h2:Nh ρA n hi=some h) (hlh:l<=h) (hhc:h<=n):
  AOk P ⟨d,.slice t x lo hi none,ty,pos,aft,gd⟩ ρA [] (.bsl b (off+l*ti.size) (h - l) false) []:=
 Xm (by intro _ _ h;cases h) fun M ρ hI hρ _ _ _=>by
  have hm:=Q6 (x:=x) (lo:=lo) (hi:=hi) (mx:=none) (t:=t);have hr:=hρ x hm.2.2.1;rw[hx] at hr;generalize hv:ρ x=v at hr;cases hr with
  |ptr b off hb=>
   refine⟨.slice (some (if n=l then(⟨M.β b,off,none⟩:Addr) else Addr.add ⟨M.β b,off,none⟩ (l*ti.size))) (h - l) (n - l),?_,?_⟩
   ·simp only[execOp,Instr.sliceAt,hv,a7,run_underlying ht,Result.andThen_ok,Instr.sureAddr,Sem.run_pure,Option.map_none,
     Y45 (P:=P) false n n l h (fun y hy=>hρ y (hm.1 y hy)) (fun y hy=>hρ y (hm.2.1 y hy)) h1 h2 hlh hhc,he.run_sizeOf]
   ·by_cases hnl:n=l
    ·have h0:h - l=0:=by omega
     have h1':n - l=0:=by omega
     rw[if_pos hnl,h0,h1'];exact .bsl0 _ _ _
    ·rw[if_neg hnl,Xo8];exact .bsl _ _ _ _ _ hb (by omega) (fun h=>by cases h)
theorem Yr {els:List (List AV)} {s:Nat} (hsz:∀row,row∈els->row.length=s):els.flatten.length=els.length*s:=by
 induction els with
 |nil=>simp
 |cons r els ih=>
  rw[List.flatten_cons,ac,ih (fun row hr=>hsz row (bz _ hr)),hsz r (cy ..),List.length_cons,e9];omega
theorem Mo {els:List (List AV)} {s:Nat} (hsz:∀row,row∈els->row.length=s):∀(j:Nat) (c:AV),els.flatten[j]? =some c->∃i k row,els[i]? =some row∧row[k]? =some c∧j=i*s+k:=by
 induction els with
 |nil=>intro j c h;simp at h
 |cons r els ih=>
  intro j c h;have hrl:=hsz r (cy ..);rw[List.flatten_cons] at h;rcases Nat.lt_or_ge j r.length with hlt|hge
  ·rw[ay hlt] at h;exact⟨0,j,r,rfl,h,by omega⟩
  ·rw[au hge] at h;obtain⟨i,k,row,e1,e2,e3⟩:=ih (fun row hr=>hsz row (bz _ hr)) _ c h;exact⟨i+1,k,row,by simpa using e1,e2,by rw[e9];omega⟩
theorem Rz {els:List (List AV)} {s:Nat} (hsz:∀row,row∈els->row.length=s):∀(i k:Nat) (row:List AV) (c:AV),els[i]? =some row->row[k]? =some c->els.flatten[i*s+k]? =some c:=by
 induction els with
 |nil=>intro i k row c h;simp at h
 |cons r els ih=>
  intro i k row c h hk;have hrl:=hsz r (cy ..);rw[List.flatten_cons];cases i with
  |zero=>
   simp at h;subst h;have:=(ae.1 hk).1;rw[Nat.zero_mul,Nat.zero_add,ay this];exact hk
  |succ i=>
   simp at h;rw[e9,au (by omega),show i*s+s+k - r.length=i*s+k from by omega];exact ih (fun row hr=>hsz row (bz _ hr)) i k row c h hk
theorem Vl {M:Mem} (hI:Inv M) {sz:Nat} {els:List (List AV)} {md:Md} {a:Addr} {cap:Nat} (h:R M (.sl sz els md) (.slice (some a) els.length cap)):
  ∃vs:List Value,vs.length=els.length*sz∧(∀(j:Nat) (v:Value),vs[j]? =some v->M.w.cell? (a.add j)=some v∧leaf v)∧
   (∀(j:Nat) (c:AV) (v:Value),els.flatten[j]? =some c->vs[j]? =some v->R M c v):=by
 cases h with
 |nil=>exact⟨[],by simp,fun j v h=>by simp at h,fun j c v h=>by simp at h⟩
 |slice sz els md a cap hs hcap hsz hst hc hmd=>
  have hfl:=Yr hsz;obtain⟨vs,h1,h2⟩:=Pt (M:=M) (cs:=els.flatten) (b:=a.block) (o:=a.off) fun j hj=>hI.stb _ _ (hst j (by omega));have hadd:∀j,a.add j=⟨a.block,a.off+j,none⟩:=fun j=>by rw[Z9 a hs,Xo8]
  refine⟨vs,by omega,fun j v hv=>by rw[hadd];exact h2 j v hv,fun j c v hj hv=> ?_⟩;obtain⟨i,k,row,e1,e2,rfl⟩:=Mo hsz j c hj;exact hc i k row c v e1 e2 (h2 _ v hv).1
theorem Vm {v:Value} (h:leaf v):v.oneCell'=true:=by cases v<;>first|rfl|exact h.elim
theorem Nj {M:Mem} (hI:Inv M) {ρ:Operand->Value} {tx e':TypeId} {sz:Nat} (hk:P.underlying tx=some (.slice e')) {y:Operand} {els:List (List AV)} {md:Md}
  (hr:R M (.sl sz els md) (ρ y)):∃news:List Value,Src P sz tx (ρ y) els.length news M.w∧(∀(j:Nat) (v:Value),news[j]? =some v->leaf v)∧
   (∀(j:Nat) (c:AV) (v:Value),els.flatten[j]? =some c->news[j]? =some v->R M c v)∧(∀row,row∈els->row.length=sz):=by
 generalize hv:ρ y=v at hr;cases hr with
 |nil sz md a=>exact⟨[],Src.ofZero M.w hk a 0,fun j v h=>by simp at h,fun j c v h=>by simp at h,fun row h=>by cases h⟩
 |slice sz els md a cap hs hcap hsz hst hc hmd=>
  obtain⟨vs,h1,h2,h3⟩:=Vl hI (R.slice (M:=M) sz els md a cap hs hcap hsz hst hc hmd);exact⟨vs,Src.ofSlice M.w hk a _ cap vs h1 (fun j u hu=>(h2 j u hu).1) (fun u hu=>by
   obtain⟨i,hi,rfl⟩:=am hu;exact Vm (h2 i _ (ah hi)).2),fun j v hv=>(h2 j v hv).2,h3,hsz⟩
theorem Q7 (w:World) (t tx ty e:TypeId) (i:TypeInfo) (ht:P.underlying t=some (.slice e)) (hi:P.info? e=some i) (base:Option Addr) (sLen sCap:Nat) (hle:sLen<=sCap) (x:Value) (hs:Src P i.size tx x 0 [] w):
  (Builtin.append_ #[t,tx] ty #[.slice base sLen sCap,x]).run P w= .ok (.slice base sLen sCap) w:=by
 rcases hs.kind with ⟨e',hk⟩|hk<;>cases base<;>simp [Builtin.append_,run_underlying ht,run_underlying hk,sizeOf,typeInfo,hi,hs.len,hle,hs.cells,storeCells]
theorem Qk {z:Array Value} (h:∀v,v∈z.toList->leaf v) (hz:0<z.size) (n i:Nat) (v:Value) (hv:(Builtin.zeroCells z n)[i]? =some v):leaf v:=by
 unfold Builtin.zeroCells at hv;simp only[ft] at hv;cases hr:(Array.range (n*z.size))[i]? with
 |none=>rw[hr] at hv;cases hv
 |some k=>
  rw[hr] at hv;simp only[Option.map_some,bb] at hv;subst hv;have hlt:k % z.size<z.size:=i6 _ hz;refine h _ ?_;rw[getElem!_pos z _ hlt];exact Array.mem_toList_iff.2 (Array.getElem_mem hlt)
theorem Ql (z:Array Value) (n:Nat):(Builtin.zeroCells z n).size=n*z.size:=by simp [Builtin.zeroCells]
theorem Vu (w:World) (need old:Nat) (e:TypeId):need<=grownCap w need old e:=by
 unfold grownCap;simp [Question.cut]
theorem Ys {ρ:Operand->Value} {x y:Operand} {t u:TypeId} {v:Value} {w w':World} (h:(Builtin.append_ #[t,u] ty #[ρ x,ρ y]).run P w= .ok v w'):
  (execOp ρ ⟨d,.call {callee:= .builtin .append,args:= #[x,y],argTypes:= #[t,u]},ty,pos,aft,gd⟩).run P w= .ok (.value v) w':=by
 simp [execOp,resolve,invoke,builtin,h]
theorem Q8 {t u e e':TypeId} {ti:TI} (ht:P.underlying t=some (.slice e)) (hu:P.underlying u=some (.slice e')) (he:TIok P e ti) {x y:Operand} {els:List (List AV)} {md md':Md}
  (hx:ρA x= .sl ti.size els md) (hy:ρA y= .sl ti.size [] md'):
  AOk P ⟨d,.call {callee:= .builtin .append,args:= #[x,y],argTypes:= #[t,u]},ty,pos,aft,gd⟩ ρA [] (.sl ti.size els md) []:=
 Xm (by intro _ _ h;cases h) fun M ρ hI hρ _ _ _=>by
  have h1:=hρ x (by simp [Op.operands,Call.operands]);have h2:=hρ y (by simp [Op.operands,Call.operands]);rw[hx] at h1;rw[hy] at h2;obtain⟨i,z,i1,i2,i3,i4,i5⟩:=he.info;obtain⟨news,hs,_,_,_⟩:=Nj (P:=P) hI hu h2;have hn:news=[]:=cz (by rw[hs.newsLen];simp);subst hn;refine⟨ρ x,Ys ?_,h1⟩;obtain⟨a,n,c,hv,hle⟩:∃a n c,ρ x= .slice a n c∧n<=c:=by
   generalize ρ x=v at h1;cases h1
   ·exact⟨_,_,_,rfl,Nat.le_refl _⟩
   ·exact⟨_,_,_,rfl,by assumption⟩
  rw[hv];exact Q7 M.w t u ty e i ht i1 a n c hle (ρ y) (by rw[i2];exact hs)
theorem Zy (w:World) (t tx ty e:TypeId) (i:TypeInfo) (ht:P.underlying t=some (.slice e)) (hi:P.info? e=some i) (g sLen sCap:Nat) (cur:Array Value) (hg:w.heap[g]? =some (.cells cur e (0,0)))
  (x:Value) (n:Nat) (news:List Value) (hs:Src P i.size tx x n news w) (hroom:sLen+n<=sCap) (hfit:sLen*i.size+news.length<=cur.size):
  (Builtin.append_ #[t,tx] ty #[.slice (some ⟨g,0,none⟩) sLen sCap,x]).run P w=
   .ok (.slice (some ⟨g,0,none⟩) (sLen+n) sCap) (w.setRow g (cur.toList.take (sLen*i.size)++news++cur.toList.drop (sLen*i.size+news.length)).toArray):=by
 have hst:=run_storeCells_at P g (sLen*i.size) e news 0 cur w hg (by simpa using hfit) hs.one;simp only[Nat.add_zero] at hst;rcases hs.kind with ⟨e',hk⟩|hk<;>simp [Builtin.append_,run_underlying ht,run_underlying hk,sizeOf,typeInfo,hi,hs.len,hroom,hs.cells,Addr.add_lit,hst]
theorem Lo {us news:List Value} {j:Nat} {v:Value} {rest:List Value} (h:(us++news++rest)[j]? =some v):
  us[j]? =some v∨(us.length<=j∧news[j - us.length]? =some v)∨(us.length+news.length<=j∧rest[j - (us.length+news.length)]? =some v):=by
 rw[aq] at h;rcases Nat.lt_or_ge j us.length with h1|h1
 ·rw[ay h1] at h;exact .inl h
 ·rw[au h1] at h;rcases Nat.lt_or_ge (j - us.length) news.length with h2|h2
  ·rw[ay h2] at h;exact .inr (.inl ⟨h1,h⟩)
  ·rw[au h2] at h;exact .inr (.inr ⟨by omega,by rw[show j - (us.length+news.length)=j - us.length - news.length from by omega];exact h⟩)
theorem Qm {els els':List (List AV)} {sz:Nat} (h:∀row,row∈els->row.length=sz) (h':∀row,row∈els'->row.length=sz):∀row,row∈els++els'->row.length=sz:=fun row hr=>by
 rcases dh.1 hr with h1|h1
 ·exact h row h1
 ·exact h' row h1
theorem M6 {M:Mem} {N:Nat} (hI:Inv M) {t u e e':TypeId} {ti:TI} (ht:P.underlying t=some (.slice e)) (hu:P.underlying u=some (.slice e')) (he:TIok P e ti) (hs0:0<ti.size)
  {ρ:Operand->Value} {x y:Operand} {els els':List (List AV)} {md md':Md} {k:Nat}
  (h1:R M (.sl ti.size els md) (ρ x)) (h2:R M (.sl ti.size els' md') (ρ y)) (hcap:∀a n c,ρ x= .slice a n c->c<els.length+els'.length)
  (hk:Xoz M k e ti.size (els.length+els'.length)) (hbytes:(els.length+els'.length)*ti.bytes<=140737488355328) (h63:els.length+els'.length<=9223372036854775807):
  Y49 P (fun v w'=>Sf M N [(k,.row e ti.size (els.length+els'.length))] (.sl ti.size (els++els') (.own k)) v w')
   ((execOp ρ ⟨d,.call {callee:= .builtin .append,args:= #[x,y],argTypes:= #[t,u]},ty,pos,aft,gd⟩).run P M.w):=by
 obtain⟨i,z,i1,i2,i3,i4,i5⟩:=he.info;obtain⟨news,hs,hnl,hnR,hsz'⟩:=Nj (P:=P) hI hu h2;have hsz:∀row,row∈els->row.length=ti.size:=by
  generalize ρ x=v at h1;cases h1 with
  |nil=>intro row h;cases h
  |slice sz els md a cap hs hcap hsz hst hc hmd=>exact hsz
 obtain⟨a,c,hv,hle,olds,holdlen,hold,holf,holR⟩:∃a c,ρ x= .slice a els.length c∧els.length<=c∧∃olds:List Value,olds.length=els.length*ti.size∧
   (Builtin.firstCells i.size els.length (.slice a els.length c)).run P M.w.drew= .ok olds.toArray M.w.drew∧(∀(j:Nat) (v:Value),olds[j]? =some v->leaf v)∧
   (∀(j:Nat) (c:AV) (v:Value),els.flatten[j]? =some c->olds[j]? =some v->R M c v):=by
  generalize hv:ρ x=v at h1;cases h1 with
  |nil sz md a=>exact⟨a,0,rfl,Nat.le_refl _,[],by simp,Zx _ _ _ _ _,fun j v h=>by simp at h,fun j c v h=>by simp at h⟩
  |slice sz els md a cap hs hcap hsz hst hc hmd=>
   obtain⟨vs,g1,g2,g3⟩:=Vl hI (R.slice (M:=M) _ els md a cap hs hcap hsz hst hc hmd);exact⟨some a,cap,rfl,hcap,vs,g1,run_firstCells_some _ _ _ _ _ _ _ (by rw[i2];exact g1) (fun j v hj=>by rw[World.cell?_drew];exact(g2 j v hj).1),fun j v hj=>(g2 j v hj).2,g3⟩
 have hlt:=hcap a _ c hv;have hrun:=run_append_grow_src (P:=P) M.w t u ty e i z ht i1 i4 a els.length c olds hold (ρ y) els'.length news (by rw[i2];exact hs) hlt (by omega) (by rw[i3];exact growslice_fits hlt hbytes);rw[<- hv] at hrun;rw[Ys hrun];have hcapge:=VS.Vu M.w (els.length+els'.length) c e;generalize hcp:grownCap M.w (els.length+els'.length) c e=cp at hcapge;have hzl:z.cells.size=ti.size:=by rw[<- he.len,<- i5];simp
 have e0:=Ext.withW (M:=M) (w':=M.w.drew) rfl;have hI0:Inv (M.withW M.w.drew):=hI.withW rfl rfl rfl rfl;obtain⟨vs,hvs⟩:∃vs:Array Value,vs=(olds++news).toArray++Builtin.zeroCells z.cells (cp - (els.length+els'.length)):=⟨_,rfl⟩
 have hnewlen:=hs.newsLen;have hvsize:vs.size=cp*ti.size:=by
  rw[hvs];simp only[i7,fy,ac,VS.Ql,hzl,holdlen,hnewlen];rw[<- Nat.add_mul,<- Nat.add_mul];congr 1;omega
 have hget:∀(j:Nat) (v:Value),vs[j]? =some v->olds[j]? =some v∨(olds.length<=j∧news[j - olds.length]? =some v)∨(olds.length+news.length<=j∧leaf v):=fun j v hj=>by
  rw[hvs,<- bh] at hj;simp only[iw] at hj;rcases Lo hj with h|h|h
  ·exact .inl h
  ·exact .inr (.inl h)
  ·refine .inr (.inr ⟨h.1,Qk (z:=z.cells) (fun v hv=> ?_) (by omega) _ _ v (by rw[<- bh];exact h.2)⟩);rw[i5] at hv;exact Uw (az.1 he.leafs v hv)
 have hleaf:∀(j:Nat) (v:Value),vs[j]? =some v->leaf v:=fun j v hj=>by
  rcases hget j v hj with h|h|h
  ·exact holf j v h
  ·exact hnl _ v h.2
  ·exact h.2
 have hk':Xoz (M.withW M.w.drew) k e ti.size (els.length+els'.length):=hk;have ex:=Ext.moveRow hI0 hk' vs cp;have hI1:=hI0.moveRow hk' hvsize hcapge hleaf;have hwlt:M.w.drew.alloc (.cells vs e)=((M.withW M.w.drew).moveRow k e ti.size vs (els.length+els'.length) cp).w:=rfl;rw[<- hvs];refine⟨(M.withW M.w.drew).moveRow k e ti.size vs (els.length+els'.length) cp,rfl,e0.trans ex,hI1,fun j _=>rfl,?_⟩;have hll:(els++els').length=els.length+els'.length:=by simp
 have hsz2:=Qm hsz hsz';have key:R ((M.withW M.w.drew).moveRow k e ti.size vs (els.length+els'.length) cp) (.sl ti.size (els++els') (.own k)) (.slice (some ⟨M.w.heap.size,0,none⟩) (els++els').length cp):= ?_
 ·rw[hll] at key;exact key
 refine .slice ti.size (els++els') (.own k) ⟨M.w.heap.size,0,none⟩ cp rfl (by rw[hll];exact hcapge) hsz2 (fun o ho=> ?_) (fun i j row c' v hi hj hcell=> ?_) ?_
 ·refine .inr ⟨rfl,?_⟩;rw[hll] at ho;simpa using ho
 ·have hcell':vs[i*ti.size+j]? =some v:=by
   have:((M.withW M.w.drew).moveRow k e ti.size vs (els.length+els'.length) cp).w.cell? ⟨M.w.heap.size,0+(i*ti.size+j),none⟩=vs[i*ti.size+j]? :=by
    rw[Nat.zero_add];exact Yj (Q4 _ _)
   rw[<- this];exact hcell
  have hfl:=Rz hsz2 i j row c' hi hj;rw[f5] at hfl;have hlo:els.flatten.length=olds.length:=by rw[Yr hsz,holdlen]
  have hln:els'.flatten.length=news.length:=by rw[Yr hsz',hnewlen]
  refine R.ext (e0.trans ex) ?_;rcases hget _ v hcell' with h|h|h
  ·have hlt':=(ae.1 h).1;rw[ay (by omega)] at hfl;exact holR _ c' v hfl h
  ·rw[au (by omega),hlo] at hfl;exact hnR _ c' v hfl h.2
  ·have:=(ae.1 hfl).1;rw[ac] at this;omega
 ·refine⟨e,els.length+els'.length,by simp [Mem.moveRow,Xw],by rw[hll];exact Nat.le_refl _,fun _=> .inr ⟨rfl,by simp [Mem.moveRow];rfl,by simp [Mem.moveRow]⟩⟩
theorem Un {t u e e':TypeId} {ti:TI} (ht:P.underlying t=some (.slice e)) (hu:P.underlying u=some (.slice e')) (he:TIok P e ti) (hs0:0<ti.size) {x y:Operand} {els els':List (List AV)} {md md':Md} (k:Nat)
  (hx:ρA x= .sl ti.size els md) (hfull:md= .nil∨md= .full) (hy:ρA y= .sl ti.size els' md') (hne:els'≠[]) (hbytes:(els.length+els'.length)*ti.bytes<=140737488355328) (h63:els.length+els'.length<=9223372036854775807):
  AOk P ⟨d,.call {callee:= .builtin .append,args:= #[x,y],argTypes:= #[t,u]},ty,pos,aft,gd⟩ ρA [(k,none)] (.sl ti.size (els++els') (.own k)) [(k,.row e ti.size (els.length+els'.length))]:=
 ⟨(by intro _ _ h;cases h),fun M N ρ hI hρ _ _ hn _ _=>by
  have h1:=hρ x (by simp [Op.operands,Call.operands]);have h2:=hρ y (by simp [Op.operands,Call.operands]);rw[hx] at h1;rw[hy] at h2;have hpos:0<els'.length:=eh.2 hne;refine M6 hI ht hu he hs0 h1 h2 (fun a n c hv=> ?_) (.inl hn.1) hbytes h63;rw[hv] at h1;cases h1 with
  |nil=>simpa using hpos
  |slice sz els md a cap hs hcap hsz hst hc hmd=>
   rcases hfull with h|h
   ·subst h;exact hmd.elim
   ·subst h;have:c=els.length:=hmd;omega⟩
theorem Pb {t u e e':TypeId} {ti:TI} (ht:P.underlying t=some (.slice e)) (hu:P.underlying u=some (.slice e')) (he:TIok P e ti) (hs0:0<ti.size) {x y:Operand} {els els':List (List AV)} {md':Md} {k:Nat}
  (hx:ρA x= .sl ti.size els (.own k)) (hy:ρA y= .sl ti.size els' md') (hbytes:(els.length+els'.length)*ti.bytes<=140737488355328) (h63:els.length+els'.length<=9223372036854775807):
  AOk P ⟨d,.call {callee:= .builtin .append,args:= #[x,y],argTypes:= #[t,u]},ty,pos,aft,gd⟩ ρA [(k,some (.row e ti.size els.length))] (.sl ti.size (els++els') (.own k)) [(k,.row e ti.size (els.length+els'.length))]:=
 ⟨(by intro _ _ h;cases h),fun M N ρ hI hρ _ _ hn hN hun=>by
  have h1:=hρ x (by simp [Op.operands,Call.operands]);have h2:=hρ y (by simp [Op.operands,Call.operands]);rw[hx] at h1;rw[hy] at h2;have hrow:=hn.1;by_cases hnil:els'=[]
  ·subst hnil;obtain⟨i,z,i1,i2,i3,i4,i5⟩:=he.info;obtain⟨news,hs,_,_,_⟩:=Nj (P:=P) hI hu h2;have hnn:news=[]:=cz (by rw[hs.newsLen];simp);subst hnn;obtain⟨a,n,c,hv,hle⟩:∃a n c,ρ x= .slice a n c∧n<=c:=by
    generalize ρ x=v at h1;cases h1
    ·exact⟨_,_,_,rfl,Nat.le_refl _⟩
    ·exact⟨_,_,_,rfl,by assumption⟩
   have hrun:=Q7 M.w t u e i ht i1 a n c hle (ρ y) (by rw[i2];exact hs) (ty:=ty);rw[<- hv] at hrun;rw[Ys hrun];refine⟨M,rfl,Ext.refl M,hI,fun j _=> ?_,by simpa using h1⟩;simp only[upd,Xw,List.length_nil,Nat.add_zero];split
   ·rename_i hj;subst hj;exact hrow
   ·rfl
  ·have hpos:0<els'.length:=eh.2 hnil;have moves:=fun hcap=>M6 (P:=P) (N:=N) (d:=d) (ty:=ty) (pos:=pos) (aft:=aft) (gd:=gd) hI ht hu he hs0 h1 h2 hcap (.inr ⟨els.length,hrow,by omega⟩) hbytes h63;generalize hv:ρ x=v at h1;cases h1 with
   |nil sz md=>exact moves fun a n c h=>by rw[hv] at h;cases h;simpa using hpos
   |slice sz els md a cap hs hcap hsz hst hc hmd=>
    obtain⟨e2,m2,hst2,hle2,hlast⟩:=hmd;have hst3:=hst2;rw[hrow] at hst2;simp only[bb,Res.row.injEq] at hst2;obtain⟨rfl,_,rfl⟩:=hst2;rcases hlast rfl with h0|⟨hoff,hblk,hcapk⟩
    ·exact moves fun a' n c h=>by rw[hv] at h;cases h;omega
    by_cases hroom:els.length+els'.length<=cap
    ·obtain⟨i,z,i1,i2,i3,i4,i5⟩:=he.info;obtain⟨news,hsrc,hnl,hnR,hsz'⟩:=Nj (P:=P) hI hu h2;obtain⟨cur,hg,hcsz,hmc,hfree,hstb⟩:=hI.row k e ti.size els.length cap hrow hcapk;have hnewlen:=hsrc.newsLen;have haddr:a=⟨M.β k,0,none⟩:=by rw[Z9 a hs,hblk,hoff]
     have hfit:els.length*i.size+news.length<=cur.size:=by
      rw[i2,hnewlen,hcsz,<- Nat.add_mul];exact cj _ hroom
     have hrun:=Zy (P:=P) M.w t u ty e i ht i1 (M.β k) els.length cap cur hg (ρ y) els'.length news (by rw[i2];exact hsrc) hroom hfit;rw[<- haddr,<- hv] at hrun;rw[Ys hrun];obtain⟨vs,hvs⟩:∃vs:Array Value,vs=(cur.toList.take (els.length*i.size)++news++cur.toList.drop (els.length*i.size+news.length)).toArray:=⟨_,rfl⟩
     have hcl:cur.toList.length=cur.size:=by simp
     have htk:(cur.toList.take (els.length*i.size)).length=els.length*ti.size:=by
      rw[ba,hcl,i2];rw[i2] at hfit;omega
     have hvsz:vs.size=cur.size:=by
      rw[hvs];simp only[fy,ac,bt,htk,hcl];rw[i2] at hfit⊢;omega
     have hsame:∀o,o<els.length*ti.size->vs[o]? =cur[o]? :=fun o ho=>by
      rw[hvs,d7,aq,ay (by omega),bc (by rw[i2];exact ho),bh]
     have hnew:∀o v,els.length*ti.size<=o->o<(els.length+els'.length)*ti.size->vs[o]? =some v->news[o - els.length*ti.size]? =some v:=fun o v h1 h2 h3=>by
      rw[hvs,d7] at h3;rw[Nat.add_mul] at h2;rcases Lo h3 with h|h|h
      ·have:=(ae.1 h).1;omega
      ·rw[htk] at h;exact h.2
      ·rw[htk,hnewlen] at h;omega
     have ex:=Ext.growRow hI hrow hcapk (gg _ els'.length) hg hsame;have hI1:=hI.growRow hrow hcapk (gg _ els'.length) hroom hg hvsz hsame (fun o v h1 h2 h3=>hnl _ v (hnew o v h2 h1 h3));rw[<- hvs];refine⟨M.growRow k e ti.size vs (els.length+els'.length),rfl,ex,hI1,fun j _=>rfl,?_⟩;have hll:(els++els').length=els.length+els'.length:=by simp
     have hsz2:=Qm hsz hsz';have key:R (M.growRow k e ti.size vs (els.length+els'.length)) (.sl ti.size (els++els') (.own k)) (.slice (some a) (els++els').length cap):= ?_
     ·rw[hll] at key;exact key
     refine .slice ti.size (els++els') (.own k) a cap hs (by rw[hll];exact hroom) hsz2 (fun o ho=> ?_) (fun i j row c' v hi hj hcell=> ?_) ?_
     ·refine .inr ⟨hblk,?_⟩;rw[hll] at ho;rw[hoff];simpa using ho
     ·have hcell':vs[i*ti.size+j]? =some v:=by
       have:(M.growRow k e ti.size vs (els.length+els'.length)).w.cell? ⟨a.block,a.off+(i*ti.size+j),none⟩=vs[i*ti.size+j]? :=by
        rw[hblk,hoff,Nat.zero_add];exact Yj (Yp hg)
       rw[<- this];exact hcell
      have hfl:=Rz hsz2 i j row c' hi hj;rw[f5] at hfl;have hlo:els.flatten.length=els.length*ti.size:=Yr hsz;have hln:els'.flatten.length=els'.length*ti.size:=Yr hsz';have hbd:=(ae.1 hfl).1;rw[ac,hlo,hln,<- Nat.add_mul] at hbd;refine R.ext ex ?_;rcases Nat.lt_or_ge (i*ti.size+j) (els.length*ti.size) with hlt|hge
      ·rw[ay (by omega)] at hfl;obtain⟨i',j',row',r1,r2,r3⟩:=Mo hsz _ c' hfl;refine hc i' j' row' c' v r1 r2 ?_;rw[<- r3,hblk,hoff,Nat.zero_add,Yj hg,<- hsame _ hlt];exact hcell'
      ·rw[au (by omega),hlo] at hfl;exact hnR _ c' v hfl (hnew _ v hge hbd hcell')
     ·exact⟨e,els.length+els'.length,by simp [Mem.growRow,Xw],by rw[hll];exact Nat.le_refl _,fun _=> .inr ⟨hoff,hblk,hcapk⟩⟩
    ·exact moves fun a' n c h=>by rw[hv] at h;cases h;omega⟩
end
section
variable {P:Program} {d:Option Tmp} {ty:TypeId} {pos:String} {aft:Array Edge} {gd:Option (Nat×Bool)} {ρA:Operand->AV}
def U4 (place:Nat->Option (Nat×Nat)):List AV->List (Nat×AV)->Option (List AV)
 |cs,[]=>some cs
 |cs,(i,x)::l=>
  match place i,x.parts with
  |some (off,size),some xs=>if xs.length=size∧off+size<=cs.length then U4 place (Yf cs off xs) l else none
  | _,_=>none
def CL (M:Mem) (cs:List AV) (vs:Array Value):Prop:=
 cs.length=vs.size∧(∀(i:Nat) (v:Value),vs[i]? =some v->leaf v)∧∀(i:Nat) (c:AV) (v:Value),cs[i]? =some c->vs[i]? =some v->R M c v
theorem S0 (xs:List Value) (off:Nat):∀(j0:Nat) (cs:Array Value) (i:Nat),off+j0+xs.length<=cs.size→
  ((xs.zipIdx j0).foldl (fun cs (c,j)=>cs.setIfInBounds (off+j) c) cs)[i]? =if off+j0<=i∧i<off+j0+xs.length then xs[i - (off+j0)]? else cs[i]? :=by
 induction xs with
 |nil=>intro j0 cs i _;simp;intro h1 h2;omega
 |cons x xs ih=>
  intro j0 cs i h;simp only[List.zipIdx_cons,List.foldl_cons];rw[ih (j0+1) _ i (by simp at h⊢;omega)];simp only[List.length_cons] at h⊢;by_cases h1:off+(j0+1)<=i∧i<off+(j0+1)+xs.length
  ·rw[if_pos h1,if_pos (by omega)];rw[show i - (off+j0)=(i - (off+(j0+1)))+1 from by omega];simp
  ·rw[if_neg h1];by_cases h2:off+j0=i
   ·subst h2;rw[if_pos (by omega)];simp [show off+j0<cs.size from by omega]
   ·rw[if_neg (by omega),f0 h2]
theorem Pc (xs:List Value) (off:Nat):∀(j0:Nat) (cs:Array Value),((xs.zipIdx j0).foldl (fun cs (c,j)=>cs.setIfInBounds (off+j) c) cs).size=cs.size:=by
 induction xs with
 |nil=>intro j0 cs;rfl
 |cons x xs ih=>intro j0 cs;simp only[List.zipIdx_cons,List.foldl_cons];rw[ih];simp
theorem Pu {cs xs:List AV} {off:Nat} (h:off+xs.length<=cs.length) (i:Nat):(Yf cs off xs)[i]? =if off<=i∧i<off+xs.length then xs[i - off]? else cs[i]? :=by
 unfold Yf;rw[aq];by_cases h1:i<off
 ·rw[ay (by simp;omega),bc h1,if_neg (by omega)]
 ·rw[au (by simp;omega)];simp only[ba];rw[Nat.min_eq_left (by omega)];by_cases h2:i<off+xs.length
  ·rw[ay (by omega),if_pos (by omega)]
  ·rw[au (by omega),bu,if_neg (by omega)]
   congr 1;omega
theorem Y4w {cs xs:List AV} {off:Nat} (h:off+xs.length<=cs.length):(Yf cs off xs).length=cs.length:=by
 unfold Yf;simp;omega
theorem Ce {M:Mem} {place:Nat->Option (Nat×Nat)}:∀(l:List (Nat×AV)) (lv:List (Nat×Value)) (cs:List AV) (vs:Array Value) (r:List AV),CL M cs vs->l.length=lv.length→
  (∀(i:Nat) (x:Nat×AV) (v:Nat×Value),l[i]? =some x->lv[i]? =some v->x.1=v.1∧R M x.2 v.2)->U4 place cs l=some r->∃us,Instr.fill place vs lv=some us∧CL M r us:=by
 intro l;induction l with
 |nil=>
  intro lv cs vs r hc hl _ h;have:lv=[]:=cz hl.symm;subst this;simp only[U4,bb] at h;subst h;exact⟨vs,rfl,hc⟩
 |cons x l ih=>
  intro lv cs vs r hc hl hR h;cases lv with
  |nil=>simp at hl
  |cons y lv=>
   obtain⟨i,x⟩:=x;obtain⟨j,v⟩:=y;obtain⟨e1,e2⟩:=hR 0 (i,x) (j,v) rfl rfl;dsimp only at e1 e2;subst e1;simp only[U4] at h;split at h
   ·rename_i off size xs hp hx;split at h
    ·rename_i hsz;obtain⟨p1,p2,p3⟩:=e2.leaf hx;have hvs:¬(v.cells.size≠size||decide (off+v.cells.size>vs.size))=true:=by
      simp;have:=hc.1;omega
     have hrec:=ih lv (Yf cs off xs) (v.cells.zipIdx.foldl (fun cs (c,j)=>cs.setIfInBounds (off+j) c) vs) r ?_ (by simpa using hl)
      (fun k a b ha hb=>hR (k+1) a b (by simpa using ha) (by simpa using hb)) h
     ·obtain⟨us,h1,h2⟩:=hrec;exact⟨us,by simp only[Instr.fill,hp];rw[if_neg hvs];exact h1,h2⟩
     ·have hlen:off+xs.length<=cs.length:=by omega
      have hget:∀k,(v.cells.zipIdx.foldl (fun cs (c,j)=>cs.setIfInBounds (off+j) c) vs)[k]? =if off<=k∧k<off+xs.length then v.cells[k - off]? else vs[k]? :=fun k=>by
       rw[<- ix,Array.toList_zipIdx,S0 v.cells.toList off 0 vs k (by simp [p1];have:=hc.1;omega)];simp [p1]
      refine⟨?_,fun k u hu=> ?_,fun k c u hk hu=> ?_⟩
      ·rw[Y4w hlen,<- ix,Array.toList_zipIdx,Pc];exact hc.1
      ·rw[hget] at hu;split at hu
       ·exact p2 _ u hu
       ·exact hc.2.1 k u hu
      ·rw[Pu hlen] at hk;rw[hget] at hu;split at hu
       ·rename_i hin;rw[if_pos hin] at hk;exact p3 _ c u hk hu
       ·rename_i hin;rw[if_neg hin] at hk;exact hc.2.2 k c u hk hu
    ·cases h
   ·cases h
theorem Ia {M:Mem} {ti:TI} {t:TypeId} (h:TIok P t ti) {z:Value} (hz:z.cells.toList=ti.zero):CL M (ti.zero.map Yq) z.cells:=by
 obtain⟨a,b⟩:=I5 (M:=M) h hz;exact⟨by rw[ai,<- hz];simp,a,b⟩
def W7 (pl:List (Nat×Nat)):Nat->Option (Nat×Nat):=fun i=>pl[i]?
theorem Cf {M:Mem} {ρ:Operand->Value} {parts:Array (Nat×Operand)} (hρ:∀x,x∈(parts.toList.map (·.2)).toArray->R M (ρA x) (ρ x)):
  ∀(i:Nat) (x:Nat×AV) (v:Nat×Value),(parts.toList.map fun p=>(p.1,ρA p.2))[i]? =some x->(parts.map fun(i,x)=>(i,ρ x)).toList[i]? =some v->x.1=v.1∧R M x.2 v.2:=by
 intro i x v hx hv;simp only[b9] at hx;simp only[Array.toList_map,b9] at hv;cases hp:parts.toList[i]? with
 |none=>rw[hp] at hx;cases hx
 |some p=>
  rw[hp] at hx hv;injection hx with hx;injection hv with hv
  subst hx;subst hv;exact⟨rfl,hρ _ (by simpa using⟨p.1,Array.mem_toList_iff.1 (ed hp)⟩)⟩
theorem Ib {t:TypeId} {ti:TI} (h:TIok P t ti) {fs:Array Field} (hd:ti.desc= .struct fs) {parts:Array (Nat×Operand)} {r:List AV}
  (hr:U4 (W7 ti.pl) (ti.zero.map Yq) (parts.toList.map fun p=>(p.1,ρA p.2))=some r):AOk P ⟨d,.build t parts,ty,pos,aft,gd⟩ ρA [] (.agg r) []:=
 Xm (by intro _ _ h;cases h) fun M ρ hI hρ _ _ _=>by
  obtain⟨z,hz,hzc⟩:=h.run_zero M.w;obtain⟨us,h1,h2⟩:=Ce (M:=M) (place:=W7 ti.pl) _ (parts.map fun(i,x)=>(i,ρ x)).toList _ _ r (Ia h hzc) (by simp) (Cf hρ) hr;refine⟨.agg us,?_,.agg _ _ h2.1 h2.2.1 h2.2.2⟩;have hu:=h.und;rw[hd] at hu;simp only[execOp,Instr.build,a7,hz,Result.andThen_ok,run_underlying hu,h.pl fs hd];have hpl:(fun i=>ti.pl.toArray[i]?)=W7 ti.pl:=by funext i;simp [W7]
  rw[hpl,h1];rfl
theorem Xrs {t e:TypeId} {n:Nat} {ti te:TI} (h:TIok P t ti) (hd:ti.desc= .array n e) (he:TIok P e te) {parts:Array (Nat×Operand)} {r:List AV}
  (hr:U4 (fun i=>some (i*te.size,te.size)) (ti.zero.map Yq) (parts.toList.map fun p=>(p.1,ρA p.2))=some r):AOk P ⟨d,.build t parts,ty,pos,aft,gd⟩ ρA [] (.agg r) []:=
 Xm (by intro _ _ h;cases h) fun M ρ hI hρ _ _ _=>by
  obtain⟨z,hz,hzc⟩:=h.run_zero M.w;obtain⟨us,h1,h2⟩:=Ce (M:=M) (place:=fun i=>some (i*te.size,te.size)) _ (parts.map fun(i,x)=>(i,ρ x)).toList _ _ r (Ia h hzc) (by simp) (Cf hρ) hr;refine⟨.agg us,?_,.agg _ _ h2.1 h2.2.1 h2.2.2⟩;have hu:=h.und;rw[hd] at hu;simp only[execOp,Instr.build,a7,hz,Result.andThen_ok,run_underlying hu,he.run_sizeOf,h1];rfl
def Nk:List AV->List AV->Option Bool
 |[],[]=>some true
 | .val (.int k a)::cs,.val (.int j b)::ds=>if k=j then(Nk cs ds).map ((a==b)&& ·) else none
 | _,_=>none
theorem Nl {c e:AV} {cs ds:List AV} {b:Bool} (h:Nk (c::cs) (e::ds)=some b):∃k x y b',c= .val (.int k x)∧e= .val (.int k y)∧Nk cs ds=some b'∧b=((x==y)&&b'):=by
 unfold Nk at h;split at h
 ·rename_i h1 _;cases h1
 ·rename_i k a cs' j b1 ds' h1 h2;injection h1 with h1 h1';injection h2 with h2 h2'
  subst h1;subst h1';subst h2;subst h2';split at h
  ·rename_i hk;subst hk;cases hrec:Nk cs ds with
   |none=>rw[hrec] at h;cases h
   |some b'=>rw[hrec] at h;injection h with h;exact⟨k,a,b1,b',rfl,rfl,rfl,h.symm⟩
  ·cases h
 ·cases h
theorem Xuj:∀{cs ds:List AV} {b:Bool},Nk cs ds=some b->cs.length=ds.length
 |[],[],_,_=>rfl
 |[],_:: _,_,h=>by simp [Nk] at h
 | _:: _,[],_,h=>by unfold Nk at h;split at h<;>simp_all
 |c::cs,e::ds,b,h=>by
  obtain⟨_,_,_,b',_,_,h',_⟩:=Nl h;simp [Xuj h']
theorem E0 {M:Mem} {k:IntKind} {x:Int} {v:Value} (h:R M (.val (.int k x)) v):v= .int k x:=Yw h
theorem Ye3 {M:Mem} {cs:List AV} {v:Value} (h:R M (.agg cs) v):∃vs:Array Value,v= .agg vs∧cs.length=vs.size∧∀(j:Nat) (c:AV),cs[j]? =some c->∃u,vs[j]? =some u∧R M c u:=by
 cases h with
 |agg cs vs hl hlf hc=>
  refine⟨vs,rfl,hl,fun j c hj=> ?_⟩;have hlt:j<vs.size:=by rw[<- hl];exact(ae.1 hj).1
  exact⟨vs[j],by simp [hlt],hc j c _ hj (by simp [hlt])⟩
def L3 (P:Program):Nat->List Field->Prop
 | _,[]=>True
 |o,f::fs=>(f.name≠ "_" ∧f.offset=o∧∃ti k,TIok P f.type ti∧ti.agg=false∧ti.desc= .int k)∧L3 P (o+1) fs
theorem Lp {M:Mem} (D:Nat) {xs ys:Array Value}:∀(fs:List Field) (o:Nat) (cs ds:List AV) (b:Bool),L3 P o fs->cs.length=fs.length->Nk cs ds=some b→
  (∀(j:Nat) (c:AV),cs[j]? =some c->∃v,xs[o+j]? =some v∧R M c v)->(∀(j:Nat) (c:AV),ds[j]? =some c->∃v,ys[o+j]? =some v∧R M c v)->∀w,
  (Op.eqFields (D+1) xs ys fs).run P w= .ok b w:=by
 intro fs;induction fs with
 |nil=>
  intro o cs ds b _ hl h _ _ w;have:cs=[]:=cz hl;subst this;cases ds with
  |nil=>simp only[Nk,bb] at h;subst h;simp [Op.eqFields]
  |cons _ _=>simp [Nk] at h
 |cons f fs ih=>
  intro o cs ds b hnf hl h hx hy w;cases cs with
  |nil=>simp at hl
  |cons c cs=>
   cases ds with
   |nil=>have:=Xuj h;simp at this
   |cons e2 ds=>
    obtain⟨⟨hname,hoff,ti,k0,hti,hagg,hk⟩,hnf'⟩:=hnf;obtain⟨k,x,y,b',rfl,rfl,h',rfl⟩:=Nl h;obtain⟨v1,e1,r1⟩:=hx 0 _ rfl;obtain⟨v2,e2,r2⟩:=hy 0 _ rfl;rw[E0 r1] at e1;rw[E0 r2] at e2;have hd:=hti.und;rw[hk] at hd;simp only[Op.eqFields,ne_eq,hname,not_false_eq_true,if_true,a7,hoff];rw[Qq hti hagg (by simpa using e1)];simp only[Result.andThen_ok];rw[Qq hti hagg (by simpa using e2)];simp only[Result.andThen_ok];rw[run_equalIn_int w D f.type k k0 x y hd];simp only[Result.andThen_ok];cases hb:(x==y)
    ·simp
    ·simp only[dy,bl,if_false,bo];exact ih (o+1) cs ds b' hnf' (by simpa using hl) h'
      (fun j c hc=>by obtain⟨v,q1,q2⟩:=hx (j+1) c (by simpa using hc);exact⟨v,by rwa [show o+1+j=o+(j+1) from by omega],q2⟩)
      (fun j c hc=>by obtain⟨v,q1,q2⟩:=hy (j+1) c (by simpa using hc);exact⟨v,by rwa [show o+1+j=o+(j+1) from by omega],q2⟩) w
theorem L4 {op:BinOp} {t yt:TypeId} {fs:Array Field} {x y:Operand} {cs ds:List AV} {b:Bool} {v:Value} (ht:P.underlying t=some (.struct fs)) (hnf:L3 P 0 fs.toList) (hp:P.stoodInHeld t=false)
  (hg:P.eqGuardType P.depth t=false) (hx:ρA x= .agg cs) (hy:ρA y= .agg ds) (hn:cs.length=fs.size) (hb:Nk cs ds=some b) (hv:(op= .eql∧v= .bool b)∨(op= .neq∧v= .bool (!b))):
  AOk P ⟨d,.binOp op t x y yt,ty,pos,aft,gd⟩ ρA [] (.val v) []:=
 Xm (by intro _ _ h;cases h) fun M ρ hI hρ _ _ _=>by
  have h1:=hρ x (by simp [Op.operands]);have h2:=hρ y (by simp [Op.operands]);rw[hx] at h1;rw[hy] at h2;obtain⟨xs,e1,l1,g1⟩:=Ye3 h1;obtain⟨ys,e2,l2,g2⟩:=Ye3 h2;have hfo:P.fieldsOf t=fs:=by simp [Program.fieldsOf,ht]
  have key:∀w,(Op.equalIn 10000 t (.agg xs) (.agg ys)).run P w= .ok b w:=fun w=>by
   have h3:=run_equalIn_struct (P:=P) w 9999 t xs ys (by rw[hfo];exact ht) hp;rw[h3,hfo];exact Lp 9998 fs.toList 0 cs ds b hnf (by simpa using hn) hb (fun j c hj=>by rw[Nat.zero_add];exact g1 j c hj) (fun j c hj=>by rw[Nat.zero_add];exact g2 j c hj) w
  have hg':(eqGuard op t x y (.agg xs) (.agg ys)).run P M.w= .ok () M.w:=run_eqGuard_agg M.w op t x y xs ys hg;rcases hv with ⟨rfl,rfl⟩|⟨rfl,rfl⟩
  ·exact⟨_,by simp only[execOp,e1,e2,a7,hg',Result.andThen_ok,run_eql_struct,key];rfl,.val _ trivial⟩
  ·exact⟨_,by simp only[execOp,e1,e2,a7,hg',Result.andThen_ok,run_neq_struct,key];rfl,.val _ trivial⟩
def Yh (sz:Nat):Nat->List AV->List (List AV)
 |0,_=>[]
 |n+1,cs=>cs.take sz::Yh sz n (cs.drop sz)
theorem Yi (sz:Nat):∀(n:Nat) (cs:List AV),(Yh sz n cs).length=n
 |0,_=>rfl
 |n+1,cs=>by simp [Yh,Yi sz n]
theorem Qr (sz:Nat):∀(n:Nat) (cs:List AV) (i:Nat),i<n->(Yh sz n cs)[i]? =some ((cs.drop (i*sz)).take sz)
 |0,_,_,h=>by omega
 |n+1,cs,0,_=>by simp [Yh]
 |n+1,cs,i+1,h=>by
  simp only[Yh,List.getElem?_cons_succ];rw[Qr sz n _ i (by omega),f7,e9,Nat.add_comm]
theorem R.newStb {M:Mem} {e:TypeId} {vs:Array Value} {cs:List AV} {sz n:Nat} (hI:Inv M) (h:CL M cs vs) (hl:cs.length=n*sz) {md:Md} (hmd:md= .sh∨md= .full):
  R (M.newStb e vs vs.size) (.sl sz (Yh sz n cs) md) (.slice (some ⟨M.w.heap.size,0,none⟩) n n):=by
 have hcl:=Yi sz n cs;have ex:=Ext.newStb hI e vs vs.size;have key:=R.slice (M:=M.newStb e vs vs.size) sz (Yh sz n cs) md ⟨M.w.heap.size,0,none⟩ n rfl (by omega)
  (fun row hr=>by
   obtain⟨i,hi,rfl⟩:=am hr;have h1:=Qr sz n cs i (by omega);rw[ah hi] at h1;injection h1 with h1
   rw[h1,ba,bt,hl];have:=Ng (sz:=sz) (show i<n by omega);omega)
  (fun o ho=> .inr ⟨rfl,by rw[hcl,<- hl,h.1] at ho;simpa using ho⟩)
  (fun i j row c v hi hj hv=>by
   have hin:i<n:=by have:=(ae.1 hi).1;omega
   rw[Qr sz n cs i hin] at hi;injection hi with hi;subst hi
   have hj':j<sz:=by have:=(ae.1 hj).1;simp at this;omega
   rw[bc hj',bu] at hj;have hv':vs[i*sz+j]? =some v:=by
    have h2:(M.newStb e vs vs.size).w.cell? ⟨M.w.heap.size,0+(i*sz+j),none⟩=vs[i*sz+j]? :=by
     rw[Nat.zero_add];exact Yj (Q4 _ _)
    rw[<- h2];exact hv
   exact(h.2.2 _ c v hj hv').ext ex)
  (by rcases hmd with rfl|rfl<;>simp [X3k,hcl])
 rw[hcl] at key;exact key
theorem Sf.newStb {M:Mem} {N:Nat} {e:TypeId} {vs:Array Value} {cs:List AV} {sz n:Nat} (hI:Inv M) (h:CL M cs vs) (hl:cs.length=n*sz):
  Sf M N [] (.sl sz (Yh sz n cs) .full) (.slice (some ⟨M.w.heap.size,0,none⟩) n n) (M.w.alloc (.cells vs e)):=
 ⟨M.newStb e vs vs.size,rfl,Ext.newStb hI e vs vs.size,hI.newStb e (Nat.le_refl _) h.2.1,fun _ _=>rfl,R.newStb hI h hl (.inr rfl)⟩
theorem Sf.newBsl {M:Mem} {N:Nat} {e:TypeId} {vs:Array Value} {cs:List AV} {n cap k:Nat} (hI:Inv M) (hk:M.st k=none) (h:CL M cs vs) (hn:n<=cap) {fl:Bool} (hf:fl=true->cap=n):
  Sf M N [(k,.box e cs)] (.bsl k 0 n fl) (.slice (some ⟨M.w.heap.size,0,none⟩) n cap) (M.w.alloc (.cells vs e)):=by
 refine⟨M.newBox k e vs cs,rfl,Ext.newBox hI hk _ _ _,hI.newBox hk e (by rw[h.1];exact Nat.le_refl _) h.2.1 h.2.2,fun j _=>rfl,?_⟩;have hp:=R.bsl (M:=M.newBox k e vs cs) k 0 n cap fl (by simp [Mem.newBox,Xw,Kt]) hn hf;simpa [Mem.newBox] using hp
def Y7 (z:List Value) (n:Nat):List AV:=(List.range n).map fun i=>Yq (z.getD (i % z.length) (.bool false))
theorem Ic {M:Mem} {e:TypeId} {te:TI} (he:TIok P e te) (h0:0<te.size) {z:Value} (hz:z.cells.toList=te.zero) (n:Nat):CL M (Y7 te.zero n) ((Array.range n).map (z.cells[· % z.cells.size]!)):=by
 have hzs:z.cells.size=te.size:=by rw[<- he.len,<- hz];simp
 have hlen:=he.len;obtain⟨z1,z2⟩:=I5 (M:=M) he hz;refine⟨by simp [Y7],fun i v hv=> ?_,fun i c v hc hv=> ?_⟩
 ·simp only[ft] at hv;cases hr:(Array.range n)[i]? with
  |none=>rw[hr] at hv;cases hv
  |some k=>
   rw[hr] at hv;simp only[Option.map_some,bb] at hv;subst hv;have hlt:k % z.cells.size<z.cells.size:=i6 _ (by omega);refine z1 (k % z.cells.size) _ ?_;rw[getElem!_pos z.cells _ hlt];simp [hlt]
 ·have hi:i<n:=by have:=(ae.1 hc).1;simpa [Y7] using this
  simp only[ft,Array.getElem?_range,hi,if_true,Option.map_some,bb] at hv;simp only[Y7,b9,List.getElem?_range hi,Option.map_some,bb] at hc;subst hv;subst hc;have hlt:i % z.cells.size<z.cells.size:=i6 _ (by omega);have hlt':i % te.zero.length<te.zero.length:=i6 _ (by omega);have e1:i % te.zero.length=i % z.cells.size:=by rw[hlen,hzs]
  refine z2 (i % z.cells.size) _ _ ?_ (by rw[getElem!_pos z.cells _ hlt];simp [hlt]);rw[b9];have:te.zero[i % z.cells.size]? =some (te.zero.getD (i % te.zero.length) (.bool false)):=by
   rw[e1,List.getD,ah (by omega)];rfl
  rw[this];rfl
theorem Wx {M:Mem} {t e:TypeId} {te:TI} (ht:P.underlying t=some (.slice e)) (he:TIok P e te) (h0:0<te.size) {n:Nat} (hn:n*te.size<=16777216) {parts:Array (Nat×Operand)} {ρ:Operand->Value} {r:List AV}
  (hρ:∀x,x∈(parts.toList.map (·.2)).toArray->R M (ρA x) (ρ x))
  (hr:U4 (fun i=>some (i*te.size,te.size)) (Y7 te.zero (n*te.size)) (parts.toList.map fun p=>(p.1,ρA p.2))=some r):
  ∃us:Array Value,(Instr.buildSlice t n (parts.map fun(i,x)=>(i,ρ x))).run P M.w= .ok (.slice (some ⟨M.w.heap.size,0,none⟩) n n) (M.w.alloc (.cells us e))∧CL M r us:=by
 obtain⟨z,hz,hzc⟩:=he.run_zero M.w;obtain⟨us,h1,h2⟩:=Ce (M:=M) (place:=fun i=>some (i*te.size,te.size)) _ (parts.map fun(i,x)=>(i,ρ x)).toList _ _ r (Ic he h0 hzc (n*te.size)) (by simp) (Cf hρ) hr;refine⟨us,?_,h2⟩;have hbig:¬n*te.size>2 ^ 24:=by omega
 simp only[Instr.buildSlice,a7,run_underlying ht,Result.andThen_ok,he.run_sizeOf,hbig,if_false];by_cases hz0:n*te.size=0
 ·have hm:∀f:Nat->Value,(Array.range 0).map f= #[]:=fun f=>by apply i8;simp
  rw[hz0,hm] at h1;simp only[hz0,if_true,hm];rw[h1];simp [newRow]
 ·simp only[hz0,if_false,a7,hz,Result.andThen_ok,Sem.run_pure];rw[h1];simp [newRow]
theorem X3w {t e:TypeId} {te:TI} (ht:P.underlying t=some (.slice e)) (he:TIok P e te) (h0:0<te.size) {n:Nat} (hn:n*te.size<=16777216) {parts:Array (Nat×Operand)} {r:List AV}
  (hr:U4 (fun i=>some (i*te.size,te.size)) (Y7 te.zero (n*te.size)) (parts.toList.map fun p=>(p.1,ρA p.2))=some r) (hl:r.length=n*te.size):
  AOk P ⟨d,.buildSlice t n parts,ty,pos,aft,gd⟩ ρA [] (.sl te.size (Yh te.size n r) .full) []:=
 ⟨(by intro _ _ h;cases h),fun M N ρ hI hρ _ _ _ _ _=>by
  obtain⟨us,h1,h2⟩:=Wx (M:=M) ht he h0 hn hρ hr;simp only[execOp,a7,h1,Result.andThen_ok];exact Sf.newStb hI h2 hl⟩
theorem Cg {t e:TypeId} {te:TI} (ht:P.underlying t=some (.slice e)) (he:TIok P e te) (h0:0<te.size) {n:Nat} (hn:n*te.size<=16777216) {parts:Array (Nat×Operand)} {r:List AV} (k:Nat)
  (hr:U4 (fun i=>some (i*te.size,te.size)) (Y7 te.zero (n*te.size)) (parts.toList.map fun p=>(p.1,ρA p.2))=some r):
  AOk P ⟨d,.buildSlice t n parts,ty,pos,aft,gd⟩ ρA [(k,none)] (.bsl k 0 n true) [(k,.box e r)]:=
 ⟨(by intro _ _ h;cases h),fun M N ρ hI hρ _ _ hnd _ _=>by
  obtain⟨us,h1,h2⟩:=Wx (M:=M) ht he h0 hn hρ hr;simp only[execOp,a7,h1,Result.andThen_ok];exact Sf.newBsl hI hnd.1 h2 (Nat.le_refl _) (fun _=>rfl)⟩
theorem T9 {M:Mem} {t e:TypeId} {te:TI} (ht:P.underlying t=some (.slice e)) (he:TIok P e te) (h0:0<te.size) {k j:IntKind} {l c:Int} (hl:0<=l) (hlc:l<=c) (hb:(te.bytes:Int)*c<=281474976710656) (h63:c<=9223372036854775807):
  ∃us:Array Value,(Instr.makeSlice t (.int k l) (.int j c)).run P M.w= .ok (.slice (some ⟨M.w.heap.size,0,none⟩) l.toNat c.toNat) (M.w.alloc (.cells us e))∧CL M (Y7 te.zero (c.toNat*te.size)) us:=by
 obtain⟨i,z,i1,i2,i3,i4,i5⟩:=he.info;have h1:=run_make (P:=P) M.w t e i z ht i1 i4 k j l c hl hlc (by rw[i3];exact hb) h63;exact⟨_,h1,by rw[i2];exact Ic he h0 i5 _⟩
theorem Uo (z:List Value) (n:Nat):(Y7 z n).length=n:=by simp [Y7]
theorem X0w {t e:TypeId} {te:TI} (ht:P.underlying t=some (.slice e)) (he:TIok P e te) (h0:0<te.size) {x y:Operand} {k j:IntKind} {l:Int} (hx:ρA x= .val (.int k l)) (hy:ρA y= .val (.int j l)) (hl:0<=l)
  (hb:(te.bytes:Int)*l<=281474976710656) (h63:l<=9223372036854775807):AOk P ⟨d,.makeSlice t x y,ty,pos,aft,gd⟩ ρA [] (.sl te.size (Yh te.size l.toNat (Y7 te.zero (l.toNat*te.size))) .full) []:=
 ⟨(by intro _ _ h;cases h),fun M N ρ hI hρ _ _ _ _ _=>by
  have e1:=hρ x (by simp [Op.operands]);have e2:=hρ y (by simp [Op.operands]);rw[hx] at e1;rw[hy] at e2;obtain⟨us,h1,h2⟩:=T9 (M:=M) ht he h0 (k:=k) (j:=j) hl (Int.le_refl l) hb h63;simp only[execOp,Yw e1,Yw e2,a7,h1,Result.andThen_ok];exact Sf.newStb hI h2 (Uo _ _)⟩
theorem Ta {t e:TypeId} {te:TI} (ht:P.underlying t=some (.slice e)) (he:TIok P e te) (h0:0<te.size) {x y:Operand} {k j:IntKind} {l c:Int} (q:Nat) (hx:ρA x= .val (.int k l)) (hy:ρA y= .val (.int j c)) (hl:0<=l) (hlc:l<=c)
  (hb:(te.bytes:Int)*c<=281474976710656) (h63:c<=9223372036854775807):AOk P ⟨d,.makeSlice t x y,ty,pos,aft,gd⟩ ρA [(q,none)] (.bsl q 0 l.toNat (l==c)) [(q,.box e (Y7 te.zero (c.toNat*te.size)))]:=
 ⟨(by intro _ _ h;cases h),fun M N ρ hI hρ _ _ hnd _ _=>by
  have e1:=hρ x (by simp [Op.operands]);have e2:=hρ y (by simp [Op.operands]);rw[hx] at e1;rw[hy] at e2;obtain⟨us,h1,h2⟩:=T9 (M:=M) ht he h0 (k:=k) (j:=j) hl hlc hb h63;simp only[execOp,Yw e1,Yw e2,a7,h1,Result.andThen_ok];exact Sf.newBsl hI hnd.1 h2 (by omega) (fun h=>by rw[bq] at h;omega)⟩
end
section
variable {P:Program} {d:Option Tmp} {ty:TypeId} {pos:String} {aft:Array Edge} {gd:Option (Nat×Bool)} {ρA:Operand->AV}
def Xo (l:List UInt8):List (List AV):=l.map fun b=>[.val (.int .u8 b.toNat)]
theorem Ye4 {s t e:TypeId} (hs:P.underlying s=some (.slice e)) (he:P.underlying e=some (.int .u8)) (ht:P.underlying t=some .string) {x:Operand} {l:List UInt8} {md:Md}
  (hx:ρA x= .sl 1 (Xo l) md):AOk P ⟨d,.convert s t x,ty,pos,aft,gd⟩ ρA [] (.val (.string ⟨l.toArray⟩)) []:=
 Xm (by intro _ _ h;cases h) fun M ρ hI hρ _ _ _=>by
  have h1:=hρ x (by simp [Op.operands]);rw[hx] at h1;generalize hv:ρ x=v at h1;refine⟨_,?_,.val _ trivial⟩;have key:(convert s t v).run P M.w= .ok (.string ⟨l.toArray⟩) M.w:=by
   generalize he':Xo l=els at h1;cases h1 with
   |nil sz md a=>
    have:l=[]:=by cases l with|nil=>rfl|cons a l=>simp [Xo] at he'
    subst this;cases a with
    |none=>
     rw[run_convert_bytes_string M.w s t e none 0 0 hs he ht];rfl
    |some a=>exact run_convert_bytes_back M.w s t e a 0 [] hs he ht fun j hj=>(Nat.not_lt_zero j hj).elim
   |slice sz els md a cap hsp hcap hsz hst hc hmd=>
    have hl:els.length=l.length:=by rw[<- he'];simp [Xo]
    rw[hl];refine run_convert_bytes_back M.w s t e a cap l hs he ht fun j hj=> ?_;have hget:els[j]? =some [.val (.int .u8 (l[j].toNat:Int))]:=by rw[<- he'];simp [Xo,hj]
    obtain⟨u,hu,_⟩:=hI.stb _ _ (hst (j*1+0) (by rw[hl];omega));have hR:=hc j 0 _ _ u hget rfl (by simpa using hu);rw[Z9 a hsp,Xo8];rw[Yw hR] at hu;simpa using hu
  simp only[execOp,hv,a7,key,Result.andThen_ok];rfl
theorem R.chunks {M:Mem} {cs:List AV} {a:Addr} (h:R M (.ref cs) (.pointer (some a))) {n sz:Nat} (hn:n*sz<=cs.length):R M (.sl sz (Yh sz n cs) .sh) (.slice (some a) n n):=by
 cases h with
 |ref cs a hs hst hc=>
  have hlen:=Yi sz n cs;have le:∀i,i<n->i*sz+sz<=cs.length:=fun i hi=>by
   have:(i+1)*sz<=n*sz:=cj _ hi;rw[e9] at this;omega
  have row_of:∀i row,(Yh sz n cs)[i]? =some row->i<n∧row=(cs.drop (i*sz)).take sz:=fun i row hi=>by
   have hin:i<n:=by
    have:=(ae.1 hi).1;omega
   rw[Qr sz n cs i hin] at hi;injection hi with hi
   exact⟨hin,hi.symm⟩
  have key:=R.slice (M:=M) sz (Yh sz n cs) .sh a n hs (by omega)
   (fun row hr=>by
    obtain⟨i,hi⟩:=du hr;obtain⟨h1,rfl⟩:=row_of i row hi;have:=le i h1;simp;omega)
   (fun o ho=>hst o (by rw[hlen] at ho;omega))
   (fun i j row c v hi hj hv=>by
    obtain⟨h1,rfl⟩:=row_of i row hi;have hjs:j<sz:=by
     have:=(ae.1 hj).1;simp at this;omega
    rw[bc hjs,bu] at hj;exact hc (i*sz+j) c v hj hv)
   trivial
  rw[hlen] at key;exact key
theorem S5 {P:Program} {d:Option Tmp} {ty:TypeId} {pos:String} {aft:Array Edge} {gd:Option (Nat×Bool)} {ρA:Operand->AV} {t e:TypeId} {n:Nat} {ti:TI} (ht:P.underlying t=some (.array n e)) (he:TIok P e ti) {x:Operand} {lo hi:Option Operand} {cs:List AV} {l h:Nat}
  (hx:ρA x= .ref cs) (hn:n*ti.size<=cs.length) (h1:P6 ρA lo=some l) (h2:Nh ρA n hi=some h) (hlh:l<=h) (hhc:h<=n):
  AOk P ⟨d,.slice t x lo hi none,ty,pos,aft,gd⟩ ρA [] (.sl ti.size (((Yh ti.size n cs).drop l).take (h - l)) .sh) []:=
 Xm (by intro _ _ h;cases h) fun M ρ hI hρ _ _ _=>by
  have hm:=Q6 (x:=x) (lo:=lo) (hi:=hi) (mx:=none) (t:=t);have hr:=hρ x hm.2.2.1;rw[hx] at hr;generalize hv:ρ x=v at hr;obtain⟨a,rfl⟩:∃a,v= .pointer (some a):=by cases hr;exact⟨_,rfl⟩
  have hs:a.spot=none:=by cases hr;assumption
  have hR:=hr.chunks hn;have hlen:=Yi ti.size n cs;have hR':R M (.sl ti.size (Yh ti.size n cs) .sh) (.slice (some a) (Yh ti.size n cs).length n):=by rw[hlen];exact hR
  refine⟨.slice (some (if n=l then a else a.add (l*ti.size))) (h - l) (n - l),?_,hR'.sub (by omega) (by omega) (.inl rfl) ?_ ?_⟩
  ·simp only[execOp,Instr.sliceAt,hv,a7,run_underlying ht,Result.andThen_ok,Instr.sureAddr,Sem.run_pure,Option.map_none,
    Y45 (P:=P) false n n l h (fun y hy=>hρ y (hm.1 y hy)) (fun y hy=>hρ y (hm.2.1 y hy)) h1 h2 hlh hhc,he.run_sizeOf]
  ·by_cases hcl:n=l
   ·exact .inl (by omega)
   ·right
    rw[if_neg hcl,Z9 a hs,Xo8]
  ·by_cases hcl:n=l
   ·rw[if_pos hcl];exact hs
   ·rw[if_neg hcl,Z9 a hs,Xo8]
end
def Md.of:Bool->Md
 |true=> .full
 |false=> .sh
def AV.frz (k:Nat) (sz:Nat) (cs:List AV):AV->AV
 | .ptr j off=>if j=k then .ref (cs.drop off) else .ptr j off
 | .bsl j off len fl=>if j=k then .sl sz (Yh sz len (cs.drop off)) (.of fl) else .bsl j off len fl
 |x=>x
theorem R.frz {M:Mem} (hI:Inv M) {k:Nat} {e:TypeId} {cs:List AV} (hk:M.st k=some (.box e cs)) {sz:Nat} {x:AV} {v:Value} (h:R M x v)
  (hfit:∀off len fl,x= .bsl k off len fl->0<len∧off+len*sz<=cs.length):R (M.freeze k cs.length) (x.frz k sz cs) v:=by
 have ex:=Ext.freeze M (n:=cs.length) hk;obtain⟨vs,g1,g2,g3,g4,g5⟩:=hI.box k e cs hk;have hst:∀o,o<cs.length->(M.freeze k cs.length).stb (M.β k) o:=fun o ho=> .inr ⟨rfl,ho⟩;have hcell:∀o c v,cs[o]? =some c->(M.freeze k cs.length).w.cell? ⟨M.β k,o,none⟩=some v->R (M.freeze k cs.length) c v:=fun o c v hc hv=>by
  have hv':M.w.cell? ⟨M.β k,o,none⟩=some v:=hv;rw[Yj g1] at hv';exact(g4 o c v hc hv').ext ex
 cases h with
 |ptr j off hb=>
  simp only[AV.frz];split
  ·rename_i hj;subst hj;refine .ref _ _ rfl (fun i hi=>hst _ (by simp only[bt] at hi;show off+i<cs.length;omega)) fun i c v hi hv=> ?_;rw[bu] at hi;exact hcell _ c v hi hv
  ·exact(R.ptr j off hb).ext ex
 |bsl j off len cap fl hb hc hf=>
  simp only[AV.frz];split
  ·rename_i hj;subst hj;obtain⟨_,hfit'⟩:=hfit off len fl rfl;have hcl:=Yi sz len (cs.drop off);have key:=R.slice (M:=M.freeze j cs.length) sz (Yh sz len (cs.drop off)) (.of fl) ⟨M.β j,off,none⟩ cap rfl (by omega)
    (fun row hr=>by
     obtain⟨i,hi,rfl⟩:=am hr;have h1:=Qr sz len (cs.drop off) i (by omega);rw[ah hi] at h1;injection h1 with h1
     rw[h1];have:=Ng (sz:=sz) (show i<len by omega);simp;omega)
    (fun o ho=>hst _ (by rw[hcl] at ho;show off+o<cs.length;omega))
    (fun i q row c v hi hq hv=>by
     have hin:i<len:=by have:=(ae.1 hi).1;omega
     rw[Qr sz len _ i hin] at hi;injection hi with hi;subst hi
     have hq':q<sz:=by have:=(ae.1 hq).1;simp at this;omega
     rw[bc hq',bu,bu] at hq;exact hcell _ c v hq hv)
    (by
     cases fl with
     |true=>show cap= _;rw[hcl];exact hf rfl
     |false=>trivial)
   rw[hcl] at key;exact key
  ·exact(R.bsl j off len cap fl hb hc hf).ext ex
 |bsl0 j off a=>
  simp only[AV.frz];split
  ·rename_i hj;subst hj;exact absurd (hfit off 0 false rfl).1 (Nat.lt_irrefl 0)
  ·exact .bsl0 j off a
 |top v=>exact .top v
 |val v h=>exact .val v h
 |agg cs vs hl hf hc=>exact(R.agg cs vs hl hf hc).ext ex
 |nil sz md a hn hn'=>exact .nil sz md a hn hn'
 |slice sz els md a cap hs hcap hsz hst hc hmd=>exact(R.slice sz els md a cap hs hcap hsz hst hc hmd).ext ex
 |vsl k n a l c h=>exact(R.vsl k n a l c h).ext ex
 |ref cs a hs hst hc=>exact(R.ref cs a hs hst hc).ext ex
 |fn f caps vs hl hc=>exact(R.fn f caps vs hl hc).ext ex
 |iface t x v h=>exact(R.iface t x v h).ext ex
 |tup l vs hl hc=>exact(R.tup l vs hl hc).ext ex
inductive AV.le:AV->AV->Prop
 |rfl (x:AV):AV.le x x
 |top (x:AV):AV.le x .top
 |sl (sz:Nat) (els els':List (List AV)) (md md':Md) (hm:md'=md∨md'= .sh) (hl:els.length=els'.length)
   (hr:∀(i:Nat) (r r':List AV),els[i]? =some r->els'[i]? =some r'->r.length=r'.length)
   (h:∀(i j:Nat) (r r':List AV) (c c':AV),els[i]? =some r->els'[i]? =some r'->r[j]? =some c->r'[j]? =some c'->AV.le c c'):AV.le (.sl sz els md) (.sl sz els' md')
 |nil (sz sz':Nat) (md':Md) (hm:md'≠ .nn):AV.le (.sl sz [] .nil) (.sl sz' [] md')
 |agg (cs cs':List AV) (hl:cs.length=cs'.length) (h:∀(i:Nat) (c c':AV),cs[i]? =some c->cs'[i]? =some c'->AV.le c c'):AV.le (.agg cs) (.agg cs')
 |tup (cs cs':List AV) (hl:cs.length=cs'.length) (h:∀(i:Nat) (c c':AV),cs[i]? =some c->cs'[i]? =some c'->AV.le c c'):AV.le (.tup cs) (.tup cs')
 |ref (cs cs':List AV) (hl:cs.length=cs'.length) (h:∀(i:Nat) (c c':AV),cs[i]? =some c->cs'[i]? =some c'->AV.le c c'):AV.le (.ref cs) (.ref cs')
 |fn (f:Fn) (cs cs':List AV) (hl:cs.length=cs'.length) (h:∀(i:Nat) (c c':AV),cs[i]? =some c->cs'[i]? =some c'->AV.le c c'):AV.le (.fn f cs) (.fn f cs')
 |iface (t:TypeId) (x y:AV) (h:AV.le x y):AV.le (.iface t x) (.iface t y)
theorem AV.le.sh (sz:Nat) (els:List (List AV)) (md:Md):AV.le (.sl sz els md) (.sl sz els .sh):=
 .sl sz els els md .sh (.inr (Eq.refl _)) (Eq.refl _) (fun i r r' h h'=>by rw[h] at h';injection h' with h';rw[h']) fun i j r r' c c' h h' hc hc'=>by
  rw[h] at h';injection h' with h';subst h'
  rw[hc] at hc';injection hc' with hc';subst hc';exact .rfl _
theorem R.le {M:Mem} {x y:AV} {v:Value} (h:R M x v) (hle:AV.le x y):R M y v:=by
 induction hle generalizing v with
 |rfl=>exact h
 |top=>exact .top _
 |sl sz els els' md md' hm hl hr hh ih=>
  cases h with
  |nil _ _ a hn hn'=>
   have e:els'=[]:=cz hl.symm;subst e;rcases hm with rfl|rfl
   ·exact .nil _ _ a hn hn'
   ·exact .nil _ _ a (by intro h;cases h) (by intro h;cases h)
  |slice _ _ _ a cap hs hcap hsz hst hc hmd=>
   have key:=R.slice (M:=M) sz els' md' a cap hs (by omega)
    (fun row hrow=>by
     obtain⟨i,hi⟩:=du hrow;have hil:i<els.length:=by rw[hl];exact(ae.1 hi).1
     have e1:=ah hil;rw[<- hr i _ _ e1 hi];exact hsz _ (a8 _))
    (fun o ho=>hst o (by rw[hl];exact ho))
    (fun i j row c v hi hj hv=>by
     have hil:i<els.length:=by rw[hl];exact(ae.1 hi).1
     have e1:=ah hil;have hlr:=hr i _ _ e1 hi;have hjl:j<els[i].length:=by rw[hlr];exact(ae.1 hj).1
     have e2:=ah hjl;exact ih i j _ _ _ _ e1 hi e2 hj (hc i j _ _ v e1 e2 hv))
    (by
     rcases hm with rfl|rfl
     ·rw[<- hl];exact hmd
     ·trivial)
   rw[<- hl] at key;exact key
 |nil sz sz' md' hm=>cases h with
  |nil _ _ a hn hn'=>rw[hn' rfl];exact .nil _ _ none (fun h=>(hm h).elim) (fun _=>rfl)
  |slice _ _ _ a cap hs hcap hsz hst hc hmd=>exact hmd.elim
 |agg cs cs' hl hh ih=>
  cases h with
  |agg _ vs hvl hf hc=>
   exact .agg cs' vs (hl.symm.trans hvl) hf fun i c v hi hv=>by
    have hil:i<cs.length:=by rw[hl];exact(ae.1 hi).1
    have e1:=ah hil;exact ih i _ _ e1 hi (hc i _ v e1 hv)
 |tup cs cs' hl hh ih=>
  cases h with
  |tup _ vs hvl hc=>
   exact .tup cs' vs (hl.symm.trans hvl) fun i c v hi hv=>by
    have hil:i<cs.length:=by rw[hl];exact(ae.1 hi).1
    have e1:=ah hil;exact ih i _ _ e1 hi (hc i _ v e1 hv)
 |ref cs cs' hl hh ih=>
  cases h with
  |ref _ a hs hst hc=>
   exact .ref cs' a hs (fun j hj=>hst j (by omega)) fun i c v hi hv=>by
    have hil:i<cs.length:=by rw[hl];exact(ae.1 hi).1
    have e1:=ah hil;exact ih i _ _ e1 hi (hc i _ v e1 hv)
 |fn f cs cs' hl hh ih=>
  cases h with
  |fn _ _ vs hvl hc=>
   exact .fn f cs' vs (hl.symm.trans hvl) fun i c v hi hv=>by
    have hil:i<cs.length:=by rw[hl];exact(ae.1 hi).1
    have e1:=ah hil;exact ih i _ _ e1 hi (hc i _ v e1 hv)
 |iface t x y hh ih=>
  cases h with
  |iface _ _ v h=>exact .iface t y v (ih h)
theorem Ch (w:World) (a:Addr) (n:Nat) (q:Addr):(w.freeze a n).cell? q=w.cell? q:=by
 unfold World.freeze;split
 ·rfl
 ·simp only[World.cell?,fc];by_cases h:a.block=q.block
  ·rw[if_pos h];cases hq:w.heap[q.block]? with
   |none=>rfl
   |some o=>cases o<;>rfl
  ·rw[if_neg h]
theorem Qn (w:World) (a:Addr) (n b:Nat) (h:b≠a.block):(w.freeze a n).heap[b]? =w.heap[b]? :=by
 unfold World.freeze;split
 ·rfl
 ·simp only[fc,if_neg (Ne.symm h)]
theorem Lq (w:World) (a:Addr) (n b:Nat) {o:Obj} (h:w.heap[b]? =some o) (ho:o.isCells=false):(w.freeze a n).heap[b]? =some o:=by
 unfold World.freeze;split
 ·exact h
 ·simp only[fc,h];split
  ·cases o<;>simp_all [Obj.isCells]
  ·rfl
theorem Ext.mark {M:Mem} (a:Addr) (n:Nat):Ext M (M.withW (M.w.freeze a n)):=
 ⟨rfl,fun _ _ h=>h,fun b o _=>Ch _ _ _ _,fun _ h=>⟨h,rfl⟩,fun _ _ _ m h=>⟨m,h,Nat.le_refl _,fun _=>⟨rfl,rfl⟩⟩,fun _ _ _ m cs h=> .inl ⟨m,cs,h,Nat.le_refl _,fun _=>⟨rfl,rfl⟩⟩⟩
theorem Inv.mark {M:Mem} (hI:Inv M) {a:Addr} (n:Nat) (hb:M.base.heap.size<=a.block) (hno:∀j,M.owns j->M.β j≠a.block):Inv (M.withW (M.w.freeze a n)):=by
 have e:=Ext.mark (M:=M) a n;have hw:(M.w.freeze a n).os=M.w.os∧(M.w.freeze a n).tape=M.w.tape∧(M.w.freeze a n).output=M.w.output∧(M.w.freeze a n).heap.size=M.w.heap.size:=by
  unfold World.freeze;split<;>simp
 refine⟨?_,hI.fin,hI.new,hI.inj,fun b o hs=> ?_,fun k t cs hk=> ?_,fun k t sz m c hk hc=> ?_,fun k b o fr hk=> ?_,hI.pinj,fun j t sz m cs hj=>hI.vec_keep e hj rfl rfl (fun ho=>Qn _ _ _ _ (hno j ho)) (fun _ _ h=>h)⟩
 ·have h:=hI.below;exact⟨hw.1.trans h.os,hw.2.1.trans h.tape,hw.2.2.1.trans h.output,by show _<=(M.w.freeze a n).heap.size;rw[hw.2.2.2];exact h.size,fun k hk=>(Qn _ _ _ _ (by have:k<M.base.heap.size:=hk;omega)).trans (h.block k hk)⟩
 ·obtain⟨v,hv,hl⟩:=hI.stb b o hs;exact⟨v,(e.cell b o hs).trans hv,hl⟩
 ·obtain⟨vs,h1,h2,h3,h4,h5⟩:=hI.box k t cs hk;exact⟨vs,(Qn _ _ _ _ (hno k (by have hk':M.st k=some (.box t cs):=hk;simp [Mem.owns,hk']))).trans h1,h2,h3,fun i c v hi hv=>(h4 i c v hi hv).ext e,h5⟩
 ·obtain⟨vs,h1,h2⟩:=hI.row k t sz m c hk hc;have hc':M.cap k=some c:=hc;have hk':M.st k=some (.row t sz m):=hk;exact⟨vs,(Qn _ _ _ _ (hno k (by simp [Mem.owns,hk',hc']))).trans h1,h2⟩
 ·have h1:=hI.pin k b o fr hk;exact h1.ext e (Lq _ _ _ _ h1.1 h1.2.1)
def leL:List AV->List AV->Prop
 |[],[]=>True
 |x::l,y::l'=>AV.le x y∧leL l l'
 | _,_=>False
theorem RL.le {M:Mem}:∀{l l':List AV} {vs:Array Value},RL M l vs->leL l l'->RL M l' vs:=by
 intro l l' vs h hle;have key:l.length=l'.length∧∀(i:Nat) (y:AV),l'[i]? =some y->∃x,l[i]? =some x∧AV.le x y:=by
  clear h;induction l generalizing l' with
  |nil=>cases l' with
   |nil=>exact⟨rfl,fun i y h=>by simp at h⟩
   |cons _ _=>exact hle.elim
  |cons x l ih=>cases l' with
   |nil=>exact hle.elim
   |cons y l'=>
    obtain⟨h1,h2⟩:=ih hle.2;refine⟨by simp [h1],fun i z hz=> ?_⟩;cases i with
    |zero=>simp at hz;subst hz;exact⟨x,rfl,hle.1⟩
    |succ i=>simpa using h2 i z (by simpa using hz)
 refine⟨by rw[<- key.1];exact h.1,fun i c v hi hv=> ?_⟩;obtain⟨x,hx,hxy⟩:=key.2 i c hi;exact(h.2 i x v hx hv).le hxy
theorem Vv {σ:AState} {fr:List AV} {i:Nat} {r:Option Res} {k:Nat} (hle:σ.n0<=σ.n) (hk:σ.dom k) (hi:i<σ.lo.length):
  (AState.mk fr (σ.lo.set i r) σ.out σ.n0 σ.n σ.df).look k=if k=σ.n+i then r else σ.look k:=by
 simp only[AState.look];by_cases h0:k<σ.n0
 ·rw[if_pos h0,if_neg (by omega),if_pos h0]
 ·have:σ.n<=k:=by rcases hk with h|h<;>omega
  rw[if_neg h0,if_neg h0];by_cases he:k=σ.n+i
  ·subst he;rw[if_pos rfl,Nat.add_sub_cancel_left,fm hi];rfl
  ·rw[if_neg he,ec (by omega)]
theorem Q9 {σ:AState} {i:Nat} (e:TypeId) (sz:Nat) (hi:σ.lo[i]? =some none):σ.le {σ with lo:=σ.lo.set i (some (.row e sz 0))}:=fun M a hI hs=>by
 have hlt:i<σ.lo.length:=(ae.1 hi).1;have hk:M.st (σ.n+i)=none:=by
  rw[hs.st (σ.n+i) (Xb σ hlt),X6 σ hs.le,hi];rfl
 have ex:=Ext.newRow M hk e sz;refine⟨M.newRow (σ.n+i) e sz,rfl,ex,hI.newRow hk e sz,hs.df,hs.fr.ext ex,hs.le,fun k hk'=> ?_⟩;have hk2:σ.dom k:=by simpa [AState.dom] using hk'
 rw[Vv hs.le hk2 hlt];simp only[Mem.newRow,Xw];split
 ·rfl
 ·exact hs.st k hk2
theorem X3x {σ:AState} {k:Nat} (e:TypeId) (sz:Nat) (hd:σ.dom k) (hl:σ.look k=none):σ.le (σ.give [(k,.row e sz 0)]):=fun M a hI hs=>by
 have hk:M.st k=none:=by rw[hs.st k hd];exact hl
 have ex:=Ext.newRow M hk e sz;have hu:L2 σ [(k,.row e sz 0)]:=⟨hd,trivial⟩
 refine⟨M.newRow k e sz,rfl,ex,hI.newRow hk e sz,by rw[Bw];exact hs.df,by rw[N7];exact hs.fr.ext ex,by rw[Rm,Dv];exact hs.le,fun j hj=> ?_⟩;have hj':=(Ky _ _ _).1 hj;rw[Kv _ _ hu j hj']
 show Xw M.st k _ j=Xw σ.look k _ j
 unfold Xw;split
 ·rfl
 ·exact hs.st j hj'
section
variable {P:Program} {d:Option Tmp} {ty:TypeId} {pos:String} {aft:Array Edge} {gd:Option (Nat×Bool)} {ρA:Operand->AV}
structure Appends (P:Program) (M:Mem) (t u e:TypeId) (ty:TypeId) (ti:TI) (y:Value) (els':List (List AV)) (i:TypeInfo) (z:Value) (news:List Value):Prop where
 len:news.length=els'.length*ti.size
 leafs:∀(j:Nat) (v:Value),news[j]? =some v->leaf v
 rs:∀(j:Nat) (c:AV) (v:Value),els'.flatten[j]? =some c->news[j]? =some v->R M c v
 rows:∀row,row∈els'->row.length=ti.size
 grow:∀(base:Option Addr) (sLen sCap:Nat) (olds:List Value),(Builtin.firstCells i.size sLen (.slice base sLen sCap)).run P M.w.drew= .ok olds.toArray M.w.drew->sCap<sLen+els'.length→
  ((sLen+els'.length:Nat):Int)<=9223372036854775807->Builtin.nextslicecap (sLen+els'.length) sCap*i.bytes<=281474976710656→
  (Builtin.append_ #[t,u] ty #[.slice base sLen sCap,y]).run P M.w=
   .ok (.slice (some ⟨M.w.heap.size,0,none⟩) (sLen+els'.length) (grownCap M.w (sLen+els'.length) sCap e))
    (M.w.drew.alloc (.cells ((olds++news).toArray++Builtin.zeroCells z.cells (grownCap M.w (sLen+els'.length) sCap e - (sLen+els'.length))) e))
 room:∀(g sLen sCap:Nat) (cur:Array Value),M.w.heap[g]? =some (.cells cur e (0,0))->sLen+els'.length<=sCap->sLen*i.size+news.length<=cur.size→
  (Builtin.append_ #[t,u] ty #[.slice (some ⟨g,0,none⟩) sLen sCap,y]).run P M.w=
   .ok (.slice (some ⟨g,0,none⟩) (sLen+els'.length) sCap) (M.w.setRow g (cur.toList.take (sLen*i.size)++news++cur.toList.drop (sLen*i.size+news.length)).toArray)
theorem W8 {M:Mem} {N:Nat} (hI:Inv M) {t u e:TypeId} {ti:TI} (he:TIok P e ti) (hs0:0<ti.size)
  {ρ:Operand->Value} {x y:Operand} {els els':List (List AV)} {md:Md} {k:Nat}
  (h1:R M (.sl ti.size els md) (ρ x)) (h2:∀i z,P.info? e=some i->i.zero=some z->i.size=ti.size->z.cells.toList=ti.zero->i.bytes=ti.bytes->∃news,Appends P M t u e ty ti (ρ y) els' i z news) (hcap:∀a n c,ρ x= .slice a n c->c<els.length+els'.length)
  (hk:Xoz M k e ti.size (els.length+els'.length)) (hbytes:(els.length+els'.length)*ti.bytes<=140737488355328) (h63:els.length+els'.length<=9223372036854775807):
  Y49 P (fun v w'=>Sf M N [(k,.row e ti.size (els.length+els'.length))] (.sl ti.size (els++els') (.own k)) v w')
   ((execOp ρ ⟨d,.call {callee:= .builtin .append,args:= #[x,y],argTypes:= #[t,u]},ty,pos,aft,gd⟩).run P M.w):=by
 obtain⟨i,z,i1,i2,i3,i4,i5⟩:=he.info;obtain⟨news,hs⟩:=h2 i z i1 i4 i2 i5 i3;have hnl:=hs.leafs;have hnR:=hs.rs;have hsz':=hs.rows;have hsz:∀row,row∈els->row.length=ti.size:=by
  generalize ρ x=v at h1;cases h1 with
  |nil=>intro row h;cases h
  |slice sz els md a cap hs hcap hsz hst hc hmd=>exact hsz
 obtain⟨a,c,hv,hle,olds,holdlen,hold,holf,holR⟩:∃a c,ρ x= .slice a els.length c∧els.length<=c∧∃olds:List Value,olds.length=els.length*ti.size∧
   (Builtin.firstCells i.size els.length (.slice a els.length c)).run P M.w.drew= .ok olds.toArray M.w.drew∧(∀(j:Nat) (v:Value),olds[j]? =some v->leaf v)∧
   (∀(j:Nat) (c:AV) (v:Value),els.flatten[j]? =some c->olds[j]? =some v->R M c v):=by
  generalize hv:ρ x=v at h1;cases h1 with
  |nil sz md a=>exact⟨a,0,rfl,Nat.le_refl _,[],by simp,Zx _ _ _ _ _,fun j v h=>by simp at h,fun j c v h=>by simp at h⟩
  |slice sz els md a cap hs hcap hsz hst hc hmd=>
   obtain⟨vs,g1,g2,g3⟩:=Vl hI (R.slice (M:=M) _ els md a cap hs hcap hsz hst hc hmd);exact⟨some a,cap,rfl,hcap,vs,g1,run_firstCells_some _ _ _ _ _ _ _ (by rw[i2];exact g1) (fun j v hj=>by rw[World.cell?_drew];exact(g2 j v hj).1),fun j v hj=>(g2 j v hj).2,g3⟩
 have hlt:=hcap a _ c hv;have hrun:=hs.grow a els.length c olds hold hlt (by omega) (by rw[i3];exact growslice_fits hlt hbytes);rw[<- hv] at hrun;rw[Ys hrun];have hcapge:=VS.Vu M.w (els.length+els'.length) c e;generalize hcp:grownCap M.w (els.length+els'.length) c e=cp at hcapge;have hzl:z.cells.size=ti.size:=by rw[<- he.len,<- i5];simp
 have e0:=Ext.withW (M:=M) (w':=M.w.drew) rfl;have hI0:Inv (M.withW M.w.drew):=hI.withW rfl rfl rfl rfl;obtain⟨vs,hvs⟩:∃vs:Array Value,vs=(olds++news).toArray++Builtin.zeroCells z.cells (cp - (els.length+els'.length)):=⟨_,rfl⟩
 have hnewlen:=hs.len;have hvsize:vs.size=cp*ti.size:=by
  rw[hvs];simp only[i7,fy,ac,VS.Ql,hzl,holdlen,hnewlen];rw[<- Nat.add_mul,<- Nat.add_mul];congr 1;omega
 have hget:∀(j:Nat) (v:Value),vs[j]? =some v->olds[j]? =some v∨(olds.length<=j∧news[j - olds.length]? =some v)∨(olds.length+news.length<=j∧leaf v):=fun j v hj=>by
  rw[hvs,<- bh] at hj;simp only[iw] at hj;rcases Lo hj with h|h|h
  ·exact .inl h
  ·exact .inr (.inl h)
  ·refine .inr (.inr ⟨h.1,Qk (z:=z.cells) (fun v hv=> ?_) (by omega) _ _ v (by rw[<- bh];exact h.2)⟩);rw[i5] at hv;exact Uw (az.1 he.leafs v hv)
 have hleaf:∀(j:Nat) (v:Value),vs[j]? =some v->leaf v:=fun j v hj=>by
  rcases hget j v hj with h|h|h
  ·exact holf j v h
  ·exact hnl _ v h.2
  ·exact h.2
 have hk':Xoz (M.withW M.w.drew) k e ti.size (els.length+els'.length):=hk;have ex:=Ext.moveRow hI0 hk' vs cp;have hI1:=hI0.moveRow hk' hvsize hcapge hleaf;have hwlt:M.w.drew.alloc (.cells vs e)=((M.withW M.w.drew).moveRow k e ti.size vs (els.length+els'.length) cp).w:=rfl;rw[<- hvs];refine⟨(M.withW M.w.drew).moveRow k e ti.size vs (els.length+els'.length) cp,rfl,e0.trans ex,hI1,fun j _=>rfl,?_⟩;have hll:(els++els').length=els.length+els'.length:=by simp
 have hsz2:=Qm hsz hsz';have key:R ((M.withW M.w.drew).moveRow k e ti.size vs (els.length+els'.length) cp) (.sl ti.size (els++els') (.own k)) (.slice (some ⟨M.w.heap.size,0,none⟩) (els++els').length cp):= ?_
 ·rw[hll] at key;exact key
 refine .slice ti.size (els++els') (.own k) ⟨M.w.heap.size,0,none⟩ cp rfl (by rw[hll];exact hcapge) hsz2 (fun o ho=> ?_) (fun i j row c' v hi hj hcell=> ?_) ?_
 ·refine .inr ⟨rfl,?_⟩;rw[hll] at ho;simpa using ho
 ·have hcell':vs[i*ti.size+j]? =some v:=by
   have:((M.withW M.w.drew).moveRow k e ti.size vs (els.length+els'.length) cp).w.cell? ⟨M.w.heap.size,0+(i*ti.size+j),none⟩=vs[i*ti.size+j]? :=by
    rw[Nat.zero_add];exact Yj (Q4 _ _)
   rw[<- this];exact hcell
  have hfl:=Rz hsz2 i j row c' hi hj;rw[f5] at hfl;have hlo:els.flatten.length=olds.length:=by rw[Yr hsz,holdlen]
  have hln:els'.flatten.length=news.length:=by rw[Yr hsz',hnewlen]
  refine R.ext (e0.trans ex) ?_;rcases hget _ v hcell' with h|h|h
  ·have hlt':=(ae.1 h).1;rw[ay (by omega)] at hfl;exact holR _ c' v hfl h
  ·rw[au (by omega),hlo] at hfl;exact hnR _ c' v hfl h.2
  ·have:=(ae.1 hfl).1;rw[ac] at this;omega
 ·refine⟨e,els.length+els'.length,by simp [Mem.moveRow,Xw],by rw[hll];exact Nat.le_refl _,fun _=> .inr ⟨rfl,by simp [Mem.moveRow];rfl,by simp [Mem.moveRow]⟩⟩
theorem S6 {t u e:TypeId} {ti:TI} (ht:P.underlying t=some (.slice e)) (he:TIok P e ti) (hs0:0<ti.size) {x y:Operand} {els els':List (List AV)} {k:Nat} (hnil:els'≠[])
  (hx:ρA x= .sl ti.size els (.own k)) (h2g:∀(M:Mem) (ρ:Operand->Value),R M (ρA y) (ρ y)->∀i z,P.info? e=some i->i.zero=some z->i.size=ti.size->z.cells.toList=ti.zero->i.bytes=ti.bytes->∃news,Appends P M t u e ty ti (ρ y) els' i z news) (hbytes:(els.length+els'.length)*ti.bytes<=140737488355328) (h63:els.length+els'.length<=9223372036854775807):
  AOk P ⟨d,.call {callee:= .builtin .append,args:= #[x,y],argTypes:= #[t,u]},ty,pos,aft,gd⟩ ρA [(k,some (.row e ti.size els.length))] (.sl ti.size (els++els') (.own k)) [(k,.row e ti.size (els.length+els'.length))]:=
 ⟨(by intro _ _ h;cases h),fun M N ρ hI hρ _ _ hn hN hun=>by
  have h1:=hρ x (by simp [Op.operands,Call.operands]);have h2:=h2g M ρ (hρ y (by simp [Op.operands,Call.operands]));rw[hx] at h1;have hrow:=hn.1
  ·have hpos:0<els'.length:=eh.2 hnil;have moves:=fun hcap=>W8 (P:=P) (N:=N) (d:=d) (ty:=ty) (pos:=pos) (aft:=aft) (gd:=gd) hI he hs0 h1 h2 hcap (.inr ⟨els.length,hrow,by omega⟩) hbytes h63;generalize hv:ρ x=v at h1;cases h1 with
   |nil sz md=>exact moves fun a n c h=>by rw[hv] at h;cases h;simpa using hpos
   |slice sz els md a cap hs hcap hsz hst hc hmd=>
    obtain⟨e2,m2,hst2,hle2,hlast⟩:=hmd;have hst3:=hst2;rw[hrow] at hst2;simp only[bb,Res.row.injEq] at hst2;obtain⟨rfl,_,rfl⟩:=hst2;rcases hlast rfl with h0|⟨hoff,hblk,hcapk⟩
    ·exact moves fun a' n c h=>by rw[hv] at h;cases h;omega
    by_cases hroom:els.length+els'.length<=cap
    ·obtain⟨i,z,i1,i2,i3,i4,i5⟩:=he.info;obtain⟨news,hsrc⟩:=h2 i z i1 i4 i2 i5 i3;have hnl:=hsrc.leafs;have hnR:=hsrc.rs;have hsz':=hsrc.rows;obtain⟨cur,hg,hcsz,hmc,hfree,hstb⟩:=hI.row k e ti.size els.length cap hrow hcapk;have hnewlen:=hsrc.len;have haddr:a=⟨M.β k,0,none⟩:=by rw[Z9 a hs,hblk,hoff]
     have hfit:els.length*i.size+news.length<=cur.size:=by
      rw[i2,hnewlen,hcsz,<- Nat.add_mul];exact cj _ hroom
     have hrun:=hsrc.room (M.β k) els.length cap cur hg hroom hfit;rw[<- haddr,<- hv] at hrun;rw[Ys hrun];obtain⟨vs,hvs⟩:∃vs:Array Value,vs=(cur.toList.take (els.length*i.size)++news++cur.toList.drop (els.length*i.size+news.length)).toArray:=⟨_,rfl⟩
     have hcl:cur.toList.length=cur.size:=by simp
     have htk:(cur.toList.take (els.length*i.size)).length=els.length*ti.size:=by
      rw[ba,hcl,i2];rw[i2] at hfit;omega
     have hvsz:vs.size=cur.size:=by
      rw[hvs];simp only[fy,ac,bt,htk,hcl];rw[i2] at hfit⊢;omega
     have hsame:∀o,o<els.length*ti.size->vs[o]? =cur[o]? :=fun o ho=>by
      rw[hvs,d7,aq,ay (by omega),bc (by rw[i2];exact ho),bh]
     have hnew:∀o v,els.length*ti.size<=o->o<(els.length+els'.length)*ti.size->vs[o]? =some v->news[o - els.length*ti.size]? =some v:=fun o v h1 h2 h3=>by
      rw[hvs,d7] at h3;rw[Nat.add_mul] at h2;rcases Lo h3 with h|h|h
      ·have:=(ae.1 h).1;omega
      ·rw[htk] at h;exact h.2
      ·rw[htk,hnewlen] at h;omega
     have ex:=Ext.growRow hI hrow hcapk (gg _ els'.length) hg hsame;have hI1:=hI.growRow hrow hcapk (gg _ els'.length) hroom hg hvsz hsame (fun o v h1 h2 h3=>hnl _ v (hnew o v h2 h1 h3));rw[<- hvs];refine⟨M.growRow k e ti.size vs (els.length+els'.length),rfl,ex,hI1,fun j _=>rfl,?_⟩;have hll:(els++els').length=els.length+els'.length:=by simp
     have hsz2:=Qm hsz hsz';have key:R (M.growRow k e ti.size vs (els.length+els'.length)) (.sl ti.size (els++els') (.own k)) (.slice (some a) (els++els').length cap):= ?_
     ·rw[hll] at key;exact key
     refine .slice ti.size (els++els') (.own k) a cap hs (by rw[hll];exact hroom) hsz2 (fun o ho=> ?_) (fun i j row c' v hi hj hcell=> ?_) ?_
     ·refine .inr ⟨hblk,?_⟩;rw[hll] at ho;rw[hoff];simpa using ho
     ·have hcell':vs[i*ti.size+j]? =some v:=by
       have:(M.growRow k e ti.size vs (els.length+els'.length)).w.cell? ⟨a.block,a.off+(i*ti.size+j),none⟩=vs[i*ti.size+j]? :=by
        rw[hblk,hoff,Nat.zero_add];exact Yj (Yp hg)
       rw[<- this];exact hcell
      have hfl:=Rz hsz2 i j row c' hi hj;rw[f5] at hfl;have hlo:els.flatten.length=els.length*ti.size:=Yr hsz;have hln:els'.flatten.length=els'.length*ti.size:=Yr hsz';have hbd:=(ae.1 hfl).1;rw[ac,hlo,hln,<- Nat.add_mul] at hbd;refine R.ext ex ?_;rcases Nat.lt_or_ge (i*ti.size+j) (els.length*ti.size) with hlt|hge
      ·rw[ay (by omega)] at hfl;obtain⟨i',j',row',r1,r2,r3⟩:=Mo hsz _ c' hfl;refine hc i' j' row' c' v r1 r2 ?_;rw[<- r3,hblk,hoff,Nat.zero_add,Yj hg,<- hsame _ hlt];exact hcell'
      ·rw[au (by omega),hlo] at hfl;exact hnR _ c' v hfl (hnew _ v hge hbd hcell')
     ·exact⟨e,els.length+els'.length,by simp [Mem.growRow,Xw],by rw[hll];exact Nat.le_refl _,fun _=> .inr ⟨hoff,hblk,hcapk⟩⟩
    ·exact moves fun a' n c h=>by rw[hv] at h;cases h;omega⟩
theorem W9 (w:World) (t tn ty e:TypeId) (i:TypeInfo) (z:Value) (kq kn:IntKind) (ht:P.underlying t=some (.slice e)) (htn:P.underlying tn=some (.int kn)) (hi:P.info? e=some i) (hz:i.zero=some z)
  (g sLen sCap:Nat) (cur:Array Value) (hg:w.heap[g]? =some (.cells cur e (0,0))) (k:Nat) (h0:0<k) (hs:0<i.size) (h63:k<=9223372036854775807) (h48:k*i.bytes<=281474976710656) (hroom:sLen+k<=sCap)
  (hfit:sLen*i.size+(Builtin.zeroCells z.cells k).toList.length<=cur.size) (hone:∀v∈(Builtin.zeroCells z.cells k).toList,v.oneCell'=true):
  (Builtin.append_ #[t,tn] ty #[.slice (some ⟨g,0,none⟩) sLen sCap,.int kq k]).run P w=
   .ok (.slice (some ⟨g,0,none⟩) (sLen+k) sCap) (w.setRow g (cur.toList.take (sLen*i.size)++(Builtin.zeroCells z.cells k).toList++cur.toList.drop (sLen*i.size+(Builtin.zeroCells z.cells k).toList.length)).toArray):=by
 have hst:=run_storeCells_at P g (sLen*i.size) e (Builtin.zeroCells z.cells k).toList 0 cur w hg (by simpa using hfit) hone;simp only[Nat.add_zero] at hst;have hw:IntKind.i64.wrap (k:Int)=k:=by rw[IntKind.wrap_i64];omega
 have h48i:¬(281474976710656<(k:Int)*(i.bytes:Int)):=by
  rw[<- Int.natCast_mul];omega
 have hneg:¬((k:Int)<0):=by omega
 have hns:¬(k*i.size=0):=Nat.mul_ne_zero (by omega) (by omega);simp [Builtin.append_,run_underlying ht,run_underlying htn,sizeOf,typeInfo,zeroValue,hi,hz,asInt,asIntOf,hw,hroom,hneg,hns,h48i,Addr.add_lit,hst]
theorem L5 (sz:Nat):∀(n:Nat) (cs:List AV),cs.length=n*sz->(Yh sz n cs).flatten=cs
 |0,cs,h=>by
  have:cs=[]:=cz (by omega);subst this;rfl
 |n+1,cs,h=>by
  rw[e9] at h;simp only[Yh,List.flatten_cons];rw[L5 sz n (cs.drop sz) (by rw[bt];omega),dr]
theorem Pw (sz:Nat):∀(n:Nat) (cs:List AV),cs.length=n*sz->∀row,row∈Yh sz n cs->row.length=sz
 |0,cs,h,row,hr=>by cases hr
 |n+1,cs,h,row,hr=>by
  rw[e9] at h;simp only[Yh,cn] at hr;rcases hr with rfl|hr
  ·rw[ba];omega
  ·exact Pw sz n (cs.drop sz) (by rw[bt];omega) row hr
theorem S7 {M:Mem} {t u e:TypeId} {ti:TI} {kn kq:IntKind} (ht:P.underlying t=some (.slice e)) (hu:P.underlying u=some (.int kn)) (he:TIok P e ti) (hs0:0<ti.size) {k:Nat} (h0:0<k) (hb:k*ti.bytes<=140737488355328) (h63:k<=9223372036854775807)
  {i:TypeInfo} {z:Value} (i1:P.info? e=some i) (i4:i.zero=some z) (i2:i.size=ti.size) (i5:z.cells.toList=ti.zero) (i3:i.bytes=ti.bytes):
  Appends P M t u e ty ti (.int kq k) (Yh ti.size k (Y7 ti.zero (k*ti.size))) i z (Builtin.zeroCells z.cells k).toList:=by
 have hzl:z.cells.size=ti.size:=by rw[<- he.len,<- i5];simp
 have hlen:(Builtin.zeroCells z.cells k).size=k*ti.size:=by rw[VS.Ql,hzl]
 have hcl:=Yi ti.size k (Y7 ti.zero (k*ti.size));have hzlf:∀v,v∈z.cells.toList->leaf v:=fun v hv=>by
  rw[i5] at hv;exact Uw (az.1 he.leafs v hv)
 have hlf:∀(j:Nat) (v:Value),(Builtin.zeroCells z.cells k)[j]? =some v->leaf v:=fun j v hj=>Qk (z:=z.cells) hzlf (by omega) _ _ v hj;have hone:∀v∈(Builtin.zeroCells z.cells k).toList,v.oneCell'=true:=fun v hv=>by
  obtain⟨j,hj⟩:=du hv;exact Vm (hlf j v (by rw[<- bh];exact hj))
 have hCL:=Ic (M:=M) he hs0 i5 (k*ti.size);refine⟨by rw[hcl];simpa using hlen,fun j v hj=>hlf j v (by rw[<- bh];exact hj),fun j c v hc hv=> ?_,Pw ti.size k _ (by rw[Uo]),fun base sLen sCap olds hold hg h63' hfit=> ?_,fun g sLen sCap cur hg hroom hfit=> ?_⟩
 ·rw[L5 _ _ _ (Uo _ _)] at hc;have hz2:Builtin.zeroCells z.cells k=(Array.range (k*ti.size)).map (z.cells[· % z.cells.size]!):=by unfold Builtin.zeroCells;rw[hzl]
  rw[hz2,bh] at hv;exact hCL.2.2 j c v hc hv
 ·rw[hcl] at hg h63' hfit⊢;have h:=Lib.run_append_grow_zeros M.w t u ty e i z kq kn ht hu i1 i4 base sLen sCap olds hold k h0 (by omega) hg h63' (by rw[i3];omega) hfit;rw[h]
  congr 4
  simp
 ·rw[hcl] at hroom⊢;exact W9 M.w t u ty e i z kq kn ht hu i1 i4 g sLen sCap cur hg k h0 (by omega) h63 (by rw[i3];omega) hroom hfit hone
theorem Ydq {t u e:TypeId} {kn kq:IntKind} {ti:TI} (ht:P.underlying t=some (.slice e)) (hu:P.underlying u=some (.int kn)) (he:TIok P e ti) (hs0:0<ti.size) {x y:Operand} {els:List (List AV)} {k:Nat} {c:Int}
  (hx:ρA x= .sl ti.size els (.own k)) (hy:ρA y= .val (.int kq c)) (h0:0<c) (hbytes:(els.length+c.toNat)*ti.bytes<=140737488355328) (h63:els.length+c.toNat<=9223372036854775807):
  AOk P ⟨d,.call {callee:= .builtin .append,args:= #[x,y],argTypes:= #[t,u]},ty,pos,aft,gd⟩ ρA [(k,some (.row e ti.size els.length))] (.sl ti.size (els++Yh ti.size c.toNat (Y7 ti.zero (c.toNat*ti.size))) (.own k)) [(k,.row e ti.size (els.length+c.toNat))]:=by
 have hcl:=Yi ti.size c.toNat (Y7 ti.zero (c.toNat*ti.size));have hmul:c.toNat*ti.bytes<=(els.length+c.toNat)*ti.bytes:=cj _ (by omega);have key:=S6 (P:=P) (d:=d) (ty:=ty) (pos:=pos) (aft:=aft) (gd:=gd) (ρA:=ρA) (u:=u) (y:=y) ht he hs0 (els':=Yh ti.size c.toNat (Y7 ti.zero (c.toNat*ti.size)))
  (by intro h;rw[h] at hcl;simp at hcl;omega) hx (fun M ρ hr i z i1 i4 i2 i5 i3=>by
   rw[hy] at hr;rw[Yw hr];have hcc:c=((c.toNat:Nat):Int):=by omega
   rw[hcc];exact⟨_,S7 (ty:=ty) ht hu he hs0 (by omega) (by omega) (by omega) i1 i4 i2 i5 i3⟩)
  (by rw[hcl];exact hbytes) (by rw[hcl];exact h63)
 rw[hcl] at key;exact key
theorem Mi {t u e:TypeId} {kn kq:IntKind} {ti:TI} (ht:P.underlying t=some (.slice e)) (hu:P.underlying u=some (.int kn)) (he:TIok P e ti) {x y:Operand} {sz:Nat} {els:List (List AV)} {md:Md}
  (hx:ρA x= .sl sz els md) (hy:ρA y= .val (.int kq 0)):
  AOk P ⟨d,.call {callee:= .builtin .append,args:= #[x,y],argTypes:= #[t,u]},ty,pos,aft,gd⟩ ρA [] (.sl sz els md) []:=
 ⟨(by intro _ _ h;cases h),fun M N ρ hI hρ _ _ hn _ _=>by
  have h1:=hρ x (by simp [Op.operands,Call.operands]);have h2:=hρ y (by simp [Op.operands,Call.operands]);rw[hx] at h1;rw[hy] at h2;obtain⟨i,z,i1,i2,i3,i4,i5⟩:=he.info;obtain⟨a,n,c,hv,hle⟩:∃a n c,ρ x= .slice a n c∧n<=c:=by
   generalize ρ x=v at h1;cases h1
   ·exact⟨_,_,_,rfl,Nat.le_refl _⟩
   ·exact⟨_,_,_,rfl,by assumption⟩
  have hw:IntKind.i64.wrap 0=0:=by decide
  have hrun:(Builtin.append_ #[t,u] ty #[.slice a n c,.int kq 0]).run P M.w= .ok (.slice a n c) M.w:=by
   cases a<;>simp [Builtin.append_,run_underlying ht,run_underlying hu,sizeOf,typeInfo,i1,asInt,asIntOf,hw,hle,storeCells]
  rw[<- Yw h2,<- hv] at hrun;rw[Ys hrun];exact⟨M,rfl,Ext.refl M,hI,fun j _=>rfl,h1⟩⟩
end
section
variable {M:Mem}
theorem U7 {s:Nat->Option Res} {k j:Nat} {r x:Res} (h:Xw s k r j=some x) (hx:r≠x):s j=some x∧j≠k:=by
 unfold Xw at h;split at h
 ·injection h with h;exact(hx h).elim
 ·rename_i hne;exact⟨h,hne⟩
def Mem.newVec (M:Mem) (k:Nat) (e:TypeId) (sz:Nat):Mem:=
 {M with cap:=fun j=>if j=k then none else M.cap j,st:=Xw M.st k (.vec e sz 0 [])}
theorem Ext.newVec (M:Mem) {k:Nat} (hk:M.st k=none) (e:TypeId) (sz:Nat):Ext M (M.newVec k e sz):=by
 refine⟨rfl,fun _ _ h=>h,fun _ _ _=>rfl,fun j hj=> ?_,fun j t s m hj=> ?_,fun j t s m cs hj=> ?_⟩
 ·have hne:j≠k:=by rintro rfl;rw[hk] at hj;exact hj
  simp [Mem.newVec,Xw,hne,hj]
 ·have hne:j≠k:=by rintro rfl;rw[hk] at hj;cases hj
  exact⟨m,by simp [Mem.newVec,Xw,hne,hj],Nat.le_refl _,fun _=>by simp [Mem.newVec,hne]⟩
 ·have hne:j≠k:=by rintro rfl;rw[hk] at hj;cases hj
  exact .inl ⟨m,cs,by simp [Mem.newVec,Xw,hne,hj],Nat.le_refl _,fun _=>by simp [Mem.newVec,hne]⟩
theorem Inv.newVec (hI:Inv M) {k:Nat} (hk:M.st k=none) (e:TypeId) (sz:Nat):Inv (M.newVec k e sz):=by
 have ex:=Ext.newVec M hk e sz;have hown:∀j,(M.newVec k e sz).owns j->j≠k∧M.owns j:=fun j hj=>by
  by_cases e':j=k
  ·subst e';simp [Mem.owns,Mem.newVec,Xw] at hj
  ·exact⟨e',by simpa [Mem.owns,Mem.newVec,Xw,e'] using hj⟩
 refine⟨hI.below,?_,fun j hj=>hI.new j (hown j hj).2,fun i j hi hj=>hI.inj i j (hown i hi).2 (hown j hj).2,hI.stb,fun j t ds hj=> ?_,fun j t s m c hj hcap=> ?_,fun j b o fr hj=>(hI.pin j b o fr (Y0 hj (by simp))).ext ex (hI.pin j b o fr (Y0 hj (by simp))).1,fun i j b o fr o' fr' hi hj=>hI.pinj i j b o fr o' fr' (Y0 hi (by simp)) (Y0 hj (by simp)),fun j t s m cs hj=> ?_⟩
 ·obtain⟨N,hN⟩:=hI.fin;exact⟨max N (k+1),fun j hj=>by
   have:j≠k:=by omega
   simp [Mem.newVec,Xw,this,hN j (by omega)]⟩
 ·obtain⟨hj',_⟩:=U7 hj (by simp);obtain⟨ws,g1,g2,g3,g4,g5⟩:=hI.box j t ds hj';exact⟨ws,g1,g2,g3,fun i c v hi hv=>(g4 i c v hi hv).ext ex,g5⟩
 ·obtain⟨hj',e'⟩:=U7 hj (by simp);exact hI.row j t s m c hj' (by simpa [Mem.newVec,e'] using hcap)
 ·by_cases e':j=k
  ·subst e';simp only[Mem.newVec,Xt,bb,Res.vec.injEq] at hj;obtain⟨rfl,rfl,rfl,rfl⟩:=hj;exact⟨by simp,fun _=>rfl,fun cap hc=>by simp [Mem.newVec] at hc⟩
  ·have hj':M.st j=some (.vec t s m cs):=by simpa [Mem.newVec,Xw,e'] using hj
   exact hI.vec_keep ex hj' (by simp [Mem.newVec,e']) rfl (fun _=>rfl) (fun _ _ h=>h)
def Mem.moveVec (M:Mem) (k:Nat) (e:TypeId) (sz:Nat) (vs:Array Value) (m cap:Nat) (cs:List AV):Mem:=
 {M with w:=M.w.alloc (.cells vs e),β:=fun j=>if j=k then M.w.heap.size else M.β j,cap:=fun j=>if j=k then some cap else M.cap j,st:=Xw M.st k (.vec e sz m cs)}
theorem Ext.moveVec (hI:Inv M) {k:Nat} {e:TypeId} {sz m m':Nat} {cs':List AV} (hk:M.st k=some (.vec e sz m' cs')) (hm:m'<m) (vs:Array Value) (cap:Nat) (cs:List AV):Ext M (M.moveVec k e sz vs m cap cs):=by
 refine⟨rfl,fun _ _ h=>h,fun b o h=>Zj _ _ _ _ (hI.lt_stb h),fun j hj=> ?_,fun j t s n hj=> ?_,fun j t s n ds hj=> ?_⟩
 ·have hne:j≠k:=by rintro rfl;rw[hk] at hj;exact hj
  simp [Mem.moveVec,Xw,hne,hj]
 ·have hne:j≠k:=by rintro rfl;rw[hk] at hj;cases hj
  exact⟨n,by simp [Mem.moveVec,Xw,hne,hj],Nat.le_refl _,fun _=>by simp [Mem.moveVec,hne]⟩
 ·by_cases e':j=k
  ·subst e';rw[hk] at hj;simp only[bb,Res.vec.injEq] at hj;obtain⟨rfl,rfl,rfl,rfl⟩:=hj;exact .inl ⟨m,cs,by simp [Mem.moveVec,Xw],by omega,fun h=>by omega⟩
  ·exact .inl ⟨n,ds,by simp [Mem.moveVec,Xw,e',hj],Nat.le_refl _,fun _=>by simp [Mem.moveVec,e']⟩
theorem Inv.moveVec (hI:Inv M) {k:Nat} {e:TypeId} {sz m m':Nat} {cs':List AV} (hk:M.st k=some (.vec e sz m' cs')) (hmm:m'<m) {vs:Array Value} {cap:Nat} {cs:List AV} (hv:vs.size=cap*sz) (hm:m<=cap) (hl:cs.length=m*sz)
  (hf:∀(i:Nat) (v:Value),vs[i]? =some v->leaf v) (hc:∀(i:Nat) (c:AV) (v:Value),cs[i]? =some c->vs[i]? =some v->R M c v):Inv (M.moveVec k e sz vs m cap cs):=by
 have ex:=Ext.moveVec hI hk hmm vs cap cs;have hown:∀j,j≠k->((M.moveVec k e sz vs m cap cs).owns j↔M.owns j):=fun j hj=>by
  simp [Mem.owns,Mem.moveVec,Xw,hj]
 have hβ:∀j,j≠k->(M.moveVec k e sz vs m cap cs).β j=M.β j:=fun j hj=>by simp [Mem.moveVec,hj]
 have hβk:(M.moveVec k e sz vs m cap cs).β k=M.w.heap.size:=by simp [Mem.moveVec]
 have hsz:=hI.below.size;refine⟨hI.below.alloc hsz _,?_,fun j hj=> ?_,fun i j hi hj hij=> ?_,fun b o hs=> ?_,fun j t ds hj=> ?_,fun j t s n c hj hcap=> ?_,fun j b o fr hj=>Lm hI (Y0 hj (by simp)) ex rfl,fun i j b o fr o' fr' hi hj=>hI.pinj i j b o fr o' fr' (Y0 hi (by simp)) (Y0 hj (by simp)),fun j t s n ds hj=> ?_⟩
 ·obtain⟨N,hN⟩:=hI.fin;exact⟨max N (k+1),fun j hj=>by
   have:j≠k:=by omega
   simp [Mem.moveVec,Xw,this,hN j (by omega)]⟩
 ·by_cases e':j=k
  ·subst e';rw[hβk];exact hsz
  ·rw[hβ j e'];exact hI.new j ((hown j e').1 hj)
 ·by_cases ei:i=k<;>by_cases ej:j=k
  ·omega
  ·subst ei;rw[hβk,hβ j ej] at hij;have:=hI.lt_owns ((hown j ej).1 hj);omega
  ·subst ej;rw[hβk,hβ i ei] at hij;have:=hI.lt_owns ((hown i ei).1 hi);omega
  ·rw[hβ i ei,hβ j ej] at hij;exact hI.inj i j ((hown i ei).1 hi) ((hown j ej).1 hj) hij
 ·obtain⟨v,hv,hl⟩:=hI.stb b o hs;exact⟨v,(ex.cell b o hs).trans hv,hl⟩
 ·obtain⟨hj',e'⟩:=U7 hj (by simp);rw[hβ j e'];obtain⟨us,h1,h2,h3,h4,h5⟩:=hI.box j t ds hj';exact⟨us,(Yv _ _ _ (Y3j h1)).trans h1,h2,h3,fun i c v hi hv=>(h4 i c v hi hv).ext ex,h5⟩
 ·obtain⟨hj',e'⟩:=U7 hj (by simp);rw[hβ j e'];have hcap':M.cap j=some c:=by simpa [Mem.moveVec,e'] using hcap
  obtain⟨us,h1,h2,h3,h4,h5⟩:=hI.row j t s n c hj' hcap';exact⟨us,(Yv _ _ _ (Y3j h1)).trans h1,h2,h3,h4,h5⟩
 ·by_cases e':j=k
  ·subst e';have hst:(M.moveVec j e sz vs m cap cs).st j=some (.vec e sz m cs):=by simp [Mem.moveVec,Xw]
   rw[hst] at hj;simp only[bb,Res.vec.injEq] at hj;obtain⟨rfl,rfl,rfl,rfl⟩:=hj;have hcc:(M.moveVec j e sz vs m cap cs).cap j=some cap:=by simp [Mem.moveVec]
   refine⟨hl,fun h=>(by rw[hcc] at h;cases h),fun c hc'=> ?_⟩;rw[hcc] at hc';obtain rfl:cap=c:=by injection hc'
   refine⟨vs,by rw[hβk];exact Q4 _ _,hv,hm,hf,fun i c v hi hv=>(hc i c v hi hv).ext ex,fun o ho=> ?_⟩;rw[hβk] at ho;have:=hI.lt_stb ho;omega
  ·have hj':M.st j=some (.vec t s n ds):=by simpa [Mem.moveVec,Xw,e'] using hj
   exact hI.vec_keep ex hj' (by simp [Mem.moveVec,e']) (hβ j e') (fun ho=>Yv _ _ _ (hI.lt_owns ho)) (fun _ _ h=>h)
def Mem.growVec (M:Mem) (k:Nat) (e:TypeId) (sz:Nat) (vs:Array Value) (m:Nat) (cs:List AV):Mem:=
 {M with w:=M.w.setRow (M.β k) vs,st:=Xw M.st k (.vec e sz m cs)}
theorem Ext.growVec (hI:Inv M) {k:Nat} {e:TypeId} {sz m m' cap:Nat} {cs':List AV} (hk:M.st k=some (.vec e sz m' cs')) (hcap:M.cap k=some cap) (hm:m'<=m) (vs:Array Value) (cs:List AV):Ext M (M.growVec k e sz vs m cs):=by
 obtain⟨us,h1,h2,h3,h4,h5,h6⟩:=(hI.vec k e sz m' cs' hk).2.2 cap hcap;refine⟨rfl,fun _ _ h=>h,fun b o h=>Um (fun hb=>h6 o (by rw[<- hb];exact h)),fun j hj=> ?_,fun j t s n hj=> ?_,fun j t s n ds hj=> ?_⟩
 ·have hne:j≠k:=by rintro rfl;rw[hk] at hj;exact hj
  simp [Mem.growVec,Xw,hne,hj]
 ·have hne:j≠k:=by rintro rfl;rw[hk] at hj;cases hj
  exact⟨n,by simp [Mem.growVec,Xw,hne,hj],Nat.le_refl _,fun _=>by simp [Mem.growVec]⟩
 ·by_cases e':j=k
  ·subst e';rw[hk] at hj;simp only[bb,Res.vec.injEq] at hj;obtain⟨rfl,rfl,rfl,rfl⟩:=hj;exact .inl ⟨m,cs,by simp [Mem.growVec,Xw],hm,fun _=>by simp [Mem.growVec]⟩
  ·exact .inl ⟨n,ds,by simp [Mem.growVec,Xw,e',hj],Nat.le_refl _,fun _=>by simp [Mem.growVec]⟩
theorem Inv.growVec (hI:Inv M) {k:Nat} {e:TypeId} {sz m m' cap:Nat} {cs':List AV} (hk:M.st k=some (.vec e sz m' cs')) (hcap:M.cap k=some cap) (hmm:m'<=m) (hm:m<=cap) {us vs:Array Value} {cs:List AV}
  (hu:M.w.heap[M.β k]? =some (.cells us e (0,0))) (hv:vs.size=us.size) (hl:cs.length=m*sz)
  (hf:∀(i:Nat) (v:Value),vs[i]? =some v->leaf v) (hc:∀(i:Nat) (c:AV) (v:Value),cs[i]? =some c->vs[i]? =some v->R M c v):Inv (M.growVec k e sz vs m cs):=by
 have ex:=Ext.growVec hI hk hcap hmm vs cs;have hok:M.owns k:=by simp [Mem.owns,hk,hcap]
 have hown:∀j,(M.growVec k e sz vs m cs).owns j↔M.owns j:=fun j=>by
  by_cases e':j=k
  ·subst e';simp [Mem.owns,Mem.growVec,Xw,hk]
  ·simp [Mem.owns,Mem.growVec,Xw,e']
 obtain⟨us',h1,h2,h3,h4,h5,h6⟩:=(hI.vec k e sz m' cs' hk).2.2 cap hcap;rw[hu] at h1;simp only[bb,Obj.cells.injEq,and_true] at h1;subst h1;refine⟨W6 hI.below (hI.new k hok) _,?_,fun j hj=>hI.new j ((hown j).1 hj),fun i j hi hj=>hI.inj i j ((hown i).1 hi) ((hown j).1 hj),fun b o hs=> ?_,fun j t ds hj=> ?_,fun j t s n c hj hcap'=> ?_,fun j b o fr hj=>Bv hI (Y0 hj (by simp)) ex hu rfl,fun i j b o fr o' fr' hi hj=>hI.pinj i j b o fr o' fr' (Y0 hi (by simp)) (Y0 hj (by simp)),fun j t s n ds hj=> ?_⟩
 ·obtain⟨N,hN⟩:=hI.fin;exact⟨max N (k+1),fun j hj=>by
   have:j≠k:=by omega
   simp [Mem.growVec,Xw,this,hN j (by omega)]⟩
 ·obtain⟨v,hv,hl⟩:=hI.stb b o hs;exact⟨v,(ex.cell b o hs).trans hv,hl⟩
 ·obtain⟨hj',e'⟩:=U7 hj (by simp);obtain⟨ws,g1,g2,g3,g4,g5⟩:=hI.box j t ds hj';exact⟨ws,(Yc fun hb=>e' (hI.inj j k (by simp [Mem.owns,hj']) hok hb)).trans g1,g2,g3,fun i c v hi hv=>(g4 i c v hi hv).ext ex,g5⟩
 ·obtain⟨hj',e'⟩:=U7 hj (by simp);obtain⟨ws,g1,g2⟩:=hI.row j t s n c hj' hcap';have hcj:M.cap j=some c:=hcap';exact⟨ws,(Yc fun hb=>e' (hI.inj j k (by simp [Mem.owns,hj',hcj]) hok hb)).trans g1,g2⟩
 ·by_cases e':j=k
  ·subst e';have hst:(M.growVec j e sz vs m cs).st j=some (.vec e sz m cs):=by simp [Mem.growVec,Xw]
   rw[hst] at hj;simp only[bb,Res.vec.injEq] at hj;obtain⟨rfl,rfl,rfl,rfl⟩:=hj;refine⟨hl,fun h=>(by have:M.cap j=none:=h;rw[hcap] at this;cases this),fun c hc'=> ?_⟩;have hc2:M.cap j=some c:=hc';rw[hcap] at hc2;obtain rfl:cap=c:=by injection hc2
   exact⟨vs,Yp hu,by rw[hv,h2],hm,hf,fun i c v hi hv=>(hc i c v hi hv).ext ex,h6⟩
  ·have hj':M.st j=some (.vec t s n ds):=by simpa [Mem.growVec,Xw,e'] using hj
   exact hI.vec_keep ex hj' rfl rfl (fun ho=>Yc fun hb=>e' (hI.inj j k ho hok hb)) (fun _ _ h=>h)
end
section
variable {P:Program} {d:Option Tmp} {ty:TypeId} {pos:String} {aft:Array Edge} {gd:Option (Nat×Bool)} {ρA:Operand->AV}
theorem S8 {M:Mem} {k m:Nat} {e:TypeId} {sz:Nat} {cs:List AV} {v:Value} (hk:M.st k=some (.vec e sz m cs)) (h:R M (.vsl k m) v):
  (m=0∧(∃a,v= .slice a 0 0)∧M.cap k=none)∨∃cap,M.cap k=some cap∧v= .slice (some ⟨M.β k,0,none⟩) m cap:=by
 cases h with
 |vsl k n a l c h=>
  unfold Ku at h;rw[hk] at h;exact h.2 rfl
theorem Pd {t u e:TypeId} {ti:TI} (he:TIok P e ti) (hs0:0<ti.size) {x y:Operand} {els':List (List AV)} {k m:Nat} {cs:List AV} (hnil:els'≠[]) (hx:ρA x= .vsl k m)
  (h2g:∀(M:Mem) (ρ:Operand->Value),Inv M->R M (ρA y) (ρ y)->∀i z,P.info? e=some i->i.zero=some z->i.size=ti.size->z.cells.toList=ti.zero->i.bytes=ti.bytes->∃news,Appends P M t u e ty ti (ρ y) els' i z news)
  (hbytes:(m+els'.length)*ti.bytes<=140737488355328) (h63:m+els'.length<=9223372036854775807):
  AOk P ⟨d,.call {callee:= .builtin .append,args:= #[x,y],argTypes:= #[t,u]},ty,pos,aft,gd⟩ ρA [(k,some (.vec e ti.size m cs))] (.vsl k (m+els'.length)) [(k,.vec e ti.size (m+els'.length) (cs++els'.flatten))]:=
 ⟨(by intro _ _ h;cases h),fun M N ρ hI hρ _ _ hn _ _=>by
  have h1:=hρ x (by simp [Op.operands,Call.operands]);rw[hx] at h1;have hk:=hn.1;have hpos:0<els'.length:=eh.2 hnil;obtain⟨i,z,i1,i2,i3,i4,i5⟩:=he.info;obtain⟨news,hs⟩:=h2g M ρ hI (hρ y (by simp [Op.operands,Call.operands])) i z i1 i4 i2 i5 i3;obtain⟨hcl,hc0,hcap⟩:=hI.vec k e ti.size m cs hk;have hnewl:=hs.len;have hfl:els'.flatten.length=news.length:=by rw[Yr hs.rows,hnewl]
  have hlen:(cs++els'.flatten).length=(m+els'.length)*ti.size:=by rw[ac,hcl,hfl,hnewl,Nat.add_mul]
  have moves:∀(a:Option Addr) (c:Nat) (olds:List Value),ρ x= .slice a m c->c<m+els'.length->olds.length=m*ti.size→
    (Builtin.firstCells i.size m (.slice a m c)).run P M.w.drew= .ok olds.toArray M.w.drew->(∀(j:Nat) (v:Value),olds[j]? =some v->leaf v)→
    (∀(j:Nat) (c:AV) (v:Value),cs[j]? =some c->olds[j]? =some v->R M c v)→
    Y49 P (fun v w'=>Sf M N [(k,.vec e ti.size (m+els'.length) (cs++els'.flatten))] (.vsl k (m+els'.length)) v w')
     ((execOp ρ ⟨d,.call {callee:= .builtin .append,args:= #[x,y],argTypes:= #[t,u]},ty,pos,aft,gd⟩).run P M.w):=by
   intro a c olds hv hlt holdlen hold holf holR;have hrun:=hs.grow a m c olds hold hlt (by omega) (by rw[i3];exact growslice_fits hlt hbytes);rw[<- hv] at hrun;rw[Ys hrun];have hcapge:=VS.Vu M.w (m+els'.length) c e;generalize hcp:grownCap M.w (m+els'.length) c e=cp at hcapge;have hzl:z.cells.size=ti.size:=by rw[<- he.len,<- i5];simp
   have e0:=Ext.withW (M:=M) (w':=M.w.drew) rfl;have hI0:Inv (M.withW M.w.drew):=hI.withW rfl rfl rfl rfl;obtain⟨vs,hvs⟩:∃vs:Array Value,vs=(olds++news).toArray++Builtin.zeroCells z.cells (cp - (m+els'.length)):=⟨_,rfl⟩
   have hvsize:vs.size=cp*ti.size:=by
    rw[hvs];simp only[i7,fy,ac,VS.Ql,hzl,holdlen,hnewl];rw[<- Nat.add_mul,<- Nat.add_mul];congr 1;omega
   have hget:∀(j:Nat) (v:Value),vs[j]? =some v->olds[j]? =some v∨(olds.length<=j∧news[j - olds.length]? =some v)∨(olds.length+news.length<=j∧leaf v):=fun j v hj=>by
    rw[hvs,<- bh] at hj;simp only[iw] at hj;rcases Lo hj with h|h|h
    ·exact .inl h
    ·exact .inr (.inl h)
    ·refine .inr (.inr ⟨h.1,Qk (z:=z.cells) (fun v hv=> ?_) (by omega) _ _ v (by rw[<- bh];exact h.2)⟩);rw[i5] at hv;exact Uw (az.1 he.leafs v hv)
   have hleaf:∀(j:Nat) (v:Value),vs[j]? =some v->leaf v:=fun j v hj=>by
    rcases hget j v hj with h|h|h
    ·exact holf j v h
    ·exact hs.leafs _ v h.2
    ·exact h.2
   have hR:∀(j:Nat) (c:AV) (v:Value),(cs++els'.flatten)[j]? =some c->vs[j]? =some v->R (M.withW M.w.drew) c v:=fun j c v hc hj=>by
    have hb:=(ae.1 hc).1;rw[ac,hcl,hfl] at hb;refine R.ext e0 ?_;rcases hget j v hj with h|h|h
    ·have hlt':=(ae.1 h).1;rw[ay (by omega)] at hc;exact holR j c v hc h
    ·rw[au (by omega),hcl,<- holdlen] at hc;exact hs.rs _ c v hc h.2
    ·omega
   have hk0:(M.withW M.w.drew).st k=some (.vec e ti.size m cs):=hk;have ex:=Ext.moveVec hI0 hk0 (show m<m+els'.length by omega) vs cp (cs++els'.flatten);have hI1:=hI0.moveVec hk0 (show m<m+els'.length by omega) hvsize hcapge hlen hleaf hR;rw[<- hvs];refine⟨(M.withW M.w.drew).moveVec k e ti.size vs (m+els'.length) cp (cs++els'.flatten),rfl,e0.trans ex,hI1,fun j _=>rfl,.vsl _ _ _ _ _ ?_⟩;unfold Ku;rw[show((M.withW M.w.drew).moveVec k e ti.size vs (m+els'.length) cp (cs++els'.flatten)).st k=some (.vec e ti.size (m+els'.length) (cs++els'.flatten)) by simp [Mem.moveVec,Xw]];exact⟨Nat.le_refl _,fun _=> .inr ⟨cp,by simp [Mem.moveVec],by simp [Mem.moveVec];rfl⟩⟩
  rcases S8 hk h1 with ⟨rfl,⟨a,hv⟩,hcn⟩|⟨cap,hcapk,hv⟩
  ·refine moves a 0 [] hv (by omega) (by simp) ?_ (fun j v h=>by simp at h) (fun j c v hc h=>by simp at h);cases a with
   |none=>exact run_firstCells_none _ _ _ _ _
   |some a=>exact run_firstCells_some _ _ _ _ _ _ _ (by simp) (fun j v hj=>by simp at hj)
  ·obtain⟨us,g1,g2,g3,g4,g5,g6⟩:=hcap cap hcapk;have hfit0:m*ti.size<=us.size:=by rw[g2];exact cj _ g3
   by_cases hroom:m+els'.length<=cap
   ·have hfit:m*i.size+news.length<=us.size:=by
     rw[i2,hnewl,g2,<- Nat.add_mul];exact cj _ hroom
    have hrun:=hs.room (M.β k) m cap us g1 hroom hfit;rw[<- hv] at hrun;rw[Ys hrun];obtain⟨vs,hvs⟩:∃vs:Array Value,vs=(us.toList.take (m*i.size)++news++us.toList.drop (m*i.size+news.length)).toArray:=⟨_,rfl⟩
    have hcl2:us.toList.length=us.size:=by simp
    have htk:(us.toList.take (m*i.size)).length=m*ti.size:=by
     rw[ba,hcl2,i2];rw[i2] at hfit;omega
    have hvsz:vs.size=us.size:=by
     rw[hvs];simp only[fy,ac,bt,htk,hcl2];rw[i2] at hfit⊢;omega
    have hget:∀(j:Nat) (v:Value),vs[j]? =some v->(j<m*ti.size∧us[j]? =some v)∨(m*ti.size<=j∧news[j - m*ti.size]? =some v)∨(m*ti.size+news.length<=j∧leaf v):=fun j v hj=>by
     rw[hvs,d7] at hj;rcases Lo hj with h|h|h
     ·have hlt:=(ae.1 h).1;rw[bc (by rw[i2];omega),bh] at h;exact .inl ⟨by omega,h⟩
     ·rw[htk] at h;exact .inr (.inl h)
     ·rw[htk] at h;refine .inr (.inr ⟨h.1,?_⟩);have:=h.2;rw[bu,bh] at this;exact g4 _ v this
    have hleaf:∀(j:Nat) (v:Value),vs[j]? =some v->leaf v:=fun j v hj=>by
     rcases hget j v hj with h|h|h
     ·exact g4 j v h.2
     ·exact hs.leafs _ v h.2
     ·exact h.2
    have hR:∀(j:Nat) (c:AV) (v:Value),(cs++els'.flatten)[j]? =some c->vs[j]? =some v->R M c v:=fun j c v hc hj=>by
     have hb:=(ae.1 hc).1;rw[ac,hcl,hfl] at hb;rcases hget j v hj with h|h|h
     ·rw[ay (by omega)] at hc;exact g5 j c v hc h.2
     ·rw[au (by omega),hcl] at hc;exact hs.rs _ c v hc h.2
     ·omega
    have ex:=Ext.growVec hI hk hcapk (gg m els'.length) vs (cs++els'.flatten);have hI1:=hI.growVec hk hcapk (gg m els'.length) hroom g1 hvsz hlen hleaf hR;rw[<- hvs];refine⟨M.growVec k e ti.size vs (m+els'.length) (cs++els'.flatten),rfl,ex,hI1,fun j _=>rfl,.vsl _ _ _ _ _ ?_⟩;unfold Ku;rw[show(M.growVec k e ti.size vs (m+els'.length) (cs++els'.flatten)).st k=some (.vec e ti.size (m+els'.length) (cs++els'.flatten)) by simp [Mem.growVec,Xw]];exact⟨Nat.le_refl _,fun _=> .inr ⟨cap,hcapk,rfl⟩⟩
   ·refine moves (some ⟨M.β k,0,none⟩) cap (us.toList.take (m*ti.size)) hv (by omega) (by rw[ba];simp;omega) ?_ (fun j v h=> ?_) (fun j c v hc h=> ?_)
    ·exact run_firstCells_some _ _ _ _ _ _ _ (by rw[ba,i2];simp;omega) (fun j v hj=>by
      have hlt:=(ae.1 hj).1;rw[ba] at hlt;rw[bc (by omega),bh] at hj;rw[Xo8,Nat.zero_add,World.cell?_drew,Yj g1];exact hj)
    ·have hlt:=(ae.1 h).1;rw[ba] at hlt;rw[bc (by omega),bh] at h;exact g4 j v h
    ·have hlt:=(ae.1 h).1;rw[ba] at hlt;rw[bc (by omega),bh] at h;exact g5 j c v hc h⟩
theorem X68 {M:Mem} {sz sz2:Nat} {els:List (List AV)} {md:Md} {v:Value} (h:md= .nil∨sz=sz2) (hr:R M (.sl sz els md) v):R M (.sl sz2 els md) v:=by
 rcases h with rfl|rfl
 ·cases hr with
  |nil _ _ a hn hn'=>exact .nil _ _ a hn hn'
  |slice _ _ _ a cap hs hcap hsz hst hc hmd=>exact hmd.elim
 ·exact hr
theorem Nm {M:Mem} (hI:Inv M) {t u e e':TypeId} {ti:TI} (ht:P.underlying t=some (.slice e)) (hu:P.underlying u=some (.slice e')) {ρ:Operand->Value} {y:Operand} {els':List (List AV)} {md:Md}
  (hr:R M (.sl ti.size els' md) (ρ y)) {i:TypeInfo} {z:Value} (i1:P.info? e=some i) (i4:i.zero=some z) (i2:i.size=ti.size):∃news,Appends P M t u e ty ti (ρ y) els' i z news:=by
 obtain⟨news,hs,hnl,hnR,hsz⟩:=Nj (P:=P) hI hu hr;exact⟨news,hs.newsLen,hnl,hnR,hsz,
  fun base sLen sCap olds hold hg h63 hfit=>run_append_grow_src (P:=P) M.w t u ty e i z ht i1 i4 base sLen sCap olds hold (ρ y) els'.length news (by rw[i2];exact hs) hg h63 hfit,
  fun g sLen sCap cur hg hroom hfit=>Zy (P:=P) M.w t u ty e i ht i1 g sLen sCap cur hg (ρ y) els'.length news (by rw[i2];exact hs) hroom hfit⟩
theorem Wa {t u e e':TypeId} {ti:TI} (ht:P.underlying t=some (.slice e)) (hu:P.underlying u=some (.slice e')) (he:TIok P e ti) (hs0:0<ti.size) {x y:Operand} {sz':Nat} {els':List (List AV)} {md:Md} {k m:Nat} {cs:List AV}
  (hx:ρA x= .vsl k m) (hy:ρA y= .sl sz' els' md) (hsz:md= .nil∨sz'=ti.size) (hbytes:(m+els'.length)*ti.bytes<=140737488355328) (h63:m+els'.length<=9223372036854775807):
  AOk P ⟨d,.call {callee:= .builtin .append,args:= #[x,y],argTypes:= #[t,u]},ty,pos,aft,gd⟩ ρA [(k,some (.vec e ti.size m cs))] (.vsl k (m+els'.length)) [(k,.vec e ti.size (m+els'.length) (cs++els'.flatten))]:=by
 by_cases hnil:els'=[]
 ·subst hnil;refine⟨(by intro _ _ h;cases h),fun M N ρ hI hρ _ _ hn _ _=> ?_⟩;have h1:=hρ x (by simp [Op.operands,Call.operands]);have h2:=hρ y (by simp [Op.operands,Call.operands]);rw[hx] at h1;rw[hy] at h2;have h2':=X68 hsz h2;have hk:=hn.1;obtain⟨i,z,i1,i2,i3,i4,i5⟩:=he.info;obtain⟨news,hs,_,_,_⟩:=Nj (P:=P) hI hu h2';have hnn:news=[]:=cz (by rw[hs.newsLen];simp);subst hnn;obtain⟨a,c,hv,hle⟩:∃a c,ρ x= .slice a m c∧m<=c:=by
   rcases S8 hk h1 with ⟨rfl,⟨a,hv⟩,_⟩|⟨cap,hc,hv⟩
   ·exact⟨_,_,hv,Nat.le_refl _⟩
   ·obtain⟨us,_,_,g3,_⟩:=(hI.vec k e ti.size m cs hk).2.2 cap hc;exact⟨_,_,hv,g3⟩
  have hrun:=Q7 (P:=P) M.w t u ty e i ht i1 a m c hle (ρ y) (by rw[i2];exact hs);rw[<- hv] at hrun;rw[Ys hrun];refine⟨M,rfl,Ext.refl M,hI,fun j _=> ?_,by simpa using h1⟩;simp only[upd,Xw,List.length_nil,Nat.add_zero,List.flatten_nil,a9];split
  ·rename_i hj;subst hj;exact hk
  ·rfl
 ·exact Pd he hs0 hnil hx (fun M ρ hI hr i z i1 i4 i2 i5 i3=>by
   rw[hy] at hr;exact Nm hI ht hu (X68 hsz hr) i1 i4 i2) hbytes h63
theorem Y46 {t u e e':TypeId} {ti:TI} (ht:P.underlying t=some (.slice e)) (hu:P.underlying u=some (.slice e')) (he:TIok P e ti) (hs0:0<ti.size) {x y:Operand} {sz sz':Nat} {els':List (List AV)} {md md':Md} (k:Nat)
  (hx:ρA x= .sl sz [] md) (hf:md= .nil∨md= .full) (hy:ρA y= .sl sz' els' md') (hsz:md'= .nil∨sz'=ti.size) (hne:els'≠[]) (hbytes:els'.length*ti.bytes<=140737488355328) (h63:els'.length<=9223372036854775807):
  AOk P ⟨d,.call {callee:= .builtin .append,args:= #[x,y],argTypes:= #[t,u]},ty,pos,aft,gd⟩ ρA [(k,none)] (.vsl k els'.length) [(k,.vec e ti.size els'.length els'.flatten)]:=by
 classical
 have hxy:y≠x:=by
  rintro rfl;rw[hx] at hy;injection hy with _ h _
  exact hne h.symm
 have hy':(fun z=>if z=x then AV.vsl k 0 else ρA z) y= .sl sz' els' md':=by show(if y=x then _ else _)= _;rw[if_neg hxy];exact hy
 have hx':(fun z=>if z=x then AV.vsl k 0 else ρA z) x= .vsl k 0:=if_pos rfl;have key:=Wa (P:=P) (d:=d) (ty:=ty) (pos:=pos) (aft:=aft) (gd:=gd) (ρA:=fun z=>if z=x then .vsl k 0 else ρA z) (x:=x) (y:=y) (k:=k) (m:=0) (cs:=[]) ht hu he hs0 hx' hy' hsz (by simpa using hbytes) (by simpa using h63);simp only[Nat.zero_add,List.nil_append] at key;refine⟨(by intro _ _ h;cases h),fun M N ρ hI hρ hc hfn hn hN hu'=> ?_⟩;have hk:M.st k=none:=hn.1;have ex:=Ext.newVec M hk e ti.size;have hI1:=hI.newVec hk e ti.size;have hr:=hρ x (by simp [Op.operands,Call.operands]);rw[hx] at hr;obtain⟨a0,hv0⟩:∃a,ρ x= .slice a 0 0:=by
  generalize ρ x=v at hr;rcases hf with rfl|rfl
  ·cases hr with
   |nil=>exact⟨_,rfl⟩
   |slice _ _ _ a cap hs hcap hsz hst hc hmd=>exact hmd.elim
  ·cases hr with
   |nil=>exact⟨_,rfl⟩
   |slice _ _ _ a cap hs hcap hsz hst hc hmd=>
    have:cap=0:=hmd;subst this;exact⟨_,rfl⟩
 have hst1:(M.newVec k e ti.size).st k=some (.vec e ti.size 0 []):=by simp [Mem.newVec,Xw]
 have:=key.2 (M.newVec k e ti.size) (max N (k+1)) ρ hI1 (fun z hz=>by
  by_cases hzx:z=x
  ·subst hzx
   show R _ (if z=z then _ else _) _
   rw[if_pos rfl,hv0];refine .vsl _ _ _ _ _ ?_;unfold Ku;rw[hst1];exact⟨Nat.le_refl _,fun _=> .inl ⟨rfl,⟨a0,rfl⟩,by simp [Mem.newVec]⟩⟩
  ·show R _ (if z=x then _ else _) _
   rw[if_neg hzx];exact(hρ z hz).ext ex) hc hfn ⟨hst1,trivial⟩ (fun j hj=>by
   have hjk:j≠k:=by omega
   simp [Mem.newVec,Xw,hjk];exact hN j (by omega)) ⟨by omega,trivial⟩
 refine this.mono fun v w' ⟨M',h1,h2,h3,h4,h5⟩=>⟨M',h1,ex.trans h2,h3,fun j hj=> ?_,h5⟩
 rw[h4 j (by omega)];simp only[upd,Xw,Mem.newVec];split<;>rfl
theorem Ci {t e:TypeId} (ht:P.underlying t=some (.slice e)) {x:Operand} {k m:Nat} {e2:TypeId} {sz:Nat} {cs:List AV} (hx:ρA x= .vsl k m):
  AOk P ⟨d,.call {callee:= .builtin .len,args:= #[x],argTypes:= #[t]},ty,pos,aft,gd⟩ ρA [(k,some (.vec e2 sz m cs))] (.val (.int .i64 m)) []:=
 Xm (by intro _ _ h;cases h) fun M ρ hI hρ _ _ hn=>by
  have h1:=hρ x (by simp [Op.operands,Call.operands]);rw[hx] at h1;obtain⟨a,c,hv⟩:∃a c,ρ x= .slice a m c:=by
   rcases S8 hn.1 h1 with ⟨rfl,⟨a,hv⟩,_⟩|⟨cap,_,hv⟩
   ·exact⟨_,_,hv⟩
   ·exact⟨_,_,hv⟩
  exact⟨_,by simp [execOp,resolve,invoke,builtin,Builtin.len_,run_underlying ht,hv,goInt],.val _ trivial⟩
end
theorem Nn {sz n:Nat} {l l':List AV} (h:l.take (n*sz)=l'.take (n*sz)):Yh sz n l=Yh sz n l':=by
 apply gz;intro i;by_cases hi:i<n
 ·rw[Qr sz n l i hi,Qr sz n l' i hi]
  congr 1
  have hle:i*sz+sz<=n*sz:=by rw[<- e9];exact cj _ hi
  have key:∀m:List AV,(m.drop (i*sz)).take sz=((m.take (n*sz)).drop (i*sz)).take sz:=fun m=>by
   rw[List.drop_take,List.take_take,Nat.min_eq_left (by omega)]
  rw[key l,key l',h]
 ·rw[dn (by rw[Yi];omega),dn (by rw[Yi];omega)]
def Fx (M:Mem) (l:List AV) (vs:List Value):Prop:=∀(j:Nat) (c:AV) (v:Value),l[j]? =some c->vs[j]? =some v->R M c v
theorem Fx.take {M:Mem} {l:List AV} {vs:List Value} (h:Fx M l vs) (n:Nat):Fx M (l.take n) (vs.take n):=fun j c v hc hv=>by
 by_cases hj:j<n
 ·rw[bc hj] at hc hv;exact h j c v hc hv
 ·have:=(ae.1 hc).1;rw[ba] at this;omega
theorem Fx.drop {M:Mem} {l:List AV} {vs:List Value} (h:Fx M l vs) (n:Nat):Fx M (l.drop n) (vs.drop n):=fun j c v hc hv=>by
 rw[bu] at hc hv;exact h _ c v hc hv
theorem Fx.app {M:Mem} {l l':List AV} {vs vs':List Value} (h:Fx M l vs) (h':Fx M l' vs') (hl:l.length=vs.length):Fx M (l++l') (vs++vs'):=fun j c v hc hv=>by
 by_cases hj:j<l.length
 ·rw[ay hj] at hc;rw[ay (by omega)] at hv;exact h j c v hc hv
 ·rw[au (by omega)] at hc;rw[au (by omega),<- hl] at hv;exact h' _ c v hc hv
section
variable {P:Program} {d:Option Tmp} {ty:TypeId} {pos:String} {aft:Array Edge} {gd:Option (Nat×Bool)} {ρA:Operand->AV}
theorem Y7f {M:Mem} (hI:Inv M) {t u e e':TypeId} {ti:TI} (ht:P.underlying t=some (.slice e)) (hu:P.underlying u=some (.slice e')) {ρ:Operand->Value} {y:Operand} {k off len:Nat} {fl:Bool} {eb:TypeId} {cs:List AV}
  (hk:M.st k=some (.box eb cs)) (hr:R M (.bsl k off len fl) (ρ y)) (h0:0<len) (hfit:off+len*ti.size<=cs.length) {i:TypeInfo} {z:Value} (i1:P.info? e=some i) (i4:i.zero=some z) (i2:i.size=ti.size):
  ∃news,Appends P M t u e ty ti (ρ y) (Yh ti.size len (cs.drop off)) i z news:=by
 obtain⟨us,g1,g2,g3,g4,g5⟩:=hI.box k eb cs hk;obtain⟨cap',hvy⟩:∃cap',ρ y= .slice (some ⟨M.β k,off,none⟩) len cap':=by
  generalize ρ y=v at hr;cases hr with
  |bsl _ _ _ cap _ hb hc hf=>exact⟨_,rfl⟩
  |bsl0=>omega
 obtain⟨news,hnews⟩:∃news,news=(us.toList.drop off).take (len*ti.size):=⟨_,rfl⟩
 have hul:us.toList.length=us.size:=by simp
 have hnl:news.length=len*ti.size:=by rw[hnews,ba,bt,hul];omega
 have hleafN:∀(j:Nat) (v:Value),news[j]? =some v->leaf v:=fun j v hv=>by
  have hlt:=(ae.1 hv).1;rw[hnews,bc (by omega),bu,bh] at hv;exact g3 _ v hv
 have hs:Src P ti.size u (ρ y) len news M.w:=by
  rw[hvy];refine Src.ofSlice M.w hu ⟨M.β k,off,none⟩ len cap' news hnl (fun j w hw=> ?_) (fun w hw=> ?_)
  ·have hlt:=(ae.1 hw).1;rw[hnews,bc (by omega),bu,bh] at hw;rw[Xo8,Yj g1];exact hw
  ·obtain⟨j,hj⟩:=du hw;exact Vm (hleafN j w hj)
 have hcl:(Yh ti.size len (cs.drop off)).length=len:=Yi ti.size len (cs.drop off);have hct:Yh ti.size len (cs.drop off)=Yh ti.size len ((cs.drop off).take (len*ti.size)):=Nn (by rw[List.take_take,Nat.min_self]);have htl:((cs.drop off).take (len*ti.size)).length=len*ti.size:=by rw[ba,bt];omega
 refine⟨news,⟨by rw[hcl];exact hnl,hleafN,fun j c v hc hv=> ?_,fun row hrow=> ?_,?_,?_⟩⟩
 ·rw[hct,L5 _ _ _ htl] at hc;have hlt:=(ae.1 hv).1;rw[bc (by omega),bu] at hc;rw[hnews,bc (by omega),bu,bh] at hv;exact g4 _ c v hc hv
 ·rw[hct] at hrow;exact Pw _ _ _ htl row hrow
 ·rw[hcl];exact fun base sLen sCap olds hold hg h63 hfit=>run_append_grow_src (P:=P) M.w t u ty e i z ht i1 i4 base sLen sCap olds hold (ρ y) len news (by rw[i2];exact hs) hg h63 hfit
 ·rw[hcl];exact fun g sLen sCap cur hg hroom hfit=>Zy (P:=P) M.w t u ty e i ht i1 g sLen sCap cur hg (ρ y) len news (by rw[i2];exact hs) hroom hfit
theorem Y5s {t u e e':TypeId} {ti:TI} (ht:P.underlying t=some (.slice e)) (hu:P.underlying u=some (.slice e')) (he:TIok P e ti) (hs0:0<ti.size) {x y:Operand} {els:List (List AV)} {k off len:Nat} {fl:Bool} {eb:TypeId} {cs:List AV}
  (hx:ρA x= .sl ti.size els .full) (hy:ρA y= .bsl k off len fl) (hfit:off+len*ti.size<=cs.length) (hbytes:(els.length+len)*ti.bytes<=140737488355328) (h63:els.length+len<=9223372036854775807):
  AOk P ⟨d,.call {callee:= .builtin .append,args:= #[x,y],argTypes:= #[t,u]},ty,pos,aft,gd⟩ ρA [(k,some (.box eb cs))] (.sl ti.size (els++Yh ti.size len (cs.drop off)) .sh) []:=
 ⟨(by intro _ _ h;cases h),fun M N ρ hI hρ hcn hfn hn hN hg=>by
  have h1:=hρ x (by simp [Op.operands,Call.operands]);have h2:=hρ y (by simp [Op.operands,Call.operands]);rw[hx] at h1;rw[hy] at h2;have hk:M.st k=some (.box eb cs):=hn.1;obtain⟨i,z,i1,i2,i3,i4,i5⟩:=he.info;obtain⟨a,c,hv,hle,hful⟩:∃a c,ρ x= .slice a els.length c∧els.length<=c∧c=els.length:=by
   generalize ρ x=v at h1;cases h1 with
   |nil _ _ a hn hn'=>exact⟨_,_,rfl,Nat.le_refl _,rfl⟩
   |slice sz els md a cap hs hcap hsz hst hc hmd=>exact⟨_,_,rfl,hcap,hmd⟩
  rcases fh len with h0|h0
  ·subst h0;have hs:Src P ti.size u (ρ y) 0 [] M.w:=by
    generalize ρ y=v at h2;cases h2 with
    |bsl _ _ _ cap _ hb hc hf=>exact Src.ofZero M.w hu _ cap
    |bsl0 _ _ a=>exact Src.ofZero M.w hu a 0
   have hrun:=Q7 (P:=P) M.w t u ty e i ht i1 a els.length c hle (ρ y) (by rw[i2];exact hs);rw[<- hv] at hrun;rw[Ys hrun];refine⟨M,rfl,Ext.refl M,hI,fun j _=>rfl,?_⟩;have:=h1.le (.sh ti.size els .full);simpa [Yh] using this
  ·obtain⟨K,hK⟩:=hI.fin;have hfree:M.st (max N K)=none:=hK _ (by omega);have hl:=Yi ti.size len (cs.drop off);have:=W8 (P:=P) (d:=d) (ty:=ty) (pos:=pos) (aft:=aft) (gd:=gd) (M:=M) (N:=max N K+1) (k:=max N K) hI (t:=t) (u:=u) he hs0 h1
    (fun i z i1 i4 i2 _ _=>Y7f hI ht hu hk h2 h0 hfit i1 i4 i2) (fun a' n' c' hv'=>by rw[hv] at hv';cases hv';rw[hl];omega) (.inl hfree) (by rw[hl];exact hbytes) (by rw[hl];exact h63)
   refine Y49.mono (r:=(execOp ρ ⟨d,.call {callee:= .builtin .append,args:= #[x,y],argTypes:= #[t,u]},ty,pos,aft,gd⟩).run P M.w) this fun v w' ⟨M',p1,p2,p3,p4,p5⟩=>⟨M',p1,p2,p3,fun j hj=> ?_,p5.le (.sh _ _ _)⟩
   rw[p4 j (by omega)];simp only[upd,Xw];rw[if_neg (by omega)]⟩
end
end Go.VS
