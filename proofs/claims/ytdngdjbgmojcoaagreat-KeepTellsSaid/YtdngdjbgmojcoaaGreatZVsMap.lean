/-
 The value-semantics layer: maps of ints, pinned: how they are made, read and written; the greater one of two numbers.
-/
import Derived.Test.YtdngdjbgmojcoaaGreatZVsRound
import Derived.MapKept
import Derived.Carry
namespace Go.VS
set_option linter.all false
open Go Go.RowKit
def Xok (p:(Int×Int)×Nat):MapEntry:={key:= .int .i64 p.1.1,val:= .int .i64 p.1.2,born:=p.2}
def Xph (l:List (Int×Int)):Obj:= .map (l.zipIdx.map Xok).toArray l.length
def Xr2 (l:List (Int×Int)) (a:Int):Option Nat:=l.findIdx? fun p=>p.1==a
def Xyw (l:List (Int×Int)) (a:Int):Int:=match Xr2 l a with
 |some i=>(l.getD i (0,0)).2
 |none=>0
def Xxz (l:List (Int×Int)) (a v:Int):List (Int×Int):=match Xr2 l a with
 |some i=>l.set i (a,v)
 |none=>l++[(a,v)]
def Xrt (P:Program) (t:TypeId):Prop:=∃kt et,P.underlying t=some (.map kt et)∧P.underlying kt=some (.int .i64)∧∀w,(zeroValue et).run P w= .ok (.int .i64 0) w
theorem Xtv (a:Int):∀(l:List (Int×Int)) (j i:Nat),Instr.findNow (.int .i64) (.int .i64 a) ((l.zipIdx j).map Xok) i=some ((Xr2 l a).map fun m=>(i+m,.int .i64 (l.getD m (0,0)).2))
 |[],_,_=>rfl
 |p::l,j,i=>by
  have h:Instr.sameNow (.int .i64) (.int .i64 a) (.int .i64 p.1)=some (a==p.1):=by simp [Instr.sameNow]
  simp only[List.zipIdx_cons,bk,Instr.findNow,Xok,h,Xr2,List.findIdx?_cons];by_cases e:a=p.1
  ·simp [e]
  ·have e1:(a==p.1)=false:=by simpa using e
   have e2:(p.1==a)=false:=by simpa using fun h=>e h.symm
   have ih:=Xtv a l (j+1) (i+1);simp only[e1,e2,if_false,bl,Option.map_map];rw[ih];unfold Xr2;cases List.findIdx? (fun p=>p.1==a) l with
   |none=>rfl
   |some m=>simp [Nat.add_assoc,Nat.add_comm 1]
theorem Xxe {l:List (Int×Int)} {a:Int} {i:Nat} (h:Xr2 l a=some i):i<l.length∧(l.getD i (0,0)).1=a:=by
 unfold Xr2 at h;rw[fv] at h;obtain⟨h1,h2,_⟩:=h;refine⟨h1,?_⟩;rw[af,ah h1];simp only[Option.getD_some];simpa using h2
section
variable {P:Program} {d:Option Tmp} {ty:TypeId} {pos:String} {aft:Array Edge} {gd:Option (Nat×Bool)} {ρA:Operand->AV}
theorem Xw0 (w:World) {kt:TypeId} (hk:P.underlying kt=some (.int .i64)) (e:Bool) (n:Nat) (a:Int):(Instr.checkKey e (n+1) kt (.int .i64 a)).run P w= .ok () w:=by
 simp [Instr.checkKey,a7,run_underlying hk]
theorem Xtw (w:World) {kt:TypeId} (hk:P.underlying kt=some (.int .i64)) (l:List (Int×Int)) (a:Int):(Instr.findKey kt (.int .i64 a) ((l.zipIdx.map Xok).toArray).toList).run P w= .ok ((Xr2 l a).map fun m=>(m,.int .i64 (l.getD m (0,0)).2)) w:=by
 have h:=Xtv a l 0 0;simp only[Nat.zero_add] at h;simp [Instr.findKey,a7,run_underlying hk,h]
theorem Xtx {w:World} {b:Nat} {l:List (Int×Int)} (hb:w.heap[b]? =some (Xph l)):(getObj b).run P w= .ok (.map (l.zipIdx.map Xok).toArray l.length) w:=by
 simp [getObj,Sem.run,hb,Xph]
theorem Xty {w:World} {b:Nat} {l:List (Int×Int)} (o:Obj) (hb:w.heap[b]? =some (Xph l)):(setObj b o).run P w= .ok () (w.putObj b o):=by
 simp [setObj,Sem.run,hb,Xph,World.putObj]
theorem Xxf {t:TypeId} (ht:Xrt P t) {w:World} {b:Nat} {l:List (Int×Int)} (hb:w.heap[b]? =some (Xph l)) (a:Int):(Instr.lookup t (.map (some b)) (.int .i64 a) false).run P w= .ok (.int .i64 (Xyw l a)) w:=by
 obtain⟨kt,et,h1,h2,h3⟩:=ht;unfold Instr.lookup;simp only[a7,run_underlying h1,Result.andThen_ok,Xtx hb,Sem.run_pure,Xw0 w h2,Xtw w h2];unfold Xyw;cases Xr2 l a with
 |none=>simp [a7,h3]
 |some m=>simp [a7]
theorem Xxg {t:TypeId} {x y:Operand} {b:Nat} {a:Int} {k:Nat} {l:List (Int×Int)} (ht:Xrt P t) (hx:ρA x= .val (.map (some b))) (hy:ρA y= .val (.int .i64 a)):
  AOk P ⟨d,.lookup t x y false,ty,pos,aft,gd⟩ ρA [(k,some (.pin b (Xph l) []))] (.val (.int .i64 (Xyw l a))) []:=
 ⟨(by intro _ _ h;cases h),fun M N ρ hI hρ _ _ hn hN _=>by
  have h1:=hρ x (by simp [Op.operands]);have h2:=hρ y (by simp [Op.operands]);rw[hx] at h1;rw[hy] at h2;have e1:=Yw h1;have e2:=Yw h2;have hb:=(hI.pin k b _ _ hn.1).1;simp only[execOp,e1,e2,a7,Xxf ht hb,Result.andThen_ok,Sem.run_pure];exact⟨M,rfl,Ext.refl M,hI,fun _ _=>rfl,.val _ trivial⟩⟩
theorem Xt4 (l:List (Int×Int)) (i j:Nat) (p:Int×Int) (hi:i<l.length):((l.zipIdx j).map Xok).toArray.modify i (fun e=>{e with key:= .int .i64 p.1,val:= .int .i64 p.2})=((((l.set i p).zipIdx j).map Xok).toArray):=by
 apply i8;apply gz;intro m;rw[Array.toList_modify];simp only[List.getElem?_modify,b9,List.getElem?_zipIdx,List.getElem?_set];by_cases e:i=m
 ·subst e;simp [hi,Xok]
 ·simp [e]
theorem Xxh {t:TypeId} (ht:Xrt P t) {w:World} {b:Nat} {l:List (Int×Int)} (hb:w.heap[b]? =some (Xph l)) (a v:Int):(Instr.mapUpdate t (.map (some b)) (.int .i64 a) (.int .i64 v)).run P w= .ok () (w.putObj b (Xph (Xxz l a v))):=by
 obtain⟨kt,et,h1,h2,h3⟩:=ht;unfold Instr.mapUpdate;simp only[a7,run_underlying h1,Result.andThen_ok,Xtx hb,Xw0 w h2,Xtw w h2];unfold Xxz;cases hf:Xr2 l a with
 |none=>
  have e:((l++[(a,v)]).zipIdx.map Xok)=l.zipIdx.map Xok++[{key:= .int .i64 a,val:= .int .i64 v,born:=l.length}]:=by
   rw[List.zipIdx_append,aw];simp [Xok]
  simp only[Option.map_none,Xty _ hb];simp [Xph,World.putObj,e]
 |some m=>
  obtain⟨hm,hk⟩:=Xxe hf;have hg:((l.zipIdx.map Xok).toArray)[m]? =some (Xok (l.getD m (0,0),m)):=by
   simp [af,hm]
  have hs:(((((l.zipIdx.map Xok).toArray)[m]?).map (·.key)).getD (.int .i64 a))= .int .i64 a:=by
   rw[hg,Option.map_some,Option.getD_some,Xok,hk]
  have hkt:(Instr.keyThatStays (.int .i64 a) (.int .i64 a)).run P w= .ok (.int .i64 a) w:=by simp [Instr.keyThatStays,Instr.sameBits]
  have he:=Xt4 l m 0 (a,v) hm;simp only[Option.map_some,a7,hs,hkt,Result.andThen_ok,Xty _ hb,he];simp [Xph,World.putObj]
theorem Xxi {t:TypeId} {x y z:Operand} {b:Nat} {a v:Int} {k:Nat} {l:List (Int×Int)} (ht:Xrt P t) (hx:ρA x= .val (.map (some b))) (hy:ρA y= .val (.int .i64 a)) (hz:ρA z= .val (.int .i64 v)):
  AOk P ⟨d,.mapUpdate t x y z,ty,pos,aft,gd⟩ ρA [(k,some (.pin b (Xph l) []))] (.tup []) [(k,.pin b (Xph (Xxz l a v)) [])]:=
 ⟨(by intro _ _ h;cases h),fun M N ρ hI hρ _ _ hn hN _=>by
  have h1:=hρ x (by simp [Op.operands]);have h2:=hρ y (by simp [Op.operands]);have h3:=hρ z (by simp [Op.operands]);rw[hx] at h1;rw[hy] at h2;rw[hz] at h3;have hk:=hn.1;have hb:=(hI.pin k b _ _ hk).1;simp only[execOp,Yw h1,Yw h2,Yw h3,a7,Xxh ht hb,Result.andThen_ok,Sem.run_pure];exact⟨M.setPin k b (Xph (Xxz l a v)) [],rfl,Ext.setPin hI hk rfl,hI.setPin hk rfl (fun rec h=>by cases h),fun j _=>rfl,.tup [] #[] rfl fun i c u hi=>by simp at hi⟩⟩
theorem Xyx {x y:Operand} {t u:TypeId} {k j:IntKind} {a b:Int} (hx:ρA x= .val (.int k a)) (hy:ρA y= .val (.int j b)):
  AOk P ⟨d,.call {callee:= .builtin .max,args:= #[x,y],argTypes:= #[t,u]},ty,pos,aft,gd⟩ ρA [] (.val (.int k (if a<b then b else a))) []:=
 Xm (by intro _ _ h;cases h) fun M ρ hI hρ _ _ _=>by
  have h1:=hρ x (by simp [Op.operands,Call.operands]);have h2:=hρ y (by simp [Op.operands,Call.operands]);rw[hx] at h1;rw[hy] at h2;refine⟨_,?_,.val _ trivial⟩;simp [execOp,resolve,invoke,builtin,Builtin.max_,Builtin.max2,Yw h1,Yw h2]
theorem Ycl {x y z:Operand} {t u v:TypeId} {k j i:IntKind} {a b c:Int} (hx:ρA x= .val (.int k a)) (hy:ρA y= .val (.int j b)) (hz:ρA z= .val (.int i c)):
  AOk P ⟨d,.call {callee:= .builtin .max,args:= #[x,y,z],argTypes:= #[t,u,v]},ty,pos,aft,gd⟩ ρA [] (.val (.int k (if (if a<b then b else a)<c then c else if a<b then b else a))) []:=
 Xm (by intro _ _ h;cases h) fun M ρ hI hρ _ _ _=>by
  have h1:=hρ x (by simp [Op.operands,Call.operands]);have h2:=hρ y (by simp [Op.operands,Call.operands]);have h3:=hρ z (by simp [Op.operands,Call.operands]);rw[hx] at h1;rw[hy] at h2;rw[hz] at h3;refine⟨_,?_,.val _ trivial⟩;by_cases g:a<b<;>simp [execOp,resolve,invoke,builtin,Builtin.max_,Builtin.max2,Yw h1,Yw h2,Yw h3,g]
end
end Go.VS
