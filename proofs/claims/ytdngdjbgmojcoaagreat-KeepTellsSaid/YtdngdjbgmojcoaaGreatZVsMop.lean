/-
 The value-semantics layer: maps in a walk.
-/
import Derived.Test.YtdngdjbgmojcoaaGreatZVsBits
namespace Go.VS
set_option linter.all false
open Go
section
variable {P:Program} {T:TypeId->Option TI} {bx:List (Nat×Option Nat)} {σ:AState} {K:AV->List (Nat×Res)->Prop} {d:Option Tmp}
theorem Xtz (t:TypeId) (x y:Operand):Uc P T bx σ K d (.lookup t x y false)=(Xrt P t∧Xtt σ K (σ.ev x) (σ.ev y)):=by simp [Uc]
theorem Xy0 (t:TypeId) (x y z:Operand):Uc P T bx σ K d (.mapUpdate t x y z)=(Xrt P t∧Xtu σ K (σ.ev x) (σ.ev y) (σ.ev z)):=rfl
theorem Y2r (x y:Operand) (t u:TypeId):Uc P T bx σ K d (.call {callee:= .builtin .max,args:= #[x,y],argTypes:= #[t,u]})=match σ.ev x,σ.ev y with
  | .val (.int k a),.val (.int _ b)=>K (.val (.int k (if a<b then b else a))) []
  | _,_=>False:=rfl
theorem Xw1 {b k:Nat} {a:Int} {l:List (Int×Int)} (h1:σ.look k=some (.pin b (Xph l) [])) (h2:σ.dom k) (h:K (.val (.int .i64 (Xyw l a))) []):Xtt σ K (.val (.map (some b))) (.val (.int .i64 a)):=⟨k,l,h1,h2,h⟩
theorem Xyy {b k:Nat} {a v:Int} {l:List (Int×Int)} (h1:σ.look k=some (.pin b (Xph l) [])) (h2:σ.dom k) (h:K (.tup []) [(k,.pin b (Xph (Xxz l a v)) [])]):Xtu σ K (.val (.map (some b))) (.val (.int .i64 a)) (.val (.int .i64 v)):=⟨k,l,h1,h2,h⟩
theorem Xt5 (hT:Qw P T) (bx:List (Nat×Option Nat)) {Q:Exit->AState->Prop} {id:Nat} {t:Tmp} {m ty:TypeId} {pos:String} {aft:Array Edge} {l:List Oper} (i:Nat) (hi:σ.lo[i]? =some none)
  (h:∀b,Xp0 P T bx false (⟨some t,.makeMap m none,ty,pos,aft,none⟩::l).toArray (Q .normal) l (σ.next (some t) (.val (.map (some b))) [(σ.n+i,.pin b (Xph []) [])])):
  AWp P (.region id (⟨some t,.makeMap m none,ty,pos,aft,none⟩::l).toArray false) Q σ:=fun ro n M a hI hs=>by
 refine wpIn_region_lit ?_;have hdom:σ.dom (σ.n+i):=Xb _ (ae.1 hi).1;have hfree:M.st (σ.n+i)=none:=by rw[hs.st _ hdom,X6 _ hs.le,hi];rfl
 refine Y49.wp (o:=⟨some t,.makeMap m none,ty,pos,aft,none⟩) ?_;have hr:(Instr.makeMap m none).run P M.w= .ok (.map (some M.w.heap.size)) (M.w.alloc (Xph [])):=rfl;simp only[execOp,Option.map_none,a7,hr,Result.andThen_ok,Sem.run_pure];have e:=Ext.newPin hI hfree (Xph []) [];have hI':=hI.newPin hfree (o:=Xph []) (fr:=[]) rfl (fun rec h=>by cases h);have hx:R (M.newPin (σ.n+i) (Xph []) []) (.val (.map (some M.w.heap.size))) (.map (some M.w.heap.size)):= .val _ trivial;have hs':=hs.next e (Nat.le_refl _) (some t) hx (gives:=[(σ.n+i,.pin M.w.heap.size (Xph []) [])]) ⟨hdom,trivial⟩ (fun k _=>rfl);refine Wv l 1 (M.newPin (σ.n+i) (Xph []) []) _ _ (fun j=> ?_) e hI' hs' (Xow hT (fun _ _ _=>trivial) l 1 _ hs'.le (h _));rw[Nat.add_comm];simp
end
end Go.VS
