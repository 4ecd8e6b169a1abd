/-
 The value-semantics layer, part 11: what evOp says is so.
-/
import Derived.Test.YtdngdjbgmojcoaaGreatZVsEv
namespace Go.VS
set_option linter.all false
open Go Go.RowKit
def Zt (P:Program) (o:Oper) (σ:AState) (K:AV->List (Nat×Res)->Prop):Prop:=
 ∃needs r gives,AOk P o σ.ev needs r gives∧holds σ.look needs∧L2 σ gives∧(∀x,x∈needs->σ.dom x.1∧x.2≠some .dead)∧K r gives
theorem Xh {P:Program} {o:Oper} {σ:AState} {K:AV->List (Nat×Res)->Prop} {r:AV} (h:AOk P o σ.ev [] r []) (hK:K r []):Zt P o σ K:=
 ⟨[],r,[],h,trivial,trivial,(fun x hx=>by cases hx),hK⟩
theorem Nw {P:Program} {o:Oper} {σ:AState} {K:AV->List (Nat×Res)->Prop} {r:AV} {q:Res} (hle:σ.n0<=σ.n) (hf:M7 σ) (h:AOk P o σ.ev [(σ.n+ff σ.lo,none)] r [(σ.n+ff σ.lo,q)]) (hK:K r [(σ.n+ff σ.lo,q)]):Zt P o σ K:=by
 have hlt:ff σ.lo<σ.lo.length:=(ae.1 hf).1;have hd:=Xb σ hlt;exact⟨_,r,_,h,⟨by rw[X6 σ hle,hf];rfl,trivial⟩,⟨hd,trivial⟩,(fun x hx=>by simp at hx;subst hx;exact⟨hd,by simp⟩),hK⟩
theorem U8 {P:Program} {o:Oper} {σ:AState} {K:AV->List (Nat×Res)->Prop} {r:AV} {q:Res} {b:Option Nat} (hle:σ.n0<=σ.n) (hf:S9 σ b) (h:AOk P o σ.ev [(Qs σ b,none)] r [(Qs σ b,q)]) (hK:K r [(Qs σ b,q)]):Zt P o σ K:=by
 cases b with
 |none=>exact Nw hle hf h hK
 |some k=>
  obtain⟨hd,hl⟩:=hf;exact⟨_,r,_,h,⟨hl,trivial⟩,⟨hd,trivial⟩,(fun x hx=>by simp at hx;subst hx;exact⟨hd,by simp⟩),hK⟩
theorem Qo {P:Program} {o:Oper} {σ:AState} {K:AV->List (Nat×Res)->Prop} {r:AV} {k:Nat} {q:Res} {gives:List (Nat×Res)} (hl:σ.look k=some q) (hd:σ.dom k) (h:AOk P o σ.ev [(k,some q)] r gives) (hg:gives=[]∨∃q',gives=[(k,q')]) (hK:K r gives) (hq:q≠ .dead:=by intro h;cases h):Zt P o σ K:=by
 refine⟨_,r,gives,h,⟨hl,trivial⟩,?_,(fun x hx=>by simp at hx;subst hx;exact⟨hd,by simpa using hq⟩),hK⟩;rcases hg with rfl|⟨q',rfl⟩
 ·trivial
 ·exact⟨hd,trivial⟩
section
variable {P:Program} {T:TypeId->Option TI} {σ:AState} {K:AV->List (Nat×Res)->Prop} {d:Option Tmp} {ty:TypeId} {pos:String} {aft:Array Edge} {gd:Option (Nat×Bool)}
theorem Xvz (hT:Qw P T) {t:TypeId} {x:Operand} (h:Ti T σ K t (σ.ev x)):Zt P ⟨d,.load t x,ty,pos,aft,gd⟩ σ K:=by
 unfold Ti at h;split at h
 ·rename_i ti hti;have ht:=hT t ti hti;split at h
  ·rename_i cs hx;split at h
   ·rename_i r hp;exact Xh (T7 ht hx hp) h
   ·exact h.elim
  ·rename_i k off hx;split at h
   ·rename_i e cs hl;obtain⟨hd,h⟩:=h;split at h
    ·rename_i r hp;exact Qo hl hd (T8 ht hx hp) (.inl rfl) h
    ·exact h.elim
   ·exact h.elim
  ·exact h.elim
 ·exact h.elim
theorem F9 (hT:Qw P T) {t:TypeId} {x y:Operand} (h:Ns T σ K t (σ.ev x) (σ.ev y)):Zt P ⟨d,.store t x y,ty,pos,aft,gd⟩ σ K:=by
 unfold Ns at h;split at h
 ·rename_i ti hti;split at h
  ·rename_i k off hx;split at h
   ·rename_i e cs hl;split at h
    ·rename_i xs hp;obtain⟨hd,h1,h2,h3⟩:=h;exact Qo hl hd (I4 (hT t ti hti) hx hp h1 h2) (.inr ⟨_,rfl⟩) h3
    ·exact h.elim
   ·exact h.elim
  ·exact h.elim
 ·exact h.elim
theorem Tm (hT:Qw P T) {s:TypeId} {x:Operand} {f:Nat} (h:Vw T K s (σ.ev x) f true):Zt P ⟨d,.fieldAddr s x f,ty,pos,aft,gd⟩ σ K:=by
 unfold Vw at h;split at h
 ·rename_i si hsi;split at h
  ·rename_i fs hd;split at h
   ·rename_i fd hf;split at h
    ·rename_i ti hti;simp only[if_true] at h;obtain⟨h0,h⟩:=h;have hs:=(hT s si hsi).und;rw[hd] at hs;split at h
     ·rename_i cs hx;exact Xh (Rs hs hf (hT _ _ hti) h0 hx) h
     ·rename_i k off hx;exact Xh (Ru hs hf (hT _ _ hti) h0 hx) h
     ·exact h.elim
    ·exact h.elim
   ·exact h.elim
  ·exact h.elim
 ·exact h.elim
theorem Cm (hT:Qw P T) {s:TypeId} {x:Operand} {f:Nat} (h:Vw T K s (σ.ev x) f false):Zt P ⟨d,.field s x f,ty,pos,aft,gd⟩ σ K:=by
 unfold Vw at h;split at h
 ·rename_i si hsi;split at h
  ·rename_i fs hd;split at h
   ·rename_i fd hf;split at h
    ·rename_i ti hti;simp only[bl,if_false] at h;have hs:=(hT s si hsi).und;rw[hd] at hs;split at h
     ·rename_i cs hx;split at h
      ·rename_i r hp;exact Xh (I7 hs hf (hT _ _ hti) hx hp) h
      ·exact h.elim
     ·exact h.elim
    ·exact h.elim
   ·exact h.elim
  ·exact h.elim
 ·exact h.elim
theorem X13 (hT:Qw P T) {t:TypeId} {x y:Operand} (h:Io T K t (σ.ev x) (σ.ev y)):Zt P ⟨d,.indexAddr t x y,ty,pos,aft,gd⟩ σ K:=by
 unfold Io at h;split at h
 ·rename_i si hsi;have hu:=(hT t si hsi).und;split at h
  ·rename_i e k z hd hy;rw[hd] at hu;split at h
   ·rename_i ti hti;split at h
    ·rename_i sz els md hx;obtain⟨rfl,h0,hlt,h⟩:=h;refine Xh (Rv hu (hT _ _ hti) hx hy h0 ?_) h;rw[List.getD,ah hlt];rfl
    ·rename_i b off len fl hx;obtain⟨h0,hlt,h⟩:=h;exact Xh (C8 hu (hT _ _ hti) hx hy h0 hlt) h
    ·exact h.elim
   ·exact h.elim
  ·rename_i n e k z hd hy;rw[hd] at hu;split at h
   ·rename_i ti hti;obtain⟨h0,hlt,h⟩:=h;split at h
    ·rename_i b off hx;exact Xh (C9 hu (hT _ _ hti) hx hy h0 hlt) h
    ·rename_i cs hx;exact Xh (Ca hu (hT _ _ hti) hx hy h0 hlt) h
    ·exact h.elim
   ·exact h.elim
  ·exact h.elim
 ·exact h.elim
theorem Yew (hT:Qw P T) {t:TypeId} {x y:Operand} (h:Nt T K t (σ.ev x) (σ.ev y)):Zt P ⟨d,.index t x y,ty,pos,aft,gd⟩ σ K:=by
 unfold Nt at h;split at h
 ·rename_i si hsi;have hu:=(hT t si hsi).und;split at h
  ·rename_i n e k z hd hy;rw[hd] at hu;split at h
   ·rename_i ti hti;obtain⟨h0,hlt,h⟩:=h;split at h
    ·rename_i cs hx;split at h
     ·rename_i r hp;exact Xh (I8 hu (hT _ _ hti) hx hy h0 hlt hp) h
     ·exact h.elim
    ·exact h.elim
   ·exact h.elim
  ·exact h.elim
 ·exact h.elim
theorem Wd (hT:Qw P T):∀(fs:List Field) (o:Nat),Xs T o fs=true->L3 P o fs
 |[],_,_=>trivial
 |f::fs,o,h=>by
  simp only[Xs,ad,bne_iff_ne,bq] at h;obtain⟨⟨⟨h1,h2⟩,h3⟩,h4⟩:=h;refine⟨⟨h1,h2,?_⟩,Wd hT fs (o+1) h4⟩;split at h3
  ·rename_i ti hti;simp only[ad,c9] at h3;obtain⟨h5,h6⟩:=h3;split at h6
   ·rename_i k hk;exact⟨ti,k,hT _ _ hti,h5,hk⟩
   ·cases h6
  ·cases h3
theorem X14 (hT:Qw P T) {op:BinOp} {t yt:TypeId} {x y:Operand} (h:Ip P T K op t (σ.ev x) (σ.ev y) y):Zt P ⟨d,.binOp op t x y yt,ty,pos,aft,gd⟩ σ K:=by
 unfold Ip at h;split at h
 ·rename_i k a j b hx hy;obtain⟨hk,h⟩:=h;unfold onV at h;split at h
  ·rename_i v hv;exact Xh (X3o hx hy (by rcases hk with h|h;exact .inl h;exact .inr (by cases op<;>simp_all [Cl])) hv) h
  ·exact h.elim
 ·rename_i a b hx hy;obtain⟨ht,h⟩:=h;split at ht
  ·rename_i ti hti;split at ht
   ·rename_i hd;have hu:=(hT t ti hti).und;rw[hd] at hu;split at h
    ·exact Xh (Nd hu hx hy (.inl ⟨rfl,rfl⟩)) h
    ·exact Xh (Nd hu hx hy (.inr ⟨rfl,rfl⟩)) h
    ·exact h.elim
   ·exact ht.elim
  ·exact ht.elim
 ·rename_i a b hx hy;split at h
  ·exact Xh (C6 hx hy (.inl ⟨rfl,rfl⟩)) h
  ·exact Xh (C6 hx hy (.inr (.inl ⟨rfl,rfl⟩))) h
  ·exact Xh (C6 hx hy (.inr (.inr ⟨rfl,h.1,rfl⟩))) h.2
  ·exact h.elim
 ·rename_i sz els md hx;obtain⟨ht,hy,h⟩:=h;split at ht
  ·rename_i ti hti;split at ht
   ·rename_i e hd;have hu:=(hT t ti hti).und;rw[hd] at hu;split at hy
    ·split at h
     ·split at h
      ·exact Xh (U6 (nl:=true) hu hx (.inl ⟨rfl,rfl⟩) rfl (.inl ⟨rfl,rfl⟩)) h
      ·exact Xh (U6 (nl:=true) hu hx (.inl ⟨rfl,rfl⟩) rfl (.inr ⟨rfl,rfl⟩)) h
      ·exact h.elim
     ·split at h
      ·exact Xh (U6 (nl:=false) hu hx (.inr ⟨.inl rfl,rfl⟩) rfl (.inl ⟨rfl,rfl⟩)) h
      ·exact Xh (U6 (nl:=false) hu hx (.inr ⟨.inl rfl,rfl⟩) rfl (.inr ⟨rfl,rfl⟩)) h
      ·exact h.elim
     ·obtain⟨hne,h⟩:=h;split at h
      ·exact Xh (U6 (nl:=false) hu hx (.inr ⟨.inr hne,rfl⟩) rfl (.inl ⟨rfl,rfl⟩)) h
      ·exact Xh (U6 (nl:=false) hu hx (.inr ⟨.inr hne,rfl⟩) rfl (.inr ⟨rfl,rfl⟩)) h
      ·exact h.elim
    ·exact hy.elim
   ·exact ht.elim
  ·exact ht.elim
 ·rename_i cs ds hx hy;split at h
  ·rename_i ti hti;obtain⟨hg,hc,h⟩:=h;have hu:=(hT t ti hti).und;split at h
   ·rename_i b hb;split at hc
    ·exact hc.elim
    ·rename_i fs hd;rw[hd] at hu;obtain⟨hn,hf,hp⟩:=hc;split at h
     ·exact Xh (L4 hu (Wd hT _ _ hf) hp hg hx hy hn hb (.inl ⟨rfl,rfl⟩)) h
     ·exact Xh (L4 hu (Wd hT _ _ hf) hp hg hx hy hn hb (.inr ⟨rfl,rfl⟩)) h
     ·exact h.elim
    ·exact hc.elim
   ·exact h.elim
  ·exact h.elim
 ·exact h.elim
theorem X44 {op:UnOp} {t:TypeId} {x:Operand} (h:X6d K op (σ.ev x)):Zt P ⟨d,.unOp op t x,ty,pos,aft,gd⟩ σ K:=by
 unfold X6d at h;split at h
 ·rename_i b hx;exact Xh (X3p hx) h
 ·rename_i k a hx;exact Xh (X3q hx) h
 ·rename_i k a hx;exact Xh (I2 hx) h
 ·exact h.elim
theorem It (hT:Qw P T) {s t:TypeId} {x:Operand} (h:Tj T σ K s t (σ.ev x)):Zt P ⟨d,.convert s t x,ty,pos,aft,gd⟩ σ K:=by
 unfold Tj at h;split at h
 ·rename_i si ti hsi hti;have hs:=(hT s si hsi).und;have ht:=(hT t ti hti).und;split at h
  ·rename_i k j a hd hx;rw[hd] at ht;exact Xh (T6 hs ht hx) h
  ·rename_i a hd hx;rw[hd] at ht;obtain⟨h1,h⟩:=h;split at h1
   ·rename_i hd2;rw[hd2] at hs;exact Xh (Rq hs ht hx) h
   ·exact h1.elim
  ·rename_i sz els md hd hx;rw[hd] at ht;obtain⟨h1,rfl,l,rfl,h⟩:=h;split at h1
   ·rename_i e hd2;rw[hd2] at hs;split at h1
    ·rename_i te hte;split at h1
     ·rename_i hd3;have he:=(hT e te hte).und;rw[hd3] at he;exact Xh (Ye4 hs he ht hx) h
     ·exact h1.elim
    ·exact h1.elim
   ·exact h1.elim
  ·rename_i k off len fl hd hx;rw[hd] at ht;exact h.elim
  ·rename_i e b hd hx;rw[hd] at ht;exact h.elim
  ·rename_i e k off len fl hd hx;rw[hd] at ht;exact h.elim
  ·exact h.elim
 ·exact h.elim
theorem Yex (hT:Qw P T) {t:TypeId} {x:Operand} {lo hi mx:Option Operand} (h:Nu T σ K t (σ.ev x) lo hi mx):Zt P ⟨d,.slice t x lo hi mx,ty,pos,aft,gd⟩ σ K:=by
 unfold Nu at h;split at h
 ·rename_i si hsi;have hu:=(hT t si hsi).und;split at h
  ·rename_i e hd;rw[hd] at hu;split at h
   ·rename_i ti hti;split at h
    ·rename_i sz els md hx;obtain⟨rfl,h⟩:=h;split at h
     ·rename_i l q h1 h2;obtain⟨hlh,hhc,h⟩:=h;split at h
      ·exact Xh (I9 hu (hT _ _ hti) hx h1 h2 hlh hhc) h
      ·rename_i m;exact h.elim
     ·exact h.elim
    ·rename_i b off len fl hx;obtain⟨rfl,h⟩:=h;split at h
     ·rename_i l q h1 h2;obtain⟨hlh,hhc,h⟩:=h;exact Xh (Rx hu (hT _ _ hti) hx h1 h2 hlh hhc) h
     ·exact h.elim
    ·exact h.elim
   ·exact h.elim
  ·rename_i n e hd;rw[hd] at hu;split at h
   ·rename_i ti hti;split at h
    ·rename_i b off hx;obtain⟨rfl,h⟩:=h;split at h
     ·rename_i l q h1 h2;obtain⟨hlh,hhc,h⟩:=h;exact Xh (Ry hu (hT _ _ hti) hx h1 h2 hlh hhc) h
     ·exact h.elim
    ·rename_i cs hx;obtain⟨rfl,h⟩:=h;split at h
     ·rename_i l q h1 h2;obtain⟨hn,hlh,hhc,h⟩:=h;exact Xh (S5 hu (hT _ _ hti) hx hn h1 h2 hlh hhc) h
     ·exact h.elim
    ·exact h.elim
   ·exact h.elim
  ·exact h.elim
 ·exact h.elim
theorem Fc (hT:Qw P T) {t:TypeId} {parts:Array (Nat×Operand)} (h:Nv T K t (parts.toList.map fun p=>(p.1,σ.ev p.2))):Zt P ⟨d,.build t parts,ty,pos,aft,gd⟩ σ K:=by
 unfold Nv at h;split at h
 ·rename_i ti hti;split at h
  ·rename_i fs hd;split at h
   ·rename_i r hr;exact Xh (Ib (hT _ _ hti) hd hr) h
   ·exact h.elim
  ·rename_i n e hd;split at h
   ·rename_i te hte;split at h
    ·rename_i r hr;exact Xh (Xrs (hT _ _ hti) hd (hT _ _ hte) hr) h
    ·exact h.elim
   ·exact h.elim
  ·exact h.elim
 ·exact h.elim
theorem X15 (hT:Qw P T) (hle:σ.n0<=σ.n) {bx:Option (Option Nat)} {t:TypeId} {n:Nat} {parts:Array (Nat×Operand)} (h:X1 T σ K bx t n (parts.toList.map fun p=>(p.1,σ.ev p.2))):Zt P ⟨d,.buildSlice t n parts,ty,pos,aft,gd⟩ σ K:=by
 unfold X1 at h;split at h
 ·rename_i si hsi;have hu:=(hT t si hsi).und;split at h
  ·rename_i e hd;rw[hd] at hu;split at h
   ·rename_i te hte;obtain⟨h0,hn,h⟩:=h;split at h
    ·rename_i r hr;split at h
     ·obtain⟨hf,h⟩:=h;exact U8 hle hf (Cg hu (hT _ _ hte) h0 hn _ hr) h
     ·obtain⟨hl,h⟩:=h;exact Xh (X3w hu (hT _ _ hte) h0 hn hr hl) h
    ·exact h.elim
   ·exact h.elim
  ·exact h.elim
 ·exact h.elim
theorem Iu (hT:Qw P T) (hle:σ.n0<=σ.n) {bx:Option (Option Nat)} {t:TypeId} {x y:Operand} (h:Tk T σ K bx t (σ.ev x) (σ.ev y)):Zt P ⟨d,.makeSlice t x y,ty,pos,aft,gd⟩ σ K:=by
 unfold Tk at h;split at h
 ·rename_i si hsi;have hu:=(hT t si hsi).und;split at h
  ·rename_i e hd;rw[hd] at hu;split at h
   ·rename_i te hte;split at h
    ·rename_i k l j c hx hy;obtain⟨h0,h1,h2,h3,h4,h⟩:=h;split at h
     ·obtain⟨hf,h⟩:=h;exact U8 hle hf (Ta hu (hT _ _ hte) h0 _ hx hy h1 h2 h3 h4) h
     ·obtain⟨rfl,h⟩:=h;exact Xh (X0w hu (hT _ _ hte) h0 hx hy h1 h3 h4) h
    ·exact h.elim
   ·exact h.elim
  ·exact h.elim
 ·exact h.elim
theorem X6e {M:Mem} {sz sz':Nat} {els:List (List AV)} {md:Md} {v:Value} (hn:md= .nil∨sz=sz') (h:R M (.sl sz els md) v):R M (.sl sz' els md) v:=by
 rcases hn with rfl|rfl
 ·cases h with
  |nil _ _ a hn hn'=>exact .nil _ _ a hn hn'
  |slice _ _ _ a cap hs hcap hsz hst hc hmd=>exact hmd.elim
 ·exact h
theorem X16 (hT:Qw P T) {t:TypeId} {x:Operand} (h:Iq T σ K t (σ.ev x)):Zt P ⟨d,.call {callee:= .builtin .len,args:= #[x],argTypes:= #[t]},ty,pos,aft,gd⟩ σ K:=by
 unfold Iq at h;split at h
 ·rename_i si hsi;have hu:=(hT t si hsi).und;split at h
  ·rename_i e sz els md hd hx;rw[hd] at hu;exact Xh (X3s hu hx) h
  ·rename_i e b off len fl hd hx;rw[hd] at hu;exact Xh (Cb hu hx) h
  ·rename_i e k m hd hx;rw[hd] at hu;split at h
   ·rename_i e2 sz m2 cs hl;obtain⟨hdm,rfl,h⟩:=h;exact Qo hl hdm (Ci hu hx) (.inl rfl) h
   ·exact h.elim
  ·rename_i s hd hx;rw[hd] at hu;exact Xh (Cc hu hx) h
  ·exact h.elim
 ·exact h.elim
theorem Cn (hT:Qw P T) (hle:σ.n0<=σ.n) {bx vx:Option (Option Nat)} {t u:TypeId} {x y:Operand} (h:L9 T σ K bx vx t u (σ.ev x) (σ.ev y)):Zt P ⟨d,.call {callee:= .builtin .append,args:= #[x,y],argTypes:= #[t,u]},ty,pos,aft,gd⟩ σ K:=by
 unfold L9 at h;split at h
 ·rename_i si ui hsi hui;have ht:=(hT t si hsi).und;have hu:=(hT u ui hui).und;split at h
  ·rename_i e e' hd hd';rw[hd] at ht;rw[hd'] at hu;split at h
   ·rename_i te hte;split at h
    ·rename_i sz els md sz' els' md' hx hy;obtain⟨q1,q2,h0,hb,h63,h⟩:=h;have he:=hT _ _ hte;have rs:∀{needs:List (Nat×Option Res)} {r:AV} {gives:List (Nat×Res)},(∀ρ:Operand->AV,ρ x= .sl te.size els md->ρ y= .sl te.size els' md'->AOk P ⟨d,.call {callee:= .builtin .append,args:= #[x,y],argTypes:= #[t,u]},ty,pos,aft,gd⟩ ρ needs r gives)→
       AOk P ⟨d,.call {callee:= .builtin .append,args:= #[x,y],argTypes:= #[t,u]},ty,pos,aft,gd⟩ σ.ev needs r gives:=by
      classical
      intro needs r gives hall;refine⟨(by intro _ _ h;cases h),fun M N ρ hI hρ hc hf hn hN hg=> ?_⟩;have r1:=hρ x (by simp [Op.operands,Call.operands]);have r2:=hρ y (by simp [Op.operands,Call.operands]);rw[hx] at r1;rw[hy] at r2;have r1':=X6e q1 r1;have r2':=X6e q2 r2;by_cases hxy:x=y
      ·subst hxy;rw[hx] at hy;injection hy with e1 e3 e4
       subst e1;subst e3;subst e4;exact(hall (fun _=> .sl te.size els md) rfl rfl).2 M N ρ hI (fun z hz=>by
        have:z=x:=by simpa [Op.operands,Call.operands] using hz
        subst this;exact r1') hc hf hn hN hg
      ·exact(hall (fun z=>if z=x then .sl te.size els md else .sl te.size els' md') (by simp) (by simp [Ne.symm hxy])).2 M N ρ hI (fun z hz=>by
        have:z=x∨z=y:=by simpa [Op.operands,Call.operands] using hz
        rcases this with rfl|rfl
        ·simpa using r1'
        ·simpa [Ne.symm hxy] using r2') hc hf hn hN hg
     split at h
     ·rename_i k;split at h
      ·rename_i e2 sz2 m hl;obtain⟨hdm,rfl,rfl,rfl,h⟩:=h;exact Qo hl hdm (rs fun ρ h1 h2=>Pb ht hu he h0 h1 h2 hb h63) (.inr ⟨_,rfl⟩) h
      ·exact h.elim
     ·split at h
      ·obtain⟨hne,hf,h⟩:=h;exact U8 hle hf (rs fun ρ h1 h2=>Un ht hu he h0 _ h1 (.inr rfl) h2 hne hb h63) h
      ·split at h
       ·obtain⟨rfl,hne,hf,h⟩:=h;exact U8 hle hf (Y46 ht hu he h0 _ hx (.inr rfl) hy q2 hne (by simpa using hb) (by simpa using h63)) h
       by_cases hnil:els'=[]
       ·subst hnil;refine Xh (r:= .sl te.size els .full) (rs fun ρ h1 h2=>Q8 ht hu he h1 h2) ?_;simpa using h
       ·have hie:els'.isEmpty=false:=by simpa using hnil
        rw[if_neg (by simp [hie])] at h;exact Xh (rs fun ρ h1 h2=>L8 ht hu he h0 h1 (.inr rfl) h2 hb h63) h
     ·split at h
      ·obtain⟨hne,hf,h⟩:=h;exact U8 hle hf (rs fun ρ h1 h2=>Un ht hu he h0 _ h1 (.inl rfl) h2 hne hb h63) h
      ·split at h
       ·obtain⟨rfl,hne,hf,h⟩:=h;exact U8 hle hf (Y46 ht hu he h0 _ hx (.inl rfl) hy q2 hne (by simpa using hb) (by simpa using h63)) h
       exact Xh (rs fun ρ h1 h2=>L8 ht hu he h0 h1 (.inl rfl) h2 hb h63) h
     ·obtain⟨rfl,h⟩:=h;exact Xh (rs fun ρ h1 h2=>Q8 ht hu he h1 h2) h
    ·rename_i k m sz' els' md' hx hy;have he:=hT _ _ hte;split at h
     ·rename_i e2 sz2 m2 cs hl;obtain⟨hdm,rfl,hs2,rfl,hsz,h0,hb,h63,h⟩:=h;rw[hs2] at hl;exact Qo hl hdm (Wa ht hu he h0 hx hy hsz hb h63) (.inr ⟨_,rfl⟩) h
     ·exact h.elim
    ·rename_i k off len fl k' off' len' fl' hx hy;exact h.elim
    ·rename_i sz els k off len fl hx hy;have he:=hT _ _ hte;split at h
     ·rename_i e2 cs hl;obtain⟨hdm,rfl,h0,hf,hb,h63,h⟩:=h;exact Qo hl hdm (Y5s ht hu he h0 hx hy hf hb h63) (.inl rfl) h
     ·exact h.elim
    ·exact h.elim
   ·exact h.elim
  ·rename_i e kn hd hd';rw[hd] at ht;rw[hd'] at hu;split at h
   ·rename_i te hte;have he:=hT _ _ hte;split at h
    ·rename_i sz els k kq c hx hy;rcases h with ⟨rfl,h⟩|⟨hc,rfl,h0,hb,h63,h⟩
     ·exact Xh (Mi ht hu he hx hy) h
     ·split at h
      ·rename_i e2 sz2 m hl;obtain⟨hdm,rfl,hs2,rfl,h⟩:=h;rw[hs2] at hl;exact Qo hl hdm (Ydq ht hu he h0 hx hy hc hb h63) (.inr ⟨_,rfl⟩) h
      ·exact h.elim
    ·exact h.elim
   ·exact h.elim
  ·exact h.elim
 ·exact h.elim
theorem X45 (hT:Qw P T) (hle:σ.n0<=σ.n) {bx:List (Nat×Option Nat)}:∀{o:Oper},Uc P T bx σ K o.dst o.op->Zt P o σ K:=by
 rintro⟨d,op,ty,pos,aft,gd⟩ h;dsimp only at h;cases op<;>simp only[Uc] at h<;>try exact h.elim
 case move x=>exact Xh (X0s x) h
 case assign x=>exact Xh (F3 x) h
 case nilCheck x=>
  generalize hx:σ.ev x=v at h;cases v<;>simp only[Ir] at h
  case ptr k off=>exact Xh (C0 hx) h
  case ref cs=>exact Xh (C5 hx) h
 case pick c x y=>
  split at h
  ·rename_i b hc;exact Xh (X0t c x y hc) h
  ·exact h.elim
 case alloc t=>
  split at h
  ·rename_i ti hti;exact Nw hle h.1 (I6 (hT _ _ hti) _) h.2
  ·exact h.elim
 case box t x=>
  split at h
  ·rename_i xs hp;exact Nw hle h.1 (X3r hp _) h.2
  ·exact h.elim
 case build t parts=>exact Fc hT h
 case buildSlice t n parts=>exact X15 hT hle h
 case load t x=>exact Xvz hT h
 case store t x y=>exact F9 hT h
 case binOp op t x y yt=>exact X14 hT h
 case unOp op t x=>exact X44 h
 case convert s t x=>exact It hT h
 case sliceToArrayPointer t x=>
  split at h
  ·rename_i si hsi;have hu:=(hT t si hsi).und;split at h
   ·rename_i n e sz els md hd hx;exact h.elim
   ·exact h.elim
  ·exact h.elim
 case makeInterface t x=>
  split at h
  ·rename_i ti hti;exact Xh (I3 (hT _ _ hti).und h.1) h.2
  ·exact h.elim
 case makeFunc f first caps=>
  obtain⟨rfl,h⟩:=h;exact Xh X0u h
 case makeSlice t x y=>exact Iu hT hle h
 case slice t x lo hi mx=>exact Yex hT h
 case fieldAddr s x f=>exact Tm hT h
 case field s x f=>exact Cm hT h
 case indexAddr t x y=>exact X13 hT h
 case index t x y=>exact Yew hT h
 case extract x i=>
  split at h
  ·rename_i l hx;split at h
   ·rename_i r hi;exact Xh (C7 hx hi) h
   ·exact h.elim
  ·exact h.elim
 case typeAssert x xt u ok=>
  split at h
  ·rename_i ti t y hti hx;obtain⟨h1,h⟩:=h;split at h
   ·rename_i htu;subst htu;exact Xh (Pa (hT _ _ hti).und h1 hx) h
   ·rename_i htu;obtain⟨rfl,h⟩:=h;exact Xh (Rr (hT _ _ hti) h1 hx htu) h
  ·exact h.elim
 case lookup t x y ok=>
  obtain⟨rfl,ht,h⟩:=h;unfold Xtt at h;split at h
  ·rename_i b a hx hy;obtain⟨k,l,h1,h2,h3⟩:=h;exact⟨_,_,_,Xxg ht hx hy,⟨h1,trivial⟩,trivial,fun z hz=>by
    rw[ez] at hz;subst hz;exact⟨h2,by simp⟩,h3⟩
  ·exact h.elim
 case mapUpdate t x y z=>
  obtain⟨ht,h⟩:=h;unfold Xtu at h;split at h
  ·rename_i b a v hx hy hz;obtain⟨k,l,h1,h2,h3⟩:=h;exact⟨_,_,_,Xxi ht hx hy hz,⟨h1,trivial⟩,⟨h2,trivial⟩,fun z hz=>by
    rw[ez] at hz;subst hz;exact⟨h2,by simp⟩,h3⟩
  ·exact h.elim
 case call c=>
  obtain⟨callee,args,ats⟩:=c;have one:∀{α:Type} (l:Array α) (x:α),l.toList=[x]->l= #[x]:=fun l x h=>by apply i8;simpa using h
  have two:∀{α:Type} (l:Array α) (x y:α),l.toList=[x,y]->l= #[x,y]:=fun l x y h=>by apply i8;simpa using h
  dsimp only at h;split at h
  ·rename_i x t ha ht;rw[one _ _ ha,one _ _ ht];exact X16 hT h
  ·rename_i x t ha ht;obtain⟨h1,h⟩:=h;rw[one _ _ ha,one _ _ ht];split at h1
   ·rename_i si hsi;have hu:=(hT t si hsi).und;split at h1
    ·rename_i e hd;rw[hd] at hu;split at h
     ·rename_i sz els hx;exact Xh (X3t hu hx) h
     ·rename_i sz els hx;exact Xh (Cd hu hx) h
     ·exact h.elim
    ·exact h1.elim
   ·exact h1.elim
  ·rename_i x y t u ha ht;rw[two _ _ _ ha,two _ _ _ ht];exact Cn hT hle h
  ·rename_i x y t u ha ht;exact h.elim
  ·rename_i x y t u ha ht;rw[two _ _ _ ha,two _ _ _ ht];split at h
   ·rename_i k a j b hx hy;exact Xh (X3u hx hy) h
   ·exact h.elim
  ·rename_i x y s1 s2 ha hat;rw[two _ _ _ ha,two _ _ _ hat];split at h
   ·rename_i k a j b hx hy;exact Xh (Xyx hx hy) h
   ·exact h.elim
  ·rename_i x y z s1 s2 s3 ha hat;have three:∀{α:Type} (l:Array α) (x y z:α),l.toList=[x,y,z]->l= #[x,y,z]:=fun l x y z h=>by apply i8;simpa using h
   rw[three _ _ _ _ ha,three _ _ _ _ hat];split at h
   ·rename_i k a j b i c hx hy hz;exact Xh (Ycl hx hy hz) h
   ·exact h.elim
  ·rename_i x ats';split at h
   ·rename_i f caps hx;obtain⟨⟨fn,hf,hb,hn⟩,needs,r,gives,hc,h1,h2,h3,h4⟩:=h;exact⟨needs,r,gives,X0v hf hb hn hx hc,h1,h2,h3,h4⟩
   ·rename_i l hx;obtain⟨needs,r,gives,hc,h1,h2,h3,h4⟩:=h;exact⟨needs,r,gives,Jn hx hc,h1,h2,h3,h4⟩
   ·exact h.elim
  ·exact h.elim
end
def Pg (quiet:Bool) (R:AState->Prop) (σ:AState) (d:Option Tmp) (r:AV) (g:List (Nat×Res)):Prop:=(quiet=false∨g=[])∧R (σ.next d r g)
theorem X46 (R:AState->Prop) (σ:AState) (d:Option Tmp) (r:AV) (g:List (Nat×Res)):Pg false R σ d r g=R (σ.next d r g):=by simp [Pg]
theorem X47 (R:AState->Prop) (σ:AState) (d:Option Tmp) (r:AV):Pg true R σ d r []=R (σ.next d r []):=by simp [Pg]
def Xp0 (P:Program) (T:TypeId->Option TI) (bx:List (Nat×Option Nat)) (quiet:Bool) (ops:Array Oper) (K:AState->Prop):List Oper->AState->Prop
 |[],σ=>K σ
 |o::l,σ=>match Zw ops σ o with
  |some true=>Uc P T bx σ (Pg quiet (Xp0 P T bx quiet ops K l) σ o.dst) o.dst o.op
  |some false=>Xp0 P T bx quiet ops K l (σ.next o.dst (.tup []) [])
  |none=>False
theorem Xoj {σ:AState} {d:Option Tmp} {x:AV} {g:List (Nat×Res)} (h:σ.n0<=σ.n):(σ.next d x g).n0<=(σ.next d x g).n:=by rw[Y7e,N8];exact h
theorem Xow {P:Program} {T:TypeId->Option TI} (hT:Qw P T) {bx:List (Nat×Option Nat)} {quiet:Bool} {ops:Array Oper} {K:AState->Prop} {WR:Nat->Nat->Prop} (hW:quiet=false->∀i k,WR i k):∀(l:List Oper) (i:Nat) (σ:AState),σ.n0<=σ.n→
  Xp0 P T bx quiet ops K l σ->X0o P ops RD1 WR K i l σ
 |[],_,_,_,h=>h
 |o::l,i,σ,hle,h=>by
  unfold Xp0 at h;split at h
  ·rename_i hw;obtain⟨needs,r,g,h1,h2,h3,h4,h5,h6⟩:=X45 hT hle h;refine⟨r,g,.inl ⟨hw,needs,h1,h2,h3,fun x hx=>(h4 x hx).1,fun _ _=>trivial,fun x hx=> ?_⟩,Xow hT hW l (i+1) _ (Xoj hle) h6⟩;rcases h5 with h5|h5
   ·exact hW h5 i x.1
   ·subst h5;cases hx
  ·rename_i hw;exact⟨.tup [],[],.inr ⟨hw,rfl,rfl⟩,Xow hT hW l (i+1) _ (Xoj hle) h⟩
  ·exact h.elim
theorem Xn {P:Program} {T:TypeId->Option TI} (hT:Qw P T) (bx:List (Nat×Option Nat)) {Q:Exit->AState->Prop} {σ:AState} {id:Nat} {l:List Oper} (h:Xp0 P T bx false l.toArray (Q .normal) l σ):AWp P (.region id l.toArray false) Q σ:=fun ro n M a hI hs=>
 F2 (Xow hT (fun _ _ _=>trivial) l 0 σ hs.le h) ro n M a hI hs
theorem Xqf {P:Program} {T:TypeId->Option TI} (hT:Qw P T) {Q:Exit->AState->Prop} {σ:AState} {id:Nat} {l:List Oper} (hm:P.follows .mixedOrders=true) (hB:Region.lexB .any l.toArray=true)
  (h:Xp0 P T [] true l.toArray (Q .normal) l σ):AWp P (.region id l.toArray true) Q σ:=fun ro n M a hI hs=>
 Me hm hB (Xow hT (fun h=>by cases h) l 0 σ hs.le h) ro n M a hI hs
def X88 (md:Region.Mode) (ops:Array Oper):List Oper->List (List Nat)->List (List Nat)
 |[],t=>t
 |o::l,t=>X88 md ops l (t++[o.after.toList.flatMap fun e=>if Region.binds md e then e.on::t.getD e.on [] else[]])
def X6f (md:Region.Mode) (ops:Array Oper):List (List Nat):=X88 md ops ops.toList []
theorem Iw {md:Region.Mode} {ops:Array Oper}:∀(l:List Oper) (t:List (List Nat)),(∀j,l[j]? =ops[t.length+j]?)->(∀j i,i∈t.getD j []->Dep md ops j i)->∀j i,i∈(X88 md ops l t).getD j []->Dep md ops j i
 |[],_,_,h=>h
 |o::l,t,hl,h=>by
  have h0:ops[t.length]? =some o:=by simpa using(hl 0).symm
  refine Iw l _ (fun j=> ?_) fun j i hi=> ?_
  ·have:=hl (j+1);simp only[List.getElem?_cons_succ] at this;rw[this,ac]
   congr 1
   simp only[List.length_cons,List.length_nil];omega
  ·rcases Nat.lt_trichotomy j t.length with hj|hj|hj
   ·refine h j i ?_;rwa [af,ay hj,<- af] at hi
   ·subst hj;rw[af,au (Nat.le_refl _)] at hi;simp only[Nat.sub_self,List.getElem?_cons_zero,Option.getD_some,io] at hi;obtain⟨e,he,hi⟩:=hi;split at hi
    ·rename_i hb;rcases cn.1 hi with rfl|hi
     ·exact .one h0 (by simpa using he) hb rfl
     ·exact .more (.one h0 (by simpa using he) hb rfl) (h _ _ hi)
    ·cases hi
   ·rw[af,dn (by simp;omega)] at hi;cases hi
theorem Sa {md:Region.Mode} {ops:Array Oper} {j i:Nat} (h:i∈(X6f md ops).getD j []):Dep md ops j i:=
 Iw ops.toList [] (fun j=>by simp) (fun j i hi=>by simp at hi) j i h
def X17 (n:Nat) (dep:List (List Nat)) (rd wr:List (List Nat)):Bool:=
 (List.range n).all fun i=>(wr.getD i []).isEmpty||(List.range n).all fun j=>i==j||(dep.getD i []).contains j||(dep.getD j []).contains i||
  (wr.getD i []).all fun x=> !(rd.getD j []).contains x&& !(wr.getD j []).contains x
def X7q (n:Nat) (l:List (List Nat)):Nat->Nat->Prop:=fun i k=>∃x,x∈l.getD i []∧k=n+x
theorem X48 {md:Region.Mode} {ops:Array Oper} {rd wr:List (List Nat)} (n:Nat) (h1:rd.length<=ops.size) (h2:wr.length<=ops.size) (h:X17 ops.size (X6f md ops) rd wr=true):X5b md ops (X7q n rd) (X7q n wr):=by
 rintro i j k hij d1 d2 ⟨x,hx,rfl⟩;have lt:∀{l:List (List Nat)} {i x:Nat},x∈l.getD i []->i<l.length:=by
  intro l i x hx;rcases Nat.lt_or_ge i l.length with h|h
  ·exact h
  ·rw[af,dn h] at hx;cases hx
 have hi:=Nat.lt_of_lt_of_le (lt hx) h2;have key:∀y,j<ops.size->y∈wr.getD i []->(rd.getD j []).contains y=false∧(wr.getD j []).contains y=false:=by
  intro y hj hy;have a:=az.1 h i (dq.2 hi);simp only[ck] at a;rcases a with a|a
  ·rw[List.isEmpty_iff] at a;rw[a] at hy;cases hy
  ·have b:=az.1 a j (dq.2 hj);simp only[ck] at b;rcases b with ((b|b)|b)|b
   ·exact(hij (by simpa using b)).elim
   ·exact(d1 (Sa (by simpa using b))).elim
   ·exact(d2 (Sa (by simpa using b))).elim
   ·have c:=az.1 b y hy;simpa [ad,c9] using c
 constructor
 ·rintro⟨z,hz,e⟩;have:=(key x (Nat.lt_of_lt_of_le (lt hz) h1) hx).1;have e':x=z:=by omega
  subst e';rw[c8.2 hz] at this;cases this
 ·rintro⟨z,hz,e⟩;have:=(key x (Nat.lt_of_lt_of_le (lt hz) h2) hx).2;have e':x=z:=by omega
  subst e';rw[c8.2 hz] at this;cases this
def Wt (rd:List Nat):Nat->List (Option Res)->List (Option Res)
 | _,[]=>[]
 |i,r::l=>(if rd.contains i then r else some .dead)::Wt rd (i+1) l
theorem We (rd:List Nat):∀(l:List (Option Res)) (i:Nat),(Wt rd i l).length=l.length
 |[],_=>rfl
 | _::l,i=>by simp [Wt,We rd l (i+1)]
theorem Nx (rd:List Nat):∀(l:List (Option Res)) (i j:Nat),(Wt rd i l)[j]? =(l[j]?).map fun r=>if rd.contains (i+j) then r else some .dead
 |[],_,_=>by simp [Wt]
 |r::l,i,0=>by simp [Wt]
 |r::l,i,j+1=>by
  simp only[Wt,List.getElem?_cons_succ];rw[Nx rd l (i+1) j];have:i+1+j=i+(j+1):=by omega
  rw[this]
def AState.seen (σ:AState) (rd:List Nat):AState:={σ with lo:=Wt rd 0 σ.lo,out:=fun _=>some .dead}
theorem Ix {σ:AState} {rd:List Nat} {k:Nat} {q:Option Res} (hd:σ.dom k) (h:(σ.seen rd).look k=q) (hq:q≠some .dead):σ.look k=q∧∃x,x∈rd∧k=σ.n+x:=by
 have e:(σ.seen rd).look k=if k<σ.n0 then some .dead else((Wt rd 0 σ.lo)[k - σ.n]?).join:=rfl
 rw[e] at h;simp only[AState.look];by_cases hk:k<σ.n0
 ·rw[if_pos hk] at h;exact(hq h.symm).elim
 ·rw[if_neg hk] at h;rw[if_neg hk];rcases hd with hd|⟨hd1,hd2⟩
  ·exact(hk hd).elim
  ·rw[Nx] at h;have hlt:k - σ.n<σ.lo.length:=by omega
   rw[ah hlt] at h⊢;simp only[Option.map_some,Option.join_some,Nat.zero_add] at h⊢;split at h
   ·rename_i hc;exact⟨h,k - σ.n,c8.1 hc,by omega⟩
   ·exact(hq h.symm).elim
def Lt (wr:List Nat) (R:AState->Prop) (σ:AState) (d:Option Tmp) (r:AV) (g:List (Nat×Res)):Prop:=(∀y,y∈g->∃x,x∈wr∧y.1=σ.n+x)∧R (σ.next d r g)
theorem Iy (wr:List Nat) (R:AState->Prop) (σ:AState) (d:Option Tmp) (r:AV):Lt wr R σ d r []=R (σ.next d r []):=by simp [Lt]
theorem Iz (wr:List Nat) (R:AState->Prop) (σ:AState) (d:Option Tmp) (r:AV) (x:Nat) (q:Res):Lt wr R σ d r [(σ.n+x,q)]=(wr.contains x=true∧R (σ.next d r [(σ.n+x,q)])):=by
 simp only[Lt,ez,forall_eq,c8]
 congr 1
 apply propext;constructor
 ·rintro⟨y,hy,e⟩;have:x=y:=by omega
  subst this;exact hy
 ·exact fun h=>⟨x,h,rfl⟩
def Qy (P:Program) (T:TypeId->Option TI) (bx:List (Nat×Option Nat)) (ops:Array Oper) (K:AState->Prop):List (List Nat)->List (List Nat)->List Oper->AState->Prop
 | _,_,[],σ=>K σ
 |rd,wr,o::l,σ=>match Zw ops σ o with
  |some true=>Uc P T bx (σ.seen rd.head!) (Lt wr.head! (Qy P T bx ops K rd.tail wr.tail l) σ o.dst) o.dst o.op
  |some false=>Qy P T bx ops K rd.tail wr.tail l (σ.next o.dst (.tup []) [])
  |none=>False
theorem Ka {P:Program} {T:TypeId->Option TI} (hT:Qw P T) {bx:List (Nat×Option Nat)} {ops:Array Oper} {K:AState->Prop} {rd wr:List (List Nat)} {n:Nat}:∀(l:List Oper) (i:Nat) (σ:AState),σ.n=n->σ.n0<=σ.n→
  Qy P T bx ops K (rd.drop i) (wr.drop i) l σ->X0o P ops (X7q n rd) (X7q n wr) K i l σ
 |[],_,_,_,_,h=>by simp only[Qy] at h;exact h
 |o::l,i,σ,hn,hle,h=>by
  have hd:∀(x:List (List Nat)),(x.drop i).head! =x.getD i []:=fun x=>by
   rw[af,<- ie];cases x.drop i<;>rfl
  have ht:∀(x:List (List Nat)),(x.drop i).tail=x.drop (i+1):=fun x=>by simp
  unfold Qy at h;rw[hd,hd,ht,ht] at h;split at h
  ·rename_i hw;obtain⟨needs,r,g,h1,h2,h3,h4,h5,h6⟩:=X45 hT (σ:=σ.seen (rd.getD i [])) (by exact hle) h;have hdom:∀k,(σ.seen (rd.getD i [])).dom k->σ.dom k:=fun k hk=>by
    simpa [AState.dom,AState.seen,We] using hk
   have hsee:∀x,x∈needs->σ.look x.1=x.2∧∃y,y∈rd.getD i []∧x.1=σ.n+y:=fun x hx=>
    Ix (hdom _ (h4 x hx).1) (Q5.1 h2 x hx) (h4 x hx).2
   refine⟨r,g,.inl ⟨hw,needs,h1,Q5.2 fun x hx=>(hsee x hx).1,Yn.2 fun x hx=>hdom _ (Yn.1 h3 x hx),fun x hx=>hdom _ (h4 x hx).1,fun x hx=> ?_,fun x hx=> ?_⟩,Ka hT l (i+1) _ (by rw[N8];exact hn) (Xoj hle) h6⟩
   ·obtain⟨y,hy,e⟩:=(hsee x hx).2;exact⟨y,hy,by rw[e,hn]⟩
   ·obtain⟨y,hy,e⟩:=h5 x hx;exact⟨y,hy,by rw[e,hn]⟩
  ·rename_i hw;exact⟨.tup [],[],.inr ⟨hw,rfl,rfl⟩,Ka hT l (i+1) _ (by rw[N8];exact hn) (Xoj hle) h⟩
  ·exact h.elim
theorem Ny {P:Program} {T:TypeId->Option TI} (hT:Qw P T) (bx:List (Nat×Option Nat)) (rd wr:List (List Nat)) {Q:Exit->AState->Prop} {σ:AState} {id:Nat} {l:List Oper} (hm:P.follows .mixedOrders=true) (hB:Region.lexB .any l.toArray=true)
  (h1:rd.length<=l.toArray.size) (h2:wr.length<=l.toArray.size) (hD:X17 l.toArray.size (X6f .any l.toArray) rd wr=true)
  (h:Qy P T bx l.toArray (Q .normal) rd wr l σ):AWp P (.region id l.toArray true) Q σ:=fun ro n M a hI hs=>
 Ub hm hB (X48 σ.n h1 h2 hD) (Ka hT l 0 σ rfl hs.le h) ro n M a hI hs
def FdT (lst:Bool) (R:AState->Prop) (σ:AState) (d:Option Tmp) (r:AV) (g:List (Nat×Res)):Prop:=(lst=true∨g=[])∧R (σ.next d r g)
theorem X49 (R:AState->Prop) (σ:AState) (d:Option Tmp) (r:AV) (g:List (Nat×Res)):FdT true R σ d r g=R (σ.next d r g):=by simp [FdT]
theorem J0 (b:Bool) (R:AState->Prop) (σ:AState) (d:Option Tmp) (r:AV):FdT b R σ d r []=R (σ.next d r []):=by simp [FdT]
def Tp (P:Program) (T:TypeId->Option TI) (bx:List (Nat×Option Nat)) (ops:Array Oper) (lst:Nat) (anc:List Nat) (K:AState->Prop):Nat->List Oper->AState->Prop
 | _,[],σ=>K σ
 |i,o::l,σ=>match Zw ops σ o with
  |some true=>Uc P T bx (if (i==lst||anc.contains i)=true then σ else σ.seen []) (FdT (i==lst) (Tp P T bx ops lst anc K (i+1) l) σ o.dst) o.dst o.op
  |some false=>Tp P T bx ops lst anc K (i+1) l (σ.next o.dst (.tup []) [])
  |none=>False
def RDT (lst:Nat) (anc:List Nat):Nat->Nat->Prop:=fun i _=>i=lst∨i∈anc
def WRT (lst:Nat):Nat->Nat->Prop:=fun i _=>i=lst
theorem Xct {md:Region.Mode} {ops:Array Oper} {lst:Nat} {anc:List Nat} (h:(anc.all fun x=>((X6f md ops).getD lst []).contains x)=true):X5b md ops (RDT lst anc) (WRT lst):=by
 rintro i j k hij d1 d2 rfl;refine⟨?_,fun h'=>hij h'.symm⟩;rintro(h'|h')
 ·exact hij h'.symm
 ·exact d1 (Sa (by simpa using az.1 h j h'))
theorem Xas {P:Program} {T:TypeId->Option TI} (hT:Qw P T) {bx:List (Nat×Option Nat)} {ops:Array Oper} {K:AState->Prop} {lst:Nat} {anc:List Nat}:∀(l:List Oper) (i:Nat) (σ:AState),σ.n0<=σ.n→
  Tp P T bx ops lst anc K i l σ->X0o P ops (RDT lst anc) (WRT lst) K i l σ
 |[],_,_,_,h=>by simp only[Tp] at h;exact h
 |o::l,i,σ,hle,h=>by
  unfold Tp at h;split at h
  ·rename_i hw;by_cases hr:(i==lst||anc.contains i)=true
   ·rw[if_pos hr] at h;obtain⟨needs,r,g,h1,h2,h3,h4,h5,h6⟩:=X45 hT hle h;have hrd:i=lst∨i∈anc:=by
     rw[ck] at hr;rcases hr with hr|hr
     ·exact .inl (by simpa using hr)
     ·exact .inr (by simpa using hr)
    refine⟨r,g,.inl ⟨hw,needs,h1,h2,h3,fun x hx=>(h4 x hx).1,fun _ _=>hrd,fun x hx=> ?_⟩,Xas hT l (i+1) _ (Xoj hle) h6⟩;rcases h5 with h5|h5
    ·show i=lst;simpa using h5
    ·subst h5;cases hx
   ·rw[if_neg hr] at h;obtain⟨needs,r,g,h1,h2,h3,h4,h5,h6⟩:=X45 hT (σ:=σ.seen []) (by exact hle) h;have hdom:∀k,(σ.seen []).dom k->σ.dom k:=fun k hk=>by
     simpa [AState.dom,AState.seen,We] using hk
    have hnone:∀x,x∈needs->False:=fun x hx=>by
     obtain⟨_,y,hy,_⟩:=Ix (hdom _ (h4 x hx).1) (Q5.1 h2 x hx) (h4 x hx).2;cases hy
    have hg:g=[]:=by
     rcases h5 with h5|h5
     ·exfalso;apply hr;rw[h5];rfl
     ·exact h5
    refine⟨r,g,.inl ⟨hw,needs,h1,Q5.2 fun x hx=>(hnone x hx).elim,Yn.2 fun x hx=>hdom _ (Yn.1 h3 x hx),fun x hx=>(hnone x hx).elim,fun x hx=>(hnone x hx).elim,fun x hx=> ?_⟩,Xas hT l (i+1) _ (Xoj hle) h6⟩;subst hg;cases hx
  ·rename_i hw;exact⟨.tup [],[],.inr ⟨hw,rfl,rfl⟩,Xas hT l (i+1) _ (Xoj hle) h⟩
  ·exact h.elim
theorem Xc0 {P:Program} {T:TypeId->Option TI} (hT:Qw P T) (bx:List (Nat×Option Nat)) (lst:Nat) (anc:List Nat) {Q:Exit->AState->Prop} {σ:AState} {id:Nat} {l:List Oper} (hm:P.follows .mixedOrders=true) (hB:Region.lexB .any l.toArray=true)
  (hD:(anc.all fun x=>((X6f .any l.toArray).getD lst []).contains x)=true)
  (h:Tp P T bx l.toArray lst anc (Q .normal) 0 l σ):AWp P (.region id l.toArray true) Q σ:=fun ro n M a hI hs=>
 Ub hm hB (Xct hD) (Xas hT l 0 σ hs.le h) ro n M a hI hs
end Go.VS
