/-
 The value-semantics layer: a local box is written no more; what resources outside have of it is read anew too.
-/
import Derived.Test.YtjgbbjooeibppaaZVsBits
namespace Go.VS
set_option linter.unusedVariables false
set_option linter.unusedSimpArgs false
open Go
def FzM (k sz:Nat) (cs:List AV) (x y:AV):Prop:=Fz k sz cs x y∨∃(sz':Nat) (els els':List (List AV)) (md:Md),x= .sl sz' els md∧y= .sl sz' els' md∧els.length=els'.length∧
 (∀(i:Nat) (r r':List AV),els[i]? =some r→els'[i]? =some r'→fzL k sz cs r r')
theorem R.fzM {M:Mem} (hI:Inv M) {k:Nat} {e:TypeId} {cs:List AV} (hk:M.st k=some (.box e cs)) {sz:Nat} {x y:AV} {v:Value} (h:R M x v) (hz:FzM k sz cs x y):R (M.freeze k cs.length) y v:=by
 rcases hz with hz|⟨sz',els,els',md,rfl,rfl,hl,hr⟩
 ·exact h.fz hI hk hz
 ·have ex:=Ext.freeze M (n:=cs.length) hk
  cases h with
  |nil _ _ a hn hn'=>
   have:els'=[]:=List.eq_nil_of_length_eq_zero (by simpa using hl.symm)
   subst this
   exact .nil _ _ a hn hn'
  |slice _ _ _ a cap hs hcap hsz hst hc hmd=>
   have hmd':X3k (M.freeze k cs.length) md sz' els'.length a cap:=by
    rw[← hl]
    cases md with
    |own k'=>
     obtain⟨e',m,h1,h2,h3⟩:=hmd
     have hne:k'≠k:=by
      rintro rfl
      rw[hk] at h1;cases h1
     exact⟨e',m,by simp only[Mem.freeze,Xw,if_neg hne];exact h1,h2,h3⟩
    | _=>exact hmd
   rw[hl]
   refine .slice sz' els' md a cap hs (by rw[← hl];exact hcap) (fun row hrow=> ?_) (fun o ho=>ex.stb _ _ (hst o (by rw[hl];exact ho))) (fun i j row c v hi hj hv=> ?_) hmd'
   ·obtain⟨i,hi⟩:=List.getElem?_of_mem hrow
    have hil:i<els.length:=by rw[hl];exact(List.getElem?_eq_some_iff.1 hi).1
    rw[← (Xi3 (hr i _ _ (List.getElem?_eq_getElem hil) hi)).1]
    exact hsz _ (List.getElem_mem hil)
   ·have hil:i<els.length:=by rw[hl];exact(List.getElem?_eq_some_iff.1 hi).1
    have e1:=List.getElem?_eq_getElem hil
    have hq:=Xi3 (hr i _ _ e1 hi)
    have hjl:j<(els[i]).length:=by rw[hq.1];exact(List.getElem?_eq_some_iff.1 hj).1
    have e2:=List.getElem?_eq_getElem hjl
    refine(hc i j _ _ v e1 e2 ?_).fz hI hk (hq.2 j _ _ e2 hj)
    rw[← ex.cell]
    ·exact hv
    ·refine hst _ ?_
     have h1:=hsz _ (List.getElem_mem hil)
     have h2:(i+1)*sz'≤els.length*sz':=Nat.mul_le_mul_right _ hil
     rw[Nat.succ_mul] at h2;omega
theorem Y8a {σ:AState} {i:Nat} {e:TypeId} {cs:List AV} (sz:Nat) {fr':List AV} {lo1:List (Option Res)} {out':Nat→Option Res} (hi:σ.lo[i]? =some (some (.box e cs))) (hf:fzL (σ.n+i) sz cs σ.fr fr')
  (hr:Xnl (σ.n+i) sz cs σ.lo lo1) (ho:∀j,j<σ.n0→σ.out j=out' j∨∃e l l',σ.out j=some (.box e l)∧out' j=some (.box e l')∧l.length=l'.length∧∀(p:Nat) (x y:AV),l[p]? =some x→l'[p]? =some y→FzM (σ.n+i) sz cs x y):
  σ.le {σ with fr:=fr',lo:=lo1.set i (some .dead),out:=out'}:=fun M a hI hs=>by
 classical
 obtain⟨hl1,hg1⟩:=Xlh hr
 have hlt:i<σ.lo.length:=(List.getElem?_eq_some_iff.1 hi).1
 have hil:i<lo1.length:=by rw[hl1];exact hlt
 have hl:(lo1.set i (some Res.dead)).length=σ.lo.length:=by simp [hl1]
 have hd:(lo1.set i (some Res.dead))[i]? =some (some .dead):=by rw[List.getElem?_set_self hil]
 have hg:∀j,j≠i→Xk8 (σ.n+i) sz cs (σ.lo[j]?).join ((lo1.set i (some Res.dead))[j]?).join:=fun j hj=>by
  rw[List.getElem?_set_ne (Ne.symm hj)];exact hg1 j
 generalize lo1.set i (some Res.dead)=lo' at hl hd hg⊢
 have hk:M.st (σ.n+i)=some (.box e cs):=by
  rw[hs.st (σ.n+i) (Xb σ hlt),X6 σ hs.le,hi];rfl
 have ex:=Ext.freeze M (n:=cs.length) hk
 have hle:=hs.le
 let s:Nat→Option Res:=fun j=>if σ.n≤j∧j<σ.n+σ.lo.length then(lo'[j - σ.n]?).join else if j<σ.n0 then out' j else(M.freeze (σ.n+i) cs.length).st j
 have box:∀(j:Nat) (x y:Option Res),M.st j=x→s j=y→(M.freeze (σ.n+i) cs.length).st j=M.st j→(x=y∨∃e l l',x=some (.box e l)∧y=some (.box e l')∧l.length=l'.length∧∀(p:Nat) (x y:AV),l[p]? =some x→l'[p]? =some y→FzM (σ.n+i) sz cs x y)→
   (M.freeze (σ.n+i) cs.length).st j=s j∨∃e cs1 cs',(M.freeze (σ.n+i) cs.length).st j=some (.box e cs1)∧s j=some (.box e cs')∧cs1.length=cs'.length∧
   ∀vs:Array Value,(M.freeze (σ.n+i) cs.length).w.heap[(M.freeze (σ.n+i) cs.length).β j]? =some (.cells vs e (0,0))→∀(p:Nat) (c:AV) (v:Value),cs'[p]? =some c→vs[p]? =some v→R (M.freeze (σ.n+i) cs.length) c v:=fun j x y hx hy hst hz=>by
  rcases hz with h1|⟨e1,l,l',h1,h2,h3,h4⟩
  ·left
   rw[hst,hx,hy,h1]
  ·right
   refine⟨e1,l,l',by rw[hst,hx,h1],by rw[hy,h2],h3,fun vs hvs p c v hp hv=> ?_⟩
   have hM:M.st j=some (.box e1 l):=by rw[hx,h1]
   obtain⟨vs0,g1,g2,g3,g4,g5⟩:=hI.box _ _ _ hM
   have hvs':M.w.heap[M.β j]? =some (.cells vs e1 (0,0)):=hvs
   rw[g1] at hvs'
   injection hvs' with hvs';injection hvs' with hvs'
   subst hvs'
   have hpl:p<l.length:=by rw[h3];exact(List.getElem?_eq_some_iff.1 hp).1
   have e1:=List.getElem?_eq_getElem hpl
   exact(g4 p _ v e1 hv).fzM hI hk (h4 p _ _ e1 hp)
 have key:=Inv.refill (hI.freeze hk) (s:=s) fun j=>by
  by_cases hj:σ.n≤j∧j<σ.n+σ.lo.length
  ·obtain⟨q,rfl⟩:∃q,j=σ.n+q:=⟨j - σ.n,by omega⟩
   have hs':s (σ.n+q)=(lo'[q]?).join:=by
    show(if σ.n≤σ.n+q∧σ.n+q<σ.n+σ.lo.length then(lo'[σ.n+q - σ.n]?).join else _)= _
    rw[if_pos hj,Nat.add_sub_cancel_left]
   by_cases hq:q=i
   ·subst hq
    left
    rw[hs',hd]
    simp [Mem.freeze,Xw]
   ·have hne:σ.n+q≠σ.n+i:=by omega
    refine box (σ.n+q) _ _ (by rw[hs.st _ (.inr hj),X6 σ hs.le]) hs' (by simp only[Mem.freeze,Xw,if_neg hne]) ?_
    rcases Xl2 (hg q hq) with h1|⟨e1,l,l',h1,h2,h3⟩
    ·exact .inl h1
    ·exact .inr ⟨e1,l,l',h1,h2,(Xi3 h3).1,fun p x y hx hy=> .inl ((Xi3 h3).2 p x y hx hy)⟩
  ·by_cases h0:j<σ.n0
   ·have hne:j≠σ.n+i:=by omega
    refine box j (σ.out j) (out' j) (by rw[hs.st _ (.inl h0)];simp [AState.look,h0]) ?_ (by simp only[Mem.freeze,Xw,if_neg hne]) (ho j h0)
    show(if σ.n≤j∧j<σ.n+σ.lo.length then(lo'[j - σ.n]?).join else if j<σ.n0 then out' j else _)= _
    rw[if_neg hj,if_pos h0]
   ·left
    show _=(if σ.n≤j∧j<σ.n+σ.lo.length then(lo'[j - σ.n]?).join else if j<σ.n0 then out' j else(M.freeze (σ.n+i) cs.length).st j)
    rw[if_neg hj,if_neg h0]
 refine⟨(M.freeze (σ.n+i) cs.length).withSt s,rfl,ex.trans key.1,key.2,hs.df,⟨(Xi3 hf).1.symm.trans hs.fr.1,fun j c v hj hv=> ?_⟩,hs.le,fun k hk'=> ?_⟩
 ·have hjl:j<σ.fr.length:=by rw[(Xi3 hf).1];exact(List.getElem?_eq_some_iff.1 hj).1
  have e1:=List.getElem?_eq_getElem hjl
  exact((hs.fr.2 j _ v e1 hv).fz hI hk ((Xi3 hf).2 j _ _ e1 hj)).ext key.1
 ·have hk2:σ.dom k:=by simpa [AState.dom,hl] using hk'
  show(if σ.n≤k∧k<σ.n+σ.lo.length then(lo'[k - σ.n]?).join else if k<σ.n0 then out' k else(M.freeze (σ.n+i) cs.length).st k)= _
  simp only[AState.look]
  by_cases h0:k<σ.n0
  ·rw[if_neg (by omega),if_pos h0,if_pos h0]
  ·have hj:σ.n≤k∧k<σ.n+σ.lo.length:=by rcases hk2 with h|h;exact absurd h h0;exact h
   rw[if_pos hj,if_neg h0]
theorem Y72 {σ:AState} {i k:Nat} {e eo:TypeId} {cs:List AV} {x y:AV} (sz:Nat) (l:List (Nat×AV)) {lo1:List (Option Res)} (hi:σ.lo[i]? =some (some (.box e cs))) (hk:σ.out k=some (.box eo [x])) (hf:fzL (σ.n+i) sz cs σ.fr (X4 σ.fr l))
  (hr:Xnl (σ.n+i) sz cs σ.lo lo1) (ho:FzM (σ.n+i) sz cs x y):
  σ.le {σ with fr:=X4 σ.fr l,lo:=lo1.set i (some .dead),out:=Xw σ.out k (.box eo [y])}:=
 Y8a sz hi hf hr fun j _=>by
  unfold Xw
  by_cases h:j=k
  ·rw[if_pos h,h,hk]
   refine .inr ⟨eo,[x],[y],rfl,rfl,rfl,fun p a b ha hb=> ?_⟩
   match p,ha,hb with
   |0,ha,hb=>
    simp only[List.getElem?_cons_zero,Option.some.injEq] at ha hb
    subst ha;subst hb;exact ho
   |p+1,ha,_=>simp at ha
  ·rw[if_neg h];exact .inl rfl
theorem Y9i {P:Program} {Q:Exit→AState→Prop} {σ:AState} {c:Code} (h:AWp P c (fun e σ'=>∃σ1,σ'.le σ1∧Q e σ1) σ):AWp P c Q σ:=by
 intro ro n M a hI hs
 refine wpIn_mono (h ro n M a hI hs) ?_
 rintro e a' w' ⟨M',σ',rfl,he,hI',hs',σ1,hle,hq⟩
 obtain⟨M2,hw2,he2,hI2,hs2⟩:=hle M' a' hI' hs'
 exact⟨M2,σ1,hw2,he.trans he2,hI2,hs2,hq⟩
end Go.VS
