/-
 The value-semantics layer: a block that grew, and may be written from now on, wherever it is seen.
-/
import Derived.Test.YtjgbbjooeibppaaZVsBits
namespace Go.VS
set_option linter.unusedVariables false
set_option linter.unusedSimpArgs false
open Go Go.RowKit
inductive Bx (k m:Nat):AV→AV→Prop
 |same (x:AV):Bx k m x x
 |vsl:Bx k m (.vsl k m) (.bsl k 0 m false)
 |agg (l l':List AV) (hl:l.length=l'.length) (h:∀(i:Nat) (c c':AV),l[i]? =some c→l'[i]? =some c'→Bx k m c c'):Bx k m (.agg l) (.agg l')
 |sl (sz:Nat) (els els':List (List AV)) (md:Md) (hl:els.length=els'.length) (hr:∀(i:Nat) (r r':List AV),els[i]? =some r→els'[i]? =some r'→r.length=r'.length)
   (h:∀(i j:Nat) (r r':List AV) (c c':AV),els[i]? =some r→els'[i]? =some r'→r[j]? =some c→r'[j]? =some c'→Bx k m c c'):Bx k m (.sl sz els md) (.sl sz els' md)
theorem R.bx {M:Mem} (hI:Inv M) {k:Nat} {e:TypeId} {sz m:Nat} {cs:List AV} (hk:M.st k=some (.vec e sz m cs)) (hm:0<m) {x y:AV} {v:Value} (h:R M x v) (hz:Bx k m x y):R (M.boxVec k e cs) y v:=by
 have ex:=Ext.boxVec hk
 induction hz generalizing v with
 |same x=>exact h.ext ex
 |vsl=>
  have:=h.bxv hI hk hm
  simpa [AV.bxv] using this
 |agg l l' hl hh ih=>
  cases h with
  |agg _ vs hvl hf' hc=>
   exact .agg l' vs (hl.symm.trans hvl) hf' fun i c v hi hv=>by
    have hil:i<l.length:=by rw[hl];exact(List.getElem?_eq_some_iff.1 hi).1
    have e1:=List.getElem?_eq_getElem hil
    exact ih i _ _ e1 hi (hc i _ v e1 hv)
 |sl sz els els' md hl hr hh ih=>
  cases h with
  |nil _ _ a hn hn'=>
   have:els'=[]:=List.eq_nil_of_length_eq_zero (by simpa using hl.symm)
   subst this
   exact .nil _ _ a hn hn'
  |slice _ _ _ a cap hs hcap hsz hst hc hmd=>
   rw[hl]
   refine .slice sz els' md a cap hs (by rw[← hl];exact hcap) (fun row hrow=> ?_) (fun o ho=>ex.stb _ _ (hst o (by rw[hl];exact ho))) (fun i j row c v hi hj hv=> ?_) (by rw[← hl];exact hmd.ext ex)
   ·obtain⟨i,hi⟩:=List.getElem?_of_mem hrow
    have hil:i<els.length:=by rw[hl];exact(List.getElem?_eq_some_iff.1 hi).1
    rw[← hr i _ _ (List.getElem?_eq_getElem hil) hi]
    exact hsz _ (List.getElem_mem hil)
   ·have hil:i<els.length:=by rw[hl];exact(List.getElem?_eq_some_iff.1 hi).1
    have e1:=List.getElem?_eq_getElem hil
    have hjl:j<(els[i]).length:=by rw[hr i _ _ e1 hi];exact(List.getElem?_eq_some_iff.1 hj).1
    have e2:=List.getElem?_eq_getElem hjl
    exact ih i j _ _ _ _ e1 hi e2 hj (hc i j _ _ v e1 e2 hv)
def bxL (k m:Nat):List AV→List AV→Prop
 |[],[]=>True
 |x::l,y::l'=>Bx k m x y∧bxL k m l l'
 | _,_=>False
theorem Y4n {k m:Nat}:∀{l l':List AV},bxL k m l l'→l.length=l'.length∧∀(i:Nat) (x y:AV),l[i]? =some x→l'[i]? =some y→Bx k m x y
 |[],[],_=>⟨rfl,fun i x y h=>by simp at h⟩
 |x::l,y::l',h=>by
  obtain⟨h1,h2⟩:=Y4n h.2
  refine⟨by simp [h1],fun i a b ha hb=> ?_⟩
  cases i with
  |zero=>simp at ha hb;subst ha;subst hb;exact h.1
  |succ i=>exact h2 i a b (by simpa using ha) (by simpa using hb)
 |[],_:: _,h=>h.elim
 | _:: _,[],h=>h.elim
theorem Y7z {k m:Nat}:∀l:List AV,bxL k m l l
 |[]=>trivial
 |x::l=>⟨.same x,Y7z l⟩
def Y70 (k m:Nat):Option Res→Option Res→Prop
 |some (.box e l),some (.box e' l')=>e=e'∧bxL k m l l'
 |a,b=>a=b
theorem Y7g {k m:Nat} {a b:Option Res} (h:Y70 k m a b):a=b∨∃e l l',a=some (.box e l)∧b=some (.box e l')∧bxL k m l l':=by
 unfold Y70 at h
 split at h
 ·obtain⟨rfl,h⟩:=h;exact .inr ⟨_,_,_,rfl,rfl,h⟩
 ·exact .inl h
theorem Y64 {k m:Nat} (r:Option Res):Y70 k m r r:=by
 cases r with
 |none=>rfl
 |some r=>cases r<;>first|exact⟨rfl,Y7z _⟩|rfl
theorem Yb8 {σ:AState} {i:Nat} {e:TypeId} {sz m:Nat} {cs:List AV} {fr':List AV} {lo':List (Option Res)} (hi:σ.lo[i]? =some (some (.vec e sz m cs))) (hm:0<m) (hf:bxL (σ.n+i) m σ.fr fr')
  (hl:lo'.length=σ.lo.length) (hd:lo'[i]? =some (some (.box e cs))) (hg:∀j,j≠i→Y70 (σ.n+i) m (σ.lo[j]?).join (lo'[j]?).join):
  σ.le {σ with fr:=fr',lo:=lo'}:=fun M a hI hs=>by
 classical
 have hlt:i<σ.lo.length:=(List.getElem?_eq_some_iff.1 hi).1
 have hk:M.st (σ.n+i)=some (.vec e sz m cs):=by
  rw[hs.st (σ.n+i) (Xb σ hlt),X6 σ hs.le,hi];rfl
 have ex:=Ext.boxVec hk
 obtain⟨_,hc0,_⟩:=hI.vec _ e sz m cs hk
 obtain⟨cap,hcap⟩:∃cap,M.cap (σ.n+i)=some cap:=by
  cases hc:M.cap (σ.n+i) with
  |none=>have:=hc0 hc;omega
  |some c=>exact⟨c,rfl⟩
 let s:Nat→Option Res:=fun j=>if σ.n≤j∧j<σ.n+σ.lo.length then(lo'[j - σ.n]?).join else(M.boxVec (σ.n+i) e cs).st j
 have key:=Inv.refill (hI.boxVec hk hcap) (s:=s) fun j=>by
  show(M.boxVec (σ.n+i) e cs).st j=(if σ.n≤j∧j<σ.n+σ.lo.length then(lo'[j - σ.n]?).join else(M.boxVec (σ.n+i) e cs).st j)∨ _
  by_cases hj:σ.n≤j∧j<σ.n+σ.lo.length
  ·obtain⟨q,rfl⟩:∃q,j=σ.n+q:=⟨j - σ.n,by omega⟩
   by_cases hq:q=i
   ·subst hq
    left
    rw[if_pos hj,Nat.add_sub_cancel_left,hd]
    simp [Mem.boxVec,Xw]
   ·have hne:σ.n+q≠σ.n+i:=by omega
    have hst:(M.boxVec (σ.n+i) e cs).st (σ.n+q)=(σ.lo[q]?).join:=by
     simp only[Mem.boxVec,Xw,if_neg hne]
     rw[hs.st _ (.inr hj),X6 σ hs.le]
    have hs':s (σ.n+q)=(lo'[q]?).join:=by
     show(if σ.n≤σ.n+q∧σ.n+q<σ.n+σ.lo.length then(lo'[σ.n+q - σ.n]?).join else _)= _
     rw[if_pos hj,Nat.add_sub_cancel_left]
    rcases Y7g (hg q hq) with h1|⟨e1,l,l',h1,h2,h3⟩
    ·left
     rw[if_pos hj,Nat.add_sub_cancel_left,hst,h1]
    ·right
     refine⟨e1,l,l',hst.trans h1,hs'.trans h2,(Y4n h3).1,fun vs hvs p c v hp hv=> ?_⟩
     have hM:M.st (σ.n+q)=some (.box e1 l):=by rw[hs.st _ (.inr hj),X6 σ hs.le,h1]
     obtain⟨vs0,g1,g2,g3,g4,g5⟩:=hI.box _ _ _ hM
     have hvs':M.w.heap[M.β (σ.n+q)]? =some (.cells vs e1 (0,0)):=hvs
     rw[g1] at hvs'
     injection hvs' with hvs';injection hvs' with hvs'
     subst hvs'
     have hpl:p<l.length:=by rw[(Y4n h3).1];exact(List.getElem?_eq_some_iff.1 hp).1
     have e1:=List.getElem?_eq_getElem hpl
     exact(g4 p _ v e1 hv).bx hI hk hm ((Y4n h3).2 p _ _ e1 hp)
  ·left
   rw[if_neg hj]
 refine⟨(M.boxVec (σ.n+i) e cs).withSt s,rfl,ex.trans key.1,key.2,hs.df,⟨(Y4n hf).1.symm.trans hs.fr.1,fun j c v hj hv=> ?_⟩,hs.le,fun k hk'=> ?_⟩
 ·have hjl:j<σ.fr.length:=by rw[(Y4n hf).1];exact(List.getElem?_eq_some_iff.1 hj).1
  have e1:=List.getElem?_eq_getElem hjl
  exact((hs.fr.2 j _ v e1 hv).bx hI hk hm ((Y4n hf).2 j _ _ e1 hj)).ext key.1
 ·have hk2:σ.dom k:=by simpa [AState.dom,hl] using hk'
  show(if σ.n≤k∧k<σ.n+σ.lo.length then(lo'[k - σ.n]?).join else(M.boxVec (σ.n+i) e cs).st k)= _
  simp only[AState.look]
  by_cases h0:k<σ.n0
  ·have hle:=hs.le
   rw[if_neg (by omega),if_pos h0]
   have hne:k≠σ.n+i:=by omega
   simp only[Mem.boxVec,Xw,if_neg hne]
   rw[hs.st k hk2];simp [AState.look,h0]
  ·have hj:σ.n≤k∧k<σ.n+σ.lo.length:=by rcases hk2 with h|h;exact absurd h h0;exact h
   rw[if_pos hj,if_neg h0]
def Ybh (k m:Nat):List (Option Res)→List (Option Res)→Prop
 |[],[]=>True
 |x::l,y::l'=>Y70 k m x y∧Ybh k m l l'
 | _,_=>False
theorem Y80 {k m:Nat}:∀{l l':List (Option Res)},Ybh k m l l'→l'.length=l.length∧∀i:Nat,Y70 k m (l[i]?).join (l'[i]?).join
 |[],[],_=>⟨rfl,fun i=>Y64 _⟩
 |x::l,y::l',h=>by
  obtain⟨h1,h2⟩:=Y80 h.2
  refine⟨by simp [h1],fun i=> ?_⟩
  cases i with
  |zero=>exact h.1
  |succ i=>simpa using h2 i
 |[],_:: _,h=>h.elim
 | _:: _,[],h=>h.elim
theorem Y9h {k m:Nat} (x y:Option Res) (l l':List (Option Res)):Ybh k m (x::l) (y::l')↔Y70 k m x y∧Ybh k m l l':=Iff.rfl
theorem Yaj {k m:Nat}:Ybh k m [] []↔True:=Iff.rfl
theorem Yak {k m:Nat} (x y:AV) (l l':List AV):bxL k m (x::l) (y::l')↔Bx k m x y∧bxL k m l l':=Iff.rfl
theorem Yb9 {k m:Nat}:bxL k m [] []↔True:=Iff.rfl
theorem Yba {k m:Nat} (x:AV):Bx k m x x↔True:=⟨fun _=>trivial,fun _=> .same x⟩
theorem Yby {k m:Nat}:Bx k m (.vsl k m) (.bsl k 0 m false)↔True:=⟨fun _=>trivial,fun _=> .vsl⟩
theorem Y89 {k m:Nat} (x:Option Res):Y70 k m x x↔True:=⟨fun _=>trivial,fun _=>Y64 x⟩
theorem Ybb {σ:AState} {i:Nat} {e:TypeId} {sz m:Nat} {cs:List AV} (l:List (Nat×AV)) {lo1:List (Option Res)} (hi:σ.lo[i]? =some (some (.vec e sz m cs))) (hm:0<m) (hf:bxL (σ.n+i) m σ.fr (X4 σ.fr l)) (hr:Ybh (σ.n+i) m σ.lo lo1):
  σ.le {σ with fr:=X4 σ.fr l,lo:=lo1.set i (some (.box e cs))}:=by
 obtain⟨h1,h2⟩:=Y80 hr
 have hil:i<lo1.length:=by rw[h1];exact(List.getElem?_eq_some_iff.1 hi).1
 refine Yb8 hi hm hf (by simp [h1]) (by rw[List.getElem?_set_self hil]) fun j hj=> ?_
 rw[List.getElem?_set_ne (Ne.symm hj)]
 exact h2 j
end Go.VS
