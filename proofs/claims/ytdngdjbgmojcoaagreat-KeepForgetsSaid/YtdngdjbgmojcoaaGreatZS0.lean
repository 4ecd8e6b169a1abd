/-
 Plain: states of a plan; what routes hold and ask.
-/
import Derived.Test.YtdngdjbgmojcoaaGreatZTA
import Derived.Test.YtdngdjbgmojcoaaGreatZKA
import Derived.Test.YtdngdjbgmojcoaaGreatZP3
import Derived.Test.YtdngdjbgmojcoaaGreatZVsMop
namespace Go.Proofs.YtdngdjbgmojcoaaGreat.Pln
set_option linter.unusedVariables false
set_option linter.unusedSimpArgs false
open Go Go.VS
set_option maxHeartbeats 1000000
def tkC (t:Int×UInt8):List AV:=[i64 t.1,b8 t.2]
def lkC (l:Int×UInt8×Int×Int):List AV:=[i64 l.1,b8 l.2.1,i64 l.2.2.1,i64 l.2.2.2]
def tkA (t:Int×UInt8):AV:= .agg (tkC t)
def lkA (l:Int×UInt8×Int×Int):AV:= .agg (lkC l)
structure St where
 tr:List (Int×UInt8)
 sw:List (Int×Int×Int)
 lk:List (Int×UInt8×Int×Int)
def stC (s:St):List AV:=[.sl 2 (s.tr.map tkC) .sh,.sl 3 (s.sw.map sgC) .sh,.sl 4 (s.lk.map lkC) .sh]
def stA (s:St):AV:= .agg (stC s)
def Y2v:St:=⟨[],[],[]⟩
structure SmS (s:St):Prop where
 t:s.tr.length≤1000
 w:s.sw.length≤1000
 l:s.lk.length≤1000
def Xyh (n:Int):Bool:=decide (0≤n)&&decide (n≤2)
def Xvr (t:Int×UInt8) (s:Sec):Bool:=t.1==s.id&&decide (t.2.toNat≤2)
def Xuw (w:Int×Int×Int) (x:Int×Int):Bool:=w.1==x.1&&(Xyh w.2.1&&Xyh w.2.2)
def Xr7 (l:Int×UInt8×Int×Int) (r:Rt):Bool:=
 if l.2.1=0∨l.2.1=1 then l.2.2.1==0&&l.2.2.2==0
 else if l.2.1=2 then(decide (0≤l.2.2.1)&&decide (l.2.2.1≤(r.path.length:Int) - 1))&&l.2.2.2==0
 else if l.2.1=3 then(l.2.2.1==(r.path.length:Int) - 1&&decide (1≤l.2.2.2))&&decide (l.2.2.2≤r.timer)
 else if l.2.1=4 then(l.2.2.1==0&&decide (1≤l.2.2.2))&&decide (l.2.2.2≤r.timer)
 else false
def Xsm (l:Int×UInt8×Int×Int) (r:Rt):Bool:=l.1==r.id&&Xr7 l r
def Xog (p:Pl) (s:St):Bool:=Fv Xvr s.tr p.secs&&(Fv Xuw s.sw p.pts&&Fv Xsm s.lk p.rts)
def Xpm (w:Wy) (l:Int×UInt8×Int×Int):Nat:=min (l.2.2.1.toNat) w.path.length
def Xql (w:Wy) (l:Int×UInt8×Int×Int):List Int:=if l.2.1=0 then[] else w.path.drop (Xpm w l)++w.over
def Xug (l:Int×UInt8×Int×Int) (a:Int×Int×Int):Bool:=decide (a.2.2<0)||decide (l.2.2.1≤a.2.2)
def Xrn (w:Wy) (l:Int×UInt8×Int×Int):List (Int×Int×Int):=if l.2.1=0 then[] else w.asks
structure Gp where
 ok:Bool
 hold:List Int
 ask:List Int
def Xos (id:Int) (g:Gp) (s:Int):Gp:=⟨g.ok&&(g.hold.getD s.toNat 0==0),g.hold.set s.toNat id,g.ask⟩
def Xsn (id:Int):Gp→List Int→Gp
 |g,[]=>g
 |g,s::l=>if (Xos id g s).ok then Xsn id (Xos id g s) l else Xos id g s
def Xot (called:List (Int×Int)) (g:Gp) (a:Int×Int×Int):Gp:=⟨g.ok&&(Xyw called a.1==a.2.1),g.hold,g.ask.set a.1.toNat a.2.1⟩
def Xs9 (called:List (Int×Int)) (p:Int×Int×Int→Bool):Gp→List (Int×Int×Int)→Gp
 |g,[]=>g
 |g,a::l=>if p a then(if (Xot called g a).ok then Xs9 called p (Xot called g a) l else Xot called g a) else Xs9 called p g l
def Xi0 (called:List (Int×Int)) (g:Gp) (x:Wy×(Int×UInt8×Int×Int)):Gp:=Xs9 called (Xug x.2) (Xsn x.2.1 g (Xql x.1 x.2)) (Xrn x.1 x.2)
def Xjs (s:List (Int×Int×Int)):List (Int×Int):=s.foldl (fun m w=>Xxz m w.1 w.2.2) []
def Xpg (p:Pl) (s:St):Gp:=((p.rts.map (Xop p)).zip s.lk).foldl (Xi0 (Xjs s.sw)) ⟨true,List.replicate 100 0,List.replicate 100 0⟩
def Xqm (p:Pl) (s:St):Bool:=Xog p s&&(Xpg p s).ok
def Xrz (p:Pl) (s:St):Int:=if Xo3 p=0 then(if Xqm p s then 0 else 8) else Xo3 p
theorem Xqn (id:Int):∀(l:List Int) (g:Gp),(Xsn id g l).hold.length=g.hold.length∧(Xsn id g l).ask=g.ask
 |[],_=>⟨rfl,rfl⟩
 |s::l,g=>by
  unfold Xsn
  split
  ·have:=Xqn id l (Xos id g s)
   refine⟨this.1.trans ?_,this.2⟩
   simp [Xos]
  ·exact⟨by simp [Xos],rfl⟩
theorem Xro (c:List (Int×Int)) (p:Int×Int×Int→Bool):∀(l:List (Int×Int×Int)) (g:Gp),(Xs9 c p g l).ask.length=g.ask.length∧(Xs9 c p g l).hold=g.hold
 |[],_=>⟨rfl,rfl⟩
 |a::l,g=>by
  unfold Xs9
  split
  ·split
   ·have:=Xro c p l (Xot c g a)
    refine⟨this.1.trans ?_,this.2⟩
    simp [Xot]
   ·exact⟨by simp [Xot],rfl⟩
  ·exact Xro c p l g
theorem Xvs (c:List (Int×Int)) (g:Gp) (x:Wy×(Int×UInt8×Int×Int)):(Xi0 c g x).hold.length=g.hold.length∧(Xi0 c g x).ask.length=g.ask.length:=by
 unfold Xi0
 obtain⟨h1,h2⟩:=Xro c (Xug x.2) (Xrn x.1 x.2) (Xsn x.2.1 g (Xql x.1 x.2))
 obtain⟨h3,h4⟩:=Xqn x.2.1 (Xql x.1 x.2) g
 exact⟨by rw[h2,h3],by rw[h1,h4]⟩
theorem Xpn (c:List (Int×Int)):∀(l:List (Wy×(Int×UInt8×Int×Int))) (g:Gp),(l.foldl (Xi0 c) g).hold.length=g.hold.length∧(l.foldl (Xi0 c) g).ask.length=g.ask.length
 |[],_=>⟨rfl,rfl⟩
 |x::l,g=>by
  obtain⟨h1,h2⟩:=Xpn c l (Xi0 c g x)
  obtain⟨h3,h4⟩:=Xvs c g x
  exact⟨h1.trans h3,h2.trans h4⟩
theorem Xx7 {p:Pl} (h:Uf p=true) {r:Rt} (hr:r∈p.rts):∀n,n∈r.path++r.over→0≤n∧n<100:=by
 obtain⟨_,h2,_,_,_,_,hrs⟩:=Xol h
 have ho:=hrs r hr
 unfold okR at ho
 cases hg:Xpe p.sgs r.entry with
 |none=>rw[hg] at ho;cases ho
 |some en=>
  rw[hg] at ho
  simp only[Bool.and_eq_true,decide_eq_true_eq] at ho
  intro n hn
  obtain⟨i,hi,rfl⟩:=List.getElem_of_mem hn
  have:=Z3.1 ho.1.2 i hi
  unfold okL at this
  simp only[Bool.and_eq_true] at this
  have hs:=this.1.1
  cases hg2:Qt p.secs (r.path++r.over)[i] with
  |none=>rw[hg2] at hs;cases hs
  |some t=>
   obtain⟨ht,hid⟩:=Ba hg2
   have hn:=((B9 h2).2 t ht).1
   rw[U1,hid] at hn
   omega
end Go.Proofs.YtdngdjbgmojcoaaGreat.Pln
