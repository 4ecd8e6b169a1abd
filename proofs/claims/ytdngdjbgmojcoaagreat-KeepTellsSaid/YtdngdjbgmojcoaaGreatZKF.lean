/- The layer of abstract values, joined. -/
import Derived.Test.YtdngdjbgmojcoaaGreatZPR
import Derived.Test.YtdngdjbgmojcoaaGreatZKD
import Derived.Test.YtdngdjbgmojcoaaGreatZW4
import Derived.Test.YtdngdjbgmojcoaaGreatZP19
import Derived.Test.YtdngdjbgmojcoaaGreatZKA
import Derived.Test.YtdngdjbgmojcoaaGreatZKE
import Derived.Test.YtdngdjbgmojcoaaGreatZPP
namespace Go.Proofs.YtdngdjbgmojcoaaGreat.Pln
set_option linter.all false
set_option maxHeartbeats 8000000
set_option maxRecDepth 4000
open Go Go.VS Tab
attribute [local irreducible] AWp Xp0 Pg X5c Qy Lt Tp FdT Eb
theorem Pj (k:Nat) (p:Pl) (hs:Sm p) (hb:(Wg p).length<=1000000):Xr Tryz.prog 52 [plA p] [(k,none)] (.sl 1 (Xo (Wg p)) (.own k)) [(k,.row 5 1 (Wg p).length)]:=by
 unfold Wg at hb⊢;rw[ac,ac,ac,ac,ac] at hb;have q1:=hs.secs;have q2:=hs.pts;have q3:=hs.sgs;have q4:=hs.rts;have hB2:Xd Tryz.prog 85=True:=hb0 _ (by decide) (by decide);have hB3:Xd Tryz.prog 87=True:=hb0 _ (by decide) (by decide);have hB4:Xd Tryz.prog 89=True:=hb0 _ (by decide) (by decide);have hB5:Xd Tryz.prog 91=True:=hb0 _ (by decide) (by decide);obtain⟨C1,h1⟩:∃C,C=[]++(Y3m p.ver++Y3m p.par):=⟨_,rfl⟩
 obtain⟨C2,h2⟩:∃C,C=C1++Zz D4 p.secs:=⟨_,rfl⟩
 obtain⟨C3,h3⟩:∃C,C=C2++Zz Ug p.pts:=⟨_,rfl⟩
 obtain⟨C4,h4⟩:∃C,C=C3++Zz Ee p.sgs:=⟨_,rfl⟩
 have k1:C1.length=(Y3m p.ver).length+(Y3m p.par).length:=by rw[h1];simp [ac]
 have k2:C2.length=C1.length+(Zz D4 p.secs).length:=by rw[h2,ac]
 have k3:C3.length=C2.length+(Zz Ug p.pts).length:=by rw[h3,ac]
 have k4:C4.length=C3.length+(Zz Ee p.sgs).length:=by rw[h4,ac]
 have e:Y3m p.ver++(Y3m p.par++(Zz D4 p.secs++(Zz Ug p.pts++(Zz Ee p.sgs++Zz Ef p.rts))))=C4++Zz Ef p.rts:=by rw[h4,h3,h2,h1];simp [aq]
 have c1:=fun n:Nat=>Mq (n+1) (n+3) (by omega) [] p.ver p.par (by simp only[ac,List.length_nil];omega);have c2:=fun n:Nat=>Ae (n+1) (n+3) (by omega) 85 [.ptr (n+1) 0] hB2 p.secs D4 C1 (by omega) (by omega) fun x hx B hB=>X5m (n+1) (n+3) (by omega) x B hB (by have:=hs.ends x hx;omega);have c3:=fun n:Nat=>Af (n+1) (n+3) (by omega) 87 [.ptr (n+1) 0] hB3 p.pts Ug C2 (by omega) (by omega) fun x _ B hB=>X5j (n+1) (n+3) (by omega) x B hB;have c4:=fun n:Nat=>Ag (n+1) (n+3) (by omega) 89 [.ptr (n+1) 0] hB4 p.sgs Ee C3 (by omega) (by omega) fun x _ B hB=>X5l (n+1) (n+3) (by omega) x B hB;have c5:=fun n:Nat=>Ai (n+1) (n+3) (n+2) (by omega) (by omega) (by omega) (.box 152 [.fn (.func 82) [.ptr (n+1) 0]]) (by simp) 91 [.ptr (n+1) 0,.ptr (n+2) 0] hB5 p.rts Ef C4 (by omega) (by omega) fun x hx B hB=>X5n (n+1) (n+3) (n+2) (by omega) (by omega) (by omega) x B hB (by have:=hs.rt x hx;omega) (by have:=hs.rt x hx;omega) (by have:=hs.rt x hx;omega);rw[<- h1] at c1;rw[<- h2] at c2;rw[<- h3] at c3;rw[<- h4] at c4;rw[e];clear h1 h2 h3 h4 k1 k2 k3 k4 hb e hB2 hB3 hB4 hB5;refine Xc 4 Tryz.func52 rfl fun n out _ _=> ?_;simp only[sn,Tryz.ntmps52,simprocAttr];rename_i hneeds hgv;obtain⟨hk,_⟩:=hneeds;obtain⟨hkn,_⟩:=hgv;refine Vy fun K hK=> ?_;simp only[zA,simprocAttr,plA,plC]
 (refine hK _ ?_;clear hK K)
 refine Vy fun K hK=> ?_;simp only[zA,simprocAttr]
 (refine hK _ ?_;clear hK K)
 refine Vy fun K hK=> ?_;simp only[zA,simprocAttr]
 (refine hK _ ?_;clear hK K)
 refine Yy (Q9 (i:=3) 5 1 rfl) ?_;simp only[s_0,s_s];refine Lb [] [some (.box 28 [i64 p.ver,i64 p.par,.sl 3 (p.secs.map Y6) .sh,.sl 2 (p.pts.map jnC) .sh,.sl 3 (p.sgs.map sgC) .sh,.sl 7 (p.rts.map rtC) .sh]),some (.box 103 [.sl 1 [] (.own (n+3))]),some (.box 152 [.fn (.func 82) [.ptr (n+1) 0]]),some (.row 5 1 0)] ?_ ?_
 ·refine La rfl ?_ ?_<;>simp only[sL]
 simp only[pt];repeat' (first|refine Vk fun K hK=> ?_|apply V0|((first|apply gE|apply gR);simp only[zB,simprocAttr,B6,Xjn (Nat.le_refl n)])|(refine Xk (c1 n) (X6 _ (Nat.le_refl _) 1) (X6 _ (Nat.le_refl _) 3) (Xb _ (by simp)) (Xb _ (by simp)) (by simp) (by simp) ?_)|(refine Xk (c2 n) (X6 _ (Nat.le_refl _) 1) (X6 _ (Nat.le_refl _) 3) (Xb _ (by simp)) (Xb _ (by simp)) (by simp) (by simp) ?_)|(refine Xk (c3 n) (X6 _ (Nat.le_refl _) 1) (X6 _ (Nat.le_refl _) 3) (Xb _ (by simp)) (Xb _ (by simp)) (by simp) (by simp) ?_)|(refine Xk (c4 n) (X6 _ (Nat.le_refl _) 1) (X6 _ (Nat.le_refl _) 3) (Xb _ (by simp)) (Xb _ (by simp)) (by simp) (by simp) ?_)|(refine Gu (c5 n) (X6 _ (Nat.le_refl _) 1) (X6 _ (Nat.le_refl _) 3) (X6 _ (Nat.le_refl _) 2) (Xb _ (by simp)) (Xb _ (by simp)) (Xb _ (by simp)) (by simp) (by simp) (by simp) ?_)|(refine hK _ ?_;clear hK K))
 refine Yy (Ja (i:=3) (k:=k) rfl (by exact hkn) (by exact hk)) ?_;simp only[bk,ag,Option.map_some,Res.ren1,AV.ren1,Nat.add_left_cancel_iff,Nat.reduceEqDiff,reduceIte,Xoe,s_0,s_s];apply Vz;exact Qv (.inr rfl) rfl rfl rfl (fun _ _=>rfl) rfl
theorem G5 (p:Pl) (hs:Sm p) (hb:(Wg p).length<=1000000):Xr Tryz.prog 52 [plA p] [] (.sl 1 (Xo (Wg p)) .sh) []:=
 Lc (fun k=>Pj k p hs hb) fun k=> .sh _ _ _
end Go.Proofs.YtdngdjbgmojcoaaGreat.Pln
namespace Go.Proofs.YtdngdjbgmojcoaaGreat.Pln
set_option linter.all false
set_option maxHeartbeats 1000000
open Go Go.VS
abbrev Rf (α:Type):=List Int->Nat->α×Nat
def rfN:Rf Int:=fun l a=>(l.getD a 0,a+1)
def rfB {α β:Type} (f:Rf α) (g:α->Rf β):Rf β:=fun l a=>g (f l a).1 l (f l a).2
def rfP {α:Type} (v:α):Rf α:=fun _ a=>(v,a)
def rfK {α:Type} (one:Rf α):Nat->Rf (List α)
 |0=>rfP []
 |k+1=>fun l a=>if a<l.length then((one l a).1::(rfK one k l (one l a).2).1,(rfK one k l (one l a).2).2) else([],a)
def rfL {α:Type} (one:Rf α):Rf (List α):=rfB rfN fun n=>rfK one n.toNat
theorem X1r {α:Type} (one:Rf α) (l:List Int):∀(k a:Nat),(rfK one k l a).1.length=k->(rfK one k l a).2<l.length→
  rfK one (k+1) l a=((rfK one k l a).1++[(one l (rfK one k l a).2).1],(one l (rfK one k l a).2).2)
 |0,a,_,h=>by
  have e:rfK one 0 l a=([],a):=rfl;rw[e] at h⊢
  show(if a<l.length then _ else _)= _
  rw[if_pos h];rfl
 |k+1,a,h1,h2=>by
  have e:∀k,rfK one (k+1) l a=if a<l.length then((one l a).1::(rfK one k l (one l a).2).1,(rfK one k l (one l a).2).2) else([],a):=fun _=>rfl
  by_cases ha:a<l.length
  ·have e1:=e k;rw[if_pos ha] at e1;rw[e1] at h1 h2⊢;have hk:=X1r one l k (one l a).2 (by simpa using h1) h2;rw[e (k+1),if_pos ha,hk];rfl
  ·rw[e k,if_neg ha] at h1;cases h1
theorem R8 {α:Type} (one:Rf α) (l:List Int):∀(k n a:Nat),k<=n->(rfK one k l a).1.length=k->¬(rfK one k l a).2<l.length->rfK one n l a=rfK one k l a
 |0,0,a,_,_,_=>rfl
 |0,n+1,a,_,_,h=>by
  have e:rfK one 0 l a=([],a):=rfl;rw[e] at h⊢
  show(if a<l.length then _ else _)= _
  rw[if_neg h]
 |k+1,0,a,h,_,_=>by omega
 |k+1,n+1,a,hk,h1,h2=>by
  have e:∀k,rfK one (k+1) l a=if a<l.length then((one l a).1::(rfK one k l (one l a).2).1,(rfK one k l (one l a).2).2) else([],a):=fun _=>rfl
  by_cases ha:a<l.length
  ·have e1:=e k;rw[if_pos ha] at e1;rw[e1] at h1 h2⊢;rw[e n,if_pos ha,R8 one l k n (one l a).2 (by omega) (by simpa using h1) h2]
  ·rw[e k,if_neg ha] at h1;cases h1
theorem Mk {α:Type} (one:Rf α) (l:List Int) (m:Nat) (h:∀a,a+m<=(one l a).2):∀(k a:Nat),a+(rfK one k l a).1.length*m<=(rfK one k l a).2∧((rfK one k l a).1.length=0∨a+(rfK one k l a).1.length*m<l.length+m)
 |0,a=>⟨by simp [rfK,rfP],.inl rfl⟩
 |k+1,a=>by
  have e:rfK one (k+1) l a=if a<l.length then((one l a).1::(rfK one k l (one l a).2).1,(rfK one k l (one l a).2).2) else([],a):=rfl
  by_cases ha:a<l.length
  ·rw[e,if_pos ha];have h1:=h a;have h2:=Mk one l m h k (one l a).2;simp only[List.length_cons,e9];refine⟨by omega,.inr ?_⟩;rcases h2.2 with h0|h0
   ·rw[h0];omega
   ·omega
  ·rw[e,if_neg ha];simp
theorem Gb {α:Type} (one:Rf α) (l:List Int) (P:α->Prop) (h:∀a,P (one l a).1):∀(k a:Nat),∀x,x∈(rfK one k l a).1->P x
 |0,a,x,hx=>by cases hx
 |k+1,a,x,hx=>by
  have e:rfK one (k+1) l a=if a<l.length then((one l a).1::(rfK one k l (one l a).2).1,(rfK one k l (one l a).2).2) else([],a):=rfl
  by_cases ha:a<l.length
  ·rw[e,if_pos ha] at hx;rcases cn.1 hx with rfl|hx
   ·exact h a
   ·exact Gb one l P h k _ x hx
  ·rw[e,if_neg ha] at hx;cases hx
def rfJ:Rf (Int×Int):=rfB rfN fun a=>rfB rfN fun b=>rfP (a,b)
def rfG:Rf (Int×Int×Int):=rfB rfN fun a=>rfB rfN fun b=>rfB rfN fun c=>rfP (a,b,c)
def rfS:Rf Sec:=rfB rfN fun a=>rfB rfN fun q=>rfB rfJ fun j1=>rfB rfJ fun j2=>if 0<q then rfB rfJ fun j3=>rfP ⟨a,q,[j1,j2,j3]⟩ else rfP ⟨a,q,[j1,j2]⟩
def rfR:Rf Rt:=rfB rfN fun a=>rfB rfN fun en=>rfB rfN fun ex=>rfB (rfL rfN) fun path=>rfB (rfL rfN) fun over=>rfB (rfL rfJ) fun fl=>rfB rfN fun t=>rfP ⟨a,en,ex,path,over,fl,t⟩
def X1s:Rf Pl:=rfB rfN fun v=>rfB rfN fun w=>rfB (rfL rfS) fun secs=>rfB (rfL rfJ) fun pts=>rfB (rfL rfG) fun sgs=>rfB (rfL rfR) fun rts=>rfP ⟨v,w,secs,pts,sgs,rts⟩
def Qx {α:Type} (f:Rf α) (e:List Int) (v:α):Prop:=∀x y:List Int,f (x++(e++y)) x.length=(v,x.length+e.length)
theorem X7w {α:Type} (v:α):Qx (rfP v) [] v:=fun _ _=>rfl
theorem P5 {α β:Type} {f:Rf α} {g:α->Rf β} {e1 e2:List Int} {v:α} {u:β} (h1:Qx f e1 v) (h2:Qx (g v) e2 u):Qx (rfB f g) (e1++e2) u:=fun x y=>by
 unfold rfB;have a:=h1 x (e2++y);have b:=h2 (x++e1) y;rw[aq,a];rw[aq,ac] at b;dsimp only;rw[b,ac,Nat.add_assoc]
theorem Gc {α β:Type} {f:Rf α} {g:α->β} {e:List Int} {v:α} (h:Qx f e v):Qx (rfB f fun v=>rfP (g v)) e (g v):=by
 have:=P5 (g:=fun v=>rfP (g v)) h (X7w _);rwa [a9] at this
theorem B5 (n:Int):Qx rfN [n] n:=fun x y=>by
 unfold rfN;simp
theorem X94 {α:Type} {one:Rf α} {enc:α->List Int} (h0:∀v,0<(enc v).length):∀{l:List α},(∀v,v∈l->Qx one (enc v) v)->Qx (rfK one l.length) (l.flatMap enc) l
 |[],_=>X7w []
 |v::l,h=>fun x y=>by
  have h1:=h v (cy ..);have h2:=X94 (one:=one) (enc:=enc) h0 (l:=l) fun u hu=>h u (bz _ hu);have a:=h1 x (l.flatMap enc++y);have b:=h2 (x++enc v) y;have h3:=h0 v;rw[aq,ac] at b;rw[bw,aq,List.length_cons]
  show(if _< _ then _ else _)= _
  rw[if_pos (by simp only[ac];omega),a];dsimp only;rw[b];simp only[ac,Nat.add_assoc]
theorem X2i {α:Type} {one:Rf α} {enc:α->List Int} (h0:∀v,0<(enc v).length) {l:List α} (h:∀v,v∈l->Qx one (enc v) v):Qx (rfL one) ((l.length:Int)::l.flatMap enc) l:=by
 refine P5 (e1:=[(l.length:Int)]) (B5 _) ?_;rw[Int.toNat_natCast];exact X94 h0 h
def nuJ (j:Int×Int):List Int:=[j.1]++[j.2]
def nuG (g:Int×Int×Int):List Int:=[g.1]++([g.2.1]++[g.2.2])
def nuS (s:Sec):List Int:=[s.id]++([s.pt]++s.ends.flatMap nuJ)
def nuL {α:Type} (nu:α->List Int) (l:List α):List Int:=(l.length:Int)::l.flatMap nu
def nuI (n:Int):List Int:=[n]
def nuR (r:Rt):List Int:=[r.id]++([r.entry]++([r.ex]++(nuL nuI r.path++(nuL nuI r.over++(nuL nuJ r.flanks++[r.timer])))))
def nuP (p:Pl):List Int:=[p.ver]++([p.par]++(nuL nuS p.secs++(nuL nuJ p.pts++(nuL nuG p.sgs++nuL nuR p.rts))))
theorem X2j (j:Int×Int):Qx rfJ (nuJ j) j:=P5 (B5 _) (Gc (B5 _))
theorem X9h (g:Int×Int×Int):Qx rfG (nuG g) g:=P5 (B5 _) (P5 (B5 _) (Gc (B5 _)))
theorem X9i {s:Sec} (hl:s.ends.length=if 0<s.pt then 3 else 2):Qx rfS (nuS s) s:=by
 obtain⟨a,q,l⟩:=s;dsimp only at hl;refine P5 (B5 _) (P5 (B5 _) ?_);dsimp only;by_cases hq:0<q
 ·rw[if_pos hq] at hl
  match l,hl with
  |[j1,j2,j3],_=>
   rw[show[j1,j2,j3].flatMap nuJ=nuJ j1++(nuJ j2++nuJ j3) by simp];refine P5 (X2j j1) (P5 (X2j j2) ?_);rw[if_pos hq];exact Gc (X2j j3)
 ·rw[if_neg hq] at hl
  match l,hl with
  |[j1,j2],_=>
   rw[show[j1,j2].flatMap nuJ=nuJ j1++(nuJ j2++[]) by simp];refine P5 (X2j j1) (P5 (X2j j2) ?_);rw[if_neg hq];exact X7w _
theorem X9j (r:Rt):Qx rfR (nuR r) r:=
 P5 (B5 _) (P5 (B5 _) (P5 (B5 _) (P5 (X2i (enc:=nuI) (fun _=>Nat.one_pos) fun n _=>B5 n) (P5 (X2i (enc:=nuI) (fun _=>Nat.one_pos) fun n _=>B5 n) (P5 (X2i (enc:=nuJ) (fun _=>by simp [nuJ]) fun j _=>X2j j) (Gc (B5 _)))))))
theorem X7x {p:Pl} (h:Uf p=true):Qx X1s (nuP p) p:=by
 have hn:=Us h;exact P5 (B5 _) (P5 (B5 _) (P5 (X2i (enc:=nuS) (fun _=>by simp [nuS]) fun x hx=>X9i (hn.s x hx).2.2.2) (P5 (X2i (enc:=nuJ) (fun _=>by simp [nuJ]) fun x _=>X2j x)
  (P5 (X2i (enc:=nuG) (fun _=>by simp [nuG]) fun x _=>X9h x) (Gc (X2i (enc:=nuR) (fun _=>by simp [nuR]) fun x _=>X9j x))))))
theorem D7 {α:Type} {f:α->List UInt8} {g:α->List Int} (h:∀x,f x=(g x).flatMap Y3m) (l:List α):l.flatMap f=(l.flatMap g).flatMap Y3m:=by
 induction l with
 |nil=>rfl
 |cons x l ih=>rw[bw,bw,b0,ih,h]
theorem Ld {α:Type} {f:α->List UInt8} {g:α->List Int} (h:∀x,f x=(g x).flatMap Y3m) (l:List α):Zz f l=(nuL g l).flatMap Y3m:=by
 unfold Zz nuL;rw[bw,D7 h]
theorem z1 (n:Int):[n].flatMap Y3m=Y3m n:=by simp
theorem Bc (j:Int×Int):Ug j=(nuJ j).flatMap Y3m:=by unfold Ug nuJ;simp only[b0,z1]
theorem X2k (j:Int×Int×Int):Ee j=(nuG j).flatMap Y3m:=by unfold Ee nuG;simp only[b0,z1]
theorem X2l (s:Sec):D4 s=(nuS s).flatMap Y3m:=by unfold D4 nuS;simp only[b0,z1,D7 Bc]
theorem X2m (n:Int):Y3m n=(nuI n).flatMap Y3m:=(z1 n).symm
theorem X2n (r:Rt):Ef r=(nuR r).flatMap Y3m:=by
 unfold Ef nuR;simp only[b0,z1,Ld X2m,Ld Bc]
theorem Bd (p:Pl):Wg p=(nuP p).flatMap Y3m:=by
 unfold Wg nuP;simp only[b0,z1,Ld X2l,Ld Bc,Ld X2k,Ld X2n]
theorem K6 {α:Type} {g:α->List Int} {l:List α} (hl:l.length<=99) (h:∀x,x∈l->∀n,n∈g x->nOk n):∀n,n∈nuL g l->nOk n:=fun n hn=>by
 rcases cn.1 hn with rfl|hn
 ·exact⟨by omega,by omega⟩
 ·obtain⟨x,hx,hn⟩:=io.1 hn;exact h x hx n hn
theorem Be {j:Int×Int} (h:nS j.1∧nS j.2):∀n,n∈nuJ j->nOk n:=fun n hn=>by
 simp only[nuJ,List.cons_append,List.nil_append,cn,dd,or_false] at hn;rcases hn with rfl|rfl
 ·exact h.1.ok
 ·exact h.2.ok
theorem Bg {p:Pl} (h:Uf p=true):∀n,n∈nuP p->nOk n:=fun n hn=>by
 obtain⟨v,w,sl,s,pl,q,gl,g,rl,r⟩:=Us h;have hS:=K6 (g:=nuS) (l:=p.secs) (by omega) fun x hx n hn=>by
  obtain⟨a,b,c,_⟩:=s x hx;simp only[nuS,List.cons_append,List.nil_append,cn] at hn;rcases hn with rfl|rfl|hn
  ·exact a.ok
  ·exact b.ok
  ·obtain⟨j,hj,hn⟩:=io.1 hn;exact Be (c j hj) n hn
 have hQ:=K6 (g:=nuJ) (l:=p.pts) (by omega) fun x hx n hn=>Be (q x hx) n hn;have hG:=K6 (g:=nuG) (l:=p.sgs) (by omega) fun x hx n hn=>by
  obtain⟨a,b,c⟩:=g x hx;simp only[nuG,List.cons_append,List.nil_append,cn,dd,or_false] at hn;rcases hn with rfl|rfl|rfl
  ·exact a.ok
  ·exact b.ok
  ·exact c.ok
 have hR:=K6 (g:=nuR) (l:=p.rts) (by omega) fun x hx n hn=>by
  obtain⟨a,b,c,d,e,f,t,l1,l2,l3⟩:=r x hx;have hd:=K6 (g:=nuI) (l:=x.path) (by omega) fun y hy n hn=>by
   simp only[nuI,cn,dd,or_false] at hn;exact hn▸(d y hy).ok
  have he:=K6 (g:=nuI) (l:=x.over) (by omega) fun y hy n hn=>by
   simp only[nuI,cn,dd,or_false] at hn;exact hn▸(e y hy).ok
  have hf:=K6 (g:=nuJ) (l:=x.flanks) (by omega) fun y hy n hn=>Be (f y hy) n hn;simp only[nuR,List.cons_append,List.nil_append,cn,dh,dd,or_false] at hn;rcases hn with rfl|rfl|rfl|hn|hn|hn|rfl
  ·exact a.ok
  ·exact b.ok
  ·exact c.ok
  ·exact hd n hn
  ·exact he n hn
  ·exact hf n hn
  ·exact t.ok
 simp only[nuP,List.cons_append,List.nil_append,cn,dh] at hn;rcases hn with rfl|rfl|hn|hn|hn|hn
 ·exact v
 ·exact w
 ·exact hS n hn
 ·exact hQ n hn
 ·exact hG n hn
 ·exact hR n hn
def Gd:List UInt8->Nat->Nat->List UInt8->Option (Nat×Nat)
 |[],_,_,_=>none
 |c::l,i,acc,pre=>if i=5 then none else
  if 128<=c.toNat then Gd l (i+1) (acc+c.toNat % 128*128 ^ i) (pre++[c]) else
  if 2147483647<acc+c.toNat % 128*128 ^ i∨Ur 5 (acc+c.toNat % 128*128 ^ i)≠pre++[c] then none else some (acc+c.toNat % 128*128 ^ i,i+1)
def rgN (l:List UInt8):Option (Nat×Nat):=Gd l 0 0 []
theorem X1t:∀(f n i acc:Nat) (pre y:List UInt8),0<f->n<128 ^ f->i+f<=5->acc+n*128 ^ i<=2147483647->pre++Ur f n=Ur 5 (acc+n*128 ^ i)->Gd (Ur f n++y) i acc pre=some (acc+n*128 ^ i,i+(Ur f n).length)
 |0,n,i,acc,pre,y,h0,_,_,_,_=>by omega
 |f+1,n,i,acc,pre,y,_,h,h5,hm,hp=>by
  unfold Ur;by_cases hn:n<128
  ·have hc:(UInt8.ofNat n).toNat=n:=by rw[de];omega
   rw[show Ur (f+1) n=[UInt8.ofNat n] by rw[Ur,if_pos hn]] at hp;rw[if_pos hn,List.cons_append,Gd,if_neg (by omega),hc,if_neg (by omega),fo hn,if_neg (by rintro(h|h);omega;exact h hp.symm)];rfl
  ·have hc:(UInt8.ofNat (n % 128+128)).toNat=n % 128+128:=by rw[de];omega
   have hf:0<f:=by
    rcases fh f with h0|h0
    ·subst h0;omega
    ·exact h0
   have hd:n / 128<128 ^ f:=by rw[fu (by decide),<- Nat.pow_succ];exact h
   have hs:acc+(n % 128+128) % 128*128 ^ i+n / 128*128 ^ (i+1)=acc+n*128 ^ i:=by
    have e1:(n % 128+128) % 128=n % 128:=by omega
    have e2:n / 128*128 ^ (i+1)=n / 128*128*128 ^ i:=by rw[Nat.pow_succ,Nat.mul_assoc,Nat.mul_comm 128]
    rw[e1,e2,Nat.add_assoc,<- Nat.add_mul]
    congr 2
    omega
   rw[show Ur (f+1) n=UInt8.ofNat (n % 128+128)::Ur f (n / 128) by rw[Ur,if_neg hn]] at hp;rw[if_neg hn,List.cons_append,Gd,if_neg (by omega),hc,if_pos (by omega),X1t f (n / 128) (i+1) _ _ y hf hd (by omega) (by rw[hs];exact hm) (by rw[hs,<- hp,aq];rfl),hs,List.length_cons]
   congr 2
   omega
theorem X2o {n:Int} (h:nOk n) (y:List UInt8):rgN (Y3m n++y)=some (n.toNat,(Y3m n).length):=by
 have hh:=h;unfold nOk at hh;unfold rgN Y3m;rw[if_pos hh,X1t 5 n.toNat 0 0 [] y (by decide) (by omega) (by decide) (by omega) (by simp)];simp
theorem D8:∀(l:List UInt8) (i acc:Nat) (pre:List UInt8) {n k:Nat},Gd l i acc pre=some (n,k)->i<k∧k<=i+l.length∧n<=2147483647
 |[],i,acc,pre,n,k,h=>by cases h
 |c::l,i,acc,pre,n,k,h=>by
  unfold Gd at h;by_cases h5:i=5
  ·rw[if_pos h5] at h;cases h
  rw[if_neg h5] at h;by_cases hc:128<=c.toNat
  ·rw[if_pos hc] at h;have:=D8 l _ _ _ h;rw[List.length_cons];omega
  ·rw[if_neg hc] at h;by_cases hb:2147483647<acc+c.toNat % 128*128 ^ i∨Ur 5 (acc+c.toNat % 128*128 ^ i)≠pre++[c]
   ·rw[if_pos hb] at h;cases h
   ·rw[if_neg hb] at h;cases h;rw[List.length_cons];refine⟨by omega,by omega,?_⟩;rcases Nat.lt_or_ge 2147483647 (acc+c.toNat % 128*128 ^ i) with h'|h'
    ·exact absurd (.inl h') hb
    ·exact h'
def gsS (b:List UInt8):Nat->Option (Nat×List Int)
 |0=>some (0,[])
 |i+1=>match gsS b i with
  |none=>none
  |some (a,l)=>if a<b.length then(match rgN (b.drop a) with|none=>none|some (n,k)=>some (a+k,l++[(n:Int)])) else some (a,l)
def Bh (b:List UInt8):Option (List Int):=(gsS b b.length).map Prod.snd
theorem D9 {b:List UInt8} {i:Nat} (h:gsS b i=none):∀k,gsS b (i+k)=none
 |0=>h
 |k+1=>by
  rw[<- Nat.add_assoc,gsS,D9 h k]
theorem Bi {b:List UInt8} {i a:Nat} {l:List Int} (h:gsS b i=some (a,l)) (ha:¬a<b.length):∀k,gsS b (i+k)=some (a,l)
 |0=>h
 |k+1=>by
  rw[<- Nat.add_assoc,gsS,Bi h ha k];dsimp only;rw[if_neg ha]
theorem Ge {b:List UInt8}:∀{i a:Nat} {l:List Int},gsS b i=some (a,l)->(i<=a∨b.length<=a)∧a<=b.length∧l.length<=a∧l.length<=i∧∀x,x∈l->nOk x
 |0,a,l,h=>by
  cases h;exact⟨.inl (Nat.le_refl 0),br _,Nat.le_refl 0,Nat.le_refl 0,fun x hx=>by cases hx⟩
 |i+1,a,l,h=>by
  unfold gsS at h;cases hs:gsS b i with
  |none=>rw[hs] at h;cases h
  |some r=>
   obtain⟨a',l'⟩:=r;rw[hs] at h;dsimp only at h;have ih:=Ge hs;by_cases ha:a'<b.length
   ·rw[if_pos ha] at h;cases hg:rgN (b.drop a') with
    |none=>rw[hg] at h;cases h
    |some r=>
     obtain⟨n,k⟩:=r;rw[hg] at h;cases h;have hk:=D8 _ _ _ _ hg;rw[bt] at hk;rw[ac,List.length_singleton];refine⟨.inl (by omega),by omega,by omega,by omega,fun x hx=> ?_⟩;rcases dh.1 hx with hx|hx
     ·exact ih.2.2.2.2 x hx
     ·rw[ez.1 hx];exact⟨by omega,by omega⟩
   ·rw[if_neg ha] at h;cases h;exact⟨.inr (by omega),ih.2.1,ih.2.2.1,by omega,ih.2.2.2.2⟩
theorem Jy:∀(f n:Nat),0<f->0<(Ur f n).length
 |0,_,h=>by omega
 |f+1,n,_=>by unfold Ur;split<;>simp
theorem R9 {n:Int} (h:nOk n):0<(Y3m n).length:=by
 have hh:=h;unfold nOk at hh;unfold Y3m;rw[if_pos hh];exact Jy 5 _ (by decide)
theorem Da (l:List Int) (h:∀n,n∈l->nOk n):∀k,k<=l.length->gsS (l.flatMap Y3m) k=some (((l.take k).flatMap Y3m).length,l.take k)
 |0,_=>rfl
 |k+1,hk=>by
  have hlt:k<l.length:=hk;rw[gsS,Da l h k (by omega)];dsimp only;have hn:nOk l[k]:=h _ (a8 hlt);have h0:=R9 hn;have e:l.flatMap Y3m=(l.take k).flatMap Y3m++(Y3m l[k]++(l.drop (k+1)).flatMap Y3m):=by
   conv=>lhs;rw[<- dr k l,cd hlt,b0,bw]
  have hl:((l.take k).flatMap Y3m).length<(l.flatMap Y3m).length:=by rw[e];simp only[ac];omega
  have hd:(l.flatMap Y3m).drop ((l.take k).flatMap Y3m).length=Y3m l[k]++(l.drop (k+1)).flatMap Y3m:=by rw[e];exact fw rfl
  rw[if_pos hl,hd,X2o hn,aj hlt,b0,z1,ac];dsimp only;rw[ib hn.1]
theorem Gf {l:List Int} (h:∀n,n∈l->nOk n):Bh (l.flatMap Y3m)=some l:=by
 have h1:=Da l h l.length (Nat.le_refl _);rw[bi] at h1;have h2:l.length<=(l.flatMap Y3m).length:=by
  clear h1;induction l with
  |nil=>simp
  |cons n l ih=>
   have:=ih fun m hm=>h m (bz _ hm);have:=R9 (h n (cy ..));rw[bw,ac,List.length_cons];omega
 obtain⟨k,hk⟩:=Nat.exists_eq_add_of_le h2;unfold Bh;rw[hk,Bi h1 (by omega)];rfl
def rqP (b:List UInt8):Pl:=(X1s ((Bh b).getD []) 0).1
def Ei (b:List UInt8):Bool:=(Bh b).isSome&&Uf (rqP b)&&(Wg (rqP b)==b)
theorem X2p (b:List UInt8):Ei b=Z6 b∧(Z6 b=true->rqP b=(V6 b).1):=by
 have key:∀p,Uf p=true->Wg p=b->Ei b=true∧rqP b=p:=fun p hp hb=>by
  have hg:Bh b=some (nuP p):=by rw[<- hb,Bd];exact Gf (Bg hp)
  have hq:rqP b=p:=by
   have:=X7x hp [] [];rw[List.nil_append,a9] at this;unfold rqP;rw[hg]
   show(X1s (nuP p) ([]:List Int).length).1=p
   rw[this]
  refine⟨?_,hq⟩;unfold Ei;rw[hq,hg,hp,hb];simp
 have back:Ei b=true->Z6 b=true:=fun h=>by
  unfold Ei at h;simp only[ad,bq] at h;have:=Eh h.1.2 [];rw[a9,h.2] at this;rw[this];simp
 refine⟨?_,fun h=> ?_⟩
 ·rw[ar];exact⟨back,fun h=>(key _ (Kg h).1 (Kg h).2).1⟩
 ·exact(key _ (Kg h).1 (Kg h).2).2
theorem Gg {α:Type} (one:Rd α) (b:List UInt8):∀(k:Nat) (s:Nat×Bool),(rdK one k b s).1.length=k
 |0,s=>rfl
 |k+1,s=>by
  show((one b s).1::(rdK one k b (one b s).2).1).length=k+1
  rw[List.length_cons,Gg one b k]
theorem Gh {α:Type} (one:Rd α) (b:List UInt8) (P:α->Prop) (h:∀s,P (one b s).1):∀(k:Nat) (s:Nat×Bool),∀x,x∈(rdK one k b s).1->P x
 |0,s,x,hx=>by cases hx
 |k+1,s,x,hx=>by
  have hx:x∈(one b s).1::(rdK one k b (one b s).2).1:=hx;rcases cn.1 hx with rfl|hx
  ·exact h s
  ·exact Gh one b P h k _ x hx
theorem K7 {α:Type} (one:Rd α) (b:List UInt8) (s:Nat×Bool):(rdL one b s).1.length<=99:=by
 unfold rdL rdB;dsimp only;by_cases h:(rdN b s).1<=99
 ·rw[if_pos h,Gg];omega
 ·rw[if_neg h];exact br _
theorem Gi {α:Type} (one:Rd α) (b:List UInt8) (P:α->Prop) (h:∀s,P (one b s).1) (s:Nat×Bool):∀x,x∈(rdL one b s).1->P x:=by
 unfold rdL rdB;dsimp only;by_cases h':(rdN b s).1<=99
 ·rw[if_pos h'];exact Gh one b P h _ _
 ·rw[if_neg h'];intro x hx;cases hx
theorem Gj (b:List UInt8) (s:Nat×Bool):(Ft b s).1.ends.length<=20:=by
 unfold Ft rdB;dsimp only;split
 ·exact(by decide:3<=20)
 ·exact(by decide:2<=20)
theorem Jz (b:List UInt8) (s:Nat×Bool):(B4 b s).1.path.length<=5000∧(B4 b s).1.over.length<=5000∧(B4 b s).1.flanks.length<=5000:=by
 refine⟨Nat.le_trans (K7 rdN b _) (by decide),Nat.le_trans (K7 rdN b _) (by decide),Nat.le_trans (K7 Kd b _) (by decide)⟩
theorem A7 (b:List UInt8):SmB (V6 b).1:=by
 refine⟨Nat.le_trans (K7 Ft b _) (by decide),?_,Nat.le_trans (K7 Kd b _) (by decide),Nat.le_trans (K7 G8 b _) (by decide),Nat.le_trans (K7 B4 b _) (by decide),?_⟩
 ·exact Gi Ft b (fun s=>s.ends.length<=20) (Gj b) _
 ·exact Gi B4 b (fun r=>r.path.length<=5000∧r.over.length<=5000∧r.flanks.length<=5000) (Jz b) _
theorem Gk {α:Type} (one:Rf α) (l:List Int) (h:∀a,a+1<=(one l a).2) (a:Nat):a+1<=(rfL one l a).2:=by
 have:=(Mk one l 1 h (rfN l a).1.toNat (a+1)).1
 show a+1<=(rfK one (rfN l a).1.toNat l (a+1)).2
 omega
theorem Gl {α:Type} (one:Rf α) (l:List Int) (m:Nat) (h:∀a,a+m<=(one l a).2) (a:Nat):(rfL one l a).1.length=0∨a+(rfL one l a).1.length*m+1<l.length+m:=by
 have:=(Mk one l m h (rfN l a).1.toNat (a+1)).2
 show(rfK one (rfN l a).1.toNat l (a+1)).1.length=0∨a+(rfK one (rfN l a).1.toNat l (a+1)).1.length*m+1<l.length+m
 omega
theorem Le {α:Type} (one:Rf α) (l:List Int) (h:∀a,a+1<=(one l a).2) (a:Nat):(rfL one l a).1.length<=l.length:=by
 rcases Gl one l 1 h a with h|h<;>omega
theorem Gm {α:Type} (one:Rf α) (l:List Int) (P:α->Prop) (h:∀a,P (one l a).1) (a:Nat):∀x,x∈(rfL one l a).1->P x:=Gb one l P h _ _
theorem Db (l:List Int) (a:Nat):a+1<=(rfN l a).2:=Nat.le_refl _
theorem Si (l:List Int) (a:Nat):a+1<=(rfJ l a).2:=by show a+1<=a+1+1;omega
theorem X1u (l:List Int) (a:Nat):a+1<=(rfG l a).2:=by show a+1<=a+1+1+1;omega
theorem X1v (l:List Int) (a:Nat):a+6<=(rfS l a).2:=by
 unfold rfS rfB;dsimp only;split
 ·show a+6<=a+8;omega
 ·show a+6<=a+6;omega
theorem A8 (l:List Int) (a:Nat):(rfS l a).1.ends.length<=20:=by
 unfold rfS rfB;dsimp only;split
 ·exact(by decide:3<=20)
 ·exact(by decide:2<=20)
theorem X1w (l:List Int) (a:Nat):a+1<=(rfR l a).2:=by
 have h1:=Gk rfN l (Db l) (a+1+1+1);have h2:=Gk rfN l (Db l) (rfL rfN l (a+1+1+1)).2;have h3:=Gk rfJ l (Si l) (rfL rfN l (rfL rfN l (a+1+1+1)).2).2
 show a+1<=(rfL rfJ l (rfL rfN l (rfL rfN l (a+1+1+1)).2).2).2+1
 omega
theorem X2q (l:List Int) (hl:l.length<=5000) (a:Nat):(rfR l a).1.path.length<=5000∧(rfR l a).1.over.length<=5000∧(rfR l a).1.flanks.length<=5000:=
 ⟨Nat.le_trans (Le rfN l (Db l) _) hl,Nat.le_trans (Le rfN l (Db l) _) hl,Nat.le_trans (Le rfJ l (Si l) _) hl⟩
theorem X2r {l:List Int} (hl:l.length<=5000) (a:Nat):SmB (X1s l a).1:=by
 refine⟨?_,?_,Nat.le_trans (Le rfJ l (Si l) _) hl,Nat.le_trans (Le rfG l (X1u l) _) hl,Nat.le_trans (Le rfR l (X1w l) _) hl,?_⟩
 ·have:=Gl rfS l 6 (X1v l) (a+1+1)
  show(rfL rfS l (a+1+1)).1.length<=1000
  omega
 ·exact Gm rfS l (fun s=>s.ends.length<=20) (A8 l) _
 ·exact Gm rfR l (fun r=>r.path.length<=5000∧r.over.length<=5000∧r.flanks.length<=5000) (X2q l hl) _
theorem A9 {b:List UInt8} {l:List Int} (h:Bh b=some l):l.length<=b.length∧∀x,x∈l->nOk x:=by
 unfold Bh at h;cases hg:gsS b b.length with
 |none=>rw[hg] at h;cases h
 |some r=>
  obtain⟨a,l'⟩:=r;rw[hg] at h;cases h;have:=Ge hg;exact⟨Nat.le_trans this.2.2.1 this.2.1,this.2.2.2.2⟩
end Go.Proofs.YtdngdjbgmojcoaaGreat.Pln
namespace Go.Proofs.YtdngdjbgmojcoaaGreat.Pln
set_option linter.all false
set_option maxHeartbeats 8000000
set_option maxRecDepth 4000
open Go Go.VS Tab
attribute [local irreducible] AWp Xp0 Pg X5c Qy Lt Tp FdT Eb
theorem X1z (wr:List Nat) (R:AState->Prop) (fr:List AV) (lo:List (Option Res)) (out:Nat->Option Res) (n0 n:Nat) (df:List Deferred) (d:Option Tmp) (r:AV) (x y:Nat) (p q:Res):
  Lt wr R ⟨fr,lo,out,n0,n,df⟩ d r [(n+x,p),(n+y,q)]=((wr.contains x=true∧wr.contains y=true)∧R (AState.next ⟨fr,lo,out,n0,n,df⟩ d r [(n+x,p),(n+y,q)])):=by
 simp only[Lt,cn,dd,or_false,forall_eq_or_imp,forall_eq,c8,Nat.add_left_cancel_iff,exists_eq_right',eq_iff_iff]
theorem X20 {p:Pl} (h:Uf p=true):Sm p:=by
 obtain⟨v,w,sl,s,pl,q,gl,g,rl,r⟩:=Us h;refine⟨by omega,fun x hx=> ?_,by omega,by omega,by omega,fun x hx=> ?_⟩
 ·have:=(s x hx).2.2.2;rw[this];split<;>decide
 ·obtain⟨_,_,_,_,_,_,_,l1,l2,l3⟩:=r x hx;omega
theorem scB:Xd Tryz.prog 117=True:=hb0 _ (by decide) (by decide)
theorem poB:Xd Tryz.prog 119=True:=hb0 _ (by decide) (by decide)
theorem siB:Xd Tryz.prog 121=True:=hb0 _ (by decide) (by decide)
theorem roB:Xd Tryz.prog 123=True:=hb0 _ (by decide) (by decide)
theorem X2y (b:List UInt8) (hb:b.length<=1000000):Xr Tryz.prog 62 [.sl 1 (Xo b) .sh] [] (.tup [plA (if Z6 b then(V6 b).1 else Aq),i64 (if Z6 b then 0 else 8)]) []:=by
 obtain⟨x1,s1,h1⟩:∃x t,rdN b (0,false)=(x,t):=⟨_,_,rfl⟩
 obtain⟨x2,s2,h2⟩:∃x t,rdN b s1=(x,t):=⟨_,_,rfl⟩
 obtain⟨lS,s3,h3⟩:∃x t,rdL Ft b s2=(x,t):=⟨_,_,rfl⟩
 obtain⟨lP,s4,h4⟩:∃x t,rdL Kd b s3=(x,t):=⟨_,_,rfl⟩
 obtain⟨lG,s5,h5⟩:∃x t,rdL G8 b s4=(x,t):=⟨_,_,rfl⟩
 obtain⟨lR,s6,h6⟩:∃x t,rdL B4 b s5=(x,t):=⟨_,_,rfl⟩
 have e:V6 b=(⟨x1,x2,lS,lP,lG,lR⟩,s6):=by
  unfold V6 X7u rdB;rw[h1];dsimp only;rw[h2]
  show(match rdL Ft b s2 with|v=>rdB (rdL Kd) (fun pts=>rdB (rdL G8) fun sgs=>rdB (rdL B4) fun rts=>rdP (⟨x1,x2,v.1,pts,sgs,rts⟩:Pl)) b v.2)= _
  rw[h3]
  show(match rdL Kd b s3 with|v=>rdB (rdL G8) (fun sgs=>rdB (rdL B4) fun rts=>rdP (⟨x1,x2,lS,v.1,sgs,rts⟩:Pl)) b v.2)= _
  rw[h4]
  show(match rdL G8 b s4 with|v=>rdB (rdL B4) (fun rts=>rdP (⟨x1,x2,lS,lP,v.1,rts⟩:Pl)) b v.2)= _
  rw[h5]
  show(match rdL B4 b s5 with|v=>((⟨x1,x2,lS,lP,lG,v.1⟩:Pl),v.2))= _
  rw[h6]
 have hsb:=A7 b;have hok:Z6 b=Sh (V6 b).1 (V6 b).2 (Wg (V6 b).1) b:=rfl;have c1:=fun n:Nat=>Yo b hb (n+2) (n+3) (by omega) (0,false);have c2:=fun n:Nat=>Yo b hb (n+2) (n+3) (by omega) s1;have c3:=fun n:Nat=>Aj b hb (n+2) (n+3) (by omega) _ _ scB Ft Qh (fun _=>rfl) (X2w b hb (n+2) (n+3) (by omega)) s2;have c4:=fun n:Nat=>Ak b hb (n+2) (n+3) (by omega) _ _ poB Kd jnA (fun _=>rfl) (X2t b hb (n+2) (n+3) (by omega)) s3;have c5:=fun n:Nat=>Xwi b hb (n+2) (n+3) (by omega) _ _ siB G8 sgA (fun _=>rfl) (X2v b hb (n+2) (n+3) (by omega)) s4;have c6:=fun n:Nat=>Am b hb (n+2) (n+3) (by omega) _ _ roB B4 rtA (fun _=>rfl) (X2x b hb (n+2) (n+3) (by omega)) s5;unfold Ycd at c3 c4 c5 c6;rw[h1] at c1;rw[h2] at c2;rw[h3] at c3;rw[h4] at c4;rw[h5] at c5;rw[h6] at c6;rw[e] at hsb hok⊢;clear h1 h2 h3 h4 h5 h6 e;dsimp only at c1 c2 c3 c4 c5 c6 hsb hok⊢;have cp:=Ss _ hsb;have cw:=fun h:Uf (⟨x1,x2,lS,lP,lG,lR⟩:Pl)=true=>G5 _ (X20 h) (Nat.le_trans (R7 h) (by decide));generalize Z6 b=ok at hok⊢;obtain⟨Q,hQ⟩:∃Q:Pl,Q=⟨x1,x2,lS,lP,lG,lR⟩:=⟨_,rfl⟩
 rw[<- hQ] at hsb hok cp cw⊢;have eQ:plA Q= .agg [i64 x1,i64 x2,.sl 3 (lS.map Y6) .sh,.sl 2 (lP.map jnC) .sh,.sl 3 (lG.map sgC) .sh,.sl 7 (lR.map rtC) .sh]:=by rw[hQ];rfl
 rw[eQ] at cp cw;clear hQ;refine Xc 7 Tryz.func62 rfl fun n out _ _=> ?_;simp only[sn,Tryz.ntmps62,simprocAttr];refine Vy fun K hK=> ?_;simp only[zA,simprocAttr]
 (refine hK _ ?_;clear hK K)
 refine Vy fun K hK=> ?_;simp only[zA,simprocAttr]
 (refine hK _ ?_;clear hK K)
 refine Yy (Zi (i:=0) (t:=1) 1 (.ref [.sl 1 (Xo b) .sh]) rfl rfl (.ptr 0)) ?_;simp only[s_0,s_s];refine Vy fun K hK=> ?_;simp only[zA,simprocAttr]
 (refine hK _ ?_;clear hK K)
 refine Yy (Zi (i:=4) (t:=6) 1 (.ref [nxF b (n+2) (n+3)]) rfl rfl (.ptr 0)) ?_;simp only[s_0,s_s];refine Vk fun K hK=>Ny Xj [] [[],[],[2,3],[],[],[2,3],[],[5],[5]] [[],[],[2,3],[],[],[2,3],[],[5],[5]] follows (by kernel_rfl) (by decide) (by decide) (by kernel_rfl) ?_;simp only[zA,simprocAttr]
 skip
 refine Xk (c1 n) (X6 _ (Nat.le_refl _) 2) (X6 _ (Nat.le_refl _) 3) (Xb _ (by simp)) (Xb _ (by simp)) (by simp) (by simp) ?_;simp only[zA,simprocAttr,X1z,Xjn (Nat.le_refl n)]
 skip
 refine Xk (c2 n) (X6 _ (Nat.le_refl _) 2) (X6 _ (Nat.le_refl _) 3) (Xb _ (by simp)) (Xb _ (by simp)) (by simp) (by simp) ?_;simp only[zA,simprocAttr,X0,X1z,Xjn (Nat.le_refl n)]
 (refine hK _ ?_;clear hK K)
 refine Vy fun K hK=> ?_;simp only[zA,simprocAttr]
 (refine hK _ ?_;clear hK K)
 refine Yy (Zi (i:=6) (t:=8) 1 (.ref [.fn (.func 115) [.ref [nxF b (n+2) (n+3)]]]) rfl rfl (.ptr 0)) ?_;simp only[s_0,s_s];refine Vy fun K hK=> ?_;simp only[zA,simprocAttr]
 skip
 refine Xk (c3 n) (X6 _ (Nat.le_refl _) 2) (X6 _ (Nat.le_refl _) 3) (Xb _ (by simp)) (Xb _ (by simp)) (by simp) (by simp) ?_;simp only[zA,simprocAttr,Xjn (Nat.le_refl n)]
 (refine hK _ ?_;clear hK K)
 refine Vy fun K hK=> ?_;simp only[zA,simprocAttr]
 skip
 refine Xk (c4 n) (X6 _ (Nat.le_refl _) 2) (X6 _ (Nat.le_refl _) 3) (Xb _ (by simp)) (Xb _ (by simp)) (by simp) (by simp) ?_;simp only[zA,simprocAttr,Xjn (Nat.le_refl n)]
 (refine hK _ ?_;clear hK K)
 refine Vy fun K hK=> ?_;simp only[zA,simprocAttr]
 skip
 refine Xk (c5 n) (X6 _ (Nat.le_refl _) 2) (X6 _ (Nat.le_refl _) 3) (Xb _ (by simp)) (Xb _ (by simp)) (by simp) (by simp) ?_;simp only[zA,simprocAttr,Xjn (Nat.le_refl n)]
 (refine hK _ ?_;clear hK K)
 refine Vy fun K hK=> ?_;simp only[zA,simprocAttr]
 skip
 refine Xk (c6 n) (X6 _ (Nat.le_refl _) 2) (X6 _ (Nat.le_refl _) 3) (Xb _ (by simp)) (Xb _ (by simp)) (by simp) (by simp) ?_;simp only[zA,simprocAttr,X0,Xjn (Nat.le_refl n)]
 (refine hK _ ?_;clear hK K)
 obtain⟨a6,d6⟩:=s6;unfold Sh at hok;dsimp only at hok⊢;have eN:plA Aq= .agg [i64 0,i64 0,.sl 3 [] .sh,.sl 2 [] .sh,.sl 3 [] .sh,.sl 7 [] .sh]:=rfl;cases d6 with
 |true=>
  rw[hok];simp only[dy,dc,bl,if_false,eN];repeat' (first|refine Vk fun K hK=> ?_|apply V0|refine Vd 9 [] [[3],[],[2],[],[],[],[],[],[5],[],[],[],[],[5],[],[],[],[],[],[]] [[],[],[],[],[],[],[],[],[],[],[],[],[],[],[],[],[],[],[],[]] (by kernel_rfl) (by decide) (by decide) (by kernel_rfl) ?_|((first|apply gE|apply gD|refine gS2 ?_);simp only[zA,simprocAttr,sg,X0])|(apply Vz;(first|refine Xp (.inr rfl) rfl rfl rfl (fun _ _=>rfl) ok28 (k:=n+1) (off:=0) rfl (Xb _ (by simp)) (X6 _ (Nat.le_refl _) 1) rfl rfl ?_|refine Xp (.inr rfl) rfl rfl rfl (fun _ _=>rfl) ok28 (k:=m+1) (off:=0) rfl (Xb _ (by simp)) (X6 _ hm 1) rfl rfl ?_)<;>first|rfl|exact AV.le.rfl _|(simp only[sL];done)|(exact AV.le.rfl _)|(simp only[sL,sg,X0];done)|rfl|skip)|(refine hK _ ?_;clear hK K)|refine Vt rfl ?_)
 |false=>
  by_cases ha:a6=b.length
  ·subst ha;have hne:((b.length:Int) !=(b.length:Int))=false:=by simp
   cases hmy:Uf Q with
   |false=>
    rw[hmy] at cp hok;rw[hok];simp only[dm,dc,bl,if_false,eN] at cp⊢;repeat' (first|refine Vk fun K hK=> ?_|apply V0|refine Vd 9 [] [[3],[],[2],[],[],[],[],[],[5],[],[],[],[],[5],[],[],[],[],[],[]] [[],[],[],[],[],[],[],[],[],[],[],[],[],[],[],[],[],[],[],[]] (by kernel_rfl) (by decide) (by decide) (by kernel_rfl) ?_|((first|apply gE|apply gD|apply gF|refine gS2 ?_);simp only[zA,simprocAttr,sg,X0,X5,hne])|(apply Vz;(first|refine Xp (.inr rfl) rfl rfl rfl (fun _ _=>rfl) ok28 (k:=n+1) (off:=0) rfl (Xb _ (by simp)) (X6 _ (Nat.le_refl _) 1) rfl rfl ?_|refine Xp (.inr rfl) rfl rfl rfl (fun _ _=>rfl) ok28 (k:=m+1) (off:=0) rfl (Xb _ (by simp)) (X6 _ hm 1) rfl rfl ?_)<;>first|rfl|exact AV.le.rfl _|(simp only[sL];done)|(exact AV.le.rfl _)|(simp only[sL,sg,X0,X5,hne,Int.reduceBNe];done)|rfl|skip)|(refine X3 (cp) ?_)|(refine hK _ ?_;clear hK K)|refine Vt rfl ?_)
   |true=>
    have cw:=cw hmy;rw[hmy] at cp hok;simp only[if_true] at cp;by_cases hw:Wg Q=b
    ·rw[hok];have hwb:(Wg Q==b)=true:=bq.2 hw;simp only[hwb,e8,es,di,if_true,eQ];repeat' (first|refine Vk fun K hK=> ?_|apply V0|apply Vs|refine Vd 9 [] [[3],[],[2],[],[],[],[],[],[5],[],[],[],[],[5],[],[],[],[],[],[]] [[],[],[],[],[],[],[],[],[],[],[],[],[],[],[],[],[],[],[],[]] (by kernel_rfl) (by decide) (by decide) (by kernel_rfl) ?_|((first|apply gE|apply gD|apply gF|refine gS2 ?_);simp only[zA,simprocAttr,sg,X0,X5,hne,Ya,Z5,hwb])|(apply Vz;(first|refine Xp (.inr rfl) rfl rfl rfl (fun _ _=>rfl) ok28 (k:=n+1) (off:=0) rfl (Xb _ (by simp)) (X6 _ (Nat.le_refl _) 1) rfl rfl ?_|refine Xp (.inr rfl) rfl rfl rfl (fun _ _=>rfl) ok28 (k:=m+1) (off:=0) rfl (Xb _ (by simp)) (X6 _ hm 1) rfl rfl ?_)<;>first|rfl|exact AV.le.rfl _|(simp only[sL,ti28,ag,sg,X0,X5,hne,Int.reduceBNe,Ya,Z5,hwb];done)|(exact AV.le.rfl _)|(simp only[sL,sg,X0,X5,hne,Int.reduceBNe,Ya,Z5,hwb];done)|rfl|skip)|(refine X3 (cp) ?_)|(refine X3 (cw) ?_)|(refine hK _ ?_;clear hK K)|refine Vf rfl ?_)
    ·have hwb:(Wg Q==b)=false:=dz.2 hw;rw[hok];simp only[hwb,dm,bl,if_false,eN];repeat' (first|refine Vk fun K hK=> ?_|apply V0|refine Vd 9 [] [[3],[],[2],[],[],[],[],[],[5],[],[],[],[],[5],[],[],[],[],[],[]] [[],[],[],[],[],[],[],[],[],[],[],[],[],[],[],[],[],[],[],[]] (by kernel_rfl) (by decide) (by decide) (by kernel_rfl) ?_|((first|apply gE|apply gD|apply gF|refine gS2 ?_);simp only[zA,simprocAttr,sg,X0,X5,hne,Ya,Z5,hwb])|(apply Vz;(first|refine Xp (.inr rfl) rfl rfl rfl (fun _ _=>rfl) ok28 (k:=n+1) (off:=0) rfl (Xb _ (by simp)) (X6 _ (Nat.le_refl _) 1) rfl rfl ?_|refine Xp (.inr rfl) rfl rfl rfl (fun _ _=>rfl) ok28 (k:=m+1) (off:=0) rfl (Xb _ (by simp)) (X6 _ hm 1) rfl rfl ?_)<;>first|rfl|exact AV.le.rfl _|(simp only[sL];done)|(exact AV.le.rfl _)|(simp only[sL,sg,X0,X5,hne,Int.reduceBNe,Ya,Z5,hwb];done)|rfl|skip)|(refine X3 (cp) ?_)|(refine X3 (cw) ?_)|(refine hK _ ?_;clear hK K)|refine Vt rfl ?_)
  ·have hne:((a6:Int) !=(b.length:Int))=true:=by simpa using fun h:(a6:Int)=(b.length:Int)=>ha (by omega)
   rw[hok];simp only[ha,d9,dm,dc,bl,if_false,eN];repeat' (first|refine Vk fun K hK=> ?_|apply V0|refine Vd 9 [] [[3],[],[2],[],[],[],[],[],[5],[],[],[],[],[5],[],[],[],[],[],[]] [[],[],[],[],[],[],[],[],[],[],[],[],[],[],[],[],[],[],[],[]] (by kernel_rfl) (by decide) (by decide) (by kernel_rfl) ?_|((first|apply gE|apply gD|refine gS2 ?_);simp only[zA,simprocAttr,sg,X0,X5,hne])|(apply Vz;(first|refine Xp (.inr rfl) rfl rfl rfl (fun _ _=>rfl) ok28 (k:=n+1) (off:=0) rfl (Xb _ (by simp)) (X6 _ (Nat.le_refl _) 1) rfl rfl ?_|refine Xp (.inr rfl) rfl rfl rfl (fun _ _=>rfl) ok28 (k:=m+1) (off:=0) rfl (Xb _ (by simp)) (X6 _ hm 1) rfl rfl ?_)<;>first|rfl|exact AV.le.rfl _|(simp only[sL];done)|(exact AV.le.rfl _)|(simp only[sL,sg,X0,X5,hne];done)|rfl|skip)|(refine hK _ ?_;clear hK K)|refine Vt rfl ?_)
end Go.Proofs.YtdngdjbgmojcoaaGreat.Pln
