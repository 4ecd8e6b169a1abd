/- The layer of abstract values, joined. -/
import Derived.Test.YtdngdjbgmojcoaaGreatZPR
import Derived.Test.YtdngdjbgmojcoaaGreatZVsView
import Derived.Test.YtdngdjbgmojcoaaGreatZPP
import Derived.Test.YtdngdjbgmojcoaaGreatZS2
import Derived.Test.YtdngdjbgmojcoaaGreatZR5
import Derived.Test.YtdngdjbgmojcoaaGreatZPM
import Derived.Test.YtdngdjbgmojcoaaGreatZVsDraw
import Derived.Test.YtdngdjbgmojcoaaGreatZKA
import Derived.Test.YtdngdjbgmojcoaaGreatZVsLaw
import Derived.Test.YtdngdjbgmojcoaaGreatZTab
import Derived.Test.YtdngdjbgmojcoaaGreatZPQ
namespace Go.Proofs.YtdngdjbgmojcoaaGreat.Pln
set_option linter.all false
set_option maxHeartbeats 8000000
set_option maxRecDepth 4000
open Go Go.VS Tab
attribute [local irreducible] AWp Xp0 Pg X5c Qy Lt Tp FdT Eb
theorem Xfy (a b:Sec) (hl:a.ends.length<=1000000):Xr Tryz.prog 96 [Qh a,Qh b] [] (bool (Mw a b)) []:=by
 have c:=Xga a.ends b.ends (by omega);unfold Mw;generalize (a.ends==b.ends)=E at*;refine Xc 2 Tryz.func96 rfl fun n out _ _=> ?_;simp only[sn,Tryz.ntmps96,simprocAttr];have hg:=Nat.le_refl 0;repeat' (first|refine Vk fun K hK=> ?_|apply V0|((first|apply gE|apply gR|apply gS);simp only[zA,simprocAttr,hg,Qh,Y6])|(apply Vz;refine Vo rfl rfl rfl (fun _ _=>rfl) ?_<;>first|rfl|(simp only[g_0,g_s];refine congrArg VS.bool ?_;simp_all;done)|skip)|(refine X3 (c) ?_)|((refine Vg (fun hg=> ?_) (fun hg=> ?_))<;>try simp only[nb] at hg)|(refine hK _ ?_;clear hK K))
theorem Xfz (a b:Rt) (h:a.path.length<=1000000∧a.over.length<=1000000∧a.flanks.length<=1000000):Xr Tryz.prog 99 [rtA a,rtA b] [] (bool (Ks a b)) []:=by
 have c1:=Xf5 a.path b.path (by omega);have c2:=Xf5 a.over b.over (by omega);have c3:=Xgc a.flanks b.flanks (by omega);unfold Ks;generalize (a.path==b.path)=P1 at*;generalize (a.over==b.over)=P2 at*;generalize (a.flanks==b.flanks)=P3 at*;refine Xc 2 Tryz.func99 rfl fun n out _ _=> ?_;simp only[sn,Tryz.ntmps99,simprocAttr];have hg:=Nat.le_refl 0;repeat' (first|refine Vk fun K hK=> ?_|apply V0|((first|apply gE|apply gR|apply gS);simp only[zA,simprocAttr,hg,rtA,rtC])|(apply Vz;refine Vo rfl rfl rfl (fun _ _=>rfl) ?_<;>first|rfl|(simp only[g_0,g_s];refine congrArg VS.bool ?_;simp_all;done)|skip)|(refine X3 (c1) ?_)|(refine X3 (c2) ?_)|(refine X3 (c3) ?_)|((refine Vg (fun hg=> ?_) (fun hg=> ?_))<;>try simp only[nb] at hg)|(refine hK _ ?_;clear hK K))
theorem Xgf (a b:Pl) (ha:Sm a):Xr Tryz.prog 53 [plA a,plA b] [] (bool (Sy a b)) []:=by
 have hB1:Xd Tryz.prog 96=True:=hb0 _ (by decide) (by decide);have hB2:Xd Tryz.prog 99=True:=hb0 _ (by decide) (by decide);have q1:=ha.secs;have q2:=ha.pts;have q3:=ha.sgs;have q4:=ha.rts;have c1:=Xeq a.secs b.secs 96 [] Mw hB1 (by omega) fun x hx y _=>Xfy x y (by have:=ha.ends x hx;omega);have c2:=Xf0 a.rts b.rts 99 [] Ks hB2 (by omega) fun x hx y _=>Xfz x y (by obtain⟨x,y,z⟩:=ha.rt _ hx;omega);have c3:=Xgb a.pts b.pts (by omega);have c4:=Xgd a.sgs b.sgs (by omega);unfold Sy Lw;generalize (Fv Mw a.secs b.secs)=P1 at*;generalize (Fv Ks a.rts b.rts)=P2 at*;generalize (a.pts==b.pts)=P3 at*;generalize (a.sgs==b.sgs)=P4 at*;refine Xc 2 Tryz.func53 rfl fun n out _ _=> ?_;simp only[sn,Tryz.ntmps53,simprocAttr];have hg:=Nat.le_refl 0;repeat' (first|refine Vk fun K hK=> ?_|apply V0|((first|apply gE|apply gR|apply gS);simp only[zA,simprocAttr,hg,plA,plC])|(apply Vz;refine Vo rfl rfl rfl (fun _ _=>rfl) ?_<;>first|rfl|(simp only[g_0,g_s];refine congrArg VS.bool ?_;simp_all;done)|skip)|(refine X3 (c1) ?_)|(refine X3 (c2) ?_)|(refine X3 (c3) ?_)|(refine X3 (c4) ?_)|((refine Vg (fun hg=> ?_) (fun hg=> ?_))<;>try simp only[nb] at hg)|(refine hK _ ?_;clear hK K))
def Xuh (t:Int×UInt8):Int×UInt8:=(t.1,2)
def Xpo (w:Int×Int×Int):Int×Int×Int:=(w.1,0,w.2.2)
def Xr0 (p:Pl) (i:Nat) (l:Int×UInt8×Int×Int):Int×UInt8×Int×Int:=if 0<l.2.2.2 then(l.1,l.2.1,l.2.2.1,(p.rts.getD i X7o).timer) else l
def Xjm (p:Pl) (s:St):St:=⟨s.tr.map Xuh,s.sw.map Xpo,s.lk.mapIdx (Xr0 p)⟩
def atT (x:Sec):Int×UInt8:=(x.id,2)
theorem Xoi {α:Type} (f:α->List AV) {l:List α} {i:Nat} (h:i<l.length):(l.take i).map f++[f l[i]]=(l.take (i+1)).map f:=by
 rw[aj h,aw];rfl
end Go.Proofs.YtdngdjbgmojcoaaGreat.Pln
namespace Go.Proofs.YtdngdjbgmojcoaaGreat.Pln
set_option linter.all false
set_option maxHeartbeats 1000000
open Go Go.VS
theorem Xkz {α:Type} {p:α->α->Bool} (h:∀a b,p a b=true->a=b):∀{l q:List α},Fv p l q=true->l=q
 |[],[],_=>rfl
 |x::l,y::q,hh=>by
  have h':(p x y&&Fv p l q)=true:=hh;rw[ad] at h';rw[h x y h'.1,Xkz h h'.2]
 |[],_:: _,hh=>by cases hh
 | _:: _,[],hh=>by cases hh
theorem Xwh (a b:Sec) (h:Mw a b=true):a=b:=by
 cases a;cases b;simp [Mw] at h;simp [h]
theorem Xqe {a b:Pl}:Sy a b=true↔a=b:=by
 constructor
 ·intro h;unfold Sy at h;simp only[ad,bq] at h;obtain⟨h1,h2,h3,h4,h5,h6⟩:=h;have h3':=Xkz Xwh h3;have h6':=Xkz (fun a b=>Sx.1) h6;cases a;cases b;simp only at*;subst h1 h2 h3' h4 h5 h6';rfl
 ·rintro rfl;exact Pq _
def Xoh (t:List UInt8):List UInt8:=Y3m t.length++t
def rdZ:Rd Int:=fun b s=>(if (rdN b s).2.2 then 0 else(rdN b s).1,(rdN b s).2)
def unW (b:List UInt8) (at':Nat):Option (List UInt8×Nat):=match Jt (b.drop at') with
 |none=>none
 |some r=>if 65536<r.1∨b.length - (at'+r.2)<r.1 then none else some ((b.drop (at'+r.2)).take r.1,at'+r.2+r.1)
def Xq7 (e:Bool):Rd Pl:=fun b s=>if s.2=true then(Aq,s) else match unW b s.1 with
 |none=>(Aq,(s.1,true))
 |some r=>if r.1=[]∧e=true then(Aq,(r.2,false)) else if Z6 r.1 then((V6 r.1).1,(r.2,false)) else(Aq,(r.2,true))
def Xpl (r:Rt) (ph g:Int):Int×UInt8×Int×Int:=(r.id,UInt8.ofNat (min ph 255).toNat,g,if min ph 255=3∨min ph 255=4 then r.timer else 0)
theorem Xrl {n:Int} (h:0<=n∧n<=2147483647):Wq rdZ (Y3m n) n:=fun x y=>by
 unfold rdZ;rw[Zm h x y];rfl
theorem Xvi {n:Int} (h:0<=n∧n<=2147483647):0<(Y3m n).length:=by
 unfold Y3m;rw[if_pos h];unfold Ur;split<;>simp
theorem Xvj {t:List UInt8} (ht:t.length<=65536) (x y:List UInt8):unW (x++(Xoh t++y)) x.length=some (t,x.length+(Xoh t).length):=by
 unfold unW Xoh;have e:List.drop x.length (x++(Y3m t.length++t++y))=Y3m t.length++(t++y):=by rw[aq];exact fw rfl
 rw[e,Jx ⟨by omega,by omega⟩];dsimp only;rw[Int.toNat_natCast,if_neg (by simp only[ac];omega)];have e2:List.drop (x.length+(Y3m (t.length:Int)).length) (x++(Y3m t.length++t++y))=t++y:=by
  rw[<- f7,e];exact fw rfl
 rw[e2,List.take_left' rfl,ac,Nat.add_assoc]
theorem Xtk {p:Pl} (h:Uf p=true) (e:Bool):Wq (Xq7 e) (Xoh (Wg p)) p:=fun x y=>by
 unfold Xq7;have h1:=R7 h;dsimp only;rw[if_neg (by decide),Xvj (by omega)];dsimp only;have h2:Wg p≠[]:=fun h0=>by
  have h3:=Xvi (Us h).ver;unfold Wg at h0;have:=congrArg List.length h0;simp only[ac,List.length_nil] at this;omega
 have h4:=Eh h [];rw[a9] at h4;rw[if_neg (fun h'=>h2 h'.1),h4,if_pos (by decide),Xu7 h]
theorem Xr6:Wq (Xq7 true) (Xoh []) Aq:=fun x y=>by
 unfold Xq7;dsimp only;rw[if_neg (by decide),Xvj (by simp)];rfl
theorem Xvk:∀(l:List UInt8) (i acc:Nat) (r:Nat×Nat),R1 l i acc=some r->r.2<=i+l.length∧r.1<=2147483647
 |[],_,_,_,h=>by simp [R1] at h
 |c::l,i,acc,r,h=>by
  unfold R1 at h;split at h
  ·cases h
  ·split at h
   ·have:=Xvk l _ _ r h;rw[List.length_cons];omega
   ·split at h
    ·cases h
    ·rename_i h2;injection h with h
     subst h;rw[List.length_cons];dsimp only;omega
theorem Xsu {l:List UInt8} {r:Nat×Nat} (h:Jt l=some r):r.2<=l.length∧r.1<=2147483647:=by
 have:=Xvk l 0 0 r h;omega
structure Hs where
 key:List UInt8
 plan:Pl
 back:Pl
 high:Int
 st:St
 buf:List UInt8
 next:Pl
 halt:Bool
def hsC (h:Hs):List AV:=[.sl 1 (Xo h.key) .sh,i64 h.plan.ver,i64 h.plan.par,.sl 3 (h.plan.secs.map Y6) .sh,.sl 2 (h.plan.pts.map jnC) .sh,.sl 3 (h.plan.sgs.map sgC) .sh,.sl 7 (h.plan.rts.map rtC) .sh,
 i64 h.back.ver,i64 h.back.par,.sl 3 (h.back.secs.map Y6) .sh,.sl 2 (h.back.pts.map jnC) .sh,.sl 3 (h.back.sgs.map sgC) .sh,.sl 7 (h.back.rts.map rtC) .sh,i64 h.high,.sl 2 (h.st.tr.map tkC) .sh,.sl 3 (h.st.sw.map sgC) .sh,.sl 4 (h.st.lk.map lkC) .sh,
 .sl 1 (Xo h.buf) .sh,i64 h.next.ver,i64 h.next.par,.sl 3 (h.next.secs.map Y6) .sh,.sl 2 (h.next.pts.map jnC) .sh,.sl 3 (h.next.sgs.map sgC) .sh,.sl 7 (h.next.rts.map rtC) .sh,bool h.halt]
def hsA (h:Hs):AV:= .agg (hsC h)
structure SmH (h:Hs):Prop where
 plan:Sm h.plan
 back:Sm h.back
 next:Sm h.next
 st:SmS h.st
 key:h.key.length<=1000
 buf:h.buf.length<=5000
def Xp3 (p:Pl):Bool:=Sy p Aq
def Xy6 (h:Hs):Bool:=Xp3 h.back||(Xo3 h.back==0&&h.back.ver==h.plan.par)
def Xo9 (h:Hs):Bool:= !(h.halt||(!Xy6 h||(decide (h.high<h.plan.ver)||(decide (2147483647<h.high)||Xrz h.plan h.st !=0))))
def Xoc (h:Hs):Int:=if Xo9 h then 0 else 8
def Xpf (h:Hs):List UInt8:=if Xp3 h.back then[] else Wg h.back
def swN (s:List (Int×Int×Int)):List Int:=s.map fun w=>w.2.2
def lkN (s:List (Int×UInt8×Int×Int)):List Int:=s.flatMap fun l=>[(l.2.1.toNat:Int),l.2.2.1]
def Xrf (h:Hs):List Int:=h.high::(swN h.st.sw++lkN h.st.lk)
def Xp7 (h:Hs):List UInt8:=Xoh (Wg h.plan)++(Xoh (Xpf h)++(Xrf h).flatMap Y3m)
def Xlr (h:Hs):List UInt8:=if Xo9 h then Xp7 h else[]
def Xrr (h:Hs):Hs:=⟨[],h.plan,h.back,h.high,Xjm h.plan h.st,[],Aq,false⟩
def Xtd:Hs:=⟨[],Aq,Aq,0,Y2v,[],Aq,false⟩
def rdW:List (Int×Int)->Rd (List (Int×Int×Int))
 |[]=>rdP []
 |x::l=>rdB rdZ fun c=>rdB (rdW l) fun r=>rdP ((x.1,0,c)::r)
def Xs3:List Rt->Rd (List (Int×UInt8×Int×Int))
 |[]=>rdP []
 |x::l=>rdB rdZ fun p=>rdB rdZ fun g=>rdB (Xs3 l) fun r=>rdP (Xpl x p g::r)
def Xy7:Rd Hs:=rdB (Xq7 false) fun p=>rdB (Xq7 true) fun q=>rdB rdZ fun n=>rdB (rdW p.pts) fun w=>rdB (Xs3 p.rts) fun k=>rdP ⟨[],p,q,n,⟨p.secs.map atT,w,k⟩,[],Aq,false⟩
def Xod (b:List UInt8):Bool:= !(Xy7 b (0,false)).2.2&&(Xo9 (Xy7 b (0,false)).1&&Xp7 (Xy7 b (0,false)).1==b)
def Xof (b:List UInt8):Hs:=if Xod b then(Xy7 b (0,false)).1 else Xtd
def Xrg (l:Int×UInt8×Int×Int) (r:Rt):Int×UInt8×Int×Int:=if 0<l.2.2.2 then(l.1,l.2.1,l.2.2.1,r.timer) else l
theorem Xv4:∀{s:List (Int×Int×Int)} {l:List (Int×Int)},Fv Xuw s l=true->Wq (rdW l) ((swN s).flatMap Y3m) (s.map Xpo)
 |[],[],_=>R2 []
 |w::s,x::l,h=>by
  rw[Fv,ad] at h;have h1:=h.1;unfold Xuw Xyh at h1;simp only[ad,bq,ao] at h1;have e:swN (w::s)=w.2.2::swN s:=rfl;rw[e,bw];have e2:(w::s).map Xpo=(x.1,0,w.2.2)::s.map Xpo:=by rw[<- h1.1];rfl
  rw[e2];exact Yu (Xrl ⟨h1.2.2.1,by omega⟩) (Ke (Xv4 h.2))
 |[],_:: _,h=>by simp [Fv] at h
 | _:: _,[],h=>by simp [Fv] at h
theorem Xqi {l:Int×UInt8×Int×Int} {r:Rt} (h:Xsm l r=true) (hr:r.path.length<=127) (h1p:1<=r.path.length):Xpl r (l.2.1.toNat:Int) l.2.2.1=Xrg l r∧nOk (l.2.1.toNat:Int)∧nS l.2.2.1∧l.2.1.toNat<=4:=by
 obtain⟨a,ph,g,t⟩:=l;unfold Xsm Xr7 at h;simp only[ad,bq] at h;obtain⟨h1,h2⟩:=h;have key:∀k:UInt8,k.toNat<=4->ph=k->Xpl r (ph.toNat:Int) g=(r.id,ph,g,if ph=3∨ph=4 then r.timer else 0):=fun k hk e=>by
  subst e;have m:min (ph.toNat:Int) 255=(ph.toNat:Int):=by omega
  have q:∀k:UInt8,((ph.toNat:Int)=(k.toNat:Int))↔ph=k:=fun k=>by
   constructor
   ·intro h;exact UInt8.toNat_inj.1 (by omega)
   ·rintro rfl;rfl
  have q3:=q 3;have q4:=q 4;simp only[show((3:UInt8).toNat:Int)=3 from rfl,show((4:UInt8).toNat:Int)=4 from rfl] at q3 q4;unfold Xpl;rw[m];simp only[q3,q4,Int.toNat_natCast,UInt8.ofNat_toNat]
 subst h1;dsimp only;unfold Xrg;dsimp only;by_cases p0:ph=0∨ph=1
 ·rw[if_pos p0] at h2;simp only[ad,bq] at h2;obtain⟨rfl,rfl⟩:=h2;rcases p0 with rfl|rfl
  ·exact⟨by rw[key 0 (by decide) rfl];rfl,⟨by decide,by decide⟩,⟨by decide,by decide⟩,by decide⟩
  ·exact⟨by rw[key 1 (by decide) rfl];rfl,⟨by decide,by decide⟩,⟨by decide,by decide⟩,by decide⟩
 ·rw[if_neg p0] at h2;by_cases p2:ph=2
  ·rw[if_pos p2] at h2;simp only[ad,bq,ao] at h2;obtain⟨⟨g1,g2⟩,rfl⟩:=h2;subst p2;exact⟨by rw[key 2 (by decide) rfl];rfl,⟨by decide,by decide⟩,⟨g1,by omega⟩,by decide⟩
  ·rw[if_neg p2] at h2;by_cases p3:ph=3
   ·rw[if_pos p3] at h2;simp only[ad,bq,ao] at h2;obtain⟨⟨g1,g2⟩,g3⟩:=h2;subst p3;exact⟨by rw[key 3 (by decide) rfl,if_pos (show 0<t by omega)];rfl,⟨by decide,by decide⟩,⟨by omega,by omega⟩,by decide⟩
   ·rw[if_neg p3] at h2;by_cases p4:ph=4
    ·rw[if_pos p4] at h2;simp only[ad,bq,ao] at h2;obtain⟨⟨rfl,g2⟩,g3⟩:=h2;subst p4;exact⟨by rw[key 4 (by decide) rfl,if_pos (show 0<t by omega)];rfl,⟨by decide,by decide⟩,⟨by decide,by decide⟩,by decide⟩
    ·rw[if_neg p4] at h2;cases h2
theorem Xte {p:Pl} (h:Uf p=true) {r:Rt} (hr:r∈p.rts):1<=r.path.length∧r.path.length<=6:=by
 have h1:=(Us h).r r hr;refine⟨?_,h1.2.2.2.2.2.2.2.1⟩;obtain⟨_,_,_,_,_,_,hrs⟩:=Xol h;have h8:=hrs r hr;unfold okR at h8;cases hq:Xpe p.sgs r.entry with
 |none=>rw[hq] at h8;cases h8
 |some en=>
  rw[hq] at h8;simp only[ad,ao] at h8;obtain⟨⟨⟨⟨⟨⟨⟨⟨⟨x1,_⟩,x3⟩,x4⟩,x5⟩,x6⟩,x7⟩,x8⟩,x9⟩,x10⟩:=h8;omega
def Xy8 (l:Int×UInt8×Int×Int):List UInt8:=Y3m (l.2.1.toNat:Int)++Y3m l.2.2.1
theorem Xrh:∀(s:List (Int×UInt8×Int×Int)),(lkN s).flatMap Y3m=s.flatMap Xy8
 |[]=>rfl
 |l::s=>by
  have e:lkN (l::s)=(l.2.1.toNat:Int)::l.2.2.1::lkN s:=rfl;rw[e,bw,bw,bw,Xrh s,Xy8,aq]
theorem Xtf:∀{s:List (Int×UInt8×Int×Int)} {l:List Rt},Fv Xsm s l=true->(∀r,r∈l->1<=r.path.length∧r.path.length<=6)->Wq (Xs3 l) (s.flatMap Xy8) (List.zipWith Xrg s l)
 |[],[],_,_=>R2 []
 |w::s,x::l,h,hl=>by
  rw[Fv,ad] at h;obtain⟨h1,h2⟩:=hl x (cy ..);obtain⟨e1,e2,e3,_⟩:=Xqi h.1 (by omega) h1;rw[bw,List.zipWith_cons_cons,Xy8,aq,<- e1];exact Yu (Xrl e2) (Yu (Xrl e3.ok) (Ke (Xtf h.2 fun r hr=>hl r (bz _ hr))))
 |[],_:: _,h,_=>by simp [Fv] at h
 | _:: _,[],h,_=>by simp [Fv] at h
theorem Xs4 (p:Pl) (s:St) (h:s.lk.length=p.rts.length):(Xjm p s).lk=List.zipWith Xrg s.lk p.rts:=by
 apply ia
 ·simp [Xjm,h]
 ·intro i h1 h2;have hi:i<p.rts.length:=by simp [Xjm] at h1;omega
  simp only[Xjm,List.getElem_mapIdx,List.getElem_zipWith,Xr0,Xrg,af,ah hi,Option.getD_some]
theorem Xqj:∀{t:List (Int×UInt8)} {l:List Sec},Fv Xvr t l=true->t.map Xuh=l.map atT
 |[],[],_=>rfl
 |w::s,x::l,h=>by
  rw[Fv,ad] at h;have h1:=h.1;unfold Xvr at h1;simp only[ad,bq] at h1;rw[bk,bk,Xqj h.2]
  congr 1
  unfold Xuh atT;rw[h1.1]
 |[],_:: _,h=>by simp [Fv] at h
 | _:: _,[],h=>by simp [Fv] at h
theorem Xp8 {p:Pl} {s:St} (h:Xrz p s=0):Xo3 p=0∧Fv Xvr s.tr p.secs=true∧Fv Xuw s.sw p.pts=true∧Fv Xsm s.lk p.rts=true∧(Xpg p s).ok=true:=by
 unfold Xrz at h;split at h
 ·rename_i hE;split at h
  ·rename_i hg;unfold Xqm Xog at hg;simp only[ad] at hg;exact⟨hE,hg.1.1,hg.1.2.1,hg.1.2.2,hg.2⟩
  ·cases h
 ·rename_i hE;exact(hE h).elim
structure CkH (h:Hs):Prop where
 halt:h.halt=false
 back:Xp3 h.back=true∨(Xo3 h.back=0∧h.back.ver=h.plan.par)
 high:h.plan.ver<=h.high∧h.high<=2147483647
 st:Xrz h.plan h.st=0
theorem Xor {h:Hs}:Xo9 h=true↔CkH h:=by
 unfold Xo9 Xy6;simp only[c9,dj,iy,ck,ad,bq,dt,bne_eq_false_iff_eq];constructor
 ·rintro⟨h1,h2,h3,h4,h5⟩;exact⟨h1,h2,⟨by omega,by omega⟩,h5⟩
 ·rintro⟨h1,h2,⟨h3,h4⟩,h5⟩;exact⟨h1,h2,by omega,by omega,h5⟩
theorem Xy9 {h:Hs} (hc:Xo9 h=true):Wq Xy7 (Xp7 h) (Xrr h):=by
 obtain⟨c1,c2,c3,c4⟩:=Xor.1 hc;obtain⟨s1,s2,s3,s4,_⟩:=Xp8 c4;have hm:=(Xoa s1).1;have hv:=(Us hm).ver;have e0:Xp7 h=Xoh (Wg h.plan)++(Xoh (Xpf h)++(Y3m h.high++((swN h.st.sw).flatMap Y3m++h.st.lk.flatMap Xy8))):=by
  unfold Xp7 Xrf;rw[bw,b0,Xrh]
 have e1:Xrr h=⟨[],h.plan,h.back,h.high,⟨h.plan.secs.map atT,h.st.sw.map Xpo,List.zipWith Xrg h.st.lk h.plan.rts⟩,[],Aq,false⟩:=by
  unfold Xrr;rw[show Xjm h.plan h.st=⟨(Xjm h.plan h.st).tr,(Xjm h.plan h.st).sw,(Xjm h.plan h.st).lk⟩ from rfl,Xs4 _ _ (Xov s4),show(Xjm h.plan h.st).tr=h.st.tr.map Xuh from rfl,Xqj s2];rfl
 rw[e0,e1];have rb:Wq (Xq7 true) (Xoh (Xpf h)) h.back:=by
  unfold Xpf;rcases c2 with c2|c2
  ·rw[if_pos c2,Xqe.1 c2];exact Xr6
  ·cases hn:Xp3 h.back with
   |true=>rw[if_pos rfl,Xqe.1 hn];exact Xr6
   |false=>rw[if_neg (by decide)];exact Xtk (Xoa c2.1).1 true
 refine Yu (Xtk hm false) (Yu rb (Yu (Xrl ⟨by have:=hv.1;omega,by omega⟩) (Yu (Xv4 s3) (Ke (Xtf s4 fun r hr=>Xte hm hr)))))
end Go.Proofs.YtdngdjbgmojcoaaGreat.Pln
namespace Go.Proofs.YtdngdjbgmojcoaaGreat.Pln
set_option linter.all false
open Go Go.VS Tab
theorem Zb:Opens Tryz.prog 3 Ym (fun a=>(Lit.int .i64 a).wf=true):=Tv Tryz.underlying3
theorem Pp:Opens Tryz.prog 61 (fun l:List Int=>[X62 l]) (fun l=>l.length<=reachBytes):=
 (Zg Tryz.underlying61 Zb (sz:=1) (by kernel_rfl) (by decide) (bf (by kernel_rfl))).map fun l hl=>⟨l,hl.1,rfl⟩
theorem X0f:Opens Tryz.prog 138 jnC (fun _=>True):=
 (Zh Tryz.underlying138 (tot:=2) (by kernel_rfl) (.cons (s:=1) Zb rfl (by kernel_rfl) rfl (.cons (s:=1) Zb rfl (by kernel_rfl) rfl .nil))).map
  fun p hp=>⟨(p.1,p.2.1),trivial,rfl⟩
theorem X0g:Opens Tryz.prog 79 jnC (fun _=>True):=
 (Zh Tryz.underlying79 (tot:=2) (by kernel_rfl) (.cons (s:=1) Zb rfl (by kernel_rfl) rfl (.cons (s:=1) Zb rfl (by kernel_rfl) rfl .nil))).map
  fun p hp=>⟨(p.1,p.2.1),trivial,rfl⟩
theorem X0h:Opens Tryz.prog 142 jnC (fun _=>True):=
 (Zh Tryz.underlying142 (tot:=2) (by kernel_rfl) (.cons (s:=1) Zb rfl (by kernel_rfl) rfl (.cons (s:=1) Zb rfl (by kernel_rfl) rfl .nil))).map
  fun p hp=>⟨(p.1,p.2.1),trivial,rfl⟩
theorem X0i:Opens Tryz.prog 92 sgC (fun _=>True):=
 (Zh Tryz.underlying92 (tot:=3) (by kernel_rfl) (.cons (s:=1) Zb rfl (by kernel_rfl) rfl (.cons (s:=1) Zb rfl (by kernel_rfl) rfl (.cons (s:=1) Zb rfl (by kernel_rfl) rfl .nil)))).map
  fun p hp=>⟨(p.1,p.2.1,p.2.2.1),trivial,rfl⟩
theorem Hr:Opens Tryz.prog 75 Y6 (fun _=>True):=
 (Zh Tryz.underlying75 (tot:=3) (by kernel_rfl) (.cons (s:=1) Zb rfl (by kernel_rfl) rfl (.cons (s:=1) Zb rfl (by kernel_rfl) rfl
  (.cons (s:=1) (Zg Tryz.underlying73 X0f (sz:=2) (by kernel_rfl) (by decide) (bf (by kernel_rfl))) rfl (by kernel_rfl) rfl .nil)))).map
  fun p hp=>⟨⟨p.1,p.2.1,p.2.2.1⟩,trivial,rfl⟩
def RtB (r:Rt):Prop:=r.path.length<=reachBytes∧r.over.length<=reachBytes∧r.flanks.length<=reachBytes
theorem X0j:Opens Tryz.prog 82 rtC RtB:=
 (Zh Tryz.underlying82 (tot:=7) (by kernel_rfl) (.cons (s:=1) Zb rfl (by kernel_rfl) rfl (.cons (s:=1) Zb rfl (by kernel_rfl) rfl (.cons (s:=1) Zb rfl (by kernel_rfl) rfl
  (.cons (s:=1) Pp rfl (by kernel_rfl) rfl (.cons (s:=1) Pp rfl (by kernel_rfl) rfl
  (.cons (s:=1) (Zg Tryz.underlying80 X0h (sz:=2) (by kernel_rfl) (by decide) (bf (by kernel_rfl))) rfl (by kernel_rfl) rfl
  (.cons (s:=1) Zb rfl (by kernel_rfl) rfl .nil)))))))).map
  fun p hp=>⟨⟨p.1,p.2.1,p.2.2.1,p.2.2.2.1,p.2.2.2.2.1,p.2.2.2.2.2.1,p.2.2.2.2.2.2.1⟩,⟨hp.2.2.2.1,hp.2.2.2.2.1,hp.2.2.2.2.2.1.1⟩,rfl⟩
def PlB (p:Pl):Prop:=∀r,r∈p.rts->RtB r
theorem Y5r:Opens Tryz.prog 28 plC PlB:=
 (Zh Tryz.underlying28 (tot:=6) (by kernel_rfl) (.cons (s:=1) Zb rfl (by kernel_rfl) rfl (.cons (s:=1) Zb rfl (by kernel_rfl) rfl
  (.cons (s:=1) (Zg Tryz.underlying23 Hr (sz:=3) (by kernel_rfl) (by decide) (bf (by kernel_rfl))) rfl (by kernel_rfl) rfl
  (.cons (s:=1) (Zg Tryz.underlying24 X0g (sz:=2) (by kernel_rfl) (by decide) (bf (by kernel_rfl))) rfl (by kernel_rfl) rfl
  (.cons (s:=1) (Zg Tryz.underlying25 X0i (sz:=3) (by kernel_rfl) (by decide) (bf (by kernel_rfl))) rfl (by kernel_rfl) rfl
  (.cons (s:=1) (Zg Tryz.underlying26 X0j (sz:=7) (by kernel_rfl) (by decide) (bf (by kernel_rfl))) rfl (by kernel_rfl) rfl .nil))))))).map
  fun p hp=>⟨⟨p.1,p.2.1,p.2.2.1,p.2.2.2.1,p.2.2.2.2.1,p.2.2.2.2.2.1⟩,hp.2.2.2.2.2.1.2,rfl⟩
theorem X0k:Opens Tryz.prog 28 plC (fun _=>True):=Y5r.map fun p _=>⟨p,trivial,rfl⟩
theorem Xv2:OpensArg Tryz.prog 22 (fun l:List UInt8=> .sl 1 (Xo l) .sh) (fun l=>l.length<=reachBytes):=J8 Tryz.underlying22 Tryz.underlying5 (by kernel_rfl) (bf (by kernel_rfl))
theorem Xx0:Opens Tryz.prog 77 tkC (fun _=>True):=
 (Zh Tryz.underlying77 (tot:=2) (by kernel_rfl) (.cons (s:=1) Zb rfl (by kernel_rfl) rfl (.cons (s:=1) (X1c Tryz.underlying5) rfl (by kernel_rfl) rfl .nil))).map
  fun p hp=>⟨(p.1,p.2.1),trivial,rfl⟩
theorem Xx1:Opens Tryz.prog 63 sgC (fun _=>True):=
 (Zh Tryz.underlying63 (tot:=3) (by kernel_rfl) (.cons (s:=1) Zb rfl (by kernel_rfl) rfl (.cons (s:=1) Zb rfl (by kernel_rfl) rfl (.cons (s:=1) Zb rfl (by kernel_rfl) rfl .nil)))).map
  fun p hp=>⟨(p.1,p.2.1,p.2.2.1),trivial,rfl⟩
theorem Xx2:Opens Tryz.prog 65 lkC (fun _=>True):=
 (Zh Tryz.underlying65 (tot:=4) (by kernel_rfl) (.cons (s:=1) Zb rfl (by kernel_rfl) rfl (.cons (s:=1) (X1c Tryz.underlying5) rfl (by kernel_rfl) rfl (.cons (s:=1) Zb rfl (by kernel_rfl) rfl (.cons (s:=1) Zb rfl (by kernel_rfl) rfl .nil))))).map
  fun p hp=>⟨(p.1,p.2.1,p.2.2.1,p.2.2.2.1),trivial,rfl⟩
theorem Xx3:Opens Tryz.prog 33 stC (fun _=>True):=
 (Zh Tryz.underlying33 (tot:=3) (by kernel_rfl)
  (.cons (s:=1) (Zg Tryz.underlying29 Xx0 (sz:=2) (by kernel_rfl) (by decide) (bf (by kernel_rfl))) rfl (by kernel_rfl) rfl
  (.cons (s:=1) (Zg Tryz.underlying30 Xx1 (sz:=3) (by kernel_rfl) (by decide) (bf (by kernel_rfl))) rfl (by kernel_rfl) rfl
  (.cons (s:=1) (Zg Tryz.underlying31 Xx2 (sz:=4) (by kernel_rfl) (by decide) (bf (by kernel_rfl))) rfl (by kernel_rfl) rfl .nil)))).map
  fun p hp=>⟨⟨p.1,p.2.1,p.2.2.1⟩,trivial,rfl⟩
theorem Xvn:Opens Tryz.prog 22 (fun l:List UInt8=>[.sl 1 (Xo l) .sh]) (fun l=>l.length<=reachBytes):=Cr Tryz.underlying22 Tryz.underlying5 (by kernel_rfl) (bf (by kernel_rfl))
theorem Xyf:Opens Tryz.prog 35 hsC (fun _=>True):=
 (Zh Tryz.underlying35 (tot:=25) (by kernel_rfl)
  (.cons (s:=1) Xvn rfl (by kernel_rfl) rfl (.cons (s:=6) X0k rfl (by kernel_rfl) rfl (.cons (s:=6) X0k rfl (by kernel_rfl) rfl (.cons (s:=1) Zb rfl (by kernel_rfl) rfl (.cons (s:=3) Xx3 rfl (by kernel_rfl) rfl
  (.cons (s:=1) Xvn rfl (by kernel_rfl) rfl (.cons (s:=6) X0k rfl (by kernel_rfl) rfl (.cons (s:=1) (Xun Tryz.underlying4) rfl (by kernel_rfl) rfl .nil))))))))).map
  fun p hp=>⟨⟨p.1,p.2.1,p.2.2.1,p.2.2.2.1,p.2.2.2.2.1,p.2.2.2.2.2.1,p.2.2.2.2.2.2.1,p.2.2.2.2.2.2.2.1⟩,trivial,rfl⟩
theorem Y1h:OpensArg Tryz.prog 35 hsA (fun _=>True):= .agg Xyf (X4g (.inr ⟨_,Tryz.underlying35⟩))
end Go.Proofs.YtdngdjbgmojcoaaGreat.Pln
namespace Go.Proofs.YtdngdjbgmojcoaaGreat.Pln
set_option linter.all false
set_option maxHeartbeats 8000000
set_option maxRecDepth 4000
open Go Go.VS Tab
attribute [local irreducible] AWp Xp0 Pg X5c Qy Lt Tp FdT Eb
theorem Xwy (a b:St) (hS:SmS a):Xr Tryz.prog 37 [stA a,stA b] [] (bool (Xqz a b)) []:=by
 have l1:=hS.t;have l2:=hS.w;have l3:=hS.l;by_cases hh:a.tr.length=b.tr.length∧a.sw.length=b.sw.length∧a.lk.length=b.lk.length
 ·obtain⟨h4,h5,h6⟩:=hh;have e4:((a.tr.length:Int) !=(b.tr.length:Int))=false:=by simp [h4]
  have e5:((a.sw.length:Int) !=(b.sw.length:Int))=false:=by simp [h5]
  have e6:((a.lk.length:Int) !=(b.lk.length:Int))=false:=by simp [h6]
  obtain⟨B,hB⟩:∃B,B=Xqz a b:=⟨_,rfl⟩
  have hS:B=(a.tr==b.tr&&(a.sw==b.sw&&a.lk==b.lk)):=hB;rw[<- hB];have badP:∀i (hi:i<a.tr.length) (hi':i<b.tr.length),a.tr[i]≠b.tr[i]->B=false:=fun i hi hi' h=>by rw[hS,Ut hi hi' h];rfl
  have badG:∀i (hi:i<a.sw.length) (hi':i<b.sw.length),a.sw[i]≠b.sw[i]->B=false:=fun i hi hi' h=>by rw[hS,Ut hi hi' h];simp
  have X0c:∀i (hi:i<a.lk.length) (hi':i<b.lk.length),a.lk[i]≠b.lk[i]->B=false:=fun i hi hi' h=>by rw[hS,Ut hi hi' h];simp
  clear hB;refine Xc 2 Tryz.func37 rfl fun n out _ _=> ?_;simp only[sn,Tryz.ntmps37,simprocAttr];have hg:=Nat.le_refl 0;repeat' (first|refine Vk fun K hK=> ?_|apply V0|apply Vb|apply Vc|apply Vr|apply Vs|with_reducible apply ab|refine Vq (by kernel_rfl) ?_|((first|apply gE|apply gR|apply gS);simp only[zA,simprocAttr,stA,stC,e4,e5,e6])|exact Vn|(apply Vz;refine Vo rfl rfl rfl (fun _ _=>rfl) ?_<;>first|rfl|skip)|((refine Vg (fun hg=> ?_) (fun hg=> ?_))<;>try simp only[nb] at hg)|(apply Vx;simp only[sb,reduceIte,Nat.reduceEqDiff])|(refine hK _ ?_;clear hK K)|refine Vt rfl ?_|refine Vf rfl ?_|refine Vi rfl (fun hg=> ?_) (fun hg=> ?_)|((first|show Program.eqGuardType _ _ _=false|show Xs _ _ _=true|show Program.stoodInHeld _ _=false);kernel_rfl)|clear hK K)
  apply V5;refine Xpw (a.tr.length) (fun i=>(∀j (hj:j<a.tr.length) (hj':j<b.tr.length),j<i->a.tr[j]=b.tr[j])) (fun m i=>tp [4] (tr 33 18 [(5,i64 (i:Int)),(2,.ptr (m+0) 0),(3,.ptr (m+1) 0)])) (fun m i=>[some (.box 33 (stC a)),some (.box 33 (stC b))]) (by intros;omega) ?_ fun m i hm hi=> ?_
  ·refine X2 ?_ ?_ (by first|rfl|(simp only[stC];rfl)|simp only[stC]) rfl rfl rfl<;>simp only[sL,stC]
  obtain⟨hi,hq⟩:=hi;simp only[pt];have hw:=Yl (n:=i) 1 1 rfl (by omega);by_cases hlt:i<a.tr.length
  ·have hlt':i<b.tr.length:=by omega
   have ga:=Xg tkC a.tr i [] hlt;have gb:=Xg tkC b.tr i [] hlt';repeat' (first|refine Vk fun K hK=> ?_|apply V0|apply Vb|apply Vc|apply Vr|apply Vs|with_reducible apply ab|refine Vq (by kernel_rfl) ?_|((first|apply gE|apply gR|apply gS);simp only[zA,simprocAttr,hg,Xi hm,stC,tkC,hlt,hlt',ga,gb,Xqo,hw])|exact Vn|(apply Vz;refine Vo rfl rfl rfl (fun _ _=>rfl) ?_<;>first|rfl|(rw[badP i hlt hlt' (by simpa using hg)];rfl)|skip)|((refine Vg (fun hg=> ?_) (fun hg=> ?_))<;>try simp only[nb] at hg)|(apply Vx;simp only[sb,reduceIte,Nat.reduceEqDiff])|(refine hK _ ?_;clear hK K)|refine Vt rfl ?_|refine Vf rfl ?_|refine Vi rfl (fun hg=> ?_) (fun hg=> ?_)|((first|show Program.eqGuardType _ _ _=false|show Xs _ _ _=true|show Program.stoodInHeld _ _=false);kernel_rfl)|clear hK K)
   refine⟨i+1,⟨by omega,fun j hj hj' hji=> ?_⟩,by omega,?_⟩
   ·by_cases h:j=i
    ·subst h;simpa using hg
    ·exact hq j hj hj' (by omega)
   refine Xx [true,true] ?_ ?_<;>intro n_<;>simp only[sM]
  ·have eP:(a.tr==b.tr)=true:=Ua (l:=a.tr) (m:=b.tr) h4 fun j hj hj'=>hq j hj hj' (by omega);repeat' (first|refine Vk fun K hK=> ?_|apply V0|apply Vb|apply Vc|apply Vr|apply Vs|with_reducible apply ab|refine Vq (by kernel_rfl) ?_|((first|apply gE|apply gR|apply gS);simp only[zA,simprocAttr,Xi hm,stC,hlt])|exact Vn|(apply Vz;refine Vo rfl rfl rfl (fun _ _=>rfl) ?_<;>first|rfl|skip)|((refine Vg (fun hg=> ?_) (fun hg=> ?_))<;>try simp only[nb] at hg)|(apply Vx;simp only[sb])|(refine hK _ ?_;clear hK K)|refine Vt rfl ?_|refine Vf rfl ?_|refine Vi rfl (fun hg=> ?_) (fun hg=> ?_)|((first|show Program.eqGuardType _ _ _=false|show Xs _ _ _=true|show Program.stoodInHeld _ _=false);kernel_rfl)|clear hK K)
   apply V5;refine Xpw (a.sw.length) (fun i=>(∀j (hj:j<a.sw.length) (hj':j<b.sw.length),j<i->a.sw[j]=b.sw[j])) (fun m i=>tp [4] (tr 51 18 [(6,i64 (i:Int)),(2,.ptr (m+0) 0),(3,.ptr (m+1) 0)])) (fun m i=>[some (.box 33 (stC a)),some (.box 33 (stC b))]) (by intros;omega) ?_ fun m i hm hi=> ?_
   ·refine X2 ?_ ?_ (by first|rfl|(simp only[stC];rfl)|simp only[stC]) rfl rfl rfl<;>simp only[sL,stC]
   obtain⟨hi,hq⟩:=hi;simp only[pt];have hw:=Yl (n:=i) 1 1 rfl (by omega);by_cases hlt:i<a.sw.length
   ·have hlt':i<b.sw.length:=by omega
    have ga:=Xg sgC a.sw i [] hlt;have gb:=Xg sgC b.sw i [] hlt';repeat' (first|refine Vk fun K hK=> ?_|apply V0|apply Vb|apply Vc|apply Vr|apply Vs|with_reducible apply ab|refine Vq (by kernel_rfl) ?_|((first|apply gE|apply gR|apply gS);simp only[zA,simprocAttr,hg,Xi hm,stC,sgC,hlt,hlt',ga,gb,Yfm,hw])|exact Vn|(apply Vz;refine Vo rfl rfl rfl (fun _ _=>rfl) ?_<;>first|rfl|(rw[badG i hlt hlt' (by simpa using hg)];rfl)|skip)|((refine Vg (fun hg=> ?_) (fun hg=> ?_))<;>try simp only[nb] at hg)|(apply Vx;simp only[sb,reduceIte,Nat.reduceEqDiff])|(refine hK _ ?_;clear hK K)|refine Vt rfl ?_|refine Vf rfl ?_|refine Vi rfl (fun hg=> ?_) (fun hg=> ?_)|((first|show Program.eqGuardType _ _ _=false|show Xs _ _ _=true|show Program.stoodInHeld _ _=false);kernel_rfl)|clear hK K)
    refine⟨i+1,⟨by omega,fun j hj hj' hji=> ?_⟩,by omega,?_⟩
    ·by_cases h:j=i
     ·subst h;simpa using hg
     ·exact hq j hj hj' (by omega)
    refine Xx [true,true] ?_ ?_<;>intro n_<;>simp only[sM]
   ·have eG:(a.sw==b.sw)=true:=Ua (l:=a.sw) (m:=b.sw) h5 fun j hj hj'=>hq j hj hj' (by omega);repeat' (first|refine Vk fun K hK=> ?_|apply V0|apply Vb|apply Vc|apply Vr|apply Vs|with_reducible apply ab|refine Vq (by kernel_rfl) ?_|((first|apply gE|apply gR|apply gS);simp only[zA,simprocAttr,Xi hm,stC,hlt])|exact Vn|(apply Vz;refine Vo rfl rfl rfl (fun _ _=>rfl) ?_<;>first|rfl|skip)|((refine Vg (fun hg=> ?_) (fun hg=> ?_))<;>try simp only[nb] at hg)|(apply Vx;simp only[sb])|(refine hK _ ?_;clear hK K)|refine Vt rfl ?_|refine Vf rfl ?_|refine Vi rfl (fun hg=> ?_) (fun hg=> ?_)|((first|show Program.eqGuardType _ _ _=false|show Xs _ _ _=true|show Program.stoodInHeld _ _=false);kernel_rfl)|clear hK K)
    apply V5;refine Xpw (a.lk.length) (fun i=>(∀j (hj:j<a.lk.length) (hj':j<b.lk.length),j<i->a.lk[j]=b.lk[j])) (fun m i=>tp [4] (tr 69 18 [(7,i64 (i:Int)),(2,.ptr (m+0) 0),(3,.ptr (m+1) 0)])) (fun m i=>[some (.box 33 (stC a)),some (.box 33 (stC b))]) (by intros;omega) ?_ fun m i hm hi=> ?_
    ·refine X2 ?_ ?_ (by first|rfl|(simp only[stC];rfl)|simp only[stC]) rfl rfl rfl<;>simp only[sL,stC]
    obtain⟨hi,hq⟩:=hi;simp only[pt];have hw:=Yl (n:=i) 1 1 rfl (by omega);by_cases hlt:i<a.lk.length
    ·have hlt':i<b.lk.length:=by omega
     have ga:=Xg lkC a.lk i [] hlt;have gb:=Xg lkC b.lk i [] hlt';repeat' (first|refine Vk fun K hK=> ?_|apply V0|apply Vb|apply Vc|apply Vr|apply Vs|with_reducible apply ab|refine Vq (by kernel_rfl) ?_|((first|apply gE|apply gR|apply gS);simp only[zA,simprocAttr,hg,Xi hm,stC,lkC,hlt,hlt',ga,gb,Xqp,hw])|exact Vn|(apply Vz;refine Vo rfl rfl rfl (fun _ _=>rfl) ?_<;>first|rfl|(rw[X0c i hlt hlt' (by simpa using hg)];rfl)|skip)|((refine Vg (fun hg=> ?_) (fun hg=> ?_))<;>try simp only[nb] at hg)|(apply Vx;simp only[sb,reduceIte,Nat.reduceEqDiff])|(refine hK _ ?_;clear hK K)|refine Vt rfl ?_|refine Vf rfl ?_|refine Vi rfl (fun hg=> ?_) (fun hg=> ?_)|((first|show Program.eqGuardType _ _ _=false|show Xs _ _ _=true|show Program.stoodInHeld _ _=false);kernel_rfl)|clear hK K)
     refine⟨i+1,⟨by omega,fun j hj hj' hji=> ?_⟩,by omega,?_⟩
     ·by_cases h:j=i
      ·subst h;simpa using hg
      ·exact hq j hj hj' (by omega)
     refine Xx [true,true] ?_ ?_<;>intro n_<;>simp only[sM]
    ·have eR:(a.lk==b.lk)=true:=Ua (l:=a.lk) (m:=b.lk) h6 fun j hj hj'=>hq j hj hj' (by omega);have hT:B=true:=by rw[hS,eP,eG,eR];rfl
     repeat' (first|refine Vk fun K hK=> ?_|apply V0|apply Vb|apply Vc|apply Vr|apply Vs|with_reducible apply ab|refine Vq (by kernel_rfl) ?_|((first|apply gE|apply gR|apply gS);simp only[zA,simprocAttr,Xi hm,stC,hlt])|exact Vn|(apply Vz;refine Vo rfl rfl rfl (fun _ _=>rfl) ?_<;>first|rfl|(rw[hT];rfl)|skip)|((refine Vg (fun hg=> ?_) (fun hg=> ?_))<;>try simp only[nb] at hg)|(apply Vx;simp only[sb])|(refine hK _ ?_;clear hK K)|refine Vt rfl ?_|refine Vf rfl ?_|refine Vi rfl (fun hg=> ?_) (fun hg=> ?_)|((first|show Program.eqGuardType _ _ _=false|show Xs _ _ _=true|show Program.stoodInHeld _ _=false);kernel_rfl)|clear hK K)
 ·have hS:Xqz a b=false:=by
   rw[cv];intro h;unfold Xqz at h;simp only[ad,bq] at h;obtain⟨h4,h5,h6⟩:=h;exact hh ⟨by rw[h4],by rw[h5],by rw[h6]⟩
  rw[hS];refine Xc 2 Tryz.func37 rfl fun n out _ _=> ?_;simp only[sn,Tryz.ntmps37,simprocAttr];have hg:=Nat.le_refl 0;repeat' (first|refine Vk fun K hK=> ?_|apply V0|apply Vb|apply Vc|apply Vr|apply Vs|with_reducible apply ab|refine Vq (by kernel_rfl) ?_|((first|apply gE|apply gR|apply gS);simp only[zA,simprocAttr,hg,stA,stC])|exact Vn|(apply Vz;refine Vo rfl rfl rfl (fun _ _=>rfl) ?_<;>first|rfl|skip)|((refine Vg (fun hg=> ?_) (fun hg=> ?_))<;>try simp only[nb] at hg)|(apply Vx;simp only[sb,reduceIte,Nat.reduceEqDiff])|(refine hK _ ?_;clear hK K)|refine Vt rfl ?_|refine Vf rfl ?_|refine Vi rfl (fun hg=> ?_) (fun hg=> ?_)|((first|show Program.eqGuardType _ _ _=false|show Xs _ _ _=true|show Program.stoodInHeld _ _=false);kernel_rfl)|clear hK K)
  all_goals (exfalso;refine hh ?_;simp at*;exact⟨by omega,by omega,by omega⟩)
def Xs7 (s:St):Bool:=decide ((s.tr.length:Int)>200)||decide ((s.sw.length:Int)>200)||decide ((s.lk.length:Int)>200)
theorem Xvl (s:St):Xr Tryz.prog 24 [stA s] [] (bool (Xs7 s)) []:=by
 unfold Xs7;refine Xc 1 Tryz.func24 rfl fun n out _ _=> ?_;simp only[sn,Tryz.ntmps24,simprocAttr];have hg:=Nat.le_refl 0;repeat' (first|refine Vk fun K hK=> ?_|apply V0|apply Vs|with_reducible apply ab|((first|apply gE|apply gR|apply gS);simp only[zA,simprocAttr,hg,stA,stC])|exact Vn|(apply Vz;refine Vo rfl rfl rfl (fun _ _=>rfl) ?_<;>first|rfl|(simp only[g_0,g_s];refine congrArg VS.bool ?_;first|(simp_all;done)|(simp_all;omega))|skip)|((refine Vg (fun hg=> ?_) (fun hg=> ?_))<;>try simp only[nb] at hg)|(refine hK _ ?_;clear hK K)|clear hK K)
theorem Xsv (p:Pl) (hs:Sm p):Xr Tryz.prog 22 [plA p] [] (bool (Xp3 p)) []:=by
 have c0:=Du p Aq hs;rw[show Sy p Aq=Xp3 p from rfl] at c0;have c1:=Xdb (args':=[plA p,.agg [i64 0,i64 0,.sl 0 [] .nil,.sl 0 [] .nil,.sl 0 [] .nil,.sl 0 [] .nil]]) c0 (by simp only[plA,plC,Aq,ag,sL]);simp only[plA,plC] at c1;refine Xc 1 Tryz.func22 rfl fun n out _ _=> ?_;simp only[sn,Tryz.ntmps22,simprocAttr];repeat' (first|refine Vk fun K hK=> ?_|apply V0|apply Vs|with_reducible apply ab|((first|apply gE|apply gR);simp only[zA,simprocAttr,plA,plC])|exact Vn|(apply Vz;refine Vo rfl rfl rfl (fun _ _=>rfl) ?_<;>first|rfl|skip)|(refine X3 (c1) ?_)|(refine hK _ ?_;clear hK K)|clear hK K)
def Xs8 (h:Hs):Bool:=Lx h.plan||Lx h.back||Lx h.next||Xs7 h.st||decide ((h.key.length:Int)>1000)||decide ((h.buf.length:Int)>5000)
theorem Xza {h:Hs} (hg:Xs8 h=false):SmH h:=by
 unfold Xs8 Xs7 at hg;simp only[dj,dt] at hg;obtain⟨⟨⟨⟨⟨g1,g2⟩,g3⟩,⟨g4,g5⟩,g6⟩,g7⟩,g8⟩:=hg;exact⟨X0a g1,X0a g2,X0a g3,⟨by omega,by omega,by omega⟩,by omega,by omega⟩
theorem Xvm (h:Hs):Xr Tryz.prog 8 [hsA h] [] (bool (Xs8 h)) []:=by
 have c1:=X09 h.plan;have c2:=X09 h.back;have c3:=X09 h.next;have c4:=Xvl h.st;unfold Xs8;simp only[plA,plC,stA,stC] at c1 c2 c3 c4;generalize Lx h.plan=A1 at*;generalize Lx h.back=A2 at*;generalize Lx h.next=A3 at*;generalize Xs7 h.st=A4 at*;refine Xc 1 Tryz.func8 rfl fun n out _ _=> ?_;simp only[sn,Tryz.ntmps8,simprocAttr];have hg:=Nat.le_refl 0;repeat' (first|refine Vk fun K hK=> ?_|apply V0|apply Vs|with_reducible apply ab|((first|apply gE|apply gR|apply gS);simp only[zA,simprocAttr,hg,hsA,hsC,X5])|exact Vn|(apply Vz;refine Vo rfl rfl rfl (fun _ _=>rfl) ?_<;>first|rfl|(simp only[g_0,g_s];refine congrArg VS.bool ?_;first|(simp_all;done)|(simp_all;omega))|skip)|(refine X3 (c1) ?_)|(refine X3 (c2) ?_)|(refine X3 (c3) ?_)|(refine X3 (c4) ?_)|((refine Vg (fun hg=> ?_) (fun hg=> ?_))<;>try simp only[nb] at hg)|(refine hK _ ?_;clear hK K)|clear hK K)
def Xzb (a b:Hs):Bool:=((a.key.length:Int)+(b.key.length:Int)+(a.buf.length:Int)+(b.buf.length:Int)==0)&&(Xp3 a.next&&(Xp3 b.next&&(a.halt==b.halt)))
def Xwz (a b:Hs):Bool:=Xzb a b&&(a.high==b.high&&(Sy a.plan b.plan&&(Sy a.back b.back&&Xqz a.st b.st)))
theorem Xtl (a b:Hs) (ha:SmH a) (hb:SmH b):Xr Tryz.prog 15 [hsA a,hsA b] [] (bool (Xwz a b)) []:=by
 have c1:=Xsv a.next ha.next;have c2:=Xsv b.next hb.next;have c3:=Du a.plan b.plan ha.plan;have c4:=Du a.back b.back ha.back;have c5:=Xwy a.st b.st ha.st;have k1:=ha.key;have k2:=ha.buf;have k3:=hb.key;have k4:=hb.buf;have w1:IntKind.i64.wrap ((a.key.length:Int)+(b.key.length:Int))=(a.key.length:Int)+(b.key.length:Int):=by rw[wrap_i64]<;>omega
 have w2:IntKind.i64.wrap ((a.key.length:Int)+(b.key.length:Int)+(a.buf.length:Int))=(a.key.length:Int)+(b.key.length:Int)+(a.buf.length:Int):=by rw[wrap_i64]<;>omega
 have w3:IntKind.i64.wrap ((a.key.length:Int)+(b.key.length:Int)+(a.buf.length:Int)+(b.buf.length:Int))=(a.key.length:Int)+(b.key.length:Int)+(a.buf.length:Int)+(b.buf.length:Int):=by rw[wrap_i64]<;>omega
 unfold Xwz Xzb;simp only[plA,plC,stA,stC] at c1 c2 c3 c4 c5;generalize Xp3 a.next=A1 at*;generalize Xp3 b.next=A2 at*;generalize Sy a.plan b.plan=A3 at*;generalize Sy a.back b.back=A4 at*;generalize Xqz a.st b.st=A5 at*;refine Xc 2 Tryz.func15 rfl fun n out _ _=> ?_;simp only[sn,Tryz.ntmps15,simprocAttr];have hg:=Nat.le_refl 0;repeat' (first|refine Vk fun K hK=> ?_|apply V0|apply Vs|with_reducible apply ab|((first|apply gE|apply gR|apply gS);simp only[zA,simprocAttr,hg,hsA,hsC,X5,w1,w2,w3])|exact Vn|(apply Vz;refine Vo rfl rfl rfl (fun _ _=>rfl) ?_<;>first|rfl|(simp only[g_0,g_s];refine congrArg VS.bool ?_;first|(simp_all;done)|(simp_all;omega))|skip)|(refine X3 (c1) ?_)|(refine X3 (c2) ?_)|(refine X3 (c3) ?_)|(refine X3 (c4) ?_)|(refine X3 (c5) ?_)|((refine Vg (fun hg=> ?_) (fun hg=> ?_))<;>try simp only[nb] at hg)|(refine hK _ ?_;clear hK K)|clear hK K)
end Go.Proofs.YtdngdjbgmojcoaaGreat.Pln
