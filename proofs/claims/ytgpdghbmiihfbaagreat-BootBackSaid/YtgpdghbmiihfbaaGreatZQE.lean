/- The layer of abstract values, joined. -/
import Derived.Test.YtgpdghbmiihfbaaGreatZP5
import Derived.Test.YtgpdghbmiihfbaaGreatZS8
import Derived.Test.YtgpdghbmiihfbaaGreatZKA
import Derived.Test.YtgpdghbmiihfbaaGreatZP49
import Derived.Test.YtgpdghbmiihfbaaGreatZVsLaw
import Derived.Test.YtgpdghbmiihfbaaGreatZTab
namespace Go.Proofs.YtgpdghbmiihfbaaGreat.Pln
set_option linter.all false
set_option maxHeartbeats 8000000
set_option maxRecDepth 4000
open Go Go.VS Tab
attribute [local irreducible] AWp Xp0 Pg X5c Qy Lt Tp FdT Eb
def atT (x:Sec):Int×UInt8:=(x.id,2)
def atW (x:Int×Int):Int×Int×Int:=(x.1,0,0)
def atL (x:Rt):Int×UInt8×Int×Int:=(x.id,0,0,0)
def atS (p:Pl):St:=⟨p.secs.map atT,p.pts.map atW,p.rts.map atL⟩
theorem Xoi {α:Type} (f:α->List AV) {l:List α} {i:Nat} (h:i<l.length):(l.take i).map f++[f l[i]]=(l.take (i+1)).map f:=by
 rw[ai h,cu];rfl
theorem Y1l (p:Pl) (hs:Sm p) (hE:Xo3 p=0):Xr Tryz.prog 110 [plA p] [] (.tup [stA (atS p),i64 0]) []:=by
 have cS:=Xrp p hs;rw[hE] at cS;have h1:=hs.secs;have h2:=hs.pts;have h3:=hs.rts;refine Xc 6 Tryz.func110 rfl fun n out _ _=> ?_;simp only[sn,Tryz.ntmps110,simprocAttr];simp only[plA] at cS;repeat' (first|refine Vk fun K hK=> ?_|apply V0|apply Vb|apply Vc|apply Vr|apply Vs|with_reducible apply aa|((first|apply gE|apply gR);simp only[zA,simprocAttr,plA,plC])|exact Vn|(apply Vz;(first|refine Xp (.inr rfl) rfl rfl rfl (fun _ _=>rfl) ok33 (k:=n+1) (off:=0) rfl (Xb _ (by simp)) (X6 _ (Nat.le_refl _) 1) rfl rfl ?_|refine Xp (.inr rfl) rfl rfl rfl (fun _ _=>rfl) ok33 (k:=m+1) (off:=0) rfl (Xb _ (by simp)) (X6 _ hm 1) rfl rfl ?_)<;>first|rfl|exact AV.le.rfl _|(simp only[sL,ti33,ad,plA,plC];done)|rfl|skip)|(refine X3 (cS) ?_)|(apply Vx;simp only[sb,reduceIte,Nat.reduceEqDiff])|(refine hK _ ?_;clear hK K)|refine Vt rfl ?_|refine Vf rfl ?_|refine Vi rfl (fun hg=> ?_) (fun hg=> ?_)|clear hK K)
 refine Yy (Q9 (i:=2) 156 2 rfl) ?_;refine Yy (Q9 (i:=3) 131 3 rfl) ?_;refine Yy (Q9 (i:=4) 95 4 rfl) ?_;simp only[s_0,s_s];apply V5;refine Xrd (p.secs.length) (fun m i=>tr 18 12 [(17,i64 (i:Int)),(1,.ptr (m+0) 0),(2,.ptr (m+1) 0),(5,.top)]) (fun m i=>[some (.box 28 (plC p)),some (.box 33 [.sl 2 ((p.secs.take i).map fun x=>tkC (atT x)) (.own (m+2)),.sl 0 [] .nil,.sl 0 [] .nil]),some (.row 156 2 i),some (.row 131 3 0),some (.row 95 4 0),none]) ?_ fun m i hm hi=> ?_
 ·refine X2 ?_ ?_ (by first|rfl|(simp only[plC,List.take_zero,ad];rfl)|simp only[plC,List.take_zero,ad]) rfl rfl rfl<;>simp only[sL,plC,ad]
 simp only[pt];have hw:=Yl (n:=i) 1 1 rfl (by omega);by_cases hlt:i<p.secs.length
 ·have gi:=Xg secC p.secs i [] hlt;have hsw:=Xoi (fun x=>tkC (atT x)) hlt;have lit:∀(σ:AState) (K:AV->List (Nat×Res)->Prop),X1 tab σ K none 29 1 [(0,.agg [i64 p.secs[i].id,.val (.int .u8 2)])]=K (.sl 2 [tkC (atT p.secs[i])] .full) []:=fun σ K=>Yk (T:=tab) (ti:=ti29) (te:=ti156) rfl rfl rfl (by decide) (by decide) rfl rfl;have z1:(i+1)*16<=140737488355328:=by omega
  have z3:i<=9223372036854775806:=by omega
  repeat' (first|refine Vk fun K hK=> ?_|apply V0|apply Vb|apply Vc|apply Vr|apply Vs|with_reducible apply aa|((first|apply gE|apply gR);simp only[zB,simprocAttr,lit,Xi hm,plC,secC,aj,Nat.min_eq_left hi,hlt,gi,X0,hw,z1,z3])|exact Vn|(apply Vz;(first|refine Xp (.inr rfl) rfl rfl rfl (fun _ _=>rfl) ok33 (k:=n+1) (off:=0) rfl (Xb _ (by simp)) (X6 _ (Nat.le_refl _) 1) rfl rfl ?_|refine Xp (.inr rfl) rfl rfl rfl (fun _ _=>rfl) ok33 (k:=m+1) (off:=0) rfl (Xb _ (by simp)) (X6 _ hm 1) rfl rfl ?_)<;>first|rfl|exact AV.le.rfl _|(simp only[sL,ti33,ad,lit,Xi hm,plC,secC,af,aj,Nat.min_eq_left hi,hlt,gi,X0,hw,z1,z3];done)|rfl|skip)|(apply Vx;simp only[sb,reduceIte,Nat.reduceEqDiff])|(refine hK _ ?_;clear hK K)|refine Vt rfl ?_|refine Vf rfl ?_|refine Vi rfl (fun hg=> ?_) (fun hg=> ?_)|clear hK K)
  rw[hsw];refine⟨i+1,by omega,by omega,?_⟩;refine Xx [true,true,true,true,true,false] ?_ ?_<;>intro n_<;>simp only[sM]
 obtain rfl:i=p.secs.length:=by omega
 rw[bm];clear hw hi hlt;repeat' (first|refine Vk fun K hK=> ?_|apply V0|apply Vb|apply Vc|apply Vr|apply Vs|with_reducible apply aa|((first|apply gE|apply gR);simp only[zA,simprocAttr,Xi hm,plC,Nat.lt_irrefl])|exact Vn|(apply Vz;(first|refine Xp (.inr rfl) rfl rfl rfl (fun _ _=>rfl) ok33 (k:=n+1) (off:=0) rfl (Xb _ (by simp)) (X6 _ (Nat.le_refl _) 1) rfl rfl ?_|refine Xp (.inr rfl) rfl rfl rfl (fun _ _=>rfl) ok33 (k:=m+1) (off:=0) rfl (Xb _ (by simp)) (X6 _ hm 1) rfl rfl ?_)<;>first|rfl|exact AV.le.rfl _|(simp only[sL,ti33,ad,Xi hm,plC,dx,Nat.lt_irrefl];done)|rfl|skip)|(apply Vx;simp only[sb])|(refine hK _ ?_;clear hK K)|refine Vt rfl ?_|refine Vf rfl ?_|refine Vi rfl (fun hg=> ?_) (fun hg=> ?_)|clear hK K)
 apply V5;refine Xrd (p.pts.length) (fun m i=>tr 34 12 [(33,i64 (i:Int)),(1,.ptr (m+0) 0),(2,.ptr (m+1) 0),(5,.top),(7,.top)]) (fun m i=>[some (.box 28 (plC p)),some (.box 33 [.sl 2 (p.secs.map fun x=>tkC (atT x)) (.own (m+2)),.sl 3 ((p.pts.take i).map fun x=>sgC (atW x)) (.own (m+3)),.sl 0 [] .nil]),some (.row 156 2 p.secs.length),some (.row 131 3 i),some (.row 95 4 0),none]) ?_ fun m i hm hi=> ?_
 ·refine X2 ?_ ?_ (by first|rfl|(simp only[plC,List.take_zero,ad];rfl)|simp only[plC,List.take_zero,ad]) rfl rfl rfl<;>simp only[sL,plC,ad]
 simp only[pt];have hw:=Yl (n:=i) 1 1 rfl (by omega);by_cases hlt:i<p.pts.length
 ·have gi:=Xg jnC p.pts i [] hlt;have hsw:=Xoi (fun x=>sgC (atW x)) hlt;have lit:∀(σ:AState) (K:AV->List (Nat×Res)->Prop),X1 tab σ K none 30 1 [(0,.agg [i64 p.pts[i].1,.val (.int .i64 0),.val (.int .i64 0)])]=K (.sl 3 [sgC (atW p.pts[i])] .full) []:=fun σ K=>Yk (T:=tab) (ti:=ti30) (te:=ti131) rfl rfl rfl (by decide) (by decide) rfl rfl;have z1:(i+1)*24<=140737488355328:=by omega
  have z3:i<=9223372036854775806:=by omega
  repeat' (first|refine Vk fun K hK=> ?_|apply V0|apply Vb|apply Vc|apply Vr|apply Vs|with_reducible apply aa|((first|apply gE|apply gR);simp only[zB,simprocAttr,lit,Xi hm,plC,jnC,aj,Nat.min_eq_left hi,hlt,gi,X0,hw,z1,z3])|exact Vn|(apply Vz;(first|refine Xp (.inr rfl) rfl rfl rfl (fun _ _=>rfl) ok33 (k:=n+1) (off:=0) rfl (Xb _ (by simp)) (X6 _ (Nat.le_refl _) 1) rfl rfl ?_|refine Xp (.inr rfl) rfl rfl rfl (fun _ _=>rfl) ok33 (k:=m+1) (off:=0) rfl (Xb _ (by simp)) (X6 _ hm 1) rfl rfl ?_)<;>first|rfl|exact AV.le.rfl _|(simp only[sL,ti33,ad,lit,Xi hm,plC,jnC,af,aj,Nat.min_eq_left hi,hlt,gi,X0,hw,z1,z3];done)|rfl|skip)|(apply Vx;simp only[sb,reduceIte,Nat.reduceEqDiff])|(refine hK _ ?_;clear hK K)|refine Vt rfl ?_|refine Vf rfl ?_|refine Vi rfl (fun hg=> ?_) (fun hg=> ?_)|clear hK K)
  rw[hsw];refine⟨i+1,by omega,by omega,?_⟩;refine Xx [true,true,true,true,true,false] ?_ ?_<;>intro n_<;>simp only[sM]
 obtain rfl:i=p.pts.length:=by omega
 rw[bm];clear hw hi hlt;repeat' (first|refine Vk fun K hK=> ?_|apply V0|apply Vb|apply Vc|apply Vr|apply Vs|with_reducible apply aa|((first|apply gE|apply gR);simp only[zA,simprocAttr,Xi hm,plC,Nat.lt_irrefl])|exact Vn|(apply Vz;(first|refine Xp (.inr rfl) rfl rfl rfl (fun _ _=>rfl) ok33 (k:=n+1) (off:=0) rfl (Xb _ (by simp)) (X6 _ (Nat.le_refl _) 1) rfl rfl ?_|refine Xp (.inr rfl) rfl rfl rfl (fun _ _=>rfl) ok33 (k:=m+1) (off:=0) rfl (Xb _ (by simp)) (X6 _ hm 1) rfl rfl ?_)<;>first|rfl|exact AV.le.rfl _|(simp only[sL,ti33,ad,Xi hm,plC,dx,Nat.lt_irrefl];done)|rfl|skip)|(apply Vx;simp only[sb])|(refine hK _ ?_;clear hK K)|refine Vt rfl ?_|refine Vf rfl ?_|refine Vi rfl (fun hg=> ?_) (fun hg=> ?_)|clear hK K)
 apply V5;refine Xrd (p.rts.length) (fun m i=>tr 50 12 [(49,i64 (i:Int)),(1,.ptr (m+0) 0),(2,.ptr (m+1) 0),(5,.top),(7,.top),(9,.top)]) (fun m i=>[some (.box 28 (plC p)),some (.box 33 [.sl 2 (p.secs.map fun x=>tkC (atT x)) (.own (m+2)),.sl 3 (p.pts.map fun x=>sgC (atW x)) (.own (m+3)),.sl 4 ((p.rts.take i).map fun x=>lkC (atL x)) (.own (m+4))]),some (.row 156 2 p.secs.length),some (.row 131 3 p.pts.length),some (.row 95 4 i),none]) ?_ fun m i hm hi=> ?_
 ·refine X2 ?_ ?_ (by first|rfl|(simp only[plC,List.take_zero,ad];rfl)|simp only[plC,List.take_zero,ad]) rfl rfl rfl<;>simp only[sL,plC,ad]
 simp only[pt];have hw:=Yl (n:=i) 1 1 rfl (by omega);by_cases hlt:i<p.rts.length
 ·have gi:=Xg rtC p.rts i [] hlt;have hsw:=Xoi (fun x=>lkC (atL x)) hlt;have lit:∀(σ:AState) (K:AV->List (Nat×Res)->Prop),X1 tab σ K none 31 1 [(0,.agg [i64 p.rts[i].id,.val (.int .u8 0),.val (.int .i64 0),.val (.int .i64 0)])]=K (.sl 4 [lkC (atL p.rts[i])] .full) []:=fun σ K=>Yk (T:=tab) (ti:=ti31) (te:=ti95) rfl rfl rfl (by decide) (by decide) rfl rfl;have z1:(i+1)*32<=140737488355328:=by omega
  have z3:i<=9223372036854775806:=by omega
  repeat' (first|refine Vk fun K hK=> ?_|apply V0|apply Vb|apply Vc|apply Vr|apply Vs|with_reducible apply aa|((first|apply gE|apply gR);simp only[zB,simprocAttr,lit,Xi hm,plC,rtC,aj,Nat.min_eq_left hi,hlt,gi,X0,hw,z1,z3])|exact Vn|(apply Vz;(first|refine Xp (.inr rfl) rfl rfl rfl (fun _ _=>rfl) ok33 (k:=n+1) (off:=0) rfl (Xb _ (by simp)) (X6 _ (Nat.le_refl _) 1) rfl rfl ?_|refine Xp (.inr rfl) rfl rfl rfl (fun _ _=>rfl) ok33 (k:=m+1) (off:=0) rfl (Xb _ (by simp)) (X6 _ hm 1) rfl rfl ?_)<;>first|rfl|exact AV.le.rfl _|(simp only[sL,ti33,ad,lit,Xi hm,plC,rtC,af,aj,Nat.min_eq_left hi,hlt,gi,X0,hw,z1,z3];done)|rfl|skip)|(apply Vx;simp only[sb,reduceIte,Nat.reduceEqDiff])|(refine hK _ ?_;clear hK K)|refine Vt rfl ?_|refine Vf rfl ?_|refine Vi rfl (fun hg=> ?_) (fun hg=> ?_)|clear hK K)
  rw[hsw];refine⟨i+1,by omega,by omega,?_⟩;refine Xx [true,true,true,true,true,false] ?_ ?_<;>intro n_<;>simp only[sM]
 obtain rfl:i=p.rts.length:=by omega
 rw[bm];clear hw hi hlt;repeat' (first|refine Vk fun K hK=> ?_|apply V0|apply Vb|apply Vc|apply Vr|apply Vs|with_reducible apply aa|((first|apply gE|apply gR);simp only[zA,simprocAttr,plC,Nat.lt_irrefl])|exact Vn|(apply Vz;(first|refine Xp (.inr rfl) rfl rfl rfl (fun _ _=>rfl) ok33 (k:=n+1) (off:=0) rfl (Xb _ (by simp)) (X6 _ (Nat.le_refl _) 1) rfl rfl ?_|refine Xp (.inr rfl) rfl rfl rfl (fun _ _=>rfl) ok33 (k:=m+1) (off:=0) rfl (Xb _ (by simp)) (X6 _ hm 1) rfl rfl ?_)<;>first|rfl|exact AV.le.rfl _|(simp only[sL];done)|rfl|skip)|(apply Vx;simp only[sb])|(refine hK _ ?_;clear hK K)|refine Vt rfl ?_|refine Vf rfl ?_|refine Vi rfl (fun hg=> ?_) (fun hg=> ?_)|clear hK K)
 have e1:(atS p).tr.map tkC=p.secs.map fun x=>tkC (atT x):=fu;have e2:(atS p).sw.map sgC=p.pts.map fun x=>sgC (atW x):=fu;have e3:(atS p).lk.map lkC=p.rts.map fun x=>lkC (atL x):=fu
 show AV.le (.tup [.agg [.sl 2 _ (.own _),.sl 3 _ (.own _),.sl 4 _ (.own _)],i64 0]) _
 simp only[stA,stC,e1,e2,e3,sL]
end Go.Proofs.YtgpdghbmiihfbaaGreat.Pln
namespace Go.Proofs.YtgpdghbmiihfbaaGreat.Pln
set_option linter.all false
set_option maxHeartbeats 1000000
open Go Go.VS
theorem Xkz {α:Type} {p:α->α->Bool} (h:∀a b,p a b=true->a=b):∀{l q:List α},Fv p l q=true->l=q
 |[],[],_=>rfl
 |x::l,y::q,hh=>by
  have h':(p x y&&Fv p l q)=true:=hh;rw[ag] at h';rw[h x y h'.1,Xkz h h'.2]
 |[],_:: _,hh=>by cases hh
 | _:: _,[],hh=>by cases hh
theorem Xwh (a b:Sec) (h:Mw a b=true):a=b:=by
 cases a;cases b;simp [Mw] at h;simp [h]
theorem Xqe {a b:Pl}:Sy a b=true↔a=b:=by
 constructor
 ·intro h;unfold Sy at h;simp only[ag,cv] at h;obtain⟨h1,h2,h3,h4,h5,h6⟩:=h;have h3':=Xkz Xwh h3;have h6':=Xkz (fun a b=>Sx.1) h6;cases a;cases b;simp only at*;subst h1 h2 h3' h4 h5 h6';rfl
 ·rintro rfl;exact Pq _
def Xoh (t:List UInt8):List UInt8:=Y3m t.length++t
def rdZ:Rd Int:=fun b s=>(if (rdN b s).2.2 then 0 else(rdN b s).1,(rdN b s).2)
def unW (b:List UInt8) (at':Nat):Option (List UInt8×Nat):=match Jt (b.drop at') with
 |none=>none
 |some r=>if 65536<r.1∨b.length - (at'+r.2)<r.1 then none else some ((b.drop (at'+r.2)).take r.1,at'+r.2+r.1)
def Xq7 (e:Bool):Rd Pl:=fun b s=>if s.2=true then(Aq,s) else match unW b s.1 with
 |none=>(Aq,(s.1,true))
 |some r=>if r.1=[]∧e=true then(Aq,(r.2,false)) else if Z6 r.1 then((V6 r.1).1,(r.2,false)) else(Aq,(r.2,true))
def Xpl (r:Rt) (ph g:Int):Int×UInt8×Int×Int:=(r.id,UInt8.ofNat (min ph 255).toNat,g,if min ph 255=3∨min ph 255=4 then r.timer else 0)
theorem Xrl {n:Int} (h:0<=n∧n<=2147483647):Wq rdZ (Y3m n) n:=fun x y=>by
 unfold rdZ;rw[Zm h x y];rfl
theorem Xvi {n:Int} (h:0<=n∧n<=2147483647):0<(Y3m n).length:=by
 unfold Y3m;rw[if_pos h];unfold Ur;split<;>simp
theorem Xvj {t:List UInt8} (ht:t.length<=65536) (x y:List UInt8):unW (x++(Xoh t++y)) x.length=some (t,x.length+(Xoh t).length):=by
 unfold unW Xoh;have e:List.drop x.length (x++(Y3m t.length++t++y))=Y3m t.length++(t++y):=by rw[aw];exact f9 rfl
 rw[e,Jx ⟨by omega,by omega⟩];dsimp only;rw[Int.toNat_natCast,if_neg (by simp only[ac];omega)];have e2:List.drop (x.length+(Y3m (t.length:Int)).length) (x++(Y3m t.length++t++y))=t++y:=by
  rw[<- f3,e];exact f9 rfl
 rw[e2,gg rfl,ac,Nat.add_assoc]
theorem Xtk {p:Pl} (h:Uf p=true) (e:Bool):Wq (Xq7 e) (Xoh (Wg p)) p:=fun x y=>by
 unfold Xq7;have h1:=R7 h;dsimp only;rw[if_neg (by decide),Xvj (by omega)];dsimp only;have h2:Wg p≠[]:=fun h0=>by
  have h3:=Xvi (Us h).ver;unfold Wg at h0;have:=congrArg List.length h0;simp only[ac,List.length_nil] at this;omega
 have h4:=Eh h [];rw[b9] at h4;rw[if_neg (fun h'=>h2 h'.1),h4,if_pos (by decide),Xu7 h]
theorem Xr6:Wq (Xq7 true) (Xoh []) Aq:=fun x y=>by
 unfold Xq7;dsimp only;rw[if_neg (by decide),Xvj (by simp)];rfl
theorem Xvk:∀(l:List UInt8) (i acc:Nat) (r:Nat×Nat),R1 l i acc=some r->r.2<=i+l.length∧r.1<=2147483647
 |[],_,_,_,h=>by simp [R1] at h
 |c::l,i,acc,r,h=>by
  unfold R1 at h;split at h
  ·cases h
  ·split at h
   ·have:=Xvk l _ _ r h;rw[List.length_cons];omega
   ·split at h
    ·cases h
    ·rename_i h2;injection h with h
     subst h;rw[List.length_cons];dsimp only;omega
theorem Xsu {l:List UInt8} {r:Nat×Nat} (h:Jt l=some r):r.2<=l.length∧r.1<=2147483647:=by
 have:=Xvk l 0 0 r h;omega
structure Hs where
 key:List UInt8
 plan:Pl
 back:Pl
 high:Int
 st:St
 buf:List UInt8
 next:Pl
 halt:Bool
def hsC (h:Hs):List AV:=[.sl 1 (Xo h.key) .sh,i64 h.plan.ver,i64 h.plan.par,.sl 3 (h.plan.secs.map secC) .sh,.sl 2 (h.plan.pts.map jnC) .sh,.sl 3 (h.plan.sgs.map sgC) .sh,.sl 7 (h.plan.rts.map rtC) .sh,
 i64 h.back.ver,i64 h.back.par,.sl 3 (h.back.secs.map secC) .sh,.sl 2 (h.back.pts.map jnC) .sh,.sl 3 (h.back.sgs.map sgC) .sh,.sl 7 (h.back.rts.map rtC) .sh,i64 h.high,.sl 2 (h.st.tr.map tkC) .sh,.sl 3 (h.st.sw.map sgC) .sh,.sl 4 (h.st.lk.map lkC) .sh,
 .sl 1 (Xo h.buf) .sh,i64 h.next.ver,i64 h.next.par,.sl 3 (h.next.secs.map secC) .sh,.sl 2 (h.next.pts.map jnC) .sh,.sl 3 (h.next.sgs.map sgC) .sh,.sl 7 (h.next.rts.map rtC) .sh,bool h.halt]
def hsA (h:Hs):AV:= .agg (hsC h)
structure SmH (h:Hs):Prop where
 plan:Sm h.plan
 back:Sm h.back
 next:Sm h.next
 st:SmS h.st
 key:h.key.length<=1000
 buf:h.buf.length<=5000
def Xp3 (p:Pl):Bool:=Sy p Aq
def Xy6 (h:Hs):Bool:=Xp3 h.back||(Xo3 h.back==0&&h.back.ver==h.plan.par)
def Xo9 (h:Hs):Bool:= !(h.halt||(!Xy6 h||(decide (h.high<h.plan.ver)||(decide (2147483647<h.high)||Xrz h.plan h.st !=0))))
def Xoc (h:Hs):Int:=if Xo9 h then 0 else 8
def Xpf (h:Hs):List UInt8:=if Xp3 h.back then[] else Wg h.back
def swN (s:List (Int×Int×Int)):List Int:=s.map fun w=>w.2.2
def lkN (s:List (Int×UInt8×Int×Int)):List Int:=s.flatMap fun l=>[(l.2.1.toNat:Int),l.2.2.1]
def Xrf (h:Hs):List Int:=h.high::(swN h.st.sw++lkN h.st.lk)
def Xp7 (h:Hs):List UInt8:=Xoh (Wg h.plan)++(Xoh (Xpf h)++(Xrf h).flatMap Y3m)
def Xlr (h:Hs):List UInt8:=if Xo9 h then Xp7 h else[]
def Xrr (h:Hs):Hs:=⟨[],h.plan,h.back,h.high,Xjm h.plan h.st,[],Aq,false⟩
def Xtd:Hs:=⟨[],Aq,Aq,0,Y2v,[],Aq,false⟩
def rdW:List (Int×Int)->Rd (List (Int×Int×Int))
 |[]=>rdP []
 |x::l=>rdB rdZ fun c=>rdB (rdW l) fun r=>rdP ((x.1,0,c)::r)
def Xs3:List Rt->Rd (List (Int×UInt8×Int×Int))
 |[]=>rdP []
 |x::l=>rdB rdZ fun p=>rdB rdZ fun g=>rdB (Xs3 l) fun r=>rdP (Xpl x p g::r)
def Xy7:Rd Hs:=rdB (Xq7 false) fun p=>rdB (Xq7 true) fun q=>rdB rdZ fun n=>rdB (rdW p.pts) fun w=>rdB (Xs3 p.rts) fun k=>rdP ⟨[],p,q,n,⟨p.secs.map atT,w,k⟩,[],Aq,false⟩
def Xod (b:List UInt8):Bool:= !(Xy7 b (0,false)).2.2&&(Xo9 (Xy7 b (0,false)).1&&Xp7 (Xy7 b (0,false)).1==b)
def Xof (b:List UInt8):Hs:=if Xod b then(Xy7 b (0,false)).1 else Xtd
def Xrg (l:Int×UInt8×Int×Int) (r:Rt):Int×UInt8×Int×Int:=if 0<l.2.2.2 then(l.1,l.2.1,l.2.2.1,r.timer) else l
theorem Xv4:∀{s:List (Int×Int×Int)} {l:List (Int×Int)},Fv Xuw s l=true->Wq (rdW l) ((swN s).flatMap Y3m) (s.map Xpo)
 |[],[],_=>R2 []
 |w::s,x::l,h=>by
  rw[Fv,ag] at h;have h1:=h.1;unfold Xuw Xyh at h1;simp only[ag,cv,am] at h1;have e:swN (w::s)=w.2.2::swN s:=rfl;rw[e,dp];have e2:(w::s).map Xpo=(x.1,0,w.2.2)::s.map Xpo:=by rw[<- h1.1];rfl
  rw[e2];exact Yu (Xrl ⟨h1.2.2.1,by omega⟩) (Ke (Xv4 h.2))
 |[],_:: _,h=>by simp [Fv] at h
 | _:: _,[],h=>by simp [Fv] at h
theorem Xqi {l:Int×UInt8×Int×Int} {r:Rt} (h:Xsm l r=true) (hr:r.path.length<=127) (h1p:1<=r.path.length):Xpl r (l.2.1.toNat:Int) l.2.2.1=Xrg l r∧nOk (l.2.1.toNat:Int)∧nS l.2.2.1∧l.2.1.toNat<=4:=by
 obtain⟨a,ph,g,t⟩:=l;unfold Xsm Xr7 at h;simp only[ag,cv] at h;obtain⟨h1,h2⟩:=h;have key:∀k:UInt8,k.toNat<=4->ph=k->Xpl r (ph.toNat:Int) g=(r.id,ph,g,if ph=3∨ph=4 then r.timer else 0):=fun k hk e=>by
  subst e;have m:min (ph.toNat:Int) 255=(ph.toNat:Int):=by omega
  have q:∀k:UInt8,((ph.toNat:Int)=(k.toNat:Int))↔ph=k:=fun k=>by
   constructor
   ·intro h;exact UInt8.toNat_inj.1 (by omega)
   ·rintro rfl;rfl
  have q3:=q 3;have q4:=q 4;simp only[show((3:UInt8).toNat:Int)=3 from rfl,show((4:UInt8).toNat:Int)=4 from rfl] at q3 q4;unfold Xpl;rw[m];simp only[q3,q4,Int.toNat_natCast,UInt8.ofNat_toNat]
 subst h1;dsimp only;unfold Xrg;dsimp only;by_cases p0:ph=0∨ph=1
 ·rw[if_pos p0] at h2;simp only[ag,cv] at h2;obtain⟨rfl,rfl⟩:=h2;rcases p0 with rfl|rfl
  ·exact⟨by rw[key 0 (by decide) rfl];rfl,⟨by decide,by decide⟩,⟨by decide,by decide⟩,by decide⟩
  ·exact⟨by rw[key 1 (by decide) rfl];rfl,⟨by decide,by decide⟩,⟨by decide,by decide⟩,by decide⟩
 ·rw[if_neg p0] at h2;by_cases p2:ph=2
  ·rw[if_pos p2] at h2;simp only[ag,cv,am] at h2;obtain⟨⟨g1,g2⟩,rfl⟩:=h2;subst p2;exact⟨by rw[key 2 (by decide) rfl];rfl,⟨by decide,by decide⟩,⟨g1,by omega⟩,by decide⟩
  ·rw[if_neg p2] at h2;by_cases p3:ph=3
   ·rw[if_pos p3] at h2;simp only[ag,cv,am] at h2;obtain⟨⟨g1,g2⟩,g3⟩:=h2;subst p3;exact⟨by rw[key 3 (by decide) rfl,if_pos (show 0<t by omega)];rfl,⟨by decide,by decide⟩,⟨by omega,by omega⟩,by decide⟩
   ·rw[if_neg p3] at h2;by_cases p4:ph=4
    ·rw[if_pos p4] at h2;simp only[ag,cv,am] at h2;obtain⟨⟨rfl,g2⟩,g3⟩:=h2;subst p4;exact⟨by rw[key 4 (by decide) rfl,if_pos (show 0<t by omega)];rfl,⟨by decide,by decide⟩,⟨by decide,by decide⟩,by decide⟩
    ·rw[if_neg p4] at h2;cases h2
theorem Xte {p:Pl} (h:Uf p=true) {r:Rt} (hr:r∈p.rts):1<=r.path.length∧r.path.length<=6:=by
 have h1:=(Us h).r r hr;refine⟨?_,h1.2.2.2.2.2.2.2.1⟩;obtain⟨_,_,_,_,_,_,hrs⟩:=Xol h;have h8:=hrs r hr;unfold okR at h8;cases hq:Xpe p.sgs r.entry with
 |none=>rw[hq] at h8;cases h8
 |some en=>
  rw[hq] at h8;simp only[ag,am] at h8;obtain⟨⟨⟨⟨⟨⟨⟨⟨⟨x1,_⟩,x3⟩,x4⟩,x5⟩,x6⟩,x7⟩,x8⟩,x9⟩,x10⟩:=h8;omega
def Xy8 (l:Int×UInt8×Int×Int):List UInt8:=Y3m (l.2.1.toNat:Int)++Y3m l.2.2.1
theorem Xrh:∀(s:List (Int×UInt8×Int×Int)),(lkN s).flatMap Y3m=s.flatMap Xy8
 |[]=>rfl
 |l::s=>by
  have e:lkN (l::s)=(l.2.1.toNat:Int)::l.2.2.1::lkN s:=rfl;rw[e,dp,dp,dp,Xrh s,Xy8,aw]
theorem Xtf:∀{s:List (Int×UInt8×Int×Int)} {l:List Rt},Fv Xsm s l=true->(∀r,r∈l->1<=r.path.length∧r.path.length<=6)->Wq (Xs3 l) (s.flatMap Xy8) (List.zipWith Xrg s l)
 |[],[],_,_=>R2 []
 |w::s,x::l,h,hl=>by
  rw[Fv,ag] at h;obtain⟨h1,h2⟩:=hl x (db ..);obtain⟨e1,e2,e3,_⟩:=Xqi h.1 (by omega) h1;rw[dp,List.zipWith_cons_cons,Xy8,aw,<- e1];exact Yu (Xrl e2) (Yu (Xrl e3.ok) (Ke (Xtf h.2 fun r hr=>hl r (cz _ hr))))
 |[],_:: _,h,_=>by simp [Fv] at h
 | _:: _,[],h,_=>by simp [Fv] at h
theorem Xs4 (p:Pl) (s:St) (h:s.lk.length=p.rts.length):(Xjm p s).lk=List.zipWith Xrg s.lk p.rts:=by
 apply jt
 ·simp [Xjm,h]
 ·intro i h1 h2;have hi:i<p.rts.length:=by simp [Xjm] at h1;omega
  simp only[Xjm,List.getElem_mapIdx,List.getElem_zipWith,Xr0,Xrg,ah,ae hi,Option.getD_some]
theorem Xqj:∀{t:List (Int×UInt8)} {l:List Sec},Fv Xvr t l=true->t.map Xuh=l.map atT
 |[],[],_=>rfl
 |w::s,x::l,h=>by
  rw[Fv,ag] at h;have h1:=h.1;unfold Xvr at h1;simp only[ag,cv] at h1;rw[bg,bg,Xqj h.2]
  congr 1
  unfold Xuh atT;rw[h1.1]
 |[],_:: _,h=>by simp [Fv] at h
 | _:: _,[],h=>by simp [Fv] at h
theorem Xp8 {p:Pl} {s:St} (h:Xrz p s=0):Xo3 p=0∧Fv Xvr s.tr p.secs=true∧Fv Xuw s.sw p.pts=true∧Fv Xsm s.lk p.rts=true∧(Xpg p s).ok=true:=by
 unfold Xrz at h;split at h
 ·rename_i hE;split at h
  ·rename_i hg;unfold Xqm Xog at hg;simp only[ag] at hg;exact⟨hE,hg.1.1,hg.1.2.1,hg.1.2.2,hg.2⟩
  ·cases h
 ·rename_i hE;exact(hE h).elim
structure CkH (h:Hs):Prop where
 halt:h.halt=false
 back:Xp3 h.back=true∨(Xo3 h.back=0∧h.back.ver=h.plan.par)
 high:h.plan.ver<=h.high∧h.high<=2147483647
 st:Xrz h.plan h.st=0
theorem Xor {h:Hs}:Xo9 h=true↔CkH h:=by
 unfold Xo9 Xy6;simp only[dv,ee,Bool.not_eq_false',c9,ag,cv,dk,bne_eq_false_iff_eq];constructor
 ·rintro⟨h1,h2,h3,h4,h5⟩;exact⟨h1,h2,⟨by omega,by omega⟩,h5⟩
 ·rintro⟨h1,h2,⟨h3,h4⟩,h5⟩;exact⟨h1,h2,by omega,by omega,h5⟩
theorem Xy9 {h:Hs} (hc:Xo9 h=true):Wq Xy7 (Xp7 h) (Xrr h):=by
 obtain⟨c1,c2,c3,c4⟩:=Xor.1 hc;obtain⟨s1,s2,s3,s4,_⟩:=Xp8 c4;have hm:=(Xoa s1).1;have hv:=(Us hm).ver;have e0:Xp7 h=Xoh (Wg h.plan)++(Xoh (Xpf h)++(Y3m h.high++((swN h.st.sw).flatMap Y3m++h.st.lk.flatMap Xy8))):=by
  unfold Xp7 Xrf;rw[dp,du,Xrh]
 have e1:Xrr h=⟨[],h.plan,h.back,h.high,⟨h.plan.secs.map atT,h.st.sw.map Xpo,List.zipWith Xrg h.st.lk h.plan.rts⟩,[],Aq,false⟩:=by
  unfold Xrr;rw[show Xjm h.plan h.st=⟨(Xjm h.plan h.st).tr,(Xjm h.plan h.st).sw,(Xjm h.plan h.st).lk⟩ from rfl,Xs4 _ _ (Xov s4),show(Xjm h.plan h.st).tr=h.st.tr.map Xuh from rfl,Xqj s2];rfl
 rw[e0,e1];have rb:Wq (Xq7 true) (Xoh (Xpf h)) h.back:=by
  unfold Xpf;rcases c2 with c2|c2
  ·rw[if_pos c2,Xqe.1 c2];exact Xr6
  ·cases hn:Xp3 h.back with
   |true=>rw[if_pos rfl,Xqe.1 hn];exact Xr6
   |false=>rw[if_neg (by decide)];exact Xtk (Xoa c2.1).1 true
 refine Yu (Xtk hm false) (Yu rb (Yu (Xrl ⟨by have:=hv.1;omega,by omega⟩) (Yu (Xv4 s3) (Ke (Xtf s4 fun r hr=>Xte hm hr)))))
end Go.Proofs.YtgpdghbmiihfbaaGreat.Pln
namespace Go.Proofs.YtgpdghbmiihfbaaGreat.Pln
set_option linter.all false
open Go Go.VS Tab
theorem Zb:Opens Tryz.prog 3 Ym (fun a=>(Lit.int .i64 a).wf=true):=Tv Tryz.underlying3
theorem Pp:Opens Tryz.prog 99 (fun l:List Int=>[X62 l]) (fun l=>l.length<=reachBytes):=
 (Zg Tryz.underlying99 Zb (sz:=1) (by kernel_rfl) (by decide) (au (by kernel_rfl))).map fun l hl=>⟨l,hl.1,rfl⟩
theorem X0f:Opens Tryz.prog 167 jnC (fun _=>True):=
 (Zh Tryz.underlying167 (tot:=2) (by kernel_rfl) (.cons (s:=1) Zb rfl (by kernel_rfl) rfl (.cons (s:=1) Zb rfl (by kernel_rfl) rfl .nil))).map
  fun p hp=>⟨(p.1,p.2.1),trivial,rfl⟩
theorem X0g:Opens Tryz.prog 158 jnC (fun _=>True):=
 (Zh Tryz.underlying158 (tot:=2) (by kernel_rfl) (.cons (s:=1) Zb rfl (by kernel_rfl) rfl (.cons (s:=1) Zb rfl (by kernel_rfl) rfl .nil))).map
  fun p hp=>⟨(p.1,p.2.1),trivial,rfl⟩
theorem X0h:Opens Tryz.prog 179 jnC (fun _=>True):=
 (Zh Tryz.underlying179 (tot:=2) (by kernel_rfl) (.cons (s:=1) Zb rfl (by kernel_rfl) rfl (.cons (s:=1) Zb rfl (by kernel_rfl) rfl .nil))).map
  fun p hp=>⟨(p.1,p.2.1),trivial,rfl⟩
theorem X0i:Opens Tryz.prog 169 sgC (fun _=>True):=
 (Zh Tryz.underlying169 (tot:=3) (by kernel_rfl) (.cons (s:=1) Zb rfl (by kernel_rfl) rfl (.cons (s:=1) Zb rfl (by kernel_rfl) rfl (.cons (s:=1) Zb rfl (by kernel_rfl) rfl .nil)))).map
  fun p hp=>⟨(p.1,p.2.1,p.2.2.1),trivial,rfl⟩
theorem Hr:Opens Tryz.prog 154 secC (fun _=>True):=
 (Zh Tryz.underlying154 (tot:=3) (by kernel_rfl) (.cons (s:=1) Zb rfl (by kernel_rfl) rfl (.cons (s:=1) Zb rfl (by kernel_rfl) rfl
  (.cons (s:=1) (Zg Tryz.underlying152 X0f (sz:=2) (by kernel_rfl) (by decide) (au (by kernel_rfl))) rfl (by kernel_rfl) rfl .nil)))).map
  fun p hp=>⟨⟨p.1,p.2.1,p.2.2.1⟩,trivial,rfl⟩
def RtB (r:Rt):Prop:=r.path.length<=reachBytes∧r.over.length<=reachBytes∧r.flanks.length<=reachBytes
theorem X0j:Opens Tryz.prog 161 rtC RtB:=
 (Zh Tryz.underlying161 (tot:=7) (by kernel_rfl) (.cons (s:=1) Zb rfl (by kernel_rfl) rfl (.cons (s:=1) Zb rfl (by kernel_rfl) rfl (.cons (s:=1) Zb rfl (by kernel_rfl) rfl
  (.cons (s:=1) Pp rfl (by kernel_rfl) rfl (.cons (s:=1) Pp rfl (by kernel_rfl) rfl
  (.cons (s:=1) (Zg Tryz.underlying159 X0h (sz:=2) (by kernel_rfl) (by decide) (au (by kernel_rfl))) rfl (by kernel_rfl) rfl
  (.cons (s:=1) Zb rfl (by kernel_rfl) rfl .nil)))))))).map
  fun p hp=>⟨⟨p.1,p.2.1,p.2.2.1,p.2.2.2.1,p.2.2.2.2.1,p.2.2.2.2.2.1,p.2.2.2.2.2.2.1⟩,⟨hp.2.2.2.1,hp.2.2.2.2.1,hp.2.2.2.2.2.1.1⟩,rfl⟩
def PlB (p:Pl):Prop:=∀r,r∈p.rts->RtB r
theorem Y5r:Opens Tryz.prog 28 plC PlB:=
 (Zh Tryz.underlying28 (tot:=6) (by kernel_rfl) (.cons (s:=1) Zb rfl (by kernel_rfl) rfl (.cons (s:=1) Zb rfl (by kernel_rfl) rfl
  (.cons (s:=1) (Zg Tryz.underlying23 Hr (sz:=3) (by kernel_rfl) (by decide) (au (by kernel_rfl))) rfl (by kernel_rfl) rfl
  (.cons (s:=1) (Zg Tryz.underlying24 X0g (sz:=2) (by kernel_rfl) (by decide) (au (by kernel_rfl))) rfl (by kernel_rfl) rfl
  (.cons (s:=1) (Zg Tryz.underlying25 X0i (sz:=3) (by kernel_rfl) (by decide) (au (by kernel_rfl))) rfl (by kernel_rfl) rfl
  (.cons (s:=1) (Zg Tryz.underlying26 X0j (sz:=7) (by kernel_rfl) (by decide) (au (by kernel_rfl))) rfl (by kernel_rfl) rfl .nil))))))).map
  fun p hp=>⟨⟨p.1,p.2.1,p.2.2.1,p.2.2.2.1,p.2.2.2.2.1,p.2.2.2.2.2.1⟩,hp.2.2.2.2.2.1.2,rfl⟩
theorem Xx0:Opens Tryz.prog 156 tkC (fun _=>True):=
 (Zh Tryz.underlying156 (tot:=2) (by kernel_rfl) (.cons (s:=1) Zb rfl (by kernel_rfl) rfl (.cons (s:=1) (X1c Tryz.underlying5) rfl (by kernel_rfl) rfl .nil))).map
  fun p hp=>⟨(p.1,p.2.1),trivial,rfl⟩
theorem Xx1:Opens Tryz.prog 131 sgC (fun _=>True):=
 (Zh Tryz.underlying131 (tot:=3) (by kernel_rfl) (.cons (s:=1) Zb rfl (by kernel_rfl) rfl (.cons (s:=1) Zb rfl (by kernel_rfl) rfl (.cons (s:=1) Zb rfl (by kernel_rfl) rfl .nil)))).map
  fun p hp=>⟨(p.1,p.2.1,p.2.2.1),trivial,rfl⟩
theorem Xx2:Opens Tryz.prog 95 lkC (fun _=>True):=
 (Zh Tryz.underlying95 (tot:=4) (by kernel_rfl) (.cons (s:=1) Zb rfl (by kernel_rfl) rfl (.cons (s:=1) (X1c Tryz.underlying5) rfl (by kernel_rfl) rfl (.cons (s:=1) Zb rfl (by kernel_rfl) rfl (.cons (s:=1) Zb rfl (by kernel_rfl) rfl .nil))))).map
  fun p hp=>⟨(p.1,p.2.1,p.2.2.1,p.2.2.2.1),trivial,rfl⟩
theorem Xx3:Opens Tryz.prog 33 stC (fun _=>True):=
 (Zh Tryz.underlying33 (tot:=3) (by kernel_rfl)
  (.cons (s:=1) (Zg Tryz.underlying29 Xx0 (sz:=2) (by kernel_rfl) (by decide) (au (by kernel_rfl))) rfl (by kernel_rfl) rfl
  (.cons (s:=1) (Zg Tryz.underlying30 Xx1 (sz:=3) (by kernel_rfl) (by decide) (au (by kernel_rfl))) rfl (by kernel_rfl) rfl
  (.cons (s:=1) (Zg Tryz.underlying31 Xx2 (sz:=4) (by kernel_rfl) (by decide) (au (by kernel_rfl))) rfl (by kernel_rfl) rfl .nil)))).map
  fun p hp=>⟨⟨p.1,p.2.1,p.2.2.1⟩,trivial,rfl⟩
theorem Xvn:Opens Tryz.prog 22 (fun l:List UInt8=>[.sl 1 (Xo l) .sh]) (fun l=>l.length<=reachBytes):=Cr Tryz.underlying22 Tryz.underlying5 (by kernel_rfl) (au (by kernel_rfl))
end Go.Proofs.YtgpdghbmiihfbaaGreat.Pln
