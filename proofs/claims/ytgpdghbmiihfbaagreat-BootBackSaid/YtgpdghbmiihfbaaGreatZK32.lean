/- The layer of abstract values, joined. -/
import Derived.Test.YtgpdghbmiihfbaaGreatZP5
import Derived.Test.YtgpdghbmiihfbaaGreatZKD
import Derived.Test.YtgpdghbmiihfbaaGreatZW5
import Derived.Test.YtgpdghbmiihfbaaGreatZKA
import Derived.Test.YtgpdghbmiihfbaaGreatZKE
import Derived.Test.YtgpdghbmiihfbaaGreatZW14
namespace Go.Proofs.YtgpdghbmiihfbaaGreat.Pln
set_option linter.all false
set_option maxHeartbeats 8000000
set_option maxRecDepth 4000
open Go Go.VS Tab
attribute [local irreducible] AWp Xp0 Pg X5c Qy Lt Tp FdT Eb
theorem Pj (k:Nat) (p:Pl) (hs:Sm p) (hb:(Wg p).length<=1000000):Xr Tryz.prog 137 [plA p] [(k,none)] (.sl 1 (Xo (Wg p)) (.own k)) [(k,.row 5 1 (Wg p).length)]:=by
 unfold Wg at hb⊢;rw[ac,ac,ac,ac,ac] at hb;have q1:=hs.secs;have q2:=hs.pts;have q3:=hs.sgs;have q4:=hs.rts;have hB2:Xd Tryz.prog 196=True:=hb0 _ (by decide) (by decide);have hB3:Xd Tryz.prog 198=True:=hb0 _ (by decide) (by decide);have hB4:Xd Tryz.prog 200=True:=hb0 _ (by decide) (by decide);have hB5:Xd Tryz.prog 202=True:=hb0 _ (by decide) (by decide);obtain⟨C1,h1⟩:∃C,C=[]++(Y3m p.ver++Y3m p.par):=⟨_,rfl⟩
 obtain⟨C2,h2⟩:∃C,C=C1++Zz D4 p.secs:=⟨_,rfl⟩
 obtain⟨C3,h3⟩:∃C,C=C2++Zz Ug p.pts:=⟨_,rfl⟩
 obtain⟨C4,h4⟩:∃C,C=C3++Zz Ee p.sgs:=⟨_,rfl⟩
 have k1:C1.length=(Y3m p.ver).length+(Y3m p.par).length:=by rw[h1];simp [ac]
 have k2:C2.length=C1.length+(Zz D4 p.secs).length:=by rw[h2,ac]
 have k3:C3.length=C2.length+(Zz Ug p.pts).length:=by rw[h3,ac]
 have k4:C4.length=C3.length+(Zz Ee p.sgs).length:=by rw[h4,ac]
 have e:Y3m p.ver++(Y3m p.par++(Zz D4 p.secs++(Zz Ug p.pts++(Zz Ee p.sgs++Zz Ef p.rts))))=C4++Zz Ef p.rts:=by rw[h4,h3,h2,h1];simp [aw]
 have c1:=fun n:Nat=>Mq (n+1) (n+3) (by omega) [] p.ver p.par (by simp only[ac,List.length_nil];omega);have c2:=fun n:Nat=>Ae (n+1) (n+3) (by omega) 196 [.ptr (n+1) 0] hB2 p.secs D4 C1 (by omega) (by omega) fun x hx B hB=>X5m (n+1) (n+3) (by omega) x B hB (by have:=hs.ends x hx;omega);have c3:=fun n:Nat=>Af (n+1) (n+3) (by omega) 198 [.ptr (n+1) 0] hB3 p.pts Ug C2 (by omega) (by omega) fun x _ B hB=>X5j (n+1) (n+3) (by omega) x B hB;have c4:=fun n:Nat=>Ag (n+1) (n+3) (by omega) 200 [.ptr (n+1) 0] hB4 p.sgs Ee C3 (by omega) (by omega) fun x _ B hB=>X5l (n+1) (n+3) (by omega) x B hB;have c5:=fun n:Nat=>Ai (n+1) (n+3) (n+2) (by omega) (by omega) (by omega) (.box 270 [.fn (.func 193) [.ptr (n+1) 0]]) (by simp) 202 [.ptr (n+1) 0,.ptr (n+2) 0] hB5 p.rts Ef C4 (by omega) (by omega) fun x hx B hB=>X5n (n+1) (n+3) (n+2) (by omega) (by omega) (by omega) x B hB (by have:=hs.rt x hx;omega) (by have:=hs.rt x hx;omega) (by have:=hs.rt x hx;omega);rw[<- h1] at c1;rw[<- h2] at c2;rw[<- h3] at c3;rw[<- h4] at c4;rw[e];clear h1 h2 h3 h4 k1 k2 k3 k4 hb e hB2 hB3 hB4 hB5;refine Xc 4 Tryz.func137 rfl fun n out _ _=> ?_;simp only[sn,Tryz.ntmps137,simprocAttr];rename_i hneeds hgv;obtain⟨hk,_⟩:=hneeds;obtain⟨hkn,_⟩:=hgv;refine Vy fun K hK=> ?_;simp only[zA,simprocAttr,plA,plC]
 (refine hK _ ?_;clear hK K)
 refine Vy fun K hK=> ?_;simp only[zA,simprocAttr]
 (refine hK _ ?_;clear hK K)
 refine Vy fun K hK=> ?_;simp only[zA,simprocAttr]
 (refine hK _ ?_;clear hK K)
 refine Yy (Q9 (i:=3) 5 1 rfl) ?_;simp only[s_0,s_s];refine Lb [] [some (.box 28 [i64 p.ver,i64 p.par,.sl 3 (p.secs.map secC) .sh,.sl 2 (p.pts.map jnC) .sh,.sl 3 (p.sgs.map sgC) .sh,.sl 7 (p.rts.map rtC) .sh]),some (.box 196 [.sl 1 [] (.own (n+3))]),some (.box 270 [.fn (.func 193) [.ptr (n+1) 0]]),some (.row 5 1 0)] ?_ ?_
 ·refine La rfl ?_ ?_<;>simp only[sL]
 simp only[pt];repeat' (first|refine Vk fun K hK=> ?_|apply V0|((first|apply gE|apply gR);simp only[zB,simprocAttr,B6,Xjn (Nat.le_refl n)])|(refine Xk (c1 n) (X6 _ (Nat.le_refl _) 1) (X6 _ (Nat.le_refl _) 3) (Xb _ (by simp)) (Xb _ (by simp)) (by simp) (by simp) ?_)|(refine Xk (c2 n) (X6 _ (Nat.le_refl _) 1) (X6 _ (Nat.le_refl _) 3) (Xb _ (by simp)) (Xb _ (by simp)) (by simp) (by simp) ?_)|(refine Xk (c3 n) (X6 _ (Nat.le_refl _) 1) (X6 _ (Nat.le_refl _) 3) (Xb _ (by simp)) (Xb _ (by simp)) (by simp) (by simp) ?_)|(refine Xk (c4 n) (X6 _ (Nat.le_refl _) 1) (X6 _ (Nat.le_refl _) 3) (Xb _ (by simp)) (Xb _ (by simp)) (by simp) (by simp) ?_)|(refine Gu (c5 n) (X6 _ (Nat.le_refl _) 1) (X6 _ (Nat.le_refl _) 3) (X6 _ (Nat.le_refl _) 2) (Xb _ (by simp)) (Xb _ (by simp)) (Xb _ (by simp)) (by simp) (by simp) (by simp) ?_)|(refine hK _ ?_;clear hK K))
 refine Yy (Ja (i:=3) (k:=k) rfl (by exact hkn) (by exact hk)) ?_;simp only[bg,ad,Option.map_some,Res.ren1,AV.ren1,Nat.add_left_cancel_iff,Nat.reduceEqDiff,reduceIte,Xoe,s_0,s_s];apply Vz;exact Qv (.inr rfl) rfl rfl rfl (fun _ _=>rfl) rfl
theorem G5 (p:Pl) (hs:Sm p) (hb:(Wg p).length<=1000000):Xr Tryz.prog 137 [plA p] [] (.sl 1 (Xo (Wg p)) .sh) []:=
 Lc (fun k=>Pj k p hs hb) fun k=> .sh _ _ _
end Go.Proofs.YtgpdghbmiihfbaaGreat.Pln
namespace Go.Proofs.YtgpdghbmiihfbaaGreat.Pln
set_option linter.all false
set_option maxHeartbeats 1000000
open Go Go.VS
theorem z1 (n:Int):[n].flatMap Y3m=Y3m n:=by simp
theorem Gg {α:Type} (one:Rd α) (b:List UInt8):∀(k:Nat) (s:Nat×Bool),(rdK one k b s).1.length=k
 |0,s=>rfl
 |k+1,s=>by
  show((one b s).1::(rdK one k b (one b s).2).1).length=k+1
  rw[List.length_cons,Gg one b k]
theorem Gh {α:Type} (one:Rd α) (b:List UInt8) (P:α->Prop) (h:∀s,P (one b s).1):∀(k:Nat) (s:Nat×Bool),∀x,x∈(rdK one k b s).1->P x
 |0,s,x,hx=>by cases hx
 |k+1,s,x,hx=>by
  have hx:x∈(one b s).1::(rdK one k b (one b s).2).1:=hx;rcases bq.1 hx with rfl|hx
  ·exact h s
  ·exact Gh one b P h k _ x hx
theorem K7 {α:Type} (one:Rd α) (b:List UInt8) (s:Nat×Bool):(rdL one b s).1.length<=99:=by
 unfold rdL rdB;dsimp only;by_cases h:(rdN b s).1<=99
 ·rw[if_pos h,Gg];omega
 ·rw[if_neg h];exact ba _
theorem Gi {α:Type} (one:Rd α) (b:List UInt8) (P:α->Prop) (h:∀s,P (one b s).1) (s:Nat×Bool):∀x,x∈(rdL one b s).1->P x:=by
 unfold rdL rdB;dsimp only;by_cases h':(rdN b s).1<=99
 ·rw[if_pos h'];exact Gh one b P h _ _
 ·rw[if_neg h'];intro x hx;cases hx
theorem Gj (b:List UInt8) (s:Nat×Bool):(Ft b s).1.ends.length<=20:=by
 unfold Ft rdB;dsimp only;split
 ·exact(by decide:3<=20)
 ·exact(by decide:2<=20)
theorem Jz (b:List UInt8) (s:Nat×Bool):(B4 b s).1.path.length<=5000∧(B4 b s).1.over.length<=5000∧(B4 b s).1.flanks.length<=5000:=by
 refine⟨Nat.le_trans (K7 rdN b _) (by decide),Nat.le_trans (K7 rdN b _) (by decide),Nat.le_trans (K7 Kd b _) (by decide)⟩
theorem A7 (b:List UInt8):SmB (V6 b).1:=by
 refine⟨Nat.le_trans (K7 Ft b _) (by decide),?_,Nat.le_trans (K7 Kd b _) (by decide),Nat.le_trans (K7 G8 b _) (by decide),Nat.le_trans (K7 B4 b _) (by decide),?_⟩
 ·exact Gi Ft b (fun s=>s.ends.length<=20) (Gj b) _
 ·exact Gi B4 b (fun r=>r.path.length<=5000∧r.over.length<=5000∧r.flanks.length<=5000) (Jz b) _
end Go.Proofs.YtgpdghbmiihfbaaGreat.Pln
namespace Go.Proofs.YtgpdghbmiihfbaaGreat.Pln
set_option linter.all false
set_option maxHeartbeats 8000000
set_option maxRecDepth 4000
open Go Go.VS Tab
attribute [local irreducible] AWp Xp0 Pg X5c Qy Lt Tp FdT Eb
theorem X1z (wr:List Nat) (R:AState->Prop) (fr:List AV) (lo:List (Option Res)) (out:Nat->Option Res) (n0 n:Nat) (df:List Deferred) (d:Option Tmp) (r:AV) (x y:Nat) (p q:Res):
  Lt wr R ⟨fr,lo,out,n0,n,df⟩ d r [(n+x,p),(n+y,q)]=((wr.contains x=true∧wr.contains y=true)∧R (AState.next ⟨fr,lo,out,n0,n,df⟩ d r [(n+x,p),(n+y,q)])):=by
 simp only[Lt,bq,bv,or_false,forall_eq_or_imp,forall_eq,b0,Nat.add_left_cancel_iff,exists_eq_right',eq_iff_iff]
theorem X20 {p:Pl} (h:Uf p=true):Sm p:=by
 obtain⟨v,w,sl,s,pl,q,gl,g,rl,r⟩:=Us h;refine⟨by omega,fun x hx=> ?_,by omega,by omega,by omega,fun x hx=> ?_⟩
 ·have:=(s x hx).2.2.2;rw[this];split<;>decide
 ·obtain⟨_,_,_,_,_,_,_,l1,l2,l3⟩:=r x hx;omega
theorem scB:Xd Tryz.prog 254=True:=hb0 _ (by decide) (by decide)
theorem poB:Xd Tryz.prog 256=True:=hb0 _ (by decide) (by decide)
theorem siB:Xd Tryz.prog 258=True:=hb0 _ (by decide) (by decide)
theorem roB:Xd Tryz.prog 260=True:=hb0 _ (by decide) (by decide)
theorem X2y (b:List UInt8) (hb:b.length<=1000000):Xr Tryz.prog 219 [.sl 1 (Xo b) .sh] [] (.tup [plA (if Z6 b then(V6 b).1 else Aq),i64 (if Z6 b then 0 else 8)]) []:=by
 obtain⟨x1,s1,h1⟩:∃x t,rdN b (0,false)=(x,t):=⟨_,_,rfl⟩
 obtain⟨x2,s2,h2⟩:∃x t,rdN b s1=(x,t):=⟨_,_,rfl⟩
 obtain⟨lS,s3,h3⟩:∃x t,rdL Ft b s2=(x,t):=⟨_,_,rfl⟩
 obtain⟨lP,s4,h4⟩:∃x t,rdL Kd b s3=(x,t):=⟨_,_,rfl⟩
 obtain⟨lG,s5,h5⟩:∃x t,rdL G8 b s4=(x,t):=⟨_,_,rfl⟩
 obtain⟨lR,s6,h6⟩:∃x t,rdL B4 b s5=(x,t):=⟨_,_,rfl⟩
 have e:V6 b=(⟨x1,x2,lS,lP,lG,lR⟩,s6):=by
  unfold V6 X7u rdB;rw[h1];dsimp only;rw[h2]
  show(match rdL Ft b s2 with|v=>rdB (rdL Kd) (fun pts=>rdB (rdL G8) fun sgs=>rdB (rdL B4) fun rts=>rdP (⟨x1,x2,v.1,pts,sgs,rts⟩:Pl)) b v.2)= _
  rw[h3]
  show(match rdL Kd b s3 with|v=>rdB (rdL G8) (fun sgs=>rdB (rdL B4) fun rts=>rdP (⟨x1,x2,lS,v.1,sgs,rts⟩:Pl)) b v.2)= _
  rw[h4]
  show(match rdL G8 b s4 with|v=>rdB (rdL B4) (fun rts=>rdP (⟨x1,x2,lS,lP,v.1,rts⟩:Pl)) b v.2)= _
  rw[h5]
  show(match rdL B4 b s5 with|v=>((⟨x1,x2,lS,lP,lG,v.1⟩:Pl),v.2))= _
  rw[h6]
 have hsb:=A7 b;have hok:Z6 b=Sh (V6 b).1 (V6 b).2 (Wg (V6 b).1) b:=rfl;have c1:=fun n:Nat=>Yo b hb (n+2) (n+3) (by omega) (0,false);have c2:=fun n:Nat=>Yo b hb (n+2) (n+3) (by omega) s1;have c3:=fun n:Nat=>Aj b hb (n+2) (n+3) (by omega) _ _ scB Ft Qh (fun _=>rfl) (X2w b hb (n+2) (n+3) (by omega)) s2;have c4:=fun n:Nat=>Ak b hb (n+2) (n+3) (by omega) _ _ poB Kd jnA (fun _=>rfl) (X2t b hb (n+2) (n+3) (by omega)) s3;have c5:=fun n:Nat=>Xwi b hb (n+2) (n+3) (by omega) _ _ siB G8 sgA (fun _=>rfl) (X2v b hb (n+2) (n+3) (by omega)) s4;have c6:=fun n:Nat=>Am b hb (n+2) (n+3) (by omega) _ _ roB B4 rtA (fun _=>rfl) (X2x b hb (n+2) (n+3) (by omega)) s5;unfold Ycd at c3 c4 c5 c6;rw[h1] at c1;rw[h2] at c2;rw[h3] at c3;rw[h4] at c4;rw[h5] at c5;rw[h6] at c6;rw[e] at hsb hok⊢;clear h1 h2 h3 h4 h5 h6 e;dsimp only at c1 c2 c3 c4 c5 c6 hsb hok⊢;have cp:=Ss _ hsb;have cw:=fun h:Uf (⟨x1,x2,lS,lP,lG,lR⟩:Pl)=true=>G5 _ (X20 h) (Nat.le_trans (R7 h) (by decide));generalize Z6 b=ok at hok⊢;obtain⟨Q,hQ⟩:∃Q:Pl,Q=⟨x1,x2,lS,lP,lG,lR⟩:=⟨_,rfl⟩
 rw[<- hQ] at hsb hok cp cw⊢;have eQ:plA Q= .agg [i64 x1,i64 x2,.sl 3 (lS.map secC) .sh,.sl 2 (lP.map jnC) .sh,.sl 3 (lG.map sgC) .sh,.sl 7 (lR.map rtC) .sh]:=by rw[hQ];rfl
 rw[eQ] at cp cw;clear hQ;refine Xc 7 Tryz.func219 rfl fun n out _ _=> ?_;simp only[sn,Tryz.ntmps219,simprocAttr];refine Vy fun K hK=> ?_;simp only[zA,simprocAttr]
 (refine hK _ ?_;clear hK K)
 refine Vy fun K hK=> ?_;simp only[zA,simprocAttr]
 (refine hK _ ?_;clear hK K)
 refine Yy (Zi (i:=0) (t:=1) 1 (.ref [.sl 1 (Xo b) .sh]) rfl rfl (.ptr 0)) ?_;simp only[s_0,s_s];refine Vy fun K hK=> ?_;simp only[zA,simprocAttr]
 (refine hK _ ?_;clear hK K)
 refine Yy (Zi (i:=4) (t:=6) 1 (.ref [nxF b (n+2) (n+3)]) rfl rfl (.ptr 0)) ?_;simp only[s_0,s_s];refine Vk fun K hK=>Ny Xj [] [[],[],[2,3],[],[],[2,3],[],[5],[5]] [[],[],[2,3],[],[],[2,3],[],[5],[5]] follows (by kernel_rfl) (by decide) (by decide) (by kernel_rfl) ?_;simp only[zA,simprocAttr]
 skip
 refine Xk (c1 n) (X6 _ (Nat.le_refl _) 2) (X6 _ (Nat.le_refl _) 3) (Xb _ (by simp)) (Xb _ (by simp)) (by simp) (by simp) ?_;simp only[zA,simprocAttr,X1z,Xjn (Nat.le_refl n)]
 skip
 refine Xk (c2 n) (X6 _ (Nat.le_refl _) 2) (X6 _ (Nat.le_refl _) 3) (Xb _ (by simp)) (Xb _ (by simp)) (by simp) (by simp) ?_;simp only[zA,simprocAttr,X0,X1z,Xjn (Nat.le_refl n)]
 (refine hK _ ?_;clear hK K)
 refine Vy fun K hK=> ?_;simp only[zA,simprocAttr]
 (refine hK _ ?_;clear hK K)
 refine Yy (Zi (i:=6) (t:=8) 1 (.ref [.fn (.func 252) [.ref [nxF b (n+2) (n+3)]]]) rfl rfl (.ptr 0)) ?_;simp only[s_0,s_s];refine Vy fun K hK=> ?_;simp only[zA,simprocAttr]
 skip
 refine Xk (c3 n) (X6 _ (Nat.le_refl _) 2) (X6 _ (Nat.le_refl _) 3) (Xb _ (by simp)) (Xb _ (by simp)) (by simp) (by simp) ?_;simp only[zA,simprocAttr,Xjn (Nat.le_refl n)]
 (refine hK _ ?_;clear hK K)
 refine Vy fun K hK=> ?_;simp only[zA,simprocAttr]
 skip
 refine Xk (c4 n) (X6 _ (Nat.le_refl _) 2) (X6 _ (Nat.le_refl _) 3) (Xb _ (by simp)) (Xb _ (by simp)) (by simp) (by simp) ?_;simp only[zA,simprocAttr,Xjn (Nat.le_refl n)]
 (refine hK _ ?_;clear hK K)
 refine Vy fun K hK=> ?_;simp only[zA,simprocAttr]
 skip
 refine Xk (c5 n) (X6 _ (Nat.le_refl _) 2) (X6 _ (Nat.le_refl _) 3) (Xb _ (by simp)) (Xb _ (by simp)) (by simp) (by simp) ?_;simp only[zA,simprocAttr,Xjn (Nat.le_refl n)]
 (refine hK _ ?_;clear hK K)
 refine Vy fun K hK=> ?_;simp only[zA,simprocAttr]
 skip
 refine Xk (c6 n) (X6 _ (Nat.le_refl _) 2) (X6 _ (Nat.le_refl _) 3) (Xb _ (by simp)) (Xb _ (by simp)) (by simp) (by simp) ?_;simp only[zA,simprocAttr,X0,Xjn (Nat.le_refl n)]
 (refine hK _ ?_;clear hK K)
 obtain⟨a6,d6⟩:=s6;unfold Sh at hok;dsimp only at hok⊢;have eN:plA Aq= .agg [i64 0,i64 0,.sl 3 [] .sh,.sl 2 [] .sh,.sl 3 [] .sh,.sl 7 [] .sh]:=rfl;cases d6 with
 |true=>
  rw[hok];simp only[jg,dh,bf,if_false,eN];repeat' (first|refine Vk fun K hK=> ?_|apply V0|refine Vd 9 [] [[3],[],[2],[],[],[],[],[],[5],[],[],[],[],[5],[],[],[],[],[],[]] [[],[],[],[],[],[],[],[],[],[],[],[],[],[],[],[],[],[],[],[]] (by kernel_rfl) (by decide) (by decide) (by kernel_rfl) ?_|((first|apply gE|apply gD|refine gS2 ?_);simp only[zA,simprocAttr,sg,X0])|(apply Vz;(first|refine Xp (.inr rfl) rfl rfl rfl (fun _ _=>rfl) ok28 (k:=n+1) (off:=0) rfl (Xb _ (by simp)) (X6 _ (Nat.le_refl _) 1) rfl rfl ?_|refine Xp (.inr rfl) rfl rfl rfl (fun _ _=>rfl) ok28 (k:=m+1) (off:=0) rfl (Xb _ (by simp)) (X6 _ hm 1) rfl rfl ?_)<;>first|rfl|exact AV.le.rfl _|(simp only[sL];done)|(exact AV.le.rfl _)|(simp only[sL,sg,X0];done)|rfl|skip)|(refine hK _ ?_;clear hK K)|refine Vt rfl ?_)
 |false=>
  by_cases ha:a6=b.length
  ·subst ha;have hne:((b.length:Int) !=(b.length:Int))=false:=by simp
   cases hmy:Uf Q with
   |false=>
    rw[hmy] at cp hok;rw[hok];simp only[fy,dh,bf,if_false,eN] at cp⊢;repeat' (first|refine Vk fun K hK=> ?_|apply V0|refine Vd 9 [] [[3],[],[2],[],[],[],[],[],[5],[],[],[],[],[5],[],[],[],[],[],[]] [[],[],[],[],[],[],[],[],[],[],[],[],[],[],[],[],[],[],[],[]] (by kernel_rfl) (by decide) (by decide) (by kernel_rfl) ?_|((first|apply gE|apply gD|apply gF|refine gS2 ?_);simp only[zA,simprocAttr,sg,X0,X5,hne])|(apply Vz;(first|refine Xp (.inr rfl) rfl rfl rfl (fun _ _=>rfl) ok28 (k:=n+1) (off:=0) rfl (Xb _ (by simp)) (X6 _ (Nat.le_refl _) 1) rfl rfl ?_|refine Xp (.inr rfl) rfl rfl rfl (fun _ _=>rfl) ok28 (k:=m+1) (off:=0) rfl (Xb _ (by simp)) (X6 _ hm 1) rfl rfl ?_)<;>first|rfl|exact AV.le.rfl _|(simp only[sL];done)|(exact AV.le.rfl _)|(simp only[sL,sg,X0,X5,hne,Int.reduceBNe];done)|rfl|skip)|(refine X3 (cp) ?_)|(refine hK _ ?_;clear hK K)|refine Vt rfl ?_)
   |true=>
    have cw:=cw hmy;rw[hmy] at cp hok;simp only[if_true] at cp;by_cases hw:Wg Q=b
    ·rw[hok];have hwb:(Wg Q==b)=true:=cv.2 hw;simp only[hwb,im,il,ef,if_true,eQ];repeat' (first|refine Vk fun K hK=> ?_|apply V0|apply Vs|refine Vd 9 [] [[3],[],[2],[],[],[],[],[],[5],[],[],[],[],[5],[],[],[],[],[],[]] [[],[],[],[],[],[],[],[],[],[],[],[],[],[],[],[],[],[],[],[]] (by kernel_rfl) (by decide) (by decide) (by kernel_rfl) ?_|((first|apply gE|apply gD|apply gF|refine gS2 ?_);simp only[zA,simprocAttr,sg,X0,X5,hne,Ya,Z5,hwb])|(apply Vz;(first|refine Xp (.inr rfl) rfl rfl rfl (fun _ _=>rfl) ok28 (k:=n+1) (off:=0) rfl (Xb _ (by simp)) (X6 _ (Nat.le_refl _) 1) rfl rfl ?_|refine Xp (.inr rfl) rfl rfl rfl (fun _ _=>rfl) ok28 (k:=m+1) (off:=0) rfl (Xb _ (by simp)) (X6 _ hm 1) rfl rfl ?_)<;>first|rfl|exact AV.le.rfl _|(simp only[sL,ti28,ad,sg,X0,X5,hne,Int.reduceBNe,Ya,Z5,hwb];done)|(exact AV.le.rfl _)|(simp only[sL,sg,X0,X5,hne,Int.reduceBNe,Ya,Z5,hwb];done)|rfl|skip)|(refine X3 (cp) ?_)|(refine X3 (cw) ?_)|(refine hK _ ?_;clear hK K)|refine Vf rfl ?_)
    ·have hwb:(Wg Q==b)=false:=fg.2 hw;rw[hok];simp only[hwb,fy,bf,if_false,eN];repeat' (first|refine Vk fun K hK=> ?_|apply V0|refine Vd 9 [] [[3],[],[2],[],[],[],[],[],[5],[],[],[],[],[5],[],[],[],[],[],[]] [[],[],[],[],[],[],[],[],[],[],[],[],[],[],[],[],[],[],[],[]] (by kernel_rfl) (by decide) (by decide) (by kernel_rfl) ?_|((first|apply gE|apply gD|apply gF|refine gS2 ?_);simp only[zA,simprocAttr,sg,X0,X5,hne,Ya,Z5,hwb])|(apply Vz;(first|refine Xp (.inr rfl) rfl rfl rfl (fun _ _=>rfl) ok28 (k:=n+1) (off:=0) rfl (Xb _ (by simp)) (X6 _ (Nat.le_refl _) 1) rfl rfl ?_|refine Xp (.inr rfl) rfl rfl rfl (fun _ _=>rfl) ok28 (k:=m+1) (off:=0) rfl (Xb _ (by simp)) (X6 _ hm 1) rfl rfl ?_)<;>first|rfl|exact AV.le.rfl _|(simp only[sL];done)|(exact AV.le.rfl _)|(simp only[sL,sg,X0,X5,hne,Int.reduceBNe,Ya,Z5,hwb];done)|rfl|skip)|(refine X3 (cp) ?_)|(refine X3 (cw) ?_)|(refine hK _ ?_;clear hK K)|refine Vt rfl ?_)
  ·have hne:((a6:Int) !=(b.length:Int))=true:=by simpa using fun h:(a6:Int)=(b.length:Int)=>ha (by omega)
   rw[hok];simp only[ha,dx,fy,dh,bf,if_false,eN];repeat' (first|refine Vk fun K hK=> ?_|apply V0|refine Vd 9 [] [[3],[],[2],[],[],[],[],[],[5],[],[],[],[],[5],[],[],[],[],[],[]] [[],[],[],[],[],[],[],[],[],[],[],[],[],[],[],[],[],[],[],[]] (by kernel_rfl) (by decide) (by decide) (by kernel_rfl) ?_|((first|apply gE|apply gD|refine gS2 ?_);simp only[zA,simprocAttr,sg,X0,X5,hne])|(apply Vz;(first|refine Xp (.inr rfl) rfl rfl rfl (fun _ _=>rfl) ok28 (k:=n+1) (off:=0) rfl (Xb _ (by simp)) (X6 _ (Nat.le_refl _) 1) rfl rfl ?_|refine Xp (.inr rfl) rfl rfl rfl (fun _ _=>rfl) ok28 (k:=m+1) (off:=0) rfl (Xb _ (by simp)) (X6 _ hm 1) rfl rfl ?_)<;>first|rfl|exact AV.le.rfl _|(simp only[sL];done)|(exact AV.le.rfl _)|(simp only[sL,sg,X0,X5,hne];done)|rfl|skip)|(refine hK _ ?_;clear hK K)|refine Vt rfl ?_)
def Bl (p:Pl):Int:=if Uf p then 0 else 8
def Bm (p:Pl):List UInt8:=if Uf p then Wg p else[]
theorem X2z (k:Nat) (p:Pl) (hs:Sm p) (h:Uf p=true):Xr Tryz.prog 78 [plA p] [(k,none)] (.tup [.sl 1 (Xo (Wg p)) (.own k),i64 0]) [(k,.row 5 1 (Wg p).length)]:=by
 have c1:=Dr p hs;have hl:=R7 h;have c2:=fun k=>Pj k p hs (by omega);rw[h] at c1;simp only[plA,plC,if_true] at c1 c2;refine Xc 1 Tryz.func78 rfl fun n out _ _=> ?_;simp only[sn,Tryz.ntmps78,simprocAttr];rename_i hneeds hgv;obtain⟨hk,_⟩:=hneeds;obtain⟨hkn,_⟩:=hgv;repeat' (first|refine Vk fun K hK=> ?_|apply V0|apply Vs|((first|apply gE|apply gR);simp only[zA,simprocAttr,plA,plC,Cz hkn])|(apply Vz;refine Vp rfl rfl rfl (fun _ _=>rfl) ?_ ?_<;>first|rfl|skip)|(refine X3 (c1) ?_)|(refine Sb (c2 k) (by rw[X8 hkn];exact hk) (by rw[X7 hkn];trivial) (by simp) ?_)|(refine hK _ ?_;clear hK K)|refine Vf rfl ?_)
theorem X5q (p:Pl) (hs:Sm p):Xr Tryz.prog 78 [plA p] [] (.tup [.sl 1 (Xo (Bm p)) .sh,i64 (Bl p)]) []:=by
 cases h:Uf p with
 |true=>
  have e1:Bm p=Wg p:=if_pos h;have e2:Bl p=0:=if_pos h;rw[e1,e2];refine Lc (fun k=>X2z k p hs h) fun k=> ?_;simp only[sL]
 |false=>
  have h':¬Uf p=true:=by rw[h];decide
  have e1:Bm p=[]:=if_neg h';have e2:Bl p=8:=if_neg h';rw[e1,e2,Wb];have c1:=Dr p hs;rw[h] at c1;simp only[plA,plC,bf,if_false] at c1;refine Xc 1 Tryz.func78 rfl fun n out _ _=> ?_;simp only[sn,Tryz.ntmps78,simprocAttr];repeat' (first|refine Vk fun K hK=> ?_|apply V0|((first|apply gE|apply gR);simp only[zA,simprocAttr,plA,plC])|(apply Vz;refine Za (.inr rfl) rfl rfl rfl (fun _ _=>rfl) rfl rfl ?_ ?_<;>first|rfl|(exact AV.le.rfl _)|(simp only[sL];done)|rfl|skip)|(refine X3 (c1) ?_)|(refine hK _ ?_;clear hK K)|refine Vt rfl ?_)
end Go.Proofs.YtgpdghbmiihfbaaGreat.Pln
