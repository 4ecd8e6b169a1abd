/- The layer of abstract values, joined. -/
import Derived.Test.YtdngdjbgmojcoaaGreatZPR
import Derived.Test.YtdngdjbgmojcoaaGreatZUA
import Derived.Test.YtdngdjbgmojcoaaGreatZTA
import Derived.Test.YtdngdjbgmojcoaaGreatZP5
namespace Go.Proofs.YtdngdjbgmojcoaaGreat.Pln
set_option linter.all false
set_option maxHeartbeats 8000000
set_option maxRecDepth 4000
open Go Go.VS Tab
attribute [local irreducible] AWp Xp0 Pg X5c Qy Lt Tp FdT Eb
theorem Xtp {P:Program} {n:Nat} {fn:Func} {out:Nat->Option Res} {gives:List (Nat×Res)} {r q R':AV} {a b:Tmp} {t t2:TypeId} {ti ti2:TI} {e:Exit} {σ:AState} (he:e= .normal∨e= .ret) (hr:fn.results= #[.cell a t,.cell b t2]) (hd:σ.df=[]) (h0:σ.n0=n)
  (ho:∀k,k<n->σ.out k=upd out gives k) (ht:TIok P t ti) (ht2:TIok P t2 ti2) {k off k2 off2:Nat} {eb eb2:TypeId} {cs cs2:List AV} (hx:σ.fr.getD a .top= .ptr k off) (hk:σ.dom k) (hl:σ.look k=some (.box eb cs)) (hp:pick ti.agg ti.size (cs.drop off)=some r)
  (hx2:σ.fr.getD b .top= .ptr k2 off2) (hk2:σ.dom k2) (hl2:σ.look k2=some (.box eb2 cs2)) (hp2:pick ti2.agg ti2.size (cs2.drop off2)=some q) (hle:AV.le (.tup [r,q]) R'):Zq P n fn out gives R' e σ:=by
 obtain⟨_,_,_,_,h5⟩:=X1b (P:=P) (fn:={fn with results:= #[.cell a t]}) he rfl hd h0 ho ht hx hk hl hp;obtain⟨_,_,_,_,h6⟩:=X1b (P:=P) (fn:={fn with results:= #[.cell b t2]}) he rfl hd h0 ho ht2 hx2 hk2 hl2 hp2;refine⟨he,hd,h0,ho,fun M act hI hs=> ?_⟩;obtain⟨u,hu,hR⟩:=h5 M act hI hs;obtain⟨v,hv,hQ⟩:=h6 M act hI hs;refine⟨.tuple #[u,v],?_,R.le (.tup _ _ rfl fun i c w hi hw=> ?_) hle⟩
 ·have v1:act.tmps[a]?.getD undef= .pointer (some ⟨M.β k,off,none⟩):=by
   have h:=hs.ev (.tmp a);simp only[AState.ev,Act.eval] at h;rw[hx] at h;rw[<- d8];exact Dy h
  have v2:act.tmps[b]?.getD undef= .pointer (some ⟨M.β k2,off2,none⟩):=by
   have h:=hs.ev (.tmp b);simp only[AState.ev,Act.eval] at h;rw[hx2] at h;rw[<- d8];exact Dy h
  simp only[results,hr] at hu hv⊢;simp [v1,v2,asAddr] at hu hv⊢;rw[hu];simp [hv]
 ·match i,hi,hw with
  |0,hi,hw=>simp at hi hw;subst hi;subst hw;exact hR
  |1,hi,hw=>simp at hi hw;subst hi;subst hw;exact hQ
theorem Xr9 {P:Program} {c:Code} {Q:Exit->AState->Prop} {σ:AState} (lo':List (Option Res)) (h:σ.lo=lo') (k:AWp P c Q {σ with lo:=lo'}):AWp P c Q σ:=by subst h;exact k
theorem Xov {α β:Type} {p:α->β->Bool} {l:List α} {m:List β} (h:Fv p l m=true):l.length=m.length:=by
 by_cases hl:l.length=m.length
 ·exact hl
 ·rw[Rj (p:=p) hl] at h;cases h
def g00:Gp:=⟨true,List.replicate 100 0,List.replicate 100 0⟩
theorem Xzi {g:Gp} {W W':AV} (hh:g.hold.length=100) (ha:g.ask.length=100):Yf (gpC g W) 200 [W']=gpC g W':=by
 rw[Xq3 _ _ _ (by rw[Xou hh ha];omega),gpC,gpC,im _ _ (by simp;omega),ai,hh,im _ _ (by simp;omega),ai,ha];rfl
theorem Xzj (p:Pl) (s:St) (hs:Sm p) (hS:SmS s) (hE:Xo3 p=0):Xr Tryz.prog 133 [plA p,stA s] [] (.tup [.agg (gpC (if Xog p s then Xpg p s else g00) (if Xog p s then .sl 4 ((Xs1 p).map wyC) .sh else .sl 0 [] .nil)),bool (Xqm p s)]) []:=by
 obtain⟨hmp,hall⟩:=Xoa hE;have hrl:=hs.rts;have hwl:=hS.w;have hll:=hS.l;have b1:Xd Tryz.prog 166=True:=hb0 _ (by decide) (by decide);have b2:Xd Tryz.prog 168=True:=hb0 _ (by decide) (by decide);have b3:Xd Tryz.prog 170=True:=hb0 _ (by decide) (by decide);have b4:Xd Tryz.prog 172=True:=hb0 _ (by decide) (by decide);have cA:=Xsw s.tr p.secs 168 [] Xvr b2 (by have:=hS.t;omega) fun x _ y _=>Xzd x y;have cB:=Xsx s.sw p.pts 170 [.ref [.fn (.func 166) []]] Xuw b3 (by have:=hS.w;omega) fun x _ y _=>Xze x y;have cC:=Xsy s.lk p.rts 172 [] Xsm b4 (by have:=hS.l;omega) fun x _ y hy=>Xzf x y (by have:=(hs.rt y hy).1;omega);have eP:Xog p s=(Fv Xvr s.tr p.secs&&(Fv Xuw s.sw p.pts&&Fv Xsm s.lk p.rts)):=rfl;have cW:=Xy1 p hs;have eg:Xqm p s=(Xog p s&&(Xpg p s).ok):=rfl;cases hP:Xog p s with
 |false=>
  rw[hP] at eg eP;rw[eg,dc];simp only[bl,if_false];generalize Fv Xvr s.tr p.secs=A1 at*;generalize Fv Xuw s.sw p.pts=A2 at*;generalize Fv Xsm s.lk p.rts=A3 at*;clear eg cW;have g0:([]:List AV)=[]:=rfl;refine Xc 8 Tryz.func133 rfl fun n out _ _=> ?_;simp only[sn,Tryz.ntmps133,simprocAttr];have hg:=Nat.le_refl 0;refine Vy fun K hK=> ?_;simp only[zA,simprocAttr,plA,plC,stA,stC];repeat' (first|(refine hK _ ?_;clear hK K)|with_reducible apply ab)
  refine Vy fun K hK=> ?_;simp only[zA,simprocAttr];repeat' (first|(refine hK _ ?_;clear hK K)|with_reducible apply ab)
  refine Xr9 [some (.box 28 (plC p)),some (.box 33 (stC s)),some (.box 134 (gpC g00 (.sl 0 [] .nil))),some (.box 4 [bool false]),some (.box _ [.fn (.func 166) []]),none,none,none] rfl ?_;refine Yy (Zi (i:=4) (t:=6) 1 (.ref [.fn (.func 166) []]) rfl rfl (.ptr 0)) ?_;simp only[s_0,s_s];have gl:(gpC g00 (.sl 0 [] .nil)).length=201:=Xou (by simp [g00]) (by simp [g00]);generalize gpC g00 (.sl 0 [] .nil)=Z at*;cases A1 with
  |false=>
   repeat' (first|refine Vk fun K hK=> ?_|apply V0|apply Vb|apply Vc|apply Vr|apply Vs|with_reducible apply ab|refine Vq (by kernel_rfl) ?_|((first|apply gE|apply gR|apply gS);simp only[zA,simprocAttr,plC,stC,gl,E6 gl,X0])|exact Vn|(refine X3 (cA) ?_)|(refine X3 (cB) ?_)|(refine X3 (cC) ?_)|((refine Vg (fun hg=> ?_) (fun hg=> ?_))<;>try simp only[nb] at hg)|(apply Vx;simp only[sb,reduceIte,Nat.reduceEqDiff])|(refine hK _ ?_;clear hK K)|refine Vt rfl ?_|refine Vf rfl ?_|refine Vi rfl (fun hg=> ?_) (fun hg=> ?_)|clear hK K)
   exact Yd (Xtp (.inr rfl) rfl rfl rfl (fun _ _=>rfl) ok134 ok4 (k:=n+2) (off:=0) (k2:=n+3) (off2:=0) rfl (Xb _ (by simp)) (X6 _ (Nat.le_refl _) 2) (E6 gl) rfl (Xb _ (by simp)) (X6 _ (Nat.le_refl _) 3) rfl (.rfl _))
  |true=>
   cases A2 with
   |false=>
    repeat' (first|refine Vk fun K hK=> ?_|apply V0|apply Vb|apply Vc|apply Vr|apply Vs|with_reducible apply ab|refine Vq (by kernel_rfl) ?_|((first|apply gE|apply gR|apply gS);simp only[zA,simprocAttr,plC,stC,gl,E6 gl,X0])|exact Vn|(refine X3 (cA) ?_)|(refine X3 (cB) ?_)|(refine X3 (cC) ?_)|((refine Vg (fun hg=> ?_) (fun hg=> ?_))<;>try simp only[nb] at hg)|(apply Vx;simp only[sb,reduceIte,Nat.reduceEqDiff])|(refine hK _ ?_;clear hK K)|refine Vt rfl ?_|refine Vf rfl ?_|refine Vi rfl (fun hg=> ?_) (fun hg=> ?_)|clear hK K)
    exact Yd (Xtp (.inr rfl) rfl rfl rfl (fun _ _=>rfl) ok134 ok4 (k:=n+2) (off:=0) (k2:=n+3) (off2:=0) rfl (Xb _ (by simp)) (X6 _ (Nat.le_refl _) 2) (E6 gl) rfl (Xb _ (by simp)) (X6 _ (Nat.le_refl _) 3) rfl (.rfl _))
   |true=>
    obtain rfl:A3=false:=by simpa using eP.symm
    repeat' (first|refine Vk fun K hK=> ?_|apply V0|apply Vb|apply Vc|apply Vr|apply Vs|with_reducible apply ab|refine Vq (by kernel_rfl) ?_|((first|apply gE|apply gR|apply gS);simp only[zA,simprocAttr,plC,stC,gl,E6 gl,X0])|exact Vn|(refine X3 (cA) ?_)|(refine X3 (cB) ?_)|(refine X3 (cC) ?_)|((refine Vg (fun hg=> ?_) (fun hg=> ?_))<;>try simp only[nb] at hg)|(apply Vx;simp only[sb,reduceIte,Nat.reduceEqDiff])|(refine hK _ ?_;clear hK K)|refine Vt rfl ?_|refine Vf rfl ?_|refine Vi rfl (fun hg=> ?_) (fun hg=> ?_)|clear hK K)
    exact Yd (Xtp (.inr rfl) rfl rfl rfl (fun _ _=>rfl) ok134 ok4 (k:=n+2) (off:=0) (k2:=n+3) (off2:=0) rfl (Xb _ (by simp)) (X6 _ (Nat.le_refl _) 2) (E6 gl) rfl (Xb _ (by simp)) (X6 _ (Nat.le_refl _) 3) rfl (.rfl _))
 |true=>
  rw[hP] at eP eg;simp only[if_true];rw[eg,bo];have eQ:=eP.symm;simp only[ad] at eQ;obtain⟨q1,q2,q3⟩:=eQ;obtain⟨LW,hLW⟩:∃LW,LW=Xs1 p:=⟨_,rfl⟩
  have eW:LW=p.rts.map (Xop p):=by
   rw[hLW];unfold Xs1;rw[if_pos (by unfold Xo3 at hE;split at hE;(rename_i h;exact h.1);exact absurd hE (by decide))]
  have hLl:LW.length=p.rts.length:=by rw[eW,ai]
  have hlk:s.lk.length=p.rts.length:=Xov q3;have eG:Xpg p s=(LW.zip s.lk).foldl (Xi0 (Xjs s.sw)) g00:=by rw[eW];rfl
  obtain⟨CL,hCL⟩:∃CL:Nat->List (Int×Int),CL=fun i=>Xjs (s.sw.take i):=⟨_,rfl⟩
  have CL0:CL 0=[]:=by rw[hCL];rfl
  have CLs:∀i (hi:i<s.sw.length),CL (i+1)=Xxz (CL i) s.sw[i].1 s.sw[i].2.2:=fun i hi=>by
   rw[hCL]
   show Xjs (s.sw.take (i+1))= _
   rw[aj hi];unfold Xjs;rw[dp];rfl
  have CLn:CL s.sw.length=Xjs s.sw:=by rw[hCL];simp
  obtain⟨F,hF⟩:∃F:Nat->Gp,F=fun i=>((LW.zip s.lk).take i).foldl (Xi0 (Xjs s.sw)) g00:=⟨_,rfl⟩
  have F0:F 0=g00:=by rw[hF];rfl
  have Fs:∀i (hi:i<LW.length) (hi':i<s.lk.length),F (i+1)=Xi0 (Xjs s.sw) (F i) (LW[i],s.lk[i]):=fun i hi hi'=>by
   rw[hF]
   show((LW.zip s.lk).take (i+1)).foldl _ _= _
   rw[aj (by simp;omega),dp,List.getElem_zip];rfl
  have Fn:F p.rts.length=Xpg p s:=by rw[hF,eG];show((LW.zip s.lk).take p.rts.length).foldl _ _= _;rw[db (by simp;omega)]
  have Fl:∀i,(F i).hold.length=100∧(F i).ask.length=100:=fun i=>by
   rw[hF];obtain⟨h1,h2⟩:=Xpn (Xjs s.sw) ((LW.zip s.lk).take i) g00;exact⟨h1.trans (by simp [g00]),h2.trans (by simp [g00])⟩
  clear hCL hF eG;rw[<- hLW] at cW⊢;clear hLW;rw[<- Fn];rw[q1] at cA;rw[q2] at cB;rw[q3] at cC;refine Xc 8 Tryz.func133 rfl fun n out _ _=> ?_;simp only[sn,Tryz.ntmps133,simprocAttr];have hg:=Nat.le_refl 0;refine Vy fun K hK=> ?_;simp only[zA,simprocAttr,plA,plC,stA,stC];repeat' (first|(refine hK _ ?_;clear hK K)|with_reducible apply ab)
  refine Vy fun K hK=> ?_;simp only[zA,simprocAttr];repeat' (first|(refine hK _ ?_;clear hK K)|with_reducible apply ab)
  refine Xr9 [some (.box 28 (plC p)),some (.box 33 (stC s)),some (.box 134 (gpC g00 (.sl 0 [] .nil))),some (.box 4 [bool false]),some (.box _ [.fn (.func 166) []]),none,none,none] rfl ?_;refine Yy (Zi (i:=4) (t:=6) 1 (.ref [.fn (.func 166) []]) rfl rfl (.ptr 0)) ?_;simp only[s_0,s_s];have gl:(gpC g00 (.sl 0 [] .nil)).length=201:=Xou (by simp [g00]) (by simp [g00]);have gp:=fun W=>Xzi (g:=g00) (W:= .sl 0 [] .nil) (W':=W) (by simp [g00]) (by simp [g00]);generalize gpC g00 (.sl 0 [] .nil)=Z at*;repeat' (first|refine Xt5 Xj [] 5 rfl (fun b=> ?_)|refine Vk fun K hK=> ?_|apply V0|apply Vb|apply Vc|apply Vr|apply Vs|with_reducible apply ab|refine Vq (by kernel_rfl) ?_|((first|apply gE|apply gR|apply gS);simp only[zA,simprocAttr,plC,stC,gl,gp])|exact Vn|(refine X3 (cA) ?_)|(refine X3 (cB) ?_)|(refine X3 (cC) ?_)|(refine X3 (cW) ?_)|((refine Vg (fun hg=> ?_) (fun hg=> ?_))<;>try simp only[nb] at hg)|(apply Vx;simp only[sb,reduceIte,Nat.reduceEqDiff])|(refine hK _ ?_;clear hK K)|refine Vt rfl ?_|refine Vf rfl ?_|refine Vi rfl (fun hg=> ?_) (fun hg=> ?_)|clear hK K)
  refine Yy (Zi (i:=6) (t:=7) 1 (.ref [.val (.map (some b))]) rfl rfl (.ptr 0)) ?_;simp only[s_0,s_s];apply V5;refine Xrd (s.sw.length) (fun m i=>tr 48 9 [(47,i64 (i:Int)),(2,.ptr (m+0) 0),(3,.ptr (m+1) 0),(4,.ptr (m+2) 0),(5,.ptr (m+3) 0),(9,.top)]) (fun m i=>[some (.box 28 (plC p)),some (.box 33 (stC s)),some (.box 134 (gpC g00 (.sl 4 (LW.map wyC) .sh))),some (.box 4 [bool false]),some .dead,some (.pin b (Xph (CL i)) []),some .dead,none]) ?_ fun m i hm hi=> ?_
  ·refine X2 ?_ ?_ (by first|rfl|(simp only[plC,stC,CL0];rfl)|simp only[plC,stC,CL0]) rfl rfl rfl<;>simp only[sL,plC,stC,CL0]
  simp only[pt];have hw:=Yl (n:=i) 1 1 rfl (by omega);by_cases hlt:i<s.sw.length
  ·have gi:=Xg sgC s.sw i [] hlt;have hc:=CLs i hlt;repeat' (first|refine Vk fun K hK=> ?_|apply V0|apply Vb|apply Vc|apply Vr|apply Vs|with_reducible apply ab|refine Vq (by kernel_rfl) ?_|((first|apply gE|apply gR|apply gS);simp only[zA,simprocAttr,Xi hm,stC,sgC,hlt,gi,hw,X0,Xy0])|exact Vn|(exact Xqq)|(refine Xyy (X6 _ hm 5) (Xb _ (by simp)) ?_)|((refine Vg (fun hg=> ?_) (fun hg=> ?_))<;>try simp only[nb] at hg)|(apply Vx;simp only[sb,reduceIte,Nat.reduceEqDiff])|(refine hK _ ?_;clear hK K)|refine Vt rfl ?_|refine Vf rfl ?_|refine Vi rfl (fun hg=> ?_) (fun hg=> ?_)|clear hK K)
   rw[<- hc];refine⟨i+1,by omega,by omega,?_⟩;refine Xx [true,true,true,true,true,true,true,false] ?_ ?_<;>intro n_<;>simp only[sM,plC]
  ·obtain rfl:i=s.sw.length:=by omega
   rw[CLn];clear hw hlt hi CL0 CLs CLn;repeat' (first|refine Vk fun K hK=> ?_|apply V0|apply Vb|apply Vc|apply Vr|apply Vs|with_reducible apply ab|refine Vq (by kernel_rfl) ?_|((first|apply gE|apply gR|apply gS);simp only[zA,simprocAttr,Xi hm,stC,Nat.lt_irrefl])|exact Vn|((refine Vg (fun hg=> ?_) (fun hg=> ?_))<;>try simp only[nb] at hg)|(apply Vx;simp only[sb])|(refine hK _ ?_;clear hK K)|refine Vt rfl ?_|refine Vf rfl ?_|refine Vi rfl (fun hg=> ?_) (fun hg=> ?_)|clear hK K)
   have hm0:=hm;have nok:g00.ok=true:=rfl;apply V5;refine Xrd (p.rts.length) (fun m i=>tr 61 21 [(60,i64 (i:Int)),(2,.ptr (m+0) 0),(3,.ptr (m+1) 0),(4,.ptr (m+2) 0),(5,.ptr (m+3) 0),(9,.top),(10,.top),(11,.top)]) (fun m i=>[some (.box 28 (plC p)),some (.box 33 (stC s)),some (gpR (F i) (.sl 4 (LW.map wyC) .sh)),some (okX (F i).ok),some .dead,some (.pin b (Xph (Xjs s.sw)) []),some .dead,none]) ?_ fun m i hm hi=> ?_
   ·refine X2 ?_ ?_ (by first|rfl|(simp only[plC,stC,F0,gpR,nok];rfl)|simp only[plC,stC,F0,gpR,nok]) rfl rfl rfl<;>simp only[sL,plC,stC,F0,gpR,nok]
   simp only[pt];have hw:=Yl (n:=i) 1 1 rfl (by omega);by_cases hlt:i<p.rts.length
   ·have hl1:i<LW.length:=by omega
    have hl2:i<s.lk.length:=by omega
    have gw:=Xg wyC LW i [] hl1;have gk:=Xg lkC s.lk i [] hl2;have hmem:=a8 hlt;obtain⟨z1,z2⟩:=Xsc hs hmem;obtain⟨a1,a2,a3⟩:=hs.rt _ hmem;have gn:=Xtr hmp hmem (hall _ hmem).1;have hwi:LW[i]=Xop p p.rts[i]:=by subst eW;rw[da]
    have wp:LW[i].path=p.rts[i].path:=by rw[hwi];exact gn.path
    have wo:LW[i].over=p.rts[i].over:=by rw[hwi];exact gn.over
    have fs:=Fs i hl1 hl2;obtain⟨f1,f2⟩:=Fl i;have b5:Xd Tryz.prog 175=True:=hb0 _ (by decide) (by decide);have b6:Xd Tryz.prog 177=True:=hb0 _ (by decide) (by decide);have cH:=Xzg LW[i] s.lk[i] 175 [.ptr (m+3) 0,.ptr (m+2) 0,.ref (lkC s.lk[i])] (m+3) (m+2) (by omega) (.sl 4 (LW.map wyC) .sh) (F i) b5 (by rw[wp,wo];omega)
     fun g' x hx e1 e2=>Xyp x (m+3) (m+2) (by omega) g' _ s.lk[i] (Xx7 hmp hmem x (by rw[<- wp,<- wo];exact hx)) (by omega) (by omega)
    obtain⟨G1,hG1⟩:∃G1,G1=Xsn s.lk[i].1 (F i) (Xql LW[i] s.lk[i]):=⟨_,rfl⟩
    have g1:G1.hold.length=100∧G1.ask.length=100:=by
     rw[hG1];obtain⟨e1,e2⟩:=Xqn s.lk[i].1 (Xql LW[i] s.lk[i]) (F i);exact⟨by omega,by rw[e2];exact f2⟩
    rw[<- hG1] at cH;have cA2:=Xzh LW[i] s.lk[i] 177 [.ptr (m+3) 0,.ref [.val (.map (some b))],.ptr (m+2) 0] (m+3) (m+2) (m+5) (by omega) (by omega) (by omega) (.pin b (Xph (Xjs s.sw)) []) (by simp) (Xjs s.sw) (.sl 4 (LW.map wyC) .sh) G1 b6 (by rw[hwi];omega)
     fun g' a ha e1 e2=>Xyq a (m+3) (m+2) (m+5) b (by omega) (Xjs s.sw) g' _ (by
      obtain⟨x1,x2,_⟩:=Xts gn a (by rw[<- hwi];exact ha);omega) (by omega) (by omega)
    have eN:Xs9 (Xjs s.sw) (Xug s.lk[i]) G1 (Xrn LW[i] s.lk[i])=F (i+1):=by rw[fs,hG1];rfl
    rw[eN] at cA2;clear fs hG1 eN hwi wp wo;have gl:=Xou (W:= .sl 4 (LW.map wyC) .sh) f1 f2;have gl1:=Xou (W:= .sl 4 (LW.map wyC) .sh) g1.1 g1.2;have gy:=Xxw (W:= .sl 4 (LW.map wyC) .sh) f1 f2;have gy1:=Xxw (W:= .sl 4 (LW.map wyC) .sh) g1.1 g1.2;simp only[gpR] at*;generalize s.lk[i]=l at*;generalize LW[i]=w at*;generalize gpC (F i) (.sl 4 (LW.map wyC) .sh)=Z at*;generalize gpC G1 (.sl 4 (LW.map wyC) .sh)=Z1 at*;generalize hZ2:gpC (F (i+1)) (.sl 4 (LW.map wyC) .sh)=Z2 at*;repeat' (first|refine Vk fun K hK=> ?_|apply V0|apply Vb|apply Vc|apply Vr|apply Vs|with_reducible apply ab|((first|apply gE|apply gR|apply gS);simp only[zA,simprocAttr,Xi hm,stC,hlt,hlk,gk,X0,lkC])|exact Vn|((refine Vg (fun hg=> ?_) (fun hg=> ?_))<;>try simp only[nb] at hg)|(apply Vx;simp only[sb,reduceIte,Nat.reduceEqDiff])|(refine hK _ ?_;clear hK K)|refine Vt rfl ?_|refine Vf rfl ?_|refine Vi rfl (fun hg=> ?_) (fun hg=> ?_)|clear hK K)
    refine Yy (Zi (i:=7) (t:=11) 4 (.ref [i64 l.1,b8 l.2.1,i64 l.2.2.1,i64 l.2.2.2]) rfl rfl (.ptr 0)) ?_;simp only[s_0,s_s];simp only[wyA,lkA,wyC,lkC] at cH cA2;repeat' (first|refine Vk fun K hK=> ?_|apply V0|apply Vb|apply Vc|apply Vr|apply Vs|with_reducible apply ab|refine Xc0 (id:=15) Xj [] 7 [1,4,5] follows (by kernel_rfl) (by kernel_rfl) ?_|refine Xc0 (id:=16) Xj [] 7 [1,4,5] follows (by kernel_rfl) (by kernel_rfl) ?_|refine Vq (by kernel_rfl) ?_|((first|apply gE|apply gR|apply gT|apply gU|apply gS);simp only[zA,simprocAttr,Xi hm,stC,hlt,hlk,hLl,gw,gy,gy1,E6,hw,wyC,Xjn hm])|exact Vn|(refine Xk cH (X6 _ hm 3) (X6 _ hm 2) (Xb _ (by simp)) (Xb _ (by simp)) (by simp) (by simp) ?_)|(refine Xp5 cA2 (X6 _ hm 3) (X6 _ hm 2) (X6 _ hm 5) (Xb _ (by simp)) (Xb _ (by simp)) (Xb _ (by simp)) (by simp) (by simp) (by simp) ?_)|((refine Vg (fun hg=> ?_) (fun hg=> ?_))<;>try simp only[nb] at hg)|(apply Vx;simp only[sb,reduceIte,Nat.reduceEqDiff])|(refine hK _ ?_;clear hK K)|refine Vt rfl ?_|refine Vf rfl ?_|refine Vi rfl (fun hg=> ?_) (fun hg=> ?_)|clear hK K)
    refine⟨i+1,by omega,by omega,?_⟩;rw[hZ2];refine Xx [true,true,true,true,true,true,true,false] ?_ ?_<;>intro n_<;>simp only[sM,plC]
   ·obtain rfl:i=p.rts.length:=by omega
    have gl:(gpC (F p.rts.length) (.sl 4 (LW.map wyC) .sh)).length=201:=Xou (Fl _).1 (Fl _).2;rw[gpR];generalize gpC (F p.rts.length) (.sl 4 (LW.map wyC) .sh)=Z at*;repeat' (first|refine Vk fun K hK=> ?_|apply V0|apply Vb|apply Vc|apply Vr|apply Vs|with_reducible apply ab|refine Vd 18 [] [[2],[3],[2],[3]] [[],[],[2],[3]] (by kernel_rfl) (by decide) (by decide) (by kernel_rfl) ?_|refine Vq (by kernel_rfl) ?_|((first|apply gE|apply gR|apply gD|apply gF|apply gS);simp only[zA,simprocAttr,Xi hm,hlt,hlk,gl,E6 gl,X0])|exact Vn|((refine Vg (fun hg=> ?_) (fun hg=> ?_))<;>try simp only[nb] at hg)|(apply Vx;simp only[sb])|(refine hK _ ?_;clear hK K)|refine Vt rfl ?_|refine Vf rfl ?_|refine Vi rfl (fun hg=> ?_) (fun hg=> ?_)|clear hK K)
    exact Yd (Xtp (.inr rfl) rfl rfl rfl (fun _ _=>rfl) ok134 ok4 (k:=m+2) (off:=0) (k2:=m+3) (off2:=0) rfl (Xb _ (by simp)) (X6 _ hm 2) (E6 gl) rfl (Xb _ (by simp)) (X6 _ hm 3) rfl (.rfl _))
abbrev zg:List AV:=gpC g00 (.sl 0 [] .nil)
theorem Xxx:zg.length=201:=Xou (by simp [g00]) (by simp [g00])
theorem Xx9 (K:AV->List (Nat×Res)->Prop):Nv tab K 134 []=K (.agg zg) []:=rfl
def Xzk (p:Pl) (s:St):AV:=if Xrz p s=0 then .agg (gpC (Xpg p s) (.sl 4 ((Xs1 p).map wyC) .sh)) else .agg zg
theorem Y1i (p:Pl) (s:St) (hs:Sm p) (hS:SmS s):Xr Tryz.prog 70 [plA p,stA s] [] (.tup [Xzk p s,i64 (Xrz p s)]) []:=by
 have cS:=Xrp p hs;have zl:=Xxx;have zb:=Xx9;by_cases hE:Xo3 p=0
 ·have cG:=Xzj p s hs hS hE;have eE:Xrz p s=if Xqm p s then 0 else 8:=by unfold Xrz;rw[if_pos hE]
  rw[hE] at cS;have gl:∀W,(gpC (Xpg p s) W).length=201:=fun W=>by
   obtain⟨h1,h2⟩:=Xpn (Xjs s.sw) ((p.rts.map (Xop p)).zip s.lk) g00;exact Xou (h1.trans (by simp [g00])) (h2.trans (by simp [g00]))
  have xl:(gpC (if Xog p s then Xpg p s else g00) (if Xog p s then .sl 4 ((Xs1 p).map wyC) .sh else .sl 0 [] .nil)).length=201:=by
   split
   ·exact gl _
   ·exact zl
  have eX:Xqm p s=true->gpC (if Xog p s then Xpg p s else g00) (if Xog p s then .sl 4 ((Xs1 p).map wyC) .sh else .sl 0 [] .nil)=gpC (Xpg p s) (.sl 4 ((Xs1 p).map wyC) .sh):=fun h=>by
   have:Xog p s=true:=by unfold Xqm at h;simp_all
   rw[this];rfl
  unfold Xzk;rw[eE];generalize gpC (if Xog p s then Xpg p s else g00) (if Xog p s then .sl 4 ((Xs1 p).map wyC) .sh else .sl 0 [] .nil)=X at*;cases hB:Xqm p s with
  |true=>
   rw[<- eX hB];rw[hB] at cG;simp only[if_true];refine Xc 4 Tryz.func70 rfl fun n out _ _=> ?_;simp only[sn,Tryz.ntmps70,simprocAttr];refine Vy fun K hK=> ?_;simp only[zA,simprocAttr,plA,plC,stA,stC];repeat' (first|(refine hK _ ?_;clear hK K)|with_reducible apply ab)
   refine Xr9 [some (.box 28 (plC p)),some (.box 33 (stC s)),some (.box 134 zg),none] rfl ?_;generalize zg=Z at*;simp only[plA,stA] at cG cS;repeat' (first|refine Vk fun K hK=> ?_|apply V0|apply Vs|with_reducible apply ab|((first|apply gE|apply gR);simp (maxSteps:=4000000) only[sx,sy,eq_self,hbT,tab,Cl,Qd,Nat.reduceAdd,Nat.reduceLT,plC,stC,zl,xl,E6,X0])|exact Vn|(apply Vz;(first|refine Xp (.inr rfl) rfl rfl rfl (fun _ _=>rfl) ok134 (k:=n+2) (off:=0) rfl (Xb _ (by simp)) (X6 _ (Nat.le_refl _) 2) rfl rfl ?_|refine Xp (.inr rfl) rfl rfl rfl (fun _ _=>rfl) ok134 (k:=m+2) (off:=0) rfl (Xb _ (by simp)) (X6 _ hm 2) rfl rfl ?_)<;>first|rfl|exact AV.le.rfl _|(simp only[sL,ti134,ag,zb,plC,stC,zl,xl,E6,X0];done)|rfl|skip)|(refine X3 (cS) ?_)|(refine X3 (cG) ?_)|(refine hK _ ?_;clear hK K)|refine Vt rfl ?_|refine Vf rfl ?_|refine Vi rfl (fun hg=> ?_) (fun hg=> ?_)|clear hK K)
   exact Yd (Xp (.inr rfl) rfl rfl rfl (fun _ _=>rfl) ok134 (k:=n+2) (off:=0) rfl (Xb _ (by simp)) (X6 _ (Nat.le_refl _) 2) (E6 xl) rfl (.rfl _))
  |false=>
   rw[hB] at cG;simp only[bl,if_false,show((8:Int)=0)=False from by simp];refine Xc 4 Tryz.func70 rfl fun n out _ _=> ?_;simp only[sn,Tryz.ntmps70,simprocAttr];refine Vy fun K hK=> ?_;simp only[zA,simprocAttr,plA,plC,stA,stC];repeat' (first|(refine hK _ ?_;clear hK K)|with_reducible apply ab)
   refine Xr9 [some (.box 28 (plC p)),some (.box 33 (stC s)),some (.box 134 zg),none] rfl ?_;generalize zg=Z at*;simp only[plA,stA] at cG cS;repeat' (first|refine Vk fun K hK=> ?_|apply V0|apply Vs|with_reducible apply ab|((first|apply gE|apply gR);simp (maxSteps:=4000000) only[sx,sy,eq_self,hbT,tab,Cl,Qd,Nat.reduceAdd,Nat.reduceLT,zb,plC,stC,zl,xl,E6,X0])|exact Vn|(apply Vz;(first|refine Xp (.inr rfl) rfl rfl rfl (fun _ _=>rfl) ok134 (k:=n+2) (off:=0) rfl (Xb _ (by simp)) (X6 _ (Nat.le_refl _) 2) rfl rfl ?_|refine Xp (.inr rfl) rfl rfl rfl (fun _ _=>rfl) ok134 (k:=m+2) (off:=0) rfl (Xb _ (by simp)) (X6 _ hm 2) rfl rfl ?_)<;>first|rfl|exact AV.le.rfl _|(simp only[sL,ti134,ag,zb,plC,stC,zl,xl,E6,X0];done)|rfl|skip)|(refine X3 (cS) ?_)|(refine X3 (cG) ?_)|(refine hK _ ?_;clear hK K)|refine Vt rfl ?_|refine Vf rfl ?_|refine Vi rfl (fun hg=> ?_) (fun hg=> ?_)|clear hK K)
   exact Yd (Xp (.inr rfl) rfl rfl rfl (fun _ _=>rfl) ok134 (k:=n+2) (off:=0) rfl (Xb _ (by simp)) (X6 _ (Nat.le_refl _) 2) (E6 zl) rfl (.rfl _))
 ·have eE:Xrz p s=100:=by
   unfold Xrz;rw[if_neg hE];unfold Xo3 at hE⊢;split at hE
   ·exact(hE rfl).elim
   ·rename_i h;rw[if_neg h]
  have e1:Xo3 p=100:=by
   unfold Xo3 at hE⊢;split at hE
   ·exact(hE rfl).elim
   ·rename_i h;rw[if_neg h]
  rw[e1] at cS;unfold Xzk;rw[eE];simp only[show((100:Int)=0)=False from by simp,if_false];refine Xc 4 Tryz.func70 rfl fun n out _ _=> ?_;simp only[sn,Tryz.ntmps70,simprocAttr];refine Vy fun K hK=> ?_;simp only[zA,simprocAttr,plA,plC,stA,stC];repeat' (first|(refine hK _ ?_;clear hK K)|with_reducible apply ab)
  refine Xr9 [some (.box 28 (plC p)),some (.box 33 (stC s)),some (.box 134 zg),none] rfl ?_;generalize zg=Z at*;simp only[plA,stA] at cS;repeat' (first|refine Vk fun K hK=> ?_|apply V0|apply Vs|with_reducible apply ab|((first|apply gE|apply gR);simp (maxSteps:=4000000) only[sx,sy,eq_self,hbT,tab,Cl,Qd,Nat.reduceAdd,Nat.reduceLT,zb,plC,stC,zl,E6,X0])|exact Vn|(apply Vz;(first|refine Xp (.inr rfl) rfl rfl rfl (fun _ _=>rfl) ok134 (k:=n+2) (off:=0) rfl (Xb _ (by simp)) (X6 _ (Nat.le_refl _) 2) rfl rfl ?_|refine Xp (.inr rfl) rfl rfl rfl (fun _ _=>rfl) ok134 (k:=m+2) (off:=0) rfl (Xb _ (by simp)) (X6 _ hm 2) rfl rfl ?_)<;>first|rfl|exact AV.le.rfl _|(simp only[sL,ti134,ag,zb,plC,stC,zl,E6,X0];done)|rfl|skip)|(refine X3 (cS) ?_)|(refine hK _ ?_;clear hK K)|refine Vt rfl ?_|refine Vf rfl ?_|refine Vi rfl (fun hg=> ?_) (fun hg=> ?_)|clear hK K)
  exact Yd (Xp (.inr rfl) rfl rfl rfl (fun _ _=>rfl) ok134 (k:=n+2) (off:=0) rfl (Xb _ (by simp)) (X6 _ (Nat.le_refl _) 2) (E6 zl) rfl (.rfl _))
theorem Xtq (p:Pl) (s:St) (hs:Sm p) (hS:SmS s):Xr Tryz.prog 36 [plA p,stA s] [] (i64 (Xrz p s)) []:=by
 have cO:=Y1i p s hs hS;obtain⟨X,hX,xl⟩:∃X,Xzk p s= .agg X∧X.length=201:=by
  unfold Xzk;split
  ·obtain⟨h1,h2⟩:=Xpn (Xjs s.sw) ((p.rts.map (Xop p)).zip s.lk) g00;exact⟨_,rfl,Xou (h1.trans (by simp [g00])) (h2.trans (by simp [g00]))⟩
  ·exact⟨_,rfl,Xxx⟩
 rw[hX] at cO;simp only[plA,stA] at cO;refine Xc 3 Tryz.func36 rfl fun n out _ _=> ?_;simp only[sn,Tryz.ntmps36,simprocAttr];repeat' (first|refine Vk fun K hK=> ?_|apply V0|apply Vs|with_reducible apply ab|((first|apply gE|apply gR);simp only[zA,simprocAttr,plA,plC,stA,stC,xl,X0])|exact Vn|(apply Vz;refine Vo rfl rfl rfl (fun _ _=>rfl) ?_<;>first|rfl|skip)|(refine X3 (cO) ?_)|(refine hK _ ?_;clear hK K)|clear hK K)
def Y1j (a b:Int×Int×Int):Bool:=a.1==b.1&&a.2.2==b.2.2
def Y1k (a b:Int×UInt8×Int×Int):Bool:=a.1==b.1&&(a.2.1==b.2.1&&a.2.2.1==b.2.2.1)
def Xzl (s t:St):Bool:=Fv Y1j s.sw t.sw&&Fv Y1k s.lk t.lk
def Xqz (s t:St):Bool:=s.tr==t.tr&&(s.sw==t.sw&&s.lk==t.lk)
theorem X39 (l:List Sec) (b:Int) (hl:l.length<=1000000000):Xr Tryz.prog 189 [P9 l,i64 b] [] (i64 (idx (fun s=>s.id==b) l)) []:=by
 refine Xc 0 Tryz.func189 rfl fun n out _ _=> ?_;simp only[sn,Tryz.ntmps189,simprocAttr];repeat' (first|refine Vk fun K hK=> ?_|apply V0|(apply gE;simp only[zA,simprocAttr])|(refine hK _ ?_;clear hK K))
 apply V5;refine Xse (l.length) (fun i=>(∀j (hj:j<l.length),j<i->(l[j].id==b)=false)) (fun i=>tp [4] (tr 6 14 [(5,i64 (i:Int))])) (fun i=>[]) (by intros;omega) ?_ fun i hi=> ?_
 ·refine X2 ?_ ?_ (by first|rfl|(simp only[ai];rfl)|simp only[ai]) rfl rfl rfl<;>simp only[sL]
 obtain⟨hi,hq⟩:=hi;simp only[pt];refine Vk fun KC hKC=> ?_;refine Vy fun K hK=> ?_;simp only[zA,simprocAttr]
 (refine hK _ ?_;clear hK K)
 refine Uz rfl (fun ht=>Xhj (hKC _ ?_)) (fun hf=>Qi (id ?_));rotate_left
 ·simp only[Qd,Z4,if_true];refine hK _ ?_;clear hK K hKC KC;have h_ib:i=l.length:=by have:=b7 hf;omega
  subst h_ib;have e:=Kn (p:=fun s:Sec=>s.id==b) (l:=l) fun i hi=>hq i hi (by omega);rw[e];repeat' (first|refine Vk fun K hK=> ?_|apply V0|(apply gE;simp only[zA,simprocAttr])|(apply Vz;refine Vo rfl rfl rfl (fun _ _=>rfl) ?_<;>first|rfl|skip)|(refine hK _ ?_;clear hK K))
 clear hKC KC;have hlt:i<l.length:=by have:=bf ht;omega
 refine Vk fun KC hKC=>Xe ?_;refine Vy fun K hK=> ?_;simp only[zA,simprocAttr,hlt,Xg Y6 l i [] hlt,Y6]
 (refine hK _ ?_;clear hK K)
 refine Uz rfl (fun ht=> ?_) (fun hf=>Xhj ?_)
 ·have e:=Ko (p:=fun s:Sec=>s.id==b) hlt ht fun j hj=>hq j (by omega) hj;refine Vy fun K hK=> ?_;simp only[zA,simprocAttr]
  (refine hK _ ?_;clear hK K)
  rw[<- e];apply Vz;exact Qv (.inr rfl) rfl rfl rfl (fun _ _=>rfl) rfl
 repeat refine ab (by omega) ?_
 refine hKC _ ?_;clear hKC KC;refine Xn Xj [] ?_;simp only[zA,simprocAttr,Yl (n:=i) 1 1 rfl (by omega)];refine⟨i+1,⟨by omega,?_⟩,by omega,?_⟩
 ·intro j hj hji;by_cases h:j=i
  ·subst h;exact hf
  ·exact hq j hj (by omega)
 refine La rfl ?_ ?_<;>simp only[sL]
theorem X05 (l:List Sec) (s:Sec) (e:Nat) (hl:l.length<=1000000) (he:e<s.ends.length):Xr Tryz.prog 188 [P9 l,Qh s,i64 (e:Int)] [] (bool (Yb l s e)) []:=by
 obtain⟨a,b,hj⟩:∃a b,s.ends[e]=(a,b):=⟨_,_,rfl⟩
 rw[Su he hj];have ge:=Xg jnC s.ends e [] he;by_cases h0:a=0∧b=0
 ·obtain⟨rfl,rfl⟩:=h0;refine Xc 3 Tryz.func188 rfl fun n out _ _=> ?_;simp only[sn,Tryz.ntmps188,simprocAttr];have hg:=Nat.le_refl 0;repeat' (first|refine Vk fun K hK=> ?_|apply V0|((first|apply gE|apply gS);simp only[zA,simprocAttr,Qh,Y6,he,ge,jnC,hj,X0])|(apply Vz;refine Vo rfl rfl rfl (fun _ _=>rfl) ?_<;>first|rfl|(first|rfl|(simp only[g_0,g_s];refine congrArg VS.bool ?_;rw[ar];first|(simp [] at* <;>omega)|(simp_all []<;>omega)))|skip)|(refine hK _ ?_;clear hK K)|refine Vt rfl ?_)
 have hsp:(decide (a=0∧b=0))=false:=ak h0;rw[hsp,ee];rcases Ze (fun s:Sec=>s.id==a) l with ⟨h1,h2,h3⟩|⟨i,hi,h1,h2,h3,h4⟩
 ·have h2':Qt l a=none:=h2;rw[h2'];refine Xc 3 Tryz.func188 rfl fun n out _ _=> ?_;simp only[sn,Tryz.ntmps188,simprocAttr];have hg:=Nat.le_refl 0;repeat' (first|refine Vk fun K hK=> ?_|apply V0|apply Vs|refine Vq (by kernel_rfl) ?_|((first|apply gE|apply gR|apply gS);simp only[zA,simprocAttr,hg,Qh,Y6,he,ge,jnC,hj,X0,h1,Int.reduceNeg])|(apply Vz;refine Vo rfl rfl rfl (fun _ _=>rfl) ?_<;>first|rfl|(first|rfl|(simp only[g_0,g_s];refine congrArg VS.bool ?_;rw[ar];first|(simp [] at* <;>omega)|(simp_all []<;>omega)))|skip)|(refine X3 (X39 l _ (by omega)) ?_)|((refine Vg (fun hg=> ?_) (fun hg=> ?_))<;>try simp only[nb] at hg)|(refine hK _ ?_;clear hK K)|refine Vt rfl ?_|refine Vf rfl ?_|refine Vi rfl (fun hg=> ?_) (fun hg=> ?_))
  all_goals (exfalso;simp at*;omega)
 ·have h2':Qt l a=some l[i]:=h2;rw[h2'];have gi:=Xg Y6 l i [] hi;have hi0:decide ((i:Int)<0)=false:=ak (by omega);by_cases hr:0<=b∧b<l[i].ends.length
  ·obtain⟨nb,rfl⟩:=bj hr.1;have hnb:nb<l[i].ends.length:=by omega
   have gb:=Xg jnC l[i].ends nb [] hnb;have gd:l[i].ends.getD (nb:Int).toNat (0,0)=l[i].ends[nb]:=by simp [af,hnb]
   have hb0:decide ((nb:Int)<0)=false:=ak (by omega);have hb1:decide ((nb:Int)>=(l[i].ends.length:Int))=false:=ak (by omega);simp only[gd,X32,ax hr.1,ax hr.2,bo];refine Xc 3 Tryz.func188 rfl fun n out _ _=> ?_;simp only[sn,Tryz.ntmps188,simprocAttr];have hg:=Nat.le_refl 0;repeat' (first|refine Vk fun K hK=> ?_|apply V0|apply Vs|refine Vd 7 [] [[],[],[],[],[],[],[1],[],[],[2],[2]] [[],[],[],[],[],[],[],[],[],[2],[2]] (by kernel_rfl) (by decide) (by decide) (by kernel_rfl) ?_|refine Vq (by kernel_rfl) ?_|((first|apply gE|apply gR|apply gD|apply gS);simp only[zA,simprocAttr,hg,Qh,Y6,he,ge,jnC,hj,X0,h1,hi,gi,hi0,hb0,hb1,hnb,gb])|(apply Vz;refine Vo rfl rfl rfl (fun _ _=>rfl) ?_<;>first|rfl|(first|rfl|(simp only[g_0,g_s];refine congrArg VS.bool ?_;rw[ar];first|(simp [] at* <;>omega)|(simp_all []<;>omega)))|skip)|(refine X3 (X39 l _ (by omega)) ?_)|((refine Vg (fun hg=> ?_) (fun hg=> ?_))<;>try simp only[nb] at hg)|(refine hK _ ?_;clear hK K)|refine Vf rfl ?_|refine Vi rfl (fun hg=> ?_) (fun hg=> ?_))
  ·have hf:(decide (0<=b)&&decide (b<(l[i].ends.length:Int))&& !(decide (a=s.id∧b=e))&&(l[i].ends.getD b.toNat (0,0)==(s.id,(e:Int))))=false:=by
    have:(decide (0<=b)&&decide (b<(l[i].ends.length:Int)))=false:=by simp;omega
    rw[this];rfl
   simp only[hf];refine Xc 3 Tryz.func188 rfl fun n out _ _=> ?_;simp only[sn,Tryz.ntmps188,simprocAttr];have hg:=Nat.le_refl 0;repeat' (first|refine Vk fun K hK=> ?_|apply V0|apply Vs|with_reducible apply ab|refine Vq (by kernel_rfl) ?_|((first|apply gE|apply gR|apply gS);simp only[zA,simprocAttr,hg,Qh,Y6,he,ge,jnC,hj,X0,h1,hi,gi,hi0])|(apply Vz;refine Vo rfl rfl rfl (fun _ _=>rfl) ?_<;>first|rfl|(first|rfl|(simp only[g_0,g_s];refine congrArg VS.bool ?_;rw[ar];first|(simp [] at* <;>omega)|(simp_all []<;>omega)))|skip)|(refine X3 (X39 l _ (by omega)) ?_)|((refine Vg (fun hg=> ?_) (fun hg=> ?_))<;>try simp only[nb] at hg)|(refine hK _ ?_;clear hK K)|refine Vt rfl ?_|refine Vf rfl ?_|refine Vi rfl (fun hg=> ?_) (fun hg=> ?_)|clear hK K)
   all_goals (exfalso;simp at*;omega)
theorem X3a (l:List Sec) (hl:l.length<=1000) (he:∀s,s∈l->s.ends.length<=1000):Xr Tryz.prog 146 [P9 l] [] (bool (Uq l)) []:=by
 refine Xc 1 Tryz.func146 rfl fun n out _ _=> ?_;simp only[sn,Tryz.ntmps146,simprocAttr];have hg:=Nat.le_refl 0;repeat' (first|refine Vk fun K hK=> ?_|apply V0|apply Vs|((first|apply gE|apply gS);simp only[zA,simprocAttr,hg])|(apply Vz;refine Vo rfl rfl rfl (fun _ _=>rfl) ?_<;>first|rfl|(rw[Sv (by simp at hg;omega)];rfl)|skip)|(refine hK _ ?_;clear hK K)|refine Vi rfl (fun hg=> ?_) (fun hg=> ?_))
 have hl16:l.length<=16:=by simp at hg;omega
 apply V5;refine Xpw (l.length) (fun i=>(∀j (hj:j<l.length),j<i->okS (l.take j) l[j]=true)) (fun m i=>tp [2,4,5] (tr 11 51 [(3,i64 (i:Int))])) (fun m i=>[none]) (by intros;omega) ?_ fun m i hm hi=> ?_
 ·refine X2 ?_ ?_ (by first|rfl|(simp only[ai];rfl)|simp only[ai]) rfl rfl rfl<;>simp only[sL]
 obtain⟨hi,hq⟩:=hi;simp only[pt];refine Vk fun KC hKC=> ?_;refine Vy fun K hK=> ?_;simp only[zA,simprocAttr]
 (refine hK _ ?_;clear hK K)
 refine Uz rfl (fun ht=>Xhj (hKC _ ?_)) (fun hf=>Qi (id ?_));rotate_left
 ·simp only[Qd,Z4,if_true];refine hK _ ?_;clear hK K hKC KC;have h_ib:i=l.length:=by have:=b7 hf;omega
  subst h_ib;repeat' (first|refine Vk fun K hK=> ?_|apply V0|((first|apply gE|apply gS);simp only[zA,simprocAttr])|(refine hK _ ?_;clear hK K))
  have hok:∀j (hj:j<l.length),okS (l.take j) l[j]=true:=fun j hj=>hq j hj hj;clear hq hf;apply V5;refine Xse (l.length) (fun i=>(∀j (hj:j<l.length),j<i->∀e,e<l[j].ends.length->Yb l l[j] e=true)) (fun i=>tp [2,7] (tr 62 24 [(6,i64 (i:Int))])) (fun i=>[none]) (by intros;omega) ?_ fun i hi=> ?_
  ·refine X2 ?_ ?_ (by first|rfl|(simp only[ai];rfl)|simp only[ai]) rfl rfl rfl<;>simp only[sL]
  obtain⟨hi,hq⟩:=hi;simp only[pt];refine Vk fun KC hKC=> ?_;refine Vy fun K hK=> ?_;simp only[zA,simprocAttr]
  (refine hK _ ?_;clear hK K)
  refine Uz rfl (fun ht=>Xhj (hKC _ ?_)) (fun hf=>Qi (id ?_));rotate_left
  ·simp only[Qd,Z4,if_true];refine hK _ ?_;clear hK K hKC KC;have h_ib:i=l.length:=by have:=b7 hf;omega
   subst h_ib;rw[Sw hl16 hok fun j hj=>hq j hj hj];repeat' (first|refine Vk fun K hK=> ?_|apply V0|((first|apply gE|apply gS);simp only[zA,simprocAttr])|(apply Vz;refine Vo rfl rfl rfl (fun _ _=>rfl) ?_<;>first|rfl|skip)|(refine hK _ ?_;clear hK K))
  clear hKC KC;have hlt:i<l.length:=by have:=bf ht;omega
  refine Vk fun KC hKC=>Xe ?_;repeat' (first|refine Vk fun K hK=> ?_|apply V0|((first|apply gE|apply gS);simp only[zA,simprocAttr])|(refine hK _ ?_;clear hK K))
  have hel:=he _ (a8 hlt);have hq0:=hq;clear hq;have hlti:=hlt;apply V5;refine Xse (l[i].ends.length) (fun e=>(∀e',e'<e->Yb l l[i] e'=true)) (fun e=>tp [2] (tr 68 18 [(7,i64 (e:Int))])) (fun e=>[none]) (by intros;omega) ?_ fun e he=> ?_
  ·refine X2 ?_ ?_ (by first|rfl|(simp only[ai,hlt,Xg Y6 l i [] hlt,Y6];rfl)|simp only[ai,hlt,Xg Y6 l i [] hlt,Y6]) rfl rfl rfl<;>simp only[sL,hlt]
  obtain⟨he,hq⟩:=he;simp only[pt];refine Vk fun KC hKC=> ?_;refine Vy fun K hK=> ?_;simp only[zA,simprocAttr,hlt,Xg Y6 l i [] hlt,Y6]
  (refine hK _ ?_;clear hK K)
  refine Uz rfl (fun ht=>Xhj (hKC _ ?_)) (fun hf=>Qi (id ?_));rotate_left
  ·simp only[Qd,Z4,if_true];clear hKC KC;have h_ib:l[i].ends.length=e:=by have:=b7 hf;omega
   subst h_ib
   repeat refine ab (by omega) ?_
   refine hKC _ ?_;clear hKC KC;refine Xn Xj [] ?_;simp only[zA,simprocAttr,Yl (n:=i) 1 1 rfl (by omega)];refine⟨i+1,⟨by omega,?_⟩,by omega,?_⟩
   ·intro j hj hji e' he';by_cases h:j=i
    ·subst h;exact hq e' he'
    ·exact hq0 j hj (by omega) e' he'
   refine La rfl ?_ ?_<;>simp only[sL]
  clear hKC KC;have hlt:e<l[i].ends.length:=by have:=bf ht;omega
  refine Vk fun KC hKC=>Xe ?_;have hlte:=hlt;replace hlt:=hlti;repeat' (first|refine Vk fun K hK=> ?_|apply V0|apply Vs|((first|apply gE|apply gR|apply gS);simp only[zA,simprocAttr,hg,hlt,Xg Y6 l i [] hlt,Y6])|(apply Vz;refine Vo rfl rfl rfl (fun _ _=>rfl) ?_<;>first|rfl|(rw[U2 hlt hlte (by simpa using hg)];rfl)|skip)|(refine X3 (X05 l l[i] e (by omega) hlte) ?_)|(refine hK _ ?_;clear hK K)|refine Vi rfl (fun hg=> ?_) (fun hg=> ?_))
  repeat refine ab (by omega) ?_
  refine hKC _ ?_;clear hKC KC;refine Xn Xj [] ?_;simp only[zA,simprocAttr,Yl (n:=e) 1 1 rfl (by omega)];refine⟨e+1,⟨by omega,?_⟩,by omega,?_⟩
  ·intro e' he';by_cases h:e'=e
   ·subst h;simpa using hg
   ·exact hq e' (by omega)
  refine La rfl ?_ ?_<;>simp only[sL,hlt,e8]
 clear hKC KC;have hlt:i<l.length:=by have:=bf ht;omega
 refine Vk fun KC hKC=>Xe ?_;repeat' (first|refine Vk fun K hK=> ?_|apply V0|apply Vs|((first|apply gE|apply gR|apply gS);simp only[zA,simprocAttr,hg,Xi hm,hlt,Xg Y6 l i [] hlt,Y6,X0])|(apply Vz;refine Vo rfl rfl rfl (fun _ _=>rfl) ?_<;>first|rfl|(rw[Kr hlt (by rw[cv];intro h;first|(simp [okS,Uk] at*;omega)|(simp_all [okS,Uk]))];rfl)|skip)|(refine X3 (Gx _) ?_)|((refine Vg (fun hg=> ?_) (fun hg=> ?_))<;>try simp only[nb] at hg)|(refine hK _ ?_;clear hK K)|refine Vt rfl ?_|refine Vi rfl (fun hg=> ?_) (fun hg=> ?_))
 have hq0:=hq;clear hq;have hlti:=hlt;have hnum:Uk l[i].id=true∧Qc l[i]=true:=by
  constructor
  ·simp [Uk] at*;omega
  ·simpa using hg
 apply V5;refine Xse (i) (fun k=>(∀j (hj:j<l.length),j<k->l[j].id<l[i].id∧(l[i].pt=0∨l[j].pt≠l[i].pt))) (fun k=>tp [2] (tr 34 28 [(5,i64 (k:Int))])) (fun k=>[some (.box 75 [i64 l[i].id,i64 l[i].pt,.sl 2 (l[i].ends.map jnC) .sh])]) (by intros;omega) ?_ fun k hk=> ?_
 ·refine La rfl ?_ ?_<;>simp only[sL]
 obtain⟨hk,hq⟩:=hk;simp only[pt];refine Vk fun KC hKC=> ?_;refine Vy fun K hK=> ?_;simp only[zA,simprocAttr]
 (refine hK _ ?_;clear hK K)
 refine Uz rfl (fun ht=>Xhj (hKC _ ?_)) (fun hf=>Qi (id ?_));rotate_left
 ·simp only[Qd,Z4,if_true];clear hKC KC;have h_ib:i=k:=by have:=b7 hf;omega
  subst h_ib
  repeat refine ab (by omega) ?_
  refine hKC _ ?_;clear hKC KC;refine Xn Xj [] ?_;simp only[zA,simprocAttr,Yl (n:=i) 1 1 rfl (by omega)];refine⟨i+1,⟨by omega,?_⟩,by omega,?_⟩
  ·intro j hj hji;by_cases h:j=i
   ·subst h;exact(Ui hj).2 ⟨hnum.1,hnum.2,fun k hk=>hq k (by omega) hk⟩
   ·exact hq0 j hj (by omega)
  refine Xx [false] ?_ ?_<;>intro n_<;>simp only[sM]
 clear hKC KC;have hlt:k<i:=by have:=bf ht;omega
 refine Vk fun KC hKC=>Xe ?_;have hltk:=hlt;replace hlt:=hlti;have hkl:k<l.length:=by omega
 repeat' (first|refine Vk fun K hK=> ?_|apply V0|apply Vs|refine Vq (by kernel_rfl) ?_|((first|apply gE|apply gS);simp only[zA,simprocAttr,hg,Xi hm,hkl,Xg Y6 l k [] hkl,Y6])|(apply Vz;refine Vo rfl rfl rfl (fun _ _=>rfl) ?_<;>first|rfl|(rw[Kr hlt (X3i hlt hltk (by simp at*;omega))];rfl)|skip)|((refine Vg (fun hg=> ?_) (fun hg=> ?_))<;>try simp only[nb] at hg)|(refine hK _ ?_;clear hK K)|refine Vt rfl ?_|refine Vf rfl ?_|refine Vi rfl (fun hg=> ?_) (fun hg=> ?_))
 ·repeat refine ab (by omega) ?_
  refine hKC _ ?_;clear hKC KC;refine Xn Xj [] ?_;simp only[zA,simprocAttr,Yl (n:=k) 1 1 rfl (by omega)];refine⟨k+1,⟨by omega,?_⟩,by omega,?_⟩
  ·intro j hj hji;by_cases h:j=k
   ·subst h;simp at*;omega
   ·exact hq j hj (by omega)
  refine La rfl ?_ ?_<;>simp only[sL]
 ·repeat refine ab (by omega) ?_
  refine hKC _ ?_;clear hKC KC;refine Xn Xj [] ?_;simp only[zA,simprocAttr,Yl (n:=k) 1 1 rfl (by omega)];refine⟨k+1,⟨by omega,?_⟩,by omega,?_⟩
  ·intro j hj hji;by_cases h:j=k
   ·subst h;simp at*;omega
   ·exact hq j hj (by omega)
  refine La rfl ?_ ?_<;>simp only[sL]
end Go.Proofs.YtdngdjbgmojcoaaGreat.Pln
