/- The layer of abstract values, joined. -/
import Derived.Test.YtgpdghbmiihfbaaGreatZP5
import Derived.Test.YtgpdghbmiihfbaaGreatZP20
import Derived.Test.YtgpdghbmiihfbaaGreatZW5
import Derived.Test.YtgpdghbmiihfbaaGreatZPO
import Derived.Test.YtgpdghbmiihfbaaGreatZTab
namespace Go.Proofs.YtgpdghbmiihfbaaGreat.Pln
set_option linter.all false
set_option maxHeartbeats 8000000
set_option maxRecDepth 4000
open Go Go.VS Tab
attribute [local irreducible] AWp Xp0 Pg X5c Qy Lt Tp FdT Eb
theorem X3g (p:Pl):Uf p=(Kq p&&Uq p.secs&&(Ul p&&Qu p&&(Ue Ye (p.rts.map Rt.id)&&decide ((p.rts.length:Int)<=16)))&&p.rts.all (okR p)):=by
 unfold Uf;have e:decide ((p.rts.length:Int)<=16)=decide (p.rts.length<=16):=fj.2 (by omega);rw[e];simp only[Bool.and_assoc]
theorem Hi (p:Pl):Kq p=(!decide (p.ver<1)&& !decide (p.ver>2147483647)&& !decide (p.par<0)&& !decide (p.par>=p.ver)):=by
 unfold Kq;rw[bp];simp
theorem Y3g (p:Pl) (hs:SmV p):Xr Tryz.prog 136 [plA p] [] (i64 (if Uf p then 0 else 8)) []:=by
 have hme:=X3g p;have ct:=X06 p.secs (by have:=hs.secs;omega);cases hmay:Uq p.secs with
 |false=>
  have hf:Uf p=false:=by rw[hme,hmay];simp
  rw[hmay] at ct;rw[hf];refine Xc 3 Tryz.func136 rfl fun n out _ _=> ?_;simp only[sn,Tryz.ntmps136,simprocAttr];have hg:=Nat.le_refl 0;repeat' (first|refine Vk fun K hK=> ?_|apply V0|apply Vb|apply Vc|apply Vr|apply Vs|with_reducible apply aa|((first|apply gE|apply gR|apply gS);simp only[zA,simprocAttr, -List.reduceReplicate,hg,plA,plC])|exact Vn|(apply Vz;refine Vo rfl rfl rfl (fun _ _=>rfl) ?_<;>first|rfl|skip)|(refine X3 (ct) ?_)|((refine Vg (fun hg=> ?_) (fun hg=> ?_))<;>try simp only[nb] at hg)|(apply Vx;simp only[sb,reduceIte,Nat.reduceEqDiff])|(refine hK _ ?_;clear hK K)|refine Vt rfl ?_|refine Vf rfl ?_|refine Vi rfl (fun hg=> ?_) (fun hg=> ?_)|clear hK K)
 |true=>
  rw[hmay] at ct;have hd:=Hi p;cases hh:Kq p with
  |false=>
   have hf:Uf p=false:=by rw[hme,hh];simp
   rw[hh] at hd;rw[hf];refine Xc 3 Tryz.func136 rfl fun n out _ _=> ?_;simp only[sn,Tryz.ntmps136,simprocAttr];have hg:=Nat.le_refl 0;repeat' (first|refine Vk fun K hK=> ?_|apply V0|apply Vb|apply Vc|apply Vr|apply Vs|with_reducible apply aa|((first|apply gE|apply gR|apply gS);simp only[zA,simprocAttr, -List.reduceReplicate,hg,plA,plC])|exact Vn|(apply Vz;refine Vo rfl rfl rfl (fun _ _=>rfl) ?_<;>first|rfl|skip)|(refine X3 (ct) ?_)|((refine Vg (fun hg=> ?_) (fun hg=> ?_))<;>try simp only[nb] at hg)|(apply Vx;simp only[sb,reduceIte,Nat.reduceEqDiff])|(refine hK _ ?_;clear hK K)|refine Vt rfl ?_|refine Vf rfl ?_|refine Vi rfl (fun hg=> ?_) (fun hg=> ?_)|clear hK K)
   all_goals (exfalso;clear hme hf ct hs hK K;simp only[*,il,ef,jg,jf,reduceCtorEq] at hd)
  |true=>
   rw[hh] at hd;obtain⟨⟨⟨d1,d2⟩,d3⟩,d4⟩:((decide (p.ver<1)=false∧decide (p.ver>2147483647)=false)∧decide (p.par<0)=false)∧decide (p.par>=p.ver)=false:=by
    have:=hd.symm;simp only[ag,dv] at this;exact this
   have ce:=X5y p.secs hmay;have cp:=Az p hs hmay;have cg:=H8 p hs hmay;have cr:=H0 p.rts 16 (by have:=hs.rts;omega);simp only[plA,plC] at cp cg;rw[hh,hmay,cy,cy] at hme;cases hpg:Ul p&&Qu p&&(Ue Ye (p.rts.map Rt.id)&&decide ((p.rts.length:Int)<=16)) with
   |false=>
    have hf:Uf p=false:=by rw[hme,hpg];rfl
    rw[hf];generalize (Ue Ye (p.rts.map Rt.id)&&decide ((p.rts.length:Int)<=16))=R at*;generalize Ul p=P1 at*;generalize Qu p=G1 at*;refine Xc 3 Tryz.func136 rfl fun n out _ _=> ?_;simp only[sn,Tryz.ntmps136,simprocAttr];have hg:=Nat.le_refl 0;repeat' (first|refine Vk fun K hK=> ?_|apply V0|apply Vb|apply Vc|apply Vr|apply Vs|with_reducible apply aa|((first|apply gE|apply gR|apply gS);simp only[zA,simprocAttr, -List.reduceReplicate,hg,plA,plC,d1,d2,d3,d4,X0,Yt])|exact Vn|(apply Vz;refine Vo rfl rfl rfl (fun _ _=>rfl) ?_<;>first|rfl|skip)|(refine X3 (ct) ?_)|(refine X3 (ce) ?_)|(refine X3 (cp) ?_)|(refine X3 (cg) ?_)|(refine X3 (cr) ?_)|((refine Vg (fun hg=> ?_) (fun hg=> ?_))<;>try simp only[nb] at hg)|(apply Vx;simp only[sb,reduceIte,Nat.reduceEqDiff])|(refine hK _ ?_;clear hK K)|refine Vt rfl ?_|refine Vf rfl ?_|refine Vi rfl (fun hg=> ?_) (fun hg=> ?_)|clear hK K)
    all_goals (exfalso;clear hme hf ct hs hK K ce cp cg cr hd hh d1 d2 d3 d4;revert P1 G1 R;decide)
   |true=>
    rw[hpg,cy] at hme;rw[ag,ag] at hpg;obtain⟨⟨g1,g2⟩,g3⟩:=hpg;rw[g1] at cp;rw[g2] at cg;rw[g3] at cr;refine Xc 3 Tryz.func136 rfl fun n out _ _=> ?_;simp only[sn,Tryz.ntmps136,simprocAttr];have hg:=Nat.le_refl 0;repeat' (first|refine Vk fun K hK=> ?_|apply V0|apply Vb|apply Vc|apply Vr|apply Vs|with_reducible apply aa|((first|apply gE|apply gR|apply gS);simp only[zA,simprocAttr, -List.reduceReplicate,plA,plC,d1,d2,d3,d4,X0,Yt])|exact Vn|(apply Vz;refine Vo rfl rfl rfl (fun _ _=>rfl) ?_<;>first|rfl|skip)|(refine X3 (ct) ?_)|(refine X3 (ce) ?_)|(refine X3 (cp) ?_)|(refine X3 (cg) ?_)|(refine X3 (cr) ?_)|((refine Vg (fun hg=> ?_) (fun hg=> ?_))<;>try simp only[nb] at hg)|(apply Vx;simp only[sb,reduceIte,Nat.reduceEqDiff])|(refine hK _ ?_;clear hK K)|refine Vt rfl ?_|refine Vf rfl ?_|refine Vi rfl (fun hg=> ?_) (fun hg=> ?_)|clear hK K)
    apply V5;refine Xpw (p.rts.length) (fun i=>(∀j (hj:j<p.rts.length),j<i->okR p p.rts[j]=true)) (fun m i=>tp [2,5] (tr 54 9 [(53,i64 (i:Int)),(1,.ptr (m+0) 0),(3,.ptr (m+1) 0)])) (fun m i=>[some (.box 28 (plC p)),some (.box 243 (Uj p.secs)),none]) (by intros;omega) ?_ fun m i hm hi=> ?_
    ·refine X2 ?_ ?_ (by first|rfl|(simp only[plC,af];rfl)|simp only[plC,af]) rfl rfl rfl<;>simp only[sL,plC]
    obtain⟨hi,hq⟩:=hi;simp only[pt];have hw:=Yl (n:=i) 1 1 rfl (by have:=hs.rts;omega);by_cases hlt:i<p.rts.length
    ·have gi:=Xg rtC p.rts i [] hlt;have cq:=X33 p p.rts[i] hs (hs.rt _ (ak hlt)) hmay g2;simp only[plA,plC,rtA,rtC] at cq;have bad:okR p p.rts[i]=false->Uf p=false:=fun h=>by rw[hme,Kp hlt h]
     repeat' (first|refine Vk fun K hK=> ?_|apply V0|apply Vb|apply Vc|apply Vr|apply Vs|with_reducible apply aa|((first|apply gE|apply gR|apply gS);simp only[zA,simprocAttr, -List.reduceReplicate,hg,Xi hm,plC,rtC,hlt,gi,X0,hw,E6 (Yt p.secs)])|exact Vn|(apply Vz;refine Vo rfl rfl rfl (fun _ _=>rfl) ?_<;>first|rfl|(rw[bad (by simpa using hg)];rfl)|skip)|(refine X3 (cq) ?_)|((refine Vg (fun hg=> ?_) (fun hg=> ?_))<;>try simp only[nb] at hg)|(apply Vx;simp only[sb,reduceIte,Nat.reduceEqDiff])|(refine hK _ ?_;clear hK K)|refine Vt rfl ?_|refine Vf rfl ?_|refine Vi rfl (fun hg=> ?_) (fun hg=> ?_)|clear hK K)
     refine⟨i+1,⟨by omega,fun j hj hji=> ?_⟩,by omega,?_⟩
     ·by_cases h':j=i
      ·subst h';simpa using hg
      ·exact hq j hj (by omega)
     refine Xx [true,true,false] ?_ ?_<;>intro n_<;>simp only[sM]
    ·have e:=Mm (p:=okR p) (l:=p.rts) fun j hj=>hq j hj (by omega);repeat' (first|refine Vk fun K hK=> ?_|apply V0|apply Vb|apply Vc|apply Vr|apply Vs|with_reducible apply aa|((first|apply gE|apply gR|apply gS);simp only[zA,simprocAttr, -List.reduceReplicate,plC,hlt])|exact Vn|(apply Vz;refine Vo rfl rfl rfl (fun _ _=>rfl) ?_<;>first|rfl|(rw[hme,e];rfl)|skip)|((refine Vg (fun hg=> ?_) (fun hg=> ?_))<;>try simp only[nb] at hg)|(apply Vx;simp only[sb])|(refine hK _ ?_;clear hK K)|refine Vt rfl ?_|refine Vf rfl ?_|refine Vi rfl (fun hg=> ?_) (fun hg=> ?_)|clear hK K)
theorem Ss (p:Pl) (hs:SmB p):Xr Tryz.prog 136 [plA p] [] (i64 (if Uf p then 0 else 8)) []:=Y3g p hs.v
theorem Dr (p:Pl) (hs:Sm p):Xr Tryz.prog 136 [plA p] [] (i64 (if Uf p then 0 else 8)) []:=Ss p hs.wide
theorem c_twin (r:Rt) (h:r.path.length<=20∧r.over.length<=20∧r.flanks.length<=20):Xr Tryz.prog 151 [rtA r] [] (rtA r) []:=by
 have c1:=Xez (r.path.map Ym) (by simp;omega);have c2:=Xez (r.over.map Ym) (by simp;omega);have c3:=Xfc (r.flanks.map jnC) (by simp;omega);refine Xc 2 Tryz.func151 rfl fun n out _ _=> ?_;simp only[sn,Tryz.ntmps151,simprocAttr];repeat' (first|refine Vk fun K hK=> ?_|apply V0|apply Vs|with_reducible apply aa|refine Vd 1 [] [[],[0],[],[],[0],[],[],[0],[],[],[0],[],[0],[],[0]] [[],[],[],[],[],[],[],[],[],[],[0],[],[0],[],[0]] (by kernel_rfl) (by decide) (by decide) (by kernel_rfl) ?_|refine Vq (by kernel_rfl) ?_|((first|apply gE|apply gR|apply gD|apply gF);simp only[zA,simprocAttr,rtA,rtC,X0])|exact Vn|(apply Vz;(first|refine Xu (.inr rfl) rfl rfl rfl (fun _ _=>rfl) ok161 (k:=n+1) (off:=0) rfl (Xb _ (by simp)) (X6 _ (Nat.le_refl _) 1) rfl ?_|refine Xu (.inr rfl) rfl rfl rfl (fun _ _=>rfl) ok161 (k:=m+1) (off:=0) rfl (Xb _ (by simp)) (X6 _ hm 1) rfl ?_)<;>first|rfl|exact AV.le.rfl _|(simp only[sL,ti161,ad,rtA,rtC,X0];done)|rfl|skip)|(refine X3 (c1) ?_)|(refine X3 (c2) ?_)|(refine X3 (c3) ?_)|(refine hK _ ?_;clear hK K)|clear hK K)
end Go.Proofs.YtgpdghbmiihfbaaGreat.Pln
namespace Go.Proofs.YtgpdghbmiihfbaaGreat.Pln
set_option linter.all false
set_option maxHeartbeats 8000000
set_option maxRecDepth 4000
open Go Go.VS Tab
theorem Xol {p:Pl} (h:Uf p=true):Kq p=true∧Uq p.secs=true∧Ul p=true∧Qu p=true∧Ue Ye (p.rts.map Rt.id)=true∧p.rts.length<=16∧∀r,r∈p.rts->okR p r=true:=by
 unfold Uf at h;simp only[ag,am,bc] at h;obtain⟨⟨⟨⟨⟨⟨h1,h2⟩,h3⟩,h4⟩,h5⟩,h6⟩,h7⟩:=h;exact⟨h1,h2,h3,h4,h5,h6,h7⟩
theorem Xw7 {l:List (Int×Int×Int)} (hr:∀i (hi:i<l.length) j (hj:j<i),(l[j]'(by omega)).1<l[i].1) (n:Int):Xl0 l n=(Xpe l n).getD (0,0,0):=by
 have:∀i,i<=l.length->Xl0 (l.take i) n=(Xpe (l.take i) n).getD (0,0,0):=by
  intro i;induction i with
  |zero=>intro _;rfl
  |succ i ih=>
   intro hi;rw[Xra (by omega),ih (by omega)];unfold Xpe;rw[ai (by omega),i8];by_cases h:l[i].1=n
   ·have hno:(l.take i).find? (fun x=>x.1==n)=none:=by
     rw[dq];intro x hx;rw[de] at hx;obtain⟨j,hj,rfl⟩:=hx;have:=hr i (by omega) j (by omega);simp;omega
    rw[hno];simp [h]
   ·rw[if_neg (by simpa using h)];have:[l[i]].find? (fun x=>x.1==n)=none:=by simp [h]
    rw[this];cases (l.take i).find? (fun x=>x.1==n)<;>rfl
 have:=this l.length (Nat.le_refl _);rwa [bm] at this
theorem Xxo {p:Pl} (h:Qu p=true):∀i (hi:i<p.sgs.length) j (hj:j<i),(p.sgs[j]'(by omega)).1<p.sgs[i].1:=by
 intro i hi j hj;unfold Qu at h;rw[ag,ag] at h;have h1:=Z3.1 h.1.1 i (by simpa using hi);simp only[Ye,ag,bc,am,fv] at h1;have:p.sgs[j].1∈(p.sgs.map Prod.fst).take i:=by
  rw[de];exact⟨j,by simp;omega,by simp⟩
 exact h1.2 _ this
theorem Xu2 {p:Pl} (h:Uf p=true) {r:Rt} (hr:r∈p.rts):1<=r.path.length∧∃en,Xpe p.sgs r.entry=some en∧Xl0 p.sgs r.entry=en∧en∈p.sgs∧∀s,s∈p.secs->(s.id==en.2.1)=true->0<=en.2.2∧en.2.2<s.ends.length:=by
 obtain⟨_,hmay,_,hsg,_,_,hrs⟩:=Xol h;have ho:=hrs r hr;unfold okR at ho;cases hg:Xpe p.sgs r.entry with
 |none=>rw[hg] at ho;cases ho
 |some en=>
  rw[hg] at ho;simp only[ag,am] at ho;obtain⟨⟨⟨⟨⟨⟨⟨⟨_,hp⟩,_⟩,_⟩,_⟩,_⟩,_⟩,_⟩,_⟩:=ho;have hm:=bz hg;refine⟨hp,en,rfl,by rw[Xw7 (Xxo hsg),hg];rfl,hm,fun s hs he=> ?_⟩;obtain⟨i,hi,rfl⟩:=az hm;unfold Qu at hsg;rw[ag] at hsg;have h1:=Z3.1 hsg.2 i hi;unfold okG at h1;rw[ag] at h1;cases hgs:Qt p.secs p.sgs[i].2.1 with
  |none=>rw[hgs] at h1;simp at h1
  |some s'=>
   rw[hgs] at h1;simp only[ag,am] at h1;obtain⟨g1,g2⟩:=W5 hgs;have:s=s':=X5z hmay hs g1 (by rw[g2];simpa using he);rw[this];exact h1.1
theorem Y1f {l:List Sec} (h:Uq l=true) {s:Sec} (hs:s∈l) (e:Nat):(s.ends.getD e (0,0)).2<=2:=by
 by_cases he:e<s.ends.length
 ·have hj:=(Kk.1 h).2.2 s hs e he;obtain⟨a,b,hab⟩:∃a b,s.ends[e]=(a,b):=⟨_,_,rfl⟩
  rw[Su he hab] at hj;have gd:s.ends.getD e (0,0)=(a,b):=by rw[<- hab];simp [ah,he]
  rw[gd];rw[c9,am] at hj;rcases hj with hj|hj
  ·show b<=2;omega
  ·cases hg:Qt l a with
   |none=>rw[hg] at hj;cases hj
   |some t=>
    rw[hg] at hj;simp only[ag,am] at hj;have:=Uv.1 (U0 h (W5 hg).1).2
    show b<=2;omega
 ·simp [ah,he]
theorem Xz1 (s:Sec) (a b:Int):Xoq s a b<=2:=by
 unfold Xoq;split
 ·unfold Xuv;repeat' split
  all_goals omega
 ·decide
structure AskOk (p:Pl) (L:List Int) (i:Nat) (l:List (Int×Int×Int)):Prop where
 each:∀k (hk:k<l.length),∃(j:Nat) (s:Sec),j<i∧l[k].2.2=(j:Int)∧s∈p.secs∧s.id=L.getD j 0∧s.pt=l[k].1∧s.pt≠0∧1<=l[k].2.1∧l[k].2.1<=2
 rise:∀k (hk:k+1<l.length),l[k].2.2<l[k+1].2.2
theorem AskOk.next {p:Pl} {L:List Int} {i:Nat} {l:List (Int×Int×Int)} (h:AskOk p L i l):AskOk p L (i+1) l:=
 ⟨fun k hk=>by obtain⟨j,s,h1,h2⟩:=h.each k hk;exact⟨j,s,by omega,h2⟩,h.rise⟩
theorem AskOk.snoc {p:Pl} {L:List Int} {i:Nat} {l:List (Int×Int×Int)} (h:AskOk p L i l) {s:Sec} (hs:s∈p.secs) (hid:s.id=L.getD i 0) {lie:Int} (h0:0<s.pt) (h1:0<lie) (h2:lie<=2):AskOk p L (i+1) (l++[(s.pt,lie,(i:Int))]):=by
 refine⟨fun k hk=> ?_,fun k hk=> ?_⟩
 ·by_cases hlt:k<l.length
  ·rw[ew hlt];exact h.next.each k hlt
  ·have:k=l.length:=by simp at hk;omega
   subst this;rw[f7 (Nat.le_refl _)];simp only[Nat.sub_self,List.getElem_cons_zero];exact⟨i,s,by omega,rfl,hs,hid,rfl,by omega,by omega,h2⟩
 ·by_cases hlt:k+1<l.length
  ·rw[ew hlt,ew (by omega)];exact h.rise k hlt
  ·have:k+1=l.length:=by simp at hk;omega
   rw[ew (by omega),f7 (by omega)];simp only[this,Nat.sub_self,List.getElem_cons_zero];obtain⟨j,_,a,b,_⟩:=h.each k (by omega);omega
theorem Xw8 {p:Pl} {L:List Int} {i:Nat} {w:Wk} (h:AskOk p L i w.asks) {s:Sec} (hs:s∈p.secs) (hid:s.id=L.getD i 0) {lie:Int} (h2:lie<=2):AskOk p L (i+1) (Xps w s.pt lie i).asks:=by
 unfold Xps;split
 ·rename_i hb;simp only[ag,am] at hb;exact h.snoc hs hid (by omega) (by omega) h2
 ·exact h.next
theorem Xrc (p:Pl) (w:Wk) (id:Int):((Xp4 p w id).2.lost=true∧(Xp4 p w id).2.asks=w.asks∧(Xp4 p w id).2.inn=w.inn)∨(Qt p.secs id=some (Xp4 p w id).1∧(Xp4 p w id).2=w):=by
 unfold Xp4;split
 ·rename_i s hg;split
  ·exact .inl ⟨rfl,rfl,rfl⟩
  ·exact .inr ⟨hg,rfl⟩
 ·exact .inl ⟨rfl,rfl,rfl⟩
theorem Xt9 {p:Pl} (hmay:Uq p.secs=true) {L:List Int} {i:Nat} {w:Wk} (h:AskOk p L i w.asks) (hi:w.inn.2<=2) (f:Int->Int×Int->Bool):AskOk p L (i+1) (Xso p w (L.getD i 0) i f).asks∧(Xso p w (L.getD i 0) i f).inn.2<=2:=by
 unfold Xso;rcases Xrc p w (L.getD i 0) with ⟨a,b,c⟩|⟨a,b⟩
 ·generalize Xp4 p w (L.getD i 0)=q at*;unfold Xxn Xqx;rw[Xq5 fun e _=>by unfold Xr3;rw[a];rfl];dsimp only;rw[b,c];exact⟨h.next,hi⟩
 ·rw[b];obtain⟨g1,g2⟩:=W5 a;generalize (Xp4 p w (L.getD i 0)).1=s at*;unfold Xxn;split
  ·rename_i e he;unfold Xt7;dsimp only;exact⟨Xw8 h g1 g2 (Xz1 _ _ _),Y1f hmay g1 e⟩
  ·exact⟨h.next,hi⟩
theorem Xxp {p:Pl} {L:List Int} {i:Nat} {w:Wk} (h:AskOk p L i w.asks) (hi:w.inn.2<=2):AskOk p L (i+1) (Xpt p w (L.getD i 0) i).asks∧(Xpt p w (L.getD i 0) i).inn.2<=2:=by
 unfold Xpt;rcases Xrc p w (L.getD i 0) with ⟨a,b,c⟩|⟨a,b⟩
 ·rw[a,jg,dh,if_neg (by decide),b,c];exact⟨h.next,hi⟩
 ·rw[b];obtain⟨g1,g2⟩:=W5 a;generalize (Xp4 p w (L.getD i 0)).1=s at*;split
  ·obtain⟨l,e⟩:=Xoy w s.pt w.inn.2 i;exact⟨Xw8 h g1 g2 hi,by rw[e];exact hi⟩
  ·exact⟨h.next,hi⟩
theorem Xz2 {l:List Sec} (h:Uq l=true) (g:Int×Int×Int):(Xwg l g).2<=2:=by
 have:∀i,i<=l.length->(Xwg (l.take i) g).2<=2:=by
  intro i;induction i with
  |zero=>intro _;rw[List.take_zero];show(0:Int)<=2;decide
  |succ i ih=>
   intro hi;rw[Xsj (by omega)];split
   ·exact Y1f h (ak _) _
   ·exact ih (by omega)
 have:=this l.length (Nat.le_refl _);rwa [bm] at this
theorem Xw9 {p:Pl} (hmay:Uq p.secs=true) (r:Rt):∀i,AskOk p (r.path++r.over) i (Xom p r i).asks∧(Xom p r i).inn.2<=2
 |0=>⟨⟨fun k hk=>absurd hk (ig _),fun k hk=>absurd hk (ig _)⟩,Xz2 hmay _⟩
 |i+1=>by
  obtain⟨h1,h2⟩:=Xw9 hmay r i
  show AskOk p _ _ (Xp6 p r (Xom p r i) i).asks∧(Xp6 p r (Xom p r i) i).inn.2<=2
  unfold Xp6;split
  ·split
   ·exact Xt9 hmay h1 h2 _
   ·exact Xt9 hmay h1 h2 _
  ·split
   ·exact Xxp h1 h2
   ·exact Xt9 hmay h1 h2 _
theorem Xu3:∀(l:List (Int×Int)) (w:Wk),(∀f,f∈l->0<f.1∧0<f.2)->(Xsk w l).asks=w.asks++l.map fun f=>(f.1,f.2, -1)
 |[],w,_=>by simp [Xsk]
 |f::l,w,h=>by
  obtain⟨a,b⟩:=h f (db ..);have e:Xps w f.1 f.2 (-1)={w with asks:=w.asks++[(f.1,f.2, -1)]}:=by
   unfold Xps;rw[if_pos (by simp;omega)]
  have:=Xu3 l (Xps w f.1 f.2 (-1)) fun g hg=>h g (cz _ hg)
  show(Xsk (Xps w f.1 f.2 (-1)) l).asks= _
  rw[this,e];simp
theorem Xwa {p:Pl} (h:Uf p=true) {r:Rt} (hr:r∈p.rts):∀f,f∈r.flanks->0<f.1∧0<f.2:=by
 obtain⟨_,_,hpts,_,_,_,hrs⟩:=Xol h;have ho:=hrs r hr;unfold okR at ho;cases hg:Xpe p.sgs r.entry with
 |none=>rw[hg] at ho;cases ho
 |some en=>
  rw[hg] at ho;rw[ag] at ho;intro f hf;obtain⟨i,hi,rfl⟩:=az hf;have h1:=Z3.1 ho.2 i hi;unfold okF at h1;simp only[ag,c9,cv] at h1;obtain⟨⟨h2,_⟩,h3⟩:=h1;obtain⟨x,hx⟩:=ez.1 h2;have hxm:=bz hx;have hx1:x.1=r.flanks[i].1:=by simpa using eh hx
  unfold Ul at hpts;simp only[ag] at hpts;obtain⟨j,hj,rfl⟩:=az hxm;have h5:=Z3.1 hpts.1.1.1 j (by simpa using hj);simp only[Ye,ag,U1,fv] at h5;omega
def Km (l:List Sec):Bool:=(l.take 40).any (fun s=>decide (20<s.ends.length))||decide (40<l.length)
def X08 (r:Rt):Bool:=decide ((r.path.length:Int)>20)||decide ((r.over.length:Int)>20)||decide ((r.flanks.length:Int)>20)
def Lx (p:Pl):Bool:=(p.rts.take 40).any X08||Km p.secs||decide ((p.pts.length:Int)>40)||decide ((p.sgs.length:Int)>40)||decide ((p.rts.length:Int)>40)
theorem small_of {p:Pl} (h:Lx p=false):Sm p:=by
 unfold Lx at h;simp only[ee,dk] at h;obtain⟨⟨⟨⟨h1,h2⟩,h3⟩,h4⟩,h5⟩:=h;unfold Km at h2;rw[ee,dk,gq] at h2;have h6:p.secs.length<=40:=by omega
 refine⟨h6,fun s hs=> ?_,by omega,by omega,by omega,fun r hr=> ?_⟩
 ·have:=h2.1 s (by rw[bo h6];exact hs);simpa using this
 ·rw[gq] at h1;have:=h1 r (by rw[bo (by omega)];exact hr);simp [X08] at this;omega
theorem Xwb {p:Pl} {w:Wk} {id:Int} (h:(Xp4 p w id).2.lost=false):Qt p.secs id=some (Xp4 p w id).1∧(Xp4 p w id).2=w∧w.inn.1=id:=by
 unfold Xp4 at h⊢;split at h
 ·rename_i s hg;rw[hg];by_cases hb:(w.inn.1 !=id)=true
  ·rw[if_pos hb] at h;cases h
  ·rw[if_neg hb];exact⟨rfl,rfl,by simpa using hb⟩
 ·cases h
theorem Xpd {p:Pl} {w:Wk} {id at':Int} {f:Int->Int×Int->Bool} (h:(Xso p w id at' f).lost=false):w.lost=false∧∃(s:Sec) (e:Nat),Qt p.secs id=some s∧w.inn.1=id∧e<s.ends.length∧Xpj s w.inn.2 e=0∧f e (s.ends.getD e (0,0))=true∧
  Xso p w id at' f=Xt7 (Xps w s.pt (Xoq s w.inn.2 e) at') (id,(e:Int)) (s.ends.getD e (0,0)):=by
 unfold Xso at h⊢;cases hl:(Xp4 p w id).2.lost with
 |true=>
  exfalso;generalize Xp4 p w id=q at*;unfold Xxn Xqx at h;rw[Xq5 fun e _=>by unfold Xr3;rw[hl];rfl] at h;cases h
 |false=>
  obtain⟨a,b,c⟩:=Xwb hl;rw[b] at h hl⊢;generalize (Xp4 p w id).1=s at*;unfold Xxn at h⊢;cases he:Xqx s w f with
  |none=>rw[he] at h;cases h
  |some e=>
   unfold Xqx at he;rw[List.find?_range_eq_some] at he;obtain⟨h1,h2,_⟩:=he;unfold Xr3 at h1;simp only[dv,ee,Bool.not_eq_false'] at h1;exact⟨hl,s,e,a,c,c8.1 h2,by simpa using h1.2.1,h1.2.2,rfl⟩
theorem Xsl {p:Pl} {w:Wk} {id at':Int} (h:(Xpt p w id at').lost=false):w.lost=false∧∃s:Sec,Qt p.secs id=some s∧w.inn.1=id∧Xpt p w id at'=if 0<w.inn.2 then Xps w s.pt w.inn.2 at' else w:=by
 unfold Xpt at h⊢;cases hl:(Xp4 p w id).2.lost with
 |true=>
  exfalso;rw[hl] at h;simp at h;rw[h] at hl;cases hl
 |false=>
  obtain⟨a,b,c⟩:=Xwb hl;rw[b] at h hl⊢;generalize (Xp4 p w id).1=s at*;refine⟨hl,s,a,c,?_⟩;by_cases h0:0<w.inn.2
  ·rw[if_pos h0,if_pos (by simpa using h0)]
  ·rw[if_neg h0,if_neg (by simpa using h0)]
theorem Xwc {p:Pl} {r:Rt} {w:Wk} {i:Nat} (h:(Xp6 p r w i).lost=false):w.lost=false:=by
 unfold Xp6 at h;split at h
 ·split at h
  ·exact(Xpd h).1
  ·exact(Xpd h).1
 ·split at h
  ·exact(Xsl h).1
  ·exact(Xpd h).1
theorem Xry {p:Pl} {r:Rt} {n:Nat} (h:(Xom p r n).lost=false):∀i,i<=n->(Xom p r i).lost=false:=by
 induction n with
 |zero=>intro i hi;obtain rfl:i=0:=(by omega);exact h
 |succ n ih=>
  intro i hi;by_cases he:i=n+1
  ·subst he;exact h
  ·exact ih (Xwc h) i (by omega)
abbrev Xs2 (r:Rt):List Int:=r.path++r.over
theorem Xu4 {p:Pl} {r:Rt} {i:Nat} (hl:(Xom p r (i+1)).lost=false) (hi:i+1=r.path.length∨i+1≠(Xs2 r).length):∃(s:Sec) (e:Nat),Qt p.secs ((Xs2 r).getD i 0)=some s∧(Xom p r i).inn.1=(Xs2 r).getD i 0∧e<s.ends.length∧Xpj s (Xom p r i).inn.2 e=0∧
  Xom p r (i+1)=Xt7 (Xps (Xom p r i) s.pt (Xoq s (Xom p r i).inn.2 e) i) ((Xs2 r).getD i 0,(e:Int)) (s.ends.getD e (0,0))∧
  (i+1=r.path.length->(r.ex=0->s.ends.getD e (0,0)=(0,0))∧(r.ex≠0->(Xs2 r).getD i 0=(Xl0 p.sgs r.ex).2.1∧(e:Int)=(Xl0 p.sgs r.ex).2.2)):=by
 have hs:Xom p r (i+1)=Xp6 p r (Xom p r i) i:=rfl;rw[hs] at hl⊢;unfold Xp6 at hl⊢;by_cases h1:i+1=r.path.length
 ·rw[if_pos h1] at hl⊢;by_cases h2:r.ex=0
  ·rw[if_pos h2] at hl⊢;obtain⟨_,s,e,a,b,c,d,f,g⟩:=Xpd hl;exact⟨s,e,a,b,c,d,g,fun _=>⟨fun _=>by simpa using f,fun h=>absurd h2 h⟩⟩
  ·rw[if_neg h2] at hl⊢;obtain⟨_,s,e,a,b,c,d,f,g⟩:=Xpd hl;simp only[ag,cv] at f;exact⟨s,e,a,b,c,d,g,fun _=>⟨fun h=>absurd h h2,fun _=>f⟩⟩
 ·have h3:i+1≠(r.path++r.over).length:=by
   rcases hi with h|h
   ·exact absurd h h1
   ·exact h
  rw[if_neg h1,if_neg h3] at hl⊢;obtain⟨_,s,e,a,b,c,d,f,g⟩:=Xpd hl;exact⟨s,e,a,b,c,d,g,fun h=>absurd h h1⟩
theorem Xwd {p:Pl} {r:Rt} {i:Nat} (hl:(Xom p r (i+1)).lost=false) (h1:i+1≠r.path.length) (h2:i+1=(Xs2 r).length):∃s:Sec,Qt p.secs ((Xs2 r).getD i 0)=some s∧(Xom p r i).inn.1=(Xs2 r).getD i 0∧
  Xom p r (i+1)=if 0<(Xom p r i).inn.2 then Xps (Xom p r i) s.pt (Xom p r i).inn.2 i else Xom p r i:=by
 have hs:Xom p r (i+1)=Xp6 p r (Xom p r i) i:=rfl;rw[hs] at hl⊢;unfold Xp6 at hl⊢;rw[if_neg h1,if_pos h2] at hl⊢;obtain⟨_,s,a,b,c⟩:=Xsl hl;exact⟨s,a,b,c⟩
theorem Xu5 {p:Pl} {r:Rt}:∀n,(Xom p r n).lost=false->(∀i,i<n->i+1=r.path.length∨i+1≠(Xs2 r).length)->(Xom p r n).outs.length=n
 |0,_,_=>rfl
 |n+1,h,hq=>by
  obtain⟨s,e,_,_,_,_,g,_⟩:=Xu4 h (hq n (by omega));have hn:=Xu5 n (Xry h n (by omega)) fun i hi=>hq i (by omega);obtain⟨l,hk⟩:=Xoy (Xom p r n) s.pt (Xoq s (Xom p r n).inn.2 e) n;rw[g,hk];unfold Xt7;simp [hn]
theorem Xu6 {p:Pl} {r:Rt} {i:Nat}:∀n,i<=n->(Xom p r n).lost=false->∃t,(Xom p r n).outs=(Xom p r i).outs++t
 |0,h,_=>⟨[],by obtain rfl:i=0:=(by omega);simp⟩
 |n+1,h,hl=>by
  by_cases he:i=n+1
  ·subst he;exact⟨[],by simp⟩
  ·obtain⟨t,ht⟩:=Xu6 (p:=p) (r:=r) (i:=i) n (by omega) (Xry hl n (by omega));by_cases hc:n+1=r.path.length∨n+1≠(Xs2 r).length
   ·obtain⟨s,e,_,_,_,_,g,_⟩:=Xu4 hl hc;obtain⟨l,hk⟩:=Xoy (Xom p r n) s.pt (Xoq s (Xom p r n).inn.2 e) n;refine⟨t++[((Xs2 r).getD n 0,(e:Int))],?_⟩;rw[g,hk];unfold Xt7;simp [ht]
   ·have hc1:n+1≠r.path.length:=fun h=>hc (.inl h);have hc2:n+1=(Xs2 r).length:=Classical.byContradiction fun h=>hc (.inr h);obtain⟨s,_,_,g⟩:=Xwd hl hc1 hc2;refine⟨t,?_⟩;rw[g];split
    ·obtain⟨l,hk⟩:=Xoy (Xom p r n) s.pt (Xom p r n).inn.2 n;rw[hk];exact ht
    ·exact ht
structure Gone (p:Pl) (r:Rt) (W:Wy) (O:List (Int×Int)):Prop where
 may:Uf p=true
 mem:r∈p.rts
 one:1<=r.path.length
 not:(Xom p r (Xs2 r).length).lost=false
 path:W.path=r.path
 over:W.over=r.over
 near:W.near=(Xl0 p.sgs r.entry).2.1
 asks:W.asks=(Xom p r (Xs2 r).length).asks++r.flanks.map (fun f=>(f.1,f.2, -1))
 outs:O=(Xom p r (Xs2 r).length).outs
theorem Zv {P:Program} {n:Nat} {fn:Func} {out:Nat->Option Res} {gives:List (Nat×Res)} {r r' q q' u u':AV} {a b c:Tmp} {e:Exit} {σ:AState} (he:e= .normal∨e= .ret) (hr:fn.results= #[.tmp a,.tmp b,.tmp c]) (hd:σ.df=[]) (h0:σ.n0=n)
  (ho:∀k,k<n->σ.out k=upd out gives k) (hx:σ.fr.getD a .top=r) (hy:σ.fr.getD b .top=q) (hz:σ.fr.getD c .top=u) (l1:AV.le r r') (l2:AV.le q q') (l3:AV.le u u'):Zq P n fn out gives (.tup [r',q',u']) e σ:=by
 refine⟨he,hd,h0,ho,fun M act hI hs=> ?_⟩;have h1:=hs.ev (.tmp a);have h2:=hs.ev (.tmp b);have h3:=hs.ev (.tmp c);simp only[AState.ev,Act.eval] at h1 h2 h3;rw[hx] at h1;rw[hy] at h2;rw[hz] at h3;refine⟨.tuple #[act.tmps.getD a undef,act.tmps.getD b undef,act.tmps.getD c undef],by simp [results,hr],.tup _ _ rfl fun i c v hi hv=> ?_⟩
 match i,hi,hv with
 |0,hi,hv=>simp at hi hv;subst hi;subst hv;simpa using h1.le l1
 |1,hi,hv=>simp at hi hv;subst hi;subst hv;simpa using h2.le l2
 |2,hi,hv=>simp at hi hv;subst hi;subst hv;simpa using h3.le l3
end Go.Proofs.YtgpdghbmiihfbaaGreat.Pln
namespace Go.Proofs.YtgpdghbmiihfbaaGreat.Pln
set_option linter.all false
set_option maxHeartbeats 8000000
set_option maxRecDepth 4000
open Go Go.VS Tab
attribute [local irreducible] AWp Xp0 Pg X5c Qy Lt Tp FdT Eb
def joC (l:List (Int×Int)):List AV:=[.sl 2 (l.map jnC) .sh]
def Xs0 (p:Pl):Int:=if Uf p then(match p.rts.find? (fun r=>Xrb p r !=0) with
 |some r=>Xrb p r
 |none=>0) else 8
def Xs1 (p:Pl):List Wy:=if Xs0 p=0 then p.rts.map (Xop p) else[]
def Xwf (p:Pl):List (List (Int×Int)):=if Xs0 p=0 then p.rts.map (Xpv p) else[]
theorem Xuq {α:Type} {f:α->Bool} {l:List α} {i:Nat} (hi:i<l.length) (hf:f l[i]=true) (hq:∀j (hj:j<l.length),j<i->f l[j]=false):l.find? f=some l[i]:=by
 rw[g9];exact⟨hf,i,hi,rfl,fun j hj=>by simp [hq j (by omega) hj]⟩
theorem Xur {α:Type} {f:α->Bool} {l:List α} (hq:∀j (hj:j<l.length),f l[j]=false):l.find? f=none:=by
 rw[dq];intro x hx;obtain⟨i,hi,rfl⟩:=az hx;simp [hq i hi]
theorem Xy1 (p:Pl) (hs:Sm p):Xr Tryz.prog 183 [plA p] [] (.tup [.sl 4 ((Xs1 p).map wyC) .sh,.sl 1 ((Xwf p).map joC) .sh,i64 (Xs0 p)]) []:=by
 have cc:=Dr p hs;have hrl:=hs.rts;cases hmy:Uf p with
 |false=>
  have e1:Xs0 p=8:=by unfold Xs0;rw[hmy];rfl
  have e2:Xs1 p=[]:=by unfold Xs1;rw[e1];rfl
  have e3:Xwf p=[]:=by unfold Xwf;rw[e1];rfl
  rw[e1,e2,e3];rw[hmy] at cc;refine Xc 5 Tryz.func183 rfl fun n out _ _=> ?_;simp only[sn,Tryz.ntmps183,simprocAttr];repeat' (first|refine Vk fun K hK=> ?_|apply V0|apply Vb|apply Vc|apply Vr|apply Vs|with_reducible apply aa|((first|apply gE|apply gR);simp only[zA,simprocAttr,plA,plC])|exact Vn|(refine X3 (cc) ?_)|(apply Vx;simp only[sb,reduceIte,Nat.reduceEqDiff])|(refine hK _ ?_;clear hK K)|refine Vt rfl ?_|refine Vf rfl ?_|refine Vi rfl (fun hg=> ?_) (fun hg=> ?_)|clear hK K)
  refine Yd (Zv (.inr rfl) rfl rfl rfl (fun _ _=>rfl) rfl rfl rfl ?_ ?_ ?_)<;>simp only[ad,sL]
 |true=>
  rw[hmy] at cc;have cf:∀(i:Nat) (hi:i<p.rts.length),Xr Tryz.prog 234 [plA p,rtA p.rts[i]] [] (.tup [wyA (Xop p p.rts[i]),.sl 2 ((Xpv p p.rts[i]).map jnC) .sh,i64 (Xrb p p.rts[i])]) []:=fun i hi=>by
   obtain⟨h1,en,_,h3,_,h5⟩:=Xu2 hmy (ak hi);exact Xut p p.rts[i] hs (hs.rt _ (ak hi)) h1 (by rw[h3];exact h5)
  obtain⟨RW,hRW⟩:∃RW,RW=Xs1 p:=⟨_,rfl⟩
  obtain⟨RO,hRO⟩:∃RO,RO=Xwf p:=⟨_,rfl⟩
  obtain⟨RE,hRE⟩:∃RE,RE=Xs0 p:=⟨_,rfl⟩
  rw[<- hRW,<- hRO,<- hRE];refine Xc 5 Tryz.func183 rfl fun n out _ _=> ?_;simp only[sn,Tryz.ntmps183,simprocAttr];repeat' (first|refine Vk fun K hK=> ?_|apply V0|apply Vb|apply Vc|apply Vr|apply Vs|with_reducible apply aa|((first|apply gE|apply gR);simp only[zA,simprocAttr,plA,plC])|exact Vn|(refine X3 (cc) ?_)|(apply Vx;simp only[sb,reduceIte,Nat.reduceEqDiff])|(refine hK _ ?_;clear hK K)|refine Vt rfl ?_|refine Vf rfl ?_|refine Vi rfl (fun hg=> ?_) (fun hg=> ?_)|clear hK K)
  refine Yy (Q9 (i:=1) 258 4 rfl) ?_;refine Yy (Q9 (i:=2) 152 1 rfl) ?_;simp only[s_0,s_s];apply V5;refine Xpw (p.rts.length) (fun i=>(∀j (hj:j<p.rts.length),j<i->(Xrb p p.rts[j] !=0)=false)) (fun m i=>tr 18 22 (tr 6 4 [(17,i64 (i:Int)),(4,i64 0),(1,.ptr (m+0) 0),(2,.sl 4 ((p.rts.take i).map fun r=>wyC (Xop p r)) (.own (m+1))),(3,.sl 1 ((p.rts.take i).map fun r=>joC (Xpv p r)) (.own (m+2)))])) (fun m i=>[some (.box 28 (plC p)),some (.row 258 4 i),some (.row 152 1 i),none,none]) (by intros;omega) ?_ fun m i hm hi=> ?_
  ·refine X2 ?_ ?_ (by first|rfl|(simp only[plC,List.take_zero,ad,af];rfl)|simp only[plC,List.take_zero,ad,af]) rfl rfl rfl<;>simp only[sL,plC,ad]
  obtain⟨hi,hq⟩:=hi;simp only[pt];have hw:=Yl (n:=i) 1 1 rfl (by omega);by_cases hlt:i<p.rts.length
  ·have gi:=Xg rtC p.rts i [] hlt;have cF:=cf i hlt;have next:(Xrb p p.rts[i] !=0)=false->∀j (hj:j<p.rts.length),j<i+1->(Xrb p p.rts[j] !=0)=false:=fun h j hj hji=>by
    by_cases h':j=i
    ·subst h';exact h
    ·exact hq j hj (by omega)
   have bad:(Xrb p p.rts[i] !=0)=true->Xs0 p=Xrb p p.rts[i]∧Xs1 p=[]∧Xwf p=[]:=fun h=>by
    have e1:Xs0 p=Xrb p p.rts[i]:=by
     unfold Xs0;rw[hmy,Xuq (f:=fun r=>Xrb p r !=0) hlt h hq];rfl
    have hn:¬Xs0 p=0:=by rw[e1];simpa using h
    exact⟨e1,by unfold Xs1;rw[if_neg hn],by unfold Xwf;rw[if_neg hn]⟩
   have hsw:=Xua (fun r=>wyC (Xop p r)) p.rts i hlt;have hso:=Xua (fun r=>joC (Xpv p r)) p.rts i hlt;clear hq cf;cases hb:(Xrb p p.rts[i] !=0) with
   |true=>
    obtain⟨e1,e2,e3⟩:=bad hb;rw[e1] at hRE;rw[e2] at hRW;rw[e3] at hRO;subst hRE hRW hRO;simp only[plA,plC,rtA,rtC,wyA,wyC] at cF;repeat' (first|refine Vk fun K hK=> ?_|apply V0|apply Vb|apply Vc|apply Vr|apply Vs|with_reducible apply aa|((first|apply gE|apply gR);simp only[zA,simprocAttr,Xi hm,plC,rtC,hlt,gi,X0,hb])|exact Vn|(refine X3 (cF) ?_)|(apply Vx;simp only[sb,reduceIte,Nat.reduceEqDiff])|(refine hK _ ?_;clear hK K)|refine Vt rfl ?_|refine Vf rfl ?_|refine Vi rfl (fun hg=> ?_) (fun hg=> ?_)|clear hK K)
    refine Yd (Zv (.inr rfl) rfl rfl rfl (fun _ _=>rfl) rfl rfl rfl ?_ ?_ ?_)<;>simp only[ad,sL]
   |false=>
    have nx:=next hb
    clear next bad
    have lw:∀(σ:AState) (K:AV->List (Nat×Res)->Prop),X1 tab σ K none 252 1 [(0,.agg [.sl 1 ((Xop p p.rts[i]).path.map Ym) .sh,.sl 1 ((Xop p p.rts[i]).over.map Ym) .sh,.sl 3 ((Xop p p.rts[i]).asks.map sgC) .sh,i64 (Xop p p.rts[i]).near])]=K (.sl 4 [[.sl 1 ((Xop p p.rts[i]).path.map Ym) .sh,.sl 1 ((Xop p p.rts[i]).over.map Ym) .sh,.sl 3 ((Xop p p.rts[i]).asks.map sgC) .sh,i64 (Xop p p.rts[i]).near]] .full) []:=fun σ K=>Yk (T:=tab) (ti:=ti252) (te:=ti258) rfl rfl rfl (by decide) (by decide) rfl rfl;have lo':∀(σ:AState) (K:AV->List (Nat×Res)->Prop),X1 tab σ K none 253 1 [(0,.sl 2 ((Xpv p p.rts[i]).map jnC) .sh)]=K (.sl 1 [[.sl 2 ((Xpv p p.rts[i]).map jnC) .sh]] .full) []:=fun σ K=>Yk (T:=tab) (ti:=ti253) (te:=ti152) rfl rfl rfl (by decide) (by decide) rfl rfl;have hsw':(p.rts.take i).map (fun r=>wyC (Xop p r))++[[.sl 1 ((Xop p p.rts[i]).path.map Ym) .sh,.sl 1 ((Xop p p.rts[i]).over.map Ym) .sh,.sl 3 ((Xop p p.rts[i]).asks.map sgC) .sh,i64 (Xop p p.rts[i]).near]]=(p.rts.take (i+1)).map fun r=>wyC (Xop p r):=hsw;have hso':(p.rts.take i).map (fun r=>joC (Xpv p r))++[[.sl 2 ((Xpv p p.rts[i]).map jnC) .sh]]=(p.rts.take (i+1)).map fun r=>joC (Xpv p r):=hso;simp only[plA,plC,rtA,rtC,wyA,wyC] at cF;have z1:(i+1)*80<=140737488355328:=by omega
    have z2:(i+1)*24<=140737488355328:=by omega
    have z3:i<=9223372036854775806:=by omega
    repeat' (first|refine Vk fun K hK=> ?_|apply V0|apply Vb|apply Vc|apply Vr|apply Vs|with_reducible apply aa|((first|apply gE|apply gR);simp only[zB,simprocAttr,lw,lo',Xi hm,plC,rtC,aj,Nat.min_eq_left hi,hlt,gi,X0,hb,hw,z1,z2,z3])|exact Vn|(refine X3 (cF) ?_)|(apply Vx;simp only[sb,reduceIte,Nat.reduceEqDiff])|(refine hK _ ?_;clear hK K)|refine Vt rfl ?_|refine Vf rfl ?_|refine Vi rfl (fun hg=> ?_) (fun hg=> ?_)|clear hK K)
    rw[hsw',hso'];refine⟨i+1,⟨by omega,nx⟩,by omega,?_⟩;refine Xx [true,true,true,false,false] ?_ ?_<;>intro n_<;>simp only[sM]
  ·have e1:Xs0 p=0:=by
    unfold Xs0;rw[hmy,Xur (f:=fun r=>Xrb p r !=0) fun j hj=>hq j hj (by omega)];rfl
   have e2:Xs1 p=p.rts.map (Xop p):=by unfold Xs1;rw[if_pos e1]
   have e3:Xwf p=p.rts.map (Xpv p):=by unfold Xwf;rw[if_pos e1]
   rw[e1] at hRE;rw[e2] at hRW;rw[e3] at hRO;subst hRE hRW hRO;obtain rfl:i=p.rts.length:=by omega
   clear hq;have hm1:(p.rts.map (Xop p)).map wyC=p.rts.map fun r=>wyC (Xop p r):=by rw[fu];rfl
   have hm2:(p.rts.map (Xpv p)).map joC=p.rts.map fun r=>joC (Xpv p r):=by rw[fu];rfl
   repeat' (first|refine Vk fun K hK=> ?_|apply V0|apply Vb|apply Vc|apply Vr|apply Vs|with_reducible apply aa|((first|apply gE|apply gR);simp only[zA,simprocAttr,hlt,bm])|exact Vn|(apply Vx;simp only[sb])|(refine hK _ ?_;clear hK K)|refine Vt rfl ?_|refine Vf rfl ?_|refine Vi rfl (fun hg=> ?_) (fun hg=> ?_)|clear hK K)
   refine Yd (Zv (.inr rfl) rfl rfl rfl (fun _ _=>rfl) rfl rfl rfl ?_ ?_ ?_)<;>simp only[hm1,hm2,sL]
end Go.Proofs.YtgpdghbmiihfbaaGreat.Pln
