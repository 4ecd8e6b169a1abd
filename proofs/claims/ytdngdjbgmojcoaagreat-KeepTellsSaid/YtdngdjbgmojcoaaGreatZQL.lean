/- The layer of abstract values, joined. -/
import Derived.Test.YtdngdjbgmojcoaaGreatZPR
import Derived.Test.YtdngdjbgmojcoaaGreatZRB
import Derived.Test.YtdngdjbgmojcoaaGreatZR5
import Derived.Test.YtdngdjbgmojcoaaGreatZWC
import Derived.Test.YtdngdjbgmojcoaaGreatZW4
import Derived.Test.YtdngdjbgmojcoaaGreatZPQ
import Derived.Test.YtdngdjbgmojcoaaGreatZQD
import Derived.Test.YtdngdjbgmojcoaaGreatZQK
namespace Go.Proofs.YtdngdjbgmojcoaaGreat.Pln
set_option linter.all false
set_option maxHeartbeats 8000000
set_option maxRecDepth 4000
open Go Go.VS Tab
attribute [local irreducible] AWp Xp0 Pg X5c Qy Lt Tp FdT Eb
def Ydw (p:Pl):Bool:=Uf p&&p.rts.all (V2 p)
theorem Ye8 {p:Pl} {r:Rt}:Xrb p r=0↔(Xt6 p r).lost=false:=by
 unfold Xrb;cases (Xt6 p r).lost<;>simp
theorem Ydp (p:Pl):Xo3 p=if Ydw p=true then 0 else 100:=by
 by_cases h:Xo3 p=0
 ·obtain⟨h1,h2⟩:=Xoa h;have:Ydw p=true:=by
   unfold Ydw;rw[h1,bo,az];intro r hr;obtain⟨x,y⟩:=h2 r hr;unfold V2;rw[Ye8.1 x,y];rfl
  rw[h,this,if_pos rfl]
 ·have:Ydw p=false:=by
   rw[cv];intro hx;apply h;unfold Ydw at hx;rw[ad,az] at hx;obtain⟨h1,h2⟩:=hx;have hE:Xs0 p=0:=by
    unfold Xs0;rw[h1,if_pos rfl];rw[show p.rts.find? (fun r=>Xrb p r !=0)=none from by
     rw[cx];intro r hr;have:=h2 r hr;unfold V2 at this;rw[ad,c9] at this;simp [Ye8.2 this.1]]
   unfold Xo3;rw[if_pos ⟨hE,az.2 fun r hr=>by
    have:=h2 r hr;unfold V2 at this;rw[ad] at this;exact this.2⟩]
  rw[this,if_neg (by decide)];unfold Xo3;unfold Xo3 at h;split
  ·rename_i hc;rw[if_pos hc] at h;exact absurd rfl h
  ·rfl
theorem Yeg (p:Pl) (hs:Sm p):Xr Tryz.prog 56 [plA p] [] (bool (Ydw p)) []:=by
 have cm:=X5w p hs;have hrl:=hs.rts;simp only[plA,plC] at cm;cases hmy:Uf p with
 |false=>
  have e:Ydw p=false:=by unfold Ydw;rw[hmy];rfl
  rw[hmy] at cm;rw[e];refine Xc 1 Tryz.func56 rfl fun n out _ _=> ?_;simp only[sn,Tryz.ntmps56,simprocAttr];repeat' (first|refine Vk fun K hK=> ?_|apply V0|((first|apply gE|apply gR);simp only[zA,simprocAttr,plA,plC])|(apply Vz;refine Vo rfl rfl rfl (fun _ _=>rfl) ?_<;>first|rfl|skip)|(refine X3 (cm) ?_)|(refine hK _ ?_;clear hK K)|refine Vt rfl ?_)
 |true=>
  have e:Ydw p=p.rts.all (V2 p):=by unfold Ydw;rw[hmy];rfl
  rw[hmy] at cm;obtain⟨B,hB⟩:∃B,B=p.rts.all (V2 p):=⟨_,rfl⟩
  rw[e,<- hB];have cS:=fun i (hi:i<p.rts.length)=>Yg9 p hs hmy p.rts[i] (a8 hi);simp only[plA,plC,rtA,rtC] at cS;refine Xc 1 Tryz.func56 rfl fun n out _ _=> ?_;simp only[sn,Tryz.ntmps56,simprocAttr];repeat' (first|refine Vk fun K hK=> ?_|apply V0|apply Vs|((first|apply gE|apply gR);simp only[zA,simprocAttr,plA,plC])|(refine X3 (cm) ?_)|(refine hK _ ?_;clear hK K)|refine Vf rfl ?_)
  apply V5;refine Xpw (p.rts.length) (fun i=>(∀j (hj:j<p.rts.length),j<i->V2 p p.rts[j]=true)) (fun m i=>tp [2] (tr 7 15 [(3,i64 (i:Int)),(1,.ptr (m+0) 0)])) (fun m i=>[some (.box 28 (plC p))]) (by intros;omega) ?_ fun m i hm hi=> ?_
  ·refine X2 ?_ ?_ (by first|rfl|(simp only[plC];rfl)|simp only[plC]) rfl rfl rfl<;>simp only[sL,plC]
  obtain⟨hi,hq⟩:=hi;simp only[pt];have hw:=Yl (n:=i) 1 1 rfl (by omega);by_cases hlt:i<p.rts.length
  ·have gi:=Xg rtC p.rts i [] hlt;have cSi:=cS i hlt;cases hb:V2 p p.rts[i] with
   |false=>
    rw[hb] at cSi;have hF:B=false:=by rw[hB];exact Kp hlt hb
    repeat' (first|refine Vk fun K hK=> ?_|apply V0|apply Vb|apply Vs|refine Vq (by kernel_rfl) ?_|((first|apply gE|apply gR);simp only[zA,simprocAttr,Xi hm,plC,rtC,hlt,gi])|(apply Vz;refine Vo rfl rfl rfl (fun _ _=>rfl) ?_<;>first|rfl|(rw[hF];rfl)|skip)|(refine X3 (cSi) ?_)|(refine hK _ ?_;clear hK K)|refine Vt rfl ?_)
   |true=>
    rw[hb] at cSi;repeat' (first|refine Vk fun K hK=> ?_|apply V0|apply Vb|apply Vs|refine Vq (by kernel_rfl) ?_|((first|apply gE|apply gR);simp only[zA,simprocAttr,Xi hm,plC,rtC,hlt,gi,hw])|(refine X3 (cSi) ?_)|(refine hK _ ?_;clear hK K)|refine Vt rfl ?_|refine Vf rfl ?_|clear hK K)
    refine⟨i+1,⟨by omega,fun j hj hji=> ?_⟩,by omega,?_⟩
    ·by_cases h:j=i
     ·subst h;exact hb
     ·exact hq j hj (by omega)
    refine Xx [true] ?_ ?_<;>intro n_<;>simp only[sM]
  ·have hT:B=true:=by rw[hB];exact Mm fun j hj=>hq j hj (by omega)
   repeat' (first|refine Vk fun K hK=> ?_|apply V0|(apply gE;simp only[zA,simprocAttr,Xi hm,plC,hlt])|(apply Vz;refine Vo rfl rfl rfl (fun _ _=>rfl) ?_<;>first|rfl|(rw[hT];rfl)|skip)|(apply Vx;simp only[sb])|(refine hK _ ?_;clear hK K)|refine Vf rfl ?_|clear hK K)
end Go.Proofs.YtdngdjbgmojcoaaGreat.Pln
namespace Go.Proofs.YtdngdjbgmojcoaaGreat.Pln
set_option linter.all false
set_option maxHeartbeats 1000000
open Go Go.VS
theorem Xuc {c:List (Int×Int)} {g:Gp} {w:Wy} {l l':Int×UInt8×Int×Int} (h1:l'.1=l.1) (h2:l'.2.1=l.2.1) (h3:l'.2.2.1=l.2.2.1):Xi0 c g (w,l')=Xi0 c g (w,l):=by
 obtain⟨a,b,d,e⟩:=l;obtain⟨a',b',d',e'⟩:=l';dsimp only at h1 h2 h3;subst h1 h2 h3;rfl
theorem Xtg {c:List (Int×Int)}:∀(ws:List Wy) (l l':List (Int×UInt8×Int×Int)) (g:Gp),l.length=l'.length->(∀(i:Nat) (x y:Int×UInt8×Int×Int),l[i]? =some x->l'[i]? =some y->y.1=x.1∧y.2.1=x.2.1∧y.2.2.1=x.2.2.1)->(ws.zip l').foldl (Xi0 c) g=(ws.zip l).foldl (Xi0 c) g
 |[],_,_,_,_,_=>by simp
 |w::ws,[],[],g,_,_=>rfl
 |w::ws,x::l,y::l',g,hl,h=>by
  obtain⟨h1,h2,h3⟩:=h 0 x y rfl rfl;rw[List.zip_cons_cons,List.zip_cons_cons,List.foldl_cons,List.foldl_cons,Xuc h1 h2 h3];exact Xtg ws l l' _ (by simpa using hl) fun i x y hx hy=>h (i+1) x y (by simpa using hx) (by simpa using hy)
 |w::ws,[],_:: _,_,hl,_=>by simp at hl
 |w::ws,_:: _,[],_,hl,_=>by simp at hl
theorem Xq2 (p:Pl) (i:Nat) (l:Int×UInt8×Int×Int):(Xr0 p i l).1=l.1∧(Xr0 p i l).2.1=l.2.1∧(Xr0 p i l).2.2.1=l.2.2.1:=by
 unfold Xr0;split<;>exact⟨rfl,rfl,rfl⟩
theorem Xsp (s:List (Int×Int×Int)):Xjs (s.map Xpo)=Xjs s:=by
 unfold Xjs;rw[List.foldl_map];rfl
theorem Xv5 (p:Pl) (s:St):Xpg p (Xjm p s)=Xpg p s:=by
 unfold Xpg;rw[show(Xjm p s).sw=s.sw.map Xpo from rfl,Xsp];refine Xtg _ _ _ _ (by simp [Xjm]) fun i x y hx hy=> ?_;have e:(Xjm p s).lk[i]? =some (Xr0 p i x):=by simp [Xjm,hx]
 rw[e] at hy;injection hy with hy
 subst hy;exact Xq2 p i x
theorem Xv6:∀{s:List (Int×Int×Int)} {l:List (Int×Int)},Fv Xuw s l=true->Fv Xuw (s.map Xpo) l=true
 |[],[],_=>rfl
 |w::s,x::l,h=>by
  rw[Fv,ad] at h;rw[bk,Fv,ad];refine⟨?_,Xv6 h.2⟩;have h1:=h.1;unfold Xuw at h1⊢;simp only[ad] at h1⊢;exact⟨h1.1,rfl,h1.2.2⟩
 |[],_:: _,h=>by simp [Fv] at h
 | _:: _,[],h=>by simp [Fv] at h
theorem Xz6:∀(l:List Sec),Fv Xvr (l.map atT) l=true
 |[]=>rfl
 |x::l=>by
  rw[bk,Fv,Xz6 l];unfold Xvr atT;simp
theorem Xwr {l:Int×UInt8×Int×Int} {r:Rt} (h:Xsm l r=true):Xsm (Xrg l r) r=true:=by
 obtain⟨a,ph,g,t⟩:=l;unfold Xrg;dsimp only;split
 ·rename_i ht;unfold Xsm Xr7 at h⊢;simp only[ad,bq] at h⊢;obtain⟨h1,h2⟩:=h;refine⟨h1,?_⟩;split at h2
  ·simp only[ad,bq] at h2;omega
  ·rename_i p0;rw[if_neg p0];split at h2
   ·simp only[ad,bq] at h2;omega
   ·rename_i p2;rw[if_neg p2];split at h2
    ·rename_i p3;rw[if_pos p3];simp only[ad,bq,ao] at h2⊢;omega
    ·rename_i p3;rw[if_neg p3];split at h2
     ·rename_i p4;rw[if_pos p4];simp only[ad,bq,ao] at h2⊢;omega
     ·cases h2
 ·exact h
theorem Xv7:∀{s:List (Int×UInt8×Int×Int)} {l:List Rt},Fv Xsm s l=true->Fv Xsm (List.zipWith Xrg s l) l=true
 |[],[],_=>rfl
 |w::s,x::l,h=>by
  rw[Fv,ad] at h;rw[List.zipWith_cons_cons,Fv,Xwr h.1,Xv7 h.2];rfl
 |[],_:: _,h=>by simp [Fv] at h
 | _:: _,[],h=>by simp [Fv] at h
theorem Xws {p:Pl} {s:St} (h:Xrz p s=0):Xrz p (Xjm p s)=0:=by
 obtain⟨s1,s2,s3,s4,s5⟩:=Xp8 h;have e:Xqm p (Xjm p s)=true:=by
  unfold Xqm Xog;rw[Xv5,s5,Xs4 p s (Xov s4),Xv7 s4,show(Xjm p s).sw=s.sw.map Xpo from rfl,Xv6 s3,show(Xjm p s).tr=s.tr.map Xuh from rfl,Xqj s2,Xz6];rfl
 unfold Xrz;rw[if_pos s1,e];rfl
theorem Xv8 (p:Pl) (s:St):swN (Xjm p s).sw=swN s.sw∧lkN (Xjm p s).lk=lkN s.lk:=by
 refine⟨by simp only[swN,Xjm,gr];rfl,?_⟩;unfold lkN;rw[List.flatMap_def,List.flatMap_def]
 congr 1
 apply gz;intro i;simp only[Xjm,b9,h9];cases s.lk[i]? with
 |none=>rfl
 |some x=>
  obtain⟨h1,h2,h3⟩:=Xq2 p i x;simp only[Option.map_some,h2,h3]
theorem Xxr {h o:Hs} (h1:o.plan=h.plan) (h2:o.back=h.back) (h3:o.high=h.high) (h4:swN o.st.sw=swN h.st.sw) (h5:lkN o.st.lk=lkN h.st.lk):Xp7 o=Xp7 h:=by
 unfold Xp7 Xpf Xrf;rw[h1,h2,h3,h4,h5]
theorem Xya {h:Hs} (hc:Xo9 h=true):Xo9 (Xrr h)=true∧Xp7 (Xrr h)=Xp7 h:=by
 obtain⟨c1,c2,c3,c4⟩:=Xor.1 hc;obtain⟨e1,e2⟩:=Xv8 h.plan h.st;exact⟨Xor.2 ⟨rfl,c2,c3,Xws c4⟩,Xxr rfl rfl rfl e1 e2⟩
theorem Xpk {h:Hs} (hc:Xo9 h=true):Xod (Xp7 h)=true∧Xof (Xp7 h)=Xrr h:=by
 have h1:=Xy9 hc [] [];obtain⟨h2,h3⟩:=Xya hc;simp only[List.nil_append,a9,List.length_nil] at h1;have h4:Xod (Xp7 h)=true:=by
  unfold Xod;rw[h1];simp [h2,h3]
 exact⟨h4,by unfold Xof;rw[if_pos h4,h1]⟩
theorem Xwt {b:List UInt8} (h:Xod b=true):Xo9 (Xof b)=true∧Xp7 (Xof b)=b:=by
 unfold Xof;rw[if_pos h];unfold Xod at h;simp only[ad,bq] at h;exact h.2
theorem Xv9 {α β:Type} {p:α->β->Bool}:∀{l:List α} {m:List β} {i:Nat},Fv p l m=true->∀(h:i<l.length) (h':i<m.length),p l[i] m[i]=true
 |x::l,y::m,0,h,_,_=>by rw[Fv,ad] at h;exact h.1
 |x::l,y::m,i+1,h,h1,h2=>by
  rw[Fv,ad] at h;exact Xv9 h.2 (by simpa using h1) (by simpa using h2)
 |[],_,_,_,h,_=>by simp at h
 | _:: _,[],_,_,_,h=>by simp at h
theorem Xsq {h:Hs} (hc:Xo9 h=true):(Xp7 h).length<=1500:=by
 obtain⟨c1,c2,c3,c4⟩:=Xor.1 hc;obtain⟨s1,s2,s3,s4,_⟩:=Xp8 c4;have hm:=(Xoa s1).1;have n1:=Us hm;have t1:=R7 hm;have t2:(Xpf h).length<=700:=by
  unfold Xpf;cases hn:Xp3 h.back with
  |true=>rw[if_pos rfl];simp
  |false=>
   rw[if_neg (by decide)];rcases c2 with c2|c2
   ·rw[hn] at c2;cases c2
   ·exact R7 (Xoa c2.1).1
 have w:∀t:List UInt8,t.length<=700->(Xoh t).length<=702:=fun t ht=>by
  unfold Xoh;have:(Y3m (t.length:Int)).length<=2:=by
   unfold Y3m;rw[if_pos (by omega),Int.toNat_natCast];unfold Ur;split
   ·simp
   ·unfold Ur;rw[if_pos (by omega)];simp
  rw[ac];omega
 have w1:=w _ t1;have w2:=w _ t2;have l1:=Xov s3;have l2:=Xov s4;have z1:=R5 h.high;have z2:((swN h.st.sw).flatMap Y3m).length<=(swN h.st.sw).length*5:=R6 fun x _=>R5 x;have z3:(h.st.lk.flatMap Xy8).length<=h.st.lk.length*2:=R6 fun l hl=>by
  obtain⟨i,hi,rfl⟩:=am hl;have hi':i<h.plan.rts.length:=by omega
  have hk:Xsm h.st.lk[i] h.plan.rts[i]=true:=Xv9 s4 hi hi';obtain⟨p1,p2⟩:=Xte hm (a8 hi');obtain⟨_,e2,e3,e4⟩:=Xqi hk (by omega) p1;have f1:=D6 (n:=(h.st.lk[i].2.1.toNat:Int)) (by omega);have f2:=D6 e3.2;rw[Xy8,ac];omega
 have n2:=n1.pl;have n3:=n1.rl;unfold Xp7 Xrf;rw[bw,b0,Xrh];simp only[ac];have:(swN h.st.sw).length=h.st.sw.length:=by simp [swN]
 omega
theorem Xva:∀{s t:List (Int×Int×Int)},Fv Y1j s t=true↔s.map Xpo=t.map Xpo
 |[],[]=>by simp [Fv]
 |w::s,x::t=>by
  rw[Fv,ad,Xva,bk,bk,List.cons.injEq];refine and_congr_left fun _=> ?_;unfold Y1j Xpo;simp
 |[],_:: _=>by simp [Fv]
 | _:: _,[]=>by simp [Fv]
def Xwu (l:Int×UInt8×Int×Int):Int×UInt8×Int:=(l.1,l.2.1,l.2.2.1)
theorem Xvb:∀{s t:List (Int×UInt8×Int×Int)},Fv Y1k s t=true↔s.map Xwu=t.map Xwu
 |[],[]=>by simp [Fv]
 |w::s,x::t=>by
  rw[Fv,ad,Xvb,bk,bk,List.cons.injEq];refine and_congr_left fun _=> ?_;unfold Y1k Xwu;simp
 |[],_:: _=>by simp [Fv]
 | _:: _,[]=>by simp [Fv]
theorem Xs5 (p:Pl) (s:St):(Xjm p s).lk.map Xwu=s.lk.map Xwu:=by
 apply gz;intro i;simp only[Xjm,b9,h9];cases s.lk[i]? with
 |none=>rfl
 |some x=>
  obtain⟨h1,h2,h3⟩:=Xq2 p i x;simp only[Option.map_some,Xwu,h1,h2,h3]
theorem Xvc (s:List (Int×UInt8×Int×Int)):lkN s=(s.map Xwu).flatMap fun l=>[(l.2.1.toNat:Int),l.2.2]:=by
 rw[List.flatMap_map];rfl
theorem Xth (s:List (Int×Int×Int)):swN s=(s.map Xpo).map fun w=>w.2.2:=by
 rw[gr];rfl
theorem apart {h o:Hs} (hc:Xo9 h=true) (ho:Xo9 o=true):(Xp7 h==Xp7 o)=(Sy h.plan o.plan&&(Sy h.back o.back&&(h.high==o.high&&Xzl h.st o.st))):=by
 rw[ar];unfold Xzl;simp only[bq,ad,Xqe,Xva,Xvb];constructor
 ·intro e;have h1:=(Xpk hc).2;have h2:=(Xpk ho).2;rw[e,h2] at h1;unfold Xrr at h1;injection h1 with _ g1 g2 g3 g4
  have g5:=congrArg St.sw g4;have g6:(Xjm o.plan o.st).lk.map Xwu=(Xjm h.plan h.st).lk.map Xwu:=by rw[g4]
  rw[Xs5,Xs5] at g6;exact⟨g1.symm,g2.symm,g3.symm,g5.symm,g6.symm⟩
 ·rintro⟨g1,g2,g3,g4,g5⟩;exact(Xxr g1.symm g2.symm g3.symm (by rw[Xth,Xth,g4]) (by rw[Xvc,Xvc,g5])).symm
end Go.Proofs.YtdngdjbgmojcoaaGreat.Pln
namespace Go.Proofs.YtdngdjbgmojcoaaGreat.Pln
set_option linter.all false
set_option maxHeartbeats 8000000
set_option maxRecDepth 4000
open Go Go.VS Tab
attribute [local irreducible] AWp Xp0 Pg X5c Qy Lt Tp FdT Eb
theorem Kc (x:Int×Int) (l:List (Int×Int)) (a:Int):Xyw (x::l) a=if x.1=a then x.2 else Xyw l a:=by
 unfold Xyw Xr2;rw[List.findIdx?_cons];by_cases h:x.1=a
 ·simp [h]
 ·have e:(x.1==a)=false:=by simpa using h
  rw[if_neg h,e];cases List.findIdx? (fun p=>p.1==a) l<;>simp
theorem Yfa (x:Int×Int) (l:List (Int×Int)) (a v:Int):Xxz (x::l) a v=if x.1=a then(a,v)::l else x::Xxz l a v:=by
 unfold Xxz Xr2;rw[List.findIdx?_cons];by_cases h:x.1=a
 ·simp [h]
 ·have e:(x.1==a)=false:=by simpa using h
  rw[if_neg h,e];cases List.findIdx? (fun p=>p.1==a) l<;>simp
theorem Ye0 (a v b:Int):∀l:List (Int×Int),Xyw (Xxz l a v) b=if a=b then v else Xyw l b
 |[]=>by rw[show Xxz [] a v=[(a,v)] from rfl,Kc]
 |x::l=>by
  rw[Yfa];by_cases h:x.1=a
  ·rw[if_pos h,Kc,Kc];by_cases e:a=b
   ·rw[if_pos e,if_pos e]
   ·rw[if_neg e,if_neg e,if_neg (by rw[h];exact e)]
  ·rw[if_neg h,Kc,Kc,Ye0 a v b l];by_cases e:a=b
   ·rw[if_pos e,if_pos e,if_neg (by rw[<- e];exact h)]
   ·rw[if_neg e,if_neg e]
theorem Ydx (a:Int):∀(s:List (Int×Int×Int)) (m:List (Int×Int)),(∀w,w∈s->w.1≠a)->Xyw (s.foldl (fun m w=>Xxz m w.1 w.2.2) m) a=Xyw m a
 |[],_,_=>rfl
 |w::s,m,h=>by
  rw[List.foldl_cons,Ydx a s _ fun x hx=>h x (.tail _ hx),Ye0,if_neg (h w (.head _))]
theorem Yfb {s:List (Int×Int×Int)} {i:Nat} (hi:i<s.length) (h:∀j (hj:j<s.length),i<j->s[j].1≠s[i].1):Xyw (Xjs s) s[i].1=s[i].2.2:=by
 obtain⟨w,hw⟩:∃w,w=s[i]:=⟨_,rfl⟩
 have e:s=s.take i++w::s.drop (i+1):=by rw[hw,<- cd hi,dr]
 have h2:∀x,x∈s.drop (i+1)->x.1≠w.1:=fun x hx=>by
  obtain⟨k,hk,rfl⟩:=am hx;rw[List.getElem_drop,hw];exact h _ _ (by omega)
 rw[<- hw];unfold Xjs;rw[e,dp,List.foldl_cons,Ydx _ _ _ h2,Ye0,if_pos rfl]
theorem Yg0 (id:Int):∀(l:List Int) (g:Gp),g.ok=false->(Xsn id g l).ok=false
 |[],_,h=>h
 |s::l,g,h=>by
  have e:(Xos id g s).ok=false:=by simp [Xos,h]
  rw[Xsn,e,if_neg (by decide),e]
theorem Ye1 (c:List (Int×Int)) (p:Int×Int×Int->Bool):∀(l:List (Int×Int×Int)) (g:Gp),g.ok=false->(Xs9 c p g l).ok=false
 |[],_,h=>h
 |a::l,g,h=>by
  have e:(Xot c g a).ok=false:=by simp [Xot,h]
  rw[Xs9,e];by_cases hp:p a=true
  ·rw[if_pos hp,if_neg (by decide),e]
  ·rw[if_neg hp];exact Ye1 c p l g h
theorem Ye9 (c:List (Int×Int)):∀(l:List (Wy×(Int×UInt8×Int×Int))) (g:Gp),g.ok=false->(l.foldl (Xi0 c) g).ok=false
 |[],_,h=>h
 |x::l,g,h=>Ye9 c l _ (Ye1 _ _ _ _ (Yg0 _ _ _ h))
theorem Kw (c:List (Int×Int)) (p:Int×Int×Int->Bool):∀(l:List (Int×Int×Int)) (g:Gp),Xs9 c p g l=Xs9 c (fun _=>true) g (l.filter p)
 |[],_=>rfl
 |a::l,g=>by
  by_cases h:p a=true
  ·rw[List.filter_cons_of_pos h,Xs9,Xs9,if_pos h,if_pos rfl,Kw c p l]
  ·rw[List.filter_cons_of_neg h,Xs9,if_neg h,Kw c p l]
theorem Yh3 {p:Pl} (hm:Uf p=true) {i:Nat} (hi:i<p.rts.length):1<=p.rts[i].id:=by
 have h:=Z3.1 (Y2 hm).2.2.2.2.1 i (by simpa using hi);simp only[Ye,ad,U1,da] at h;exact h.1.1
theorem Yeq {p:Pl} (hm:Uf p=true):∀i j (hj:j<p.pts.length) (hij:i<j),(p.pts[i]'(by omega)).1≠p.pts[j].1:=by
 have hp:=(Y2 hm).2.2.1;unfold Ul at hp;simp only[ad] at hp;intro i j hj hij;have h:=Z3.1 hp.1.1.1 j (by simpa using hj);simp only[Ye,ad,da] at h;have:=az.1 h.2 (p.pts[i]'(by omega)).1 (by
  rw[<- ip];exact List.mem_map_of_mem (Z8 hij (by omega)))
 have:=bf this;omega
theorem Yh4 {p:Pl} {r:Rt} {W:Wy} {O:List (Int×Int)} (g:Gone p r W O):∀a,a∈W.asks->∃(i:Nat) (hi:i<p.pts.length),p.pts[i].1=a.1:=by
 have key:∀{n:Int} {x:Int×Int},Bt p.pts n=some x->∃(i:Nat) (hi:i<p.pts.length),p.pts[i].1=n:=fun{n x} h=>by
  obtain⟨i,hi,e⟩:=am (bg h);exact⟨i,hi,by rw[e];simpa using dg h⟩
 intro a ha;rw[g.asks,dh] at ha;rcases ha with ha|ha
 ·obtain⟨i,hi,rfl⟩:=am ha;obtain⟨j,s,_,_,h1,_,h2,h3,h4⟩:=(Xw9 (Xol g.may).2.1 r _).1.each i hi;have hs:=Uv.1 (U0 (Xol g.may).2.1 h1).2;obtain⟨x,hx,_⟩:=Yhi g.may h1 (by omega);rw[<- h2];exact key hx
 ·obtain⟨f,hf,rfl⟩:=eu.1 ha;obtain⟨_,_,hpts,_,_,_,hrs⟩:=Xol g.may;have ho:=hrs r g.mem;unfold okR at ho;cases hg:Xpe p.sgs r.entry with
  |none=>rw[hg] at ho;cases ho
  |some en=>
   rw[hg] at ho;rw[ad] at ho;obtain⟨i,hi,rfl⟩:=am hf;have h1:=Z3.1 ho.2 i hi;unfold okF at h1;simp only[ad,ck,bq] at h1;obtain⟨⟨h2,_⟩,h3⟩:=h1;obtain⟨x,hx⟩:=cu.1 h2;exact key hx
def hC (l:List Int):List AV:=l.map fun z=>bool (z !=0)
def aC (l:List Int):List AV:=l.map i64
theorem Yhm {l:List Int} {z:Nat} (h:z<l.length) (s:Nat):pick false s ((hC l).drop z)=some (bool (l.getD z 0 !=0)):=Xvt (by
 rw[hC,b9,af,ah h];rfl)
theorem Yhn {l:List Int} {z:Nat} (h:z<l.length) (s:Nat):pick false s ((aC l).drop z)=some (i64 (l.getD z 0)):=Xvt (by
 rw[aC,b9,af,ah h];rfl)
theorem Yh5 {l:List Int} {z:Nat} (h:z<l.length) {x:Int} (hx:x≠0):Yf (hC l) z [bool true]=hC (l.set z x):=by
 rw[Xq3 _ _ _ (by simpa [hC] using h),hC,hC,i9,show(x !=0)=true by simpa using hx]
theorem Yh6 {l:List Int} {z:Nat} (h:z<l.length) (x:Int):Yf (aC l) z [i64 x]=aC (l.set z x):=by
 rw[Xq3 _ _ _ (by simpa [aC] using h),aC,aC,i9]
def Ygq (s:St) (l:List Int):Prop:=∀j (hj:j<s.sw.length),l.getD s.sw[j].1.toNat 0=0∨l.getD s.sw[j].1.toNat 0=s.sw[j].2.2
theorem Yg1 (p:Pl) (s:St) (hs:Sm p) (hS:SmS s):Xr Tryz.prog 57 [plA p,stA s] [] (bool (Xrz p s==0)) []:=by
 have cM:=Yeg p hs;have cP:=Yfz p s hs hS;have eS:=Ydp p;have e0:(Xrz p s==0)=(Ydw p&&Xqm p s):=by
  unfold Xrz;rw[eS];cases Ydw p<;>cases Xqm p s<;>rfl
 rw[e0];unfold Xqm;simp only[plA,stA] at cM cP;cases hX:Ydw p&&Xog p s with
 |false=>
  rw[<- ik,hX,dc];generalize Ydw p=A1 at*;generalize Xog p s=A2 at*;refine Xc 5 Tryz.func57 rfl fun n out _ _=> ?_;simp only[sn,Tryz.ntmps57,simprocAttr];have hg:=Nat.le_refl 0;repeat' (first|refine Vk fun K hK=> ?_|apply V0|apply Vs|((first|apply gE|apply gR|apply gS);simp only[zA,simprocAttr, -List.reduceReplicate,hg,plA,plC,stA,stC])|(apply Vz;refine Vo rfl rfl rfl (fun _ _=>rfl) ?_<;>first|rfl|skip)|(refine X3 (cM) ?_)|(refine X3 (cP) ?_)|((refine Vg (fun hg=> ?_) (fun hg=> ?_))<;>try simp only[nb] at hg)|(refine hK _ ?_;clear hK K)|refine Vt rfl ?_|refine Vi rfl (fun hg=> ?_) (fun hg=> ?_))
  all_goals simp_all
 |true=>
  rw[ad] at hX;obtain⟨hX,hP⟩:=hX;have hE:Xo3 p=0:=by rw[eS,if_pos hX]
  obtain⟨hmp,hall⟩:=Xoa hE;obtain⟨B,hB⟩:∃B,B=(Xpg p s).ok:=⟨_,rfl⟩
  rw[hX,hP,bo,bo,<- hB];rw[hX] at cM;rw[hP] at cP;have hPP:(Fv Xvr s.tr p.secs&&(Fv Xuw s.sw p.pts&&Fv Xsm s.lk p.rts))=true:=hP;simp only[ad] at hPP;obtain⟨q1,q2,q3⟩:=hPP;have hll:=hS.l;have l2:=Xov q2;have l3:=Xov q3;obtain⟨F,hF⟩:∃F:Nat->Gp,F=fun i=>(((p.rts.map (Xop p)).zip s.lk).take i).foldl (Xi0 (Xjs s.sw)) g00:=⟨_,rfl⟩
  have F0:F 0=g00:=by rw[hF];rfl
  have Fs:∀i (hi:i<p.rts.length) (hi':i<s.lk.length),F (i+1)=Xs9 (Xjs s.sw) (fun _=>true) (Xsn s.lk[i].1 (F i) (Xql (Xop p p.rts[i]) s.lk[i])) (Yeh (Xop p p.rts[i]) s.lk[i]):=fun i hi hi'=>by
   rw[hF]
   show(((p.rts.map (Xop p)).zip s.lk).take (i+1)).foldl _ _= _
   rw[aj (by simp;omega),dp,List.getElem_zip,da]
   show Xi0 _ _ _= _
   unfold Xi0;rw[Kw];rfl
  have Fl:∀i,(F i).hold.length=100∧(F i).ask.length=100:=fun i=>by
   rw[hF];obtain⟨h1,h2⟩:=Xpn (Xjs s.sw) (((p.rts.map (Xop p)).zip s.lk).take i) g00;exact⟨h1.trans (by simp [g00]),h2.trans (by simp [g00])⟩
  have Fn:(F s.lk.length).ok=B:=by
   rw[hF,hB]
   show(List.foldl (Xi0 (Xjs s.sw)) g00 (((p.rts.map (Xop p)).zip s.lk).take s.lk.length)).ok= _
   rw[db (by simp;omega)];rfl
  have bad:∀i,(F i).ok=false->B=false:=fun i h=>by
   rw[hB,Xpg,<- dr i ((p.rts.map (Xop p)).zip s.lk),dp];refine Ye9 _ _ _ ?_;rw[hF] at h;exact h
  have I0:Ygq s (F 0).ask:=fun j hj=>by
   rw[F0];refine .inl ?_
   show(List.replicate 100 (0:Int)).getD _ 0=0
   rw[af,gc];split<;>rfl
  have ids:∀i (hi:i<s.lk.length),s.lk[i].1≠0:=fun i hi=>by
   have g5:=Xv9 q3 hi (by omega);unfold Xsm at g5;simp only[ad,bq] at g5;have:=Yh3 hmp (i:=i) (by omega);omega
  have called:∀j (hj:j<s.sw.length) (hj':j<p.pts.length),s.sw[j].1=p.pts[j].1:=fun j hj hj'=>by
   have g5:=Xv9 q2 hj hj';unfold Xuw at g5;simp only[ad,bq] at g5;exact g5.1
  have mg:∀j (hj:j<s.sw.length),Xyw (Xjs s.sw) s.sw[j].1=s.sw[j].2.2:=fun j hj=>Yfb hj fun k hk hjk=>by
   rw[called k hk (by omega),called j hj (by omega)];exact(Yeq hmp j k (by omega) hjk).symm
  have ask:∀(g:Gp) (a:Int×Int×Int) (j:Nat) (hj:j<s.sw.length),g.ok=true->Ygq s g.ask->s.sw[j].1=a.1->(Xot (Xjs s.sw) g a).ok= !((g.ask.getD a.1.toNat 0 !=0&&g.ask.getD a.1.toNat 0 !=a.2.1)||s.sw[j].2.2 !=a.2.1):=fun g a j hj h1 h2 h3=>by
   have h4:=mg j hj;have h5:=h2 j hj;rw[h3] at h4 h5
   show(g.ok&&(Xyw (Xjs s.sw) a.1==a.2.1))= _
   rw[h1,h4];generalize g.ask.getD a.1.toNat 0=v at*;generalize s.sw[j].2.2=c at*;rw[ar];simp;omega
  have askN:∀(g:Gp) (a:Int×Int×Int),0<=a.1->g.ask.length=100->Ygq s g.ask->(Xot (Xjs s.sw) g a).ok=true->Ygq s (Xot (Xjs s.sw) g a).ask:=fun g a h0 hl h1 h2 j hj=>by
   show(g.ask.set a.1.toNat a.2.1).getD s.sw[j].1.toNat 0=0∨(g.ask.set a.1.toNat a.2.1).getD s.sw[j].1.toNat 0=s.sw[j].2.2
   have h3:=h1 j hj;by_cases e:a.1.toNat=s.sw[j].1.toNat
   ·have h4:=mg j hj;have hp:=(by
     have hp:=(Y2 hmp).2.2.1;unfold Ul at hp;simp only[ad] at hp;have h5:=Z3.1 hp.1.1.1 j (by simp;omega);simp only[Ye,ad,U1,da] at h5;exact h5.1.1:1<=(p.pts[j]'(by omega)).1)
    rw[<- called j hj (by omega)] at hp;have e1:a.1=s.sw[j].1:=by omega
    have h6:(g.ok&&(Xyw (Xjs s.sw) a.1==a.2.1))=true:=h2;rw[e1,h4,ad,bq] at h6;rw[<- e];by_cases hb:a.1.toNat<g.ask.length
    ·right;simp [af,hb,h6.2]
    ·left;simp [af,hb]
   ·simpa [af,List.getElem?_set,e] using h3
  obtain⟨QF,hQF⟩:∃QF:Nat->Prop,QF=fun i=>(F i).ok=true∧Ygq s (F i).ask:=⟨_,rfl⟩
  have QF0:QF 0:=by rw[hQF];exact⟨by rw[F0];rfl,I0⟩
  have z1:hC (F 0).hold=List.map Yq (List.replicate 100 (Value.bool false)):=by rw[F0];rfl
  have z2:aC (F 0).ask=List.replicate 100 (i64 0):=by rw[F0];rfl
  clear hF F0 I0 hB e0;refine Xc 5 Tryz.func57 rfl fun n out _ _=> ?_;simp only[sn,Tryz.ntmps57,simprocAttr];have hg:=Nat.le_refl 0;repeat' (first|refine Vk fun K hK=> ?_|apply V0|apply Vs|((first|apply gE|apply gR|apply gS);simp only[zA,simprocAttr, -List.reduceReplicate,plA,plC,stA,stC])|(refine X3 (cM) ?_)|(refine X3 (cP) ?_)|(refine hK _ ?_;clear hK K)|refine Vf rfl ?_)
  apply V5;refine Xpw (s.lk.length) (fun i=>QF i) (fun m i=>tp [4] (tr 22 83 (tr 8 5 [(7,i64 (i:Int)),(2,.ptr (m+0) 0),(3,.ptr (m+1) 0),(5,.ptr (m+2) 0),(6,.ptr (m+3) 0)]))) (fun m i=>[some (.box 28 (plC p)),some (.box 33 (stC s)),some (.box 175 (hC (F i).hold)),some (.box 132 (aC (F i).ask)),none]) (by assumption) ?_ fun m i hm hi=> ?_
  ·refine X2 ?_ ?_ (by first|rfl|(simp only[plC,stC,z1,z2];rfl)|simp only[plC,stC,z1,z2]) rfl rfl rfl<;>simp only[sL,plC,stC,z1,z2]
  obtain⟨hi,hq⟩:=hi;simp only[pt];have hw:=Yl (n:=i) 1 1 rfl (by omega);rw[hQF] at hq;by_cases hlt:i<s.lk.length
  ·have hir:i<p.rts.length:=by omega
   have gl:=Xg lkC s.lk i [] hlt;have hmem:=a8 hir;have gn:=Xtr hmp hmem (hall _ hmem).1;obtain⟨y1,y2,y3⟩:=hs.rt _ hmem;obtain⟨y4,y5⟩:=Xsc hs hmem;have cH:=Ygn p hs gn i hir rfl s.lk[i] (by rw[gn.path];omega) (by rw[gn.over];omega);have cA:=Ygp p hs gn i hir rfl s.lk[i] (by omega);have fs:=Fs i hir hlt;have hid:=ids i hlt;have hH:∀x,x∈Xql (Xop p p.rts[i]) s.lk[i]->0<=x∧x<100:=fun x hx=>Xx7 hmp hmem x (by
    unfold Xql at hx;split at hx
    ·cases hx
    ·rw[gn.path,gn.over] at hx;rcases dh.1 hx with hx|hx
     ·exact dh.2 (.inl (iq hx))
     ·exact dh.2 (.inr hx))
   have hA:∀x,x∈Yeh (Xop p p.rts[i]) s.lk[i]->0<x.1∧x.1<100∧∃(j:Nat) (hj:j<p.pts.length),p.pts[j].1=x.1:=fun x hx=>by
    have hx2:x∈(Xop p p.rts[i]).asks:=by
     have:=(iv.1 hx).1;unfold Xrn at this;split at this
     ·cases this
     ·exact this
    obtain⟨a1,a2,_⟩:=Xts gn x hx2;exact⟨a1,a2,Yh4 gn x hx2⟩
   have hHl:(Xql (Xop p p.rts[i]) s.lk[i]).length<=100000:=by
    unfold Xql;split
    ·simp
    ·rw[ac,bt,gn.path,gn.over];omega
   have hAl:(Yeh (Xop p p.rts[i]) s.lk[i]).length<=100000:=by
    have:=List.length_filter_le (Xug s.lk[i]) (Xrn (Xop p p.rts[i]) s.lk[i]);have:(Xrn (Xop p p.rts[i]) s.lk[i]).length<=(Xop p p.rts[i]).asks.length:=by unfold Xrn;split<;>simp
    unfold Yeh;omega
   generalize Xql (Xop p p.rts[i]) s.lk[i]=H at*;generalize Yeh (Xop p p.rts[i]) s.lk[i]=A at*;generalize s.lk[i].1=id at*;have hlt0:=hlt;obtain⟨f1,f2⟩:=Fl i;obtain⟨hok0,hI0⟩:=hq;obtain⟨G1,hG1⟩:∃G1,G1=Xsn id (F i) H:=⟨_,rfl⟩
   rw[<- hG1] at fs;obtain⟨G2,hG2⟩:∃G2,G2=F (i+1):=⟨_,rfl⟩
   rw[<- hG2] at fs;have bad2:G2.ok=false->B=false:=fun h=>bad (i+1) (by rw[<- hG2];exact h);have bad1:G1.ok=false->B=false:=fun h=>bad2 (by rw[fs];exact Ye1 _ _ _ _ h);have g1:G1.hold.length=100∧G1.ask=(F i).ask:=by
    obtain⟨e1,e2⟩:=Xqn id H (F i);rw[hG1];exact⟨by omega,e2⟩
   have qNext:G2.ok=true->Ygq s G2.ask->QF (i+1):=fun h1 h2=>by rw[hQF];dsimp only;rw[<- hG2];exact⟨h1,h2⟩
   obtain⟨L,hL⟩:∃L:Nat->Gp,L=fun k=>(H.take k).foldl (Xos id) (F i):=⟨_,rfl⟩
   have L0:L 0=F i:=by rw[hL];rfl
   have Ls:∀k (hk:k<H.length),L (k+1)=Xos id (L k) H[k]:=fun k hk=>by
    rw[hL]
    show(H.take (k+1)).foldl _ _= _
    rw[aj hk,dp];rfl
   have Ll:∀k,k<=H.length->(L k).hold.length=100:=fun k=>by
    induction k with
    |zero=>intro _;rw[L0];exact f1
    |succ k ih=>intro hk;rw[Ls k hk];show((L k).hold.set _ _).length=100;rw[List.length_set];exact ih (by omega)
   obtain⟨QH,hQH⟩:∃QH:Nat->Prop,QH=fun k=>(L k).ok=true∧Xsn id (L k) (H.drop k)=G1:=⟨_,rfl⟩
   have QH0:QH 0:=by rw[hQH];exact⟨by rw[L0];exact hok0,by rw[L0];exact hG1.symm⟩
   have zL:hC (F i).hold=hC (L 0).hold:=by rw[L0]
   clear hL hG1 L0;repeat' (first|refine Vk fun K hK=> ?_|apply V0|apply Vb|apply Vs|refine Vd 8 [] [[0],[],[1],[],[],[],[],[],[]] [[],[],[],[],[],[],[],[],[]] (by kernel_rfl) (by decide) (by decide) (by kernel_rfl) ?_|((first|apply gE|apply gD|apply gF|apply gS);simp only[zA,simprocAttr, -List.reduceReplicate,Xi hm,plC,stC,lkC,hlt,gl])|(refine X3 (cH) ?_)|(refine hK _ ?_;clear hK K)|refine Vt rfl ?_)
   apply V5;refine Xpw (H.length) (fun k=>QH k) (fun m k=>tp [4] (tr 37 17 [(9,i64 (k:Int)),(2,.ptr (m+0) 0),(3,.ptr (m+1) 0),(5,.ptr (m+2) 0),(6,.ptr (m+3) 0)])) (fun m k=>[some (.box 28 (plC p)),some (.box 33 (stC s)),some (.box 175 (hC (L k).hold)),some (.box 132 (aC (F i).ask)),none]) (by assumption) ?_ fun m k hm hk=> ?_
   ·refine X2 ?_ ?_ (by first|rfl|(simp only[plC,stC,zL];rfl)|simp only[plC,stC,zL]) rfl rfl rfl<;>simp only[sL,plC,stC,zL]
   obtain⟨hk,hq⟩:=hk;simp only[pt];have hw2:=Yl (n:=k) 1 1 rfl (by omega);rw[hQH] at hq;obtain⟨hok,hq⟩:=hq;by_cases hlt:k<H.length
   ·have gk:=Xg Ym H k [] hlt;obtain⟨x1,x2⟩:=hH _ (a8 hlt);rw[cd hlt,Xsn,<- Ls k hlt] at hq;have ls:=Ls k hlt;have ll:=Ll k (by omega);generalize H[k]=x at*;obtain⟨z,rfl⟩:=bj x1;have hz:z<100:=by omega
    have okv:(L (k+1)).ok=((L k).hold.getD z 0==0):=by
     rw[ls]
     show((L k).ok&&((L k).hold.getD (z:Int).toNat 0==0))= _
     rw[hok,bo,Int.toNat_natCast]
    have gh:=fun s=>Yhm (l:=(L k).hold) (z:=z) (by omega) s;have gs:=Yh5 (l:=(L k).hold) (z:=z) (by omega) hid;have hl:(L (k+1)).hold=(L k).hold.set z id:=by rw[ls];rfl
    rw[<- hl] at gs;have hcl:(hC (L k).hold).length=100:=by simp [hC,ll]
    generalize hC (L k).hold=C at*;generalize hC1:hC (L (k+1)).hold=C' at*;cases hv:(L k).hold.getD z 0==0 with
    |false=>
     rw[hv] at okv;rw[okv,if_neg (by decide)] at hq;have hv2:((L k).hold.getD z 0 !=0)=true:=by simpa using hv
     rw[hv2] at gh;have eB:=bad1 (by rw[<- hq];exact okv);repeat' (first|refine Vk fun K hK=> ?_|apply V0|apply Vb|apply Vs|((first|apply gE|apply gS);simp only[zA,simprocAttr, -List.reduceReplicate,Xi hm,Ym,hlt,gk,gh,x2])|(apply Vz;refine Vo rfl rfl rfl (fun _ _=>rfl) ?_<;>first|rfl|(rw[eB];rfl)|skip)|(refine hK _ ?_;clear hK K)|refine Vt rfl ?_)
     all_goals (try omega)
    |true=>
     rw[hv] at okv;rw[okv,if_pos rfl] at hq;have hv2:((L k).hold.getD z 0 !=0)=false:=by simpa using hv
     rw[hv2] at gh;repeat' (first|refine Vk fun K hK=> ?_|apply V0|apply Vb|apply Vs|with_reducible apply ab|((first|apply gE|apply gS);simp only[zA,simprocAttr, -List.reduceReplicate,Xi hm,Ym,hlt,gk,gh,gs,x2,hcl,hw2])|(refine hK _ ?_;clear hK K)|refine Vt rfl ?_|refine Vf rfl ?_|clear hK K)
     all_goals (try omega)
     refine⟨k+1,⟨by omega,by rw[hQH];exact⟨okv,hq⟩⟩,by omega,?_⟩;rw[hC1];refine Xx [true,true,true,true,false] ?_ ?_<;>intro n_<;>simp only[sM,plC,stC]
   obtain rfl:k=H.length:=by omega
   rw[f8,Xsn] at hq;rw[hq] at hok⊢;obtain⟨e1,e2⟩:=g1;clear hQH QH0 hw2 hlt zL Ls Ll hi;obtain⟨M,hM⟩:∃M:Nat->Gp,M=fun k=>(A.take k).foldl (Xot (Xjs s.sw)) G1:=⟨_,rfl⟩
   have M0:M 0=G1:=by rw[hM];rfl
   have Ms:∀k (hk:k<A.length),M (k+1)=Xot (Xjs s.sw) (M k) A[k]:=fun k hk=>by
    rw[hM]
    show(A.take (k+1)).foldl _ _= _
    rw[aj hk,dp];rfl
   have Mh:∀k,k<=A.length->(M k).hold=G1.hold∧(M k).ask.length=100:=fun k=>by
    induction k with
    |zero=>intro _;rw[M0];exact⟨rfl,by rw[e2];exact f2⟩
    |succ k ih=>intro hk;rw[Ms k hk];have:=ih (by omega);exact⟨this.1,by show((M k).ask.set _ _).length=100;rw[List.length_set];exact this.2⟩
   obtain⟨QA,hQA⟩:∃QA:Nat->Prop,QA=fun k=>((M k).ok=true∧Ygq s (M k).ask)∧Xs9 (Xjs s.sw) (fun _=>true) (M k) (A.drop k)=G2:=⟨_,rfl⟩
   have QA0:QA 0:=by rw[hQA];refine⟨⟨by rw[M0];exact hok,by rw[M0,e2];exact hI0⟩,?_⟩;show Xs9 _ _ (M 0) A=G2;rw[M0];exact fs.symm
   have zM:aC (F i).ask=aC (M 0).ask:=by rw[M0,e2]
   have zG:G1.hold=G2.hold:=by rw[fs];exact(Xro _ _ _ _).2.symm
   rw[zG];clear hM fs M0;repeat' (first|refine Vk fun K hK=> ?_|apply V0|refine Vd 15 [] [[0],[],[1],[],[],[],[],[],[]] [[],[],[],[],[],[],[],[],[]] (by kernel_rfl) (by decide) (by decide) (by kernel_rfl) ?_|((first|apply gE|apply gD|apply gF|apply gS);simp only[zA,simprocAttr, -List.reduceReplicate,Xi hm,plC,stC,lkC,hlt0,gl,Nat.lt_irrefl])|(refine X3 (cA) ?_)|(apply Vx;simp only[sb,Nat.reduceEqDiff])|(refine hK _ ?_;clear hK K)|refine Vf rfl ?_|clear hK K)
   apply V5;refine Xpw (A.length) (fun k=>QA k) (fun m k=>tp [4,12] (tr 62 43 [(11,i64 (k:Int)),(2,.ptr (m+0) 0),(3,.ptr (m+1) 0),(5,.ptr (m+2) 0),(6,.ptr (m+3) 0)])) (fun m k=>[some (.box 28 (plC p)),some (.box 33 (stC s)),some (.box 175 (hC G2.hold)),some (.box 132 (aC (M k).ask)),none]) (by assumption) ?_ fun m k hm hk=> ?_
   ·refine X2 ?_ ?_ (by first|rfl|(simp only[plC,stC,zM];rfl)|simp only[plC,stC,zM]) rfl rfl rfl<;>simp only[sL,plC,stC,zM]
   obtain⟨hk,hq⟩:=hk;simp only[pt];have hw2:=Yl (n:=k) 1 1 rfl (by omega);rw[hQA] at hq;obtain⟨⟨hok,hI⟩,hq⟩:=hq;by_cases hlt:k<A.length
   ·have gk:=Xg sgC A k [] hlt;obtain⟨x1,x2,j,hj,hjx⟩:=hA _ (a8 hlt);rw[cd hlt,Xs9,if_pos rfl,<- Ms k hlt] at hq;have ms:=Ms k hlt;obtain⟨mh,ml⟩:=Mh k (by omega);have hjs:j<s.sw.length:=by omega
    have cJ:=Yeu p hs j hj fun i' hi' hij=>Yeq hmp i' j hj hij;rw[hjx] at cJ;have gj:=Xg sgC s.sw j [] hjs;have okv:=ask (M k) A[k] j hjs hok hI (by rw[called j hjs hj];exact hjx);have nI:=askN (M k) A[k] (by omega) ml hI;rw[<- ms] at okv nI;have hal:(M (k+1)).ask=(M k).ask.set A[k].1.toNat A[k].2.1:=by rw[ms];rfl
    generalize A[k]=a at*;obtain⟨ap,al,aa⟩:=a;dsimp only at*;obtain⟨z,rfl⟩:=bj (by omega:0<=ap);rw[Int.toNat_natCast] at okv hal;have hz:z<100:=by omega
    have gh:=fun s=>Yhn (l:=(M k).ask) (z:=z) (by omega) s;have gs:=Yh6 (l:=(M k).ask) (z:=z) (by omega) al;rw[<- hal] at gs;have hcl:(aC (M k).ask).length=100:=by simp [aC,ml]
    have next:(M (k+1)).ok=true->QA (k+1):=fun h=>by
     rw[hQA];rw[if_pos h] at hq;exact⟨⟨h,nI h⟩,hq⟩
    have badA:(M (k+1)).ok=false->B=false:=fun h=>by
     rw[if_neg (by rw[h];decide)] at hq;exact bad2 (by rw[<- hq];exact h)
    clear hq nI ask askN bad bad1 bad2;generalize aC (M k).ask=C at*;generalize hC2:aC (M (k+1)).ask=C' at*;generalize (M (k+1)).ok=OK at*;generalize (M k).ask.getD z 0=V at*;simp only[plA] at cJ;repeat' (first|refine Vk fun K hK=> ?_|apply V0|apply Vb|apply Vs|with_reducible apply ab|refine Vd 20 [] [[],[4],[],[3],[],[],[],[4],[],[3],[],[4],[],[],[],[],[1],[0],[],[4],[],[],[],[],[],[4],[],[]] [[],[],[],[],[],[],[],[],[],[],[],[],[],[],[],[],[],[],[],[],[],[],[],[],[],[],[],[]] (by kernel_rfl) (by decide) (by decide) (by kernel_rfl) ?_|((first|apply gE|apply gD|apply gF|apply gS|refine gS2 ?_);simp only[zA,simprocAttr, -List.reduceReplicate,hg,sg,Xi hm,plC,stC,sgC,X0,hlt,gk,gj,hjs,gh,gs,x2,hcl,hw2])|(apply Vz;refine Vo rfl rfl rfl (fun _ _=>rfl) ?_<;>first|rfl|(rw[badA (by rw[okv];simp only[*,Bool.or_true,dx,dm,dc,di,dy])];rfl)|skip)|(refine X3 (cJ) ?_)|((first|refine Vg (fun hg=> ?_) (fun hg=> ?_)|refine Y5 (fun hg=> ?_) (fun hg=> ?_))<;>try simp only[nb] at hg)|(refine hK _ ?_;clear hK K)|refine Vt rfl ?_|refine Vi rfl (fun hg=> ?_) (fun hg=> ?_)|clear hK K)
    all_goals (try omega)
    all_goals (refine⟨k+1,⟨by omega,next (by rw[okv];simp only[*,Bool.or_true,dx,gt,dm,dc,di,bo,dy,es])⟩,by omega,?_⟩)
    all_goals rw[hC2]
    all_goals (refine Xx [true,true,true,true,false] ?_ ?_<;>intro n_<;>simp only[X4,sm,plC,stC,hlt,e8])
   obtain rfl:k=A.length:=by omega
   rw[f8,Xs9] at hq;rw[hq] at hok hI⊢;repeat' (first|refine Vk fun K hK=> ?_|apply V0|((first|apply gE|apply gS);simp only[zA,simprocAttr, -List.reduceReplicate,Nat.lt_irrefl,hw])|(apply Vx;simp only[sb,Nat.reduceEqDiff])|(refine hK _ ?_;clear hK K)|refine Vf rfl ?_|clear hK K)
   refine⟨i+1,⟨by omega,qNext hok hI⟩,by omega,?_⟩;rw[hG2];refine Xx [true,true,true,true,false] ?_ ?_<;>intro n_<;>simp only[sM,plC,stC]
  ·obtain rfl:i=s.lk.length:=by omega
   rw[hq.1] at Fn;repeat' (first|refine Vk fun K hK=> ?_|apply V0|((first|apply gE|apply gS);simp only[zA,simprocAttr, -List.reduceReplicate,Xi hm,stC,hlt])|(apply Vz;refine Vo rfl rfl rfl (fun _ _=>rfl) ?_<;>first|rfl|(rw[<- Fn];rfl)|skip)|(apply Vx;simp only[sb])|(refine hK _ ?_;clear hK K)|refine Vf rfl ?_|clear hK K)
end Go.Proofs.YtdngdjbgmojcoaaGreat.Pln
