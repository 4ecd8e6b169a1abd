/- The layer of abstract values, joined. -/
import Derived.Test.YtdngdjbgmojcoaaGreatZP19
import Derived.Test.YtdngdjbgmojcoaaGreatZPP
import Derived.Test.YtdngdjbgmojcoaaGreatZPR
import Derived.Test.YtdngdjbgmojcoaaGreatZP5
import Derived.Test.YtdngdjbgmojcoaaGreatZPO
import Derived.Test.YtdngdjbgmojcoaaGreatZW4
namespace Go.Proofs.YtdngdjbgmojcoaaGreat.Pln
set_option linter.all false
set_option maxHeartbeats 8000000
set_option maxRecDepth 4000
open Go Go.VS Tab
theorem Xol {p:Pl} (h:Uf p=true):Kq p=true∧Uq p.secs=true∧Ul p=true∧Qu p=true∧Ue Ye (p.rts.map Rt.id)=true∧p.rts.length<=16∧∀r,r∈p.rts->okR p r=true:=by
 unfold Uf at h;simp only[ad,ao,az] at h;obtain⟨⟨⟨⟨⟨⟨h1,h2⟩,h3⟩,h4⟩,h5⟩,h6⟩,h7⟩:=h;exact⟨h1,h2,h3,h4,h5,h6,h7⟩
theorem Xw7 {l:List (Int×Int×Int)} (hr:∀i (hi:i<l.length) j (hj:j<i),(l[j]'(by omega)).1<l[i].1) (n:Int):Xl0 l n=(Xpe l n).getD (0,0,0):=by
 have:∀i,i<=l.length->Xl0 (l.take i) n=(Xpe (l.take i) n).getD (0,0,0):=by
  intro i;induction i with
  |zero=>intro _;rfl
  |succ i ih=>
   intro hi;rw[Xra (by omega),ih (by omega)];unfold Xpe;rw[aj (by omega),fx];by_cases h:l[i].1=n
   ·have hno:(l.take i).find? (fun x=>x.1==n)=none:=by
     rw[cx];intro x hx;rw[bm] at hx;obtain⟨j,hj,rfl⟩:=hx;have:=hr i (by omega) j (by omega);simp;omega
    rw[hno];simp [h]
   ·rw[if_neg (by simpa using h)];have:[l[i]].find? (fun x=>x.1==n)=none:=by simp [h]
    rw[this];cases (l.take i).find? (fun x=>x.1==n)<;>rfl
 have:=this l.length (Nat.le_refl _);rwa [bi] at this
theorem Xxo {p:Pl} (h:Qu p=true):∀i (hi:i<p.sgs.length) j (hj:j<i),(p.sgs[j]'(by omega)).1<p.sgs[i].1:=by
 intro i hi j hj;unfold Qu at h;rw[ad,ad] at h;have h1:=Z3.1 h.1.1 i (by simpa using hi);simp only[Ye,ad,az,ao,da] at h1;have:p.sgs[j].1∈(p.sgs.map Prod.fst).take i:=by
  rw[bm];exact⟨j,by simp;omega,by simp⟩
 exact h1.2 _ this
theorem Xu2 {p:Pl} (h:Uf p=true) {r:Rt} (hr:r∈p.rts):1<=r.path.length∧∃en,Xpe p.sgs r.entry=some en∧Xl0 p.sgs r.entry=en∧en∈p.sgs∧∀s,s∈p.secs->(s.id==en.2.1)=true->0<=en.2.2∧en.2.2<s.ends.length:=by
 obtain⟨_,hmay,_,hsg,_,_,hrs⟩:=Xol h;have ho:=hrs r hr;unfold okR at ho;cases hg:Xpe p.sgs r.entry with
 |none=>rw[hg] at ho;cases ho
 |some en=>
  rw[hg] at ho;simp only[ad,ao] at ho;obtain⟨⟨⟨⟨⟨⟨⟨⟨_,hp⟩,_⟩,_⟩,_⟩,_⟩,_⟩,_⟩,_⟩:=ho;have hm:=bg hg;refine⟨hp,en,rfl,by rw[Xw7 (Xxo hsg),hg];rfl,hm,fun s hs he=> ?_⟩;obtain⟨i,hi,rfl⟩:=am hm;unfold Qu at hsg;rw[ad] at hsg;have h1:=Z3.1 hsg.2 i hi;unfold okG at h1;rw[ad] at h1;cases hgs:Qt p.secs p.sgs[i].2.1 with
  |none=>rw[hgs] at h1;simp at h1
  |some s'=>
   rw[hgs] at h1;simp only[ad,ao] at h1;obtain⟨g1,g2⟩:=W5 hgs;have:s=s':=X5z hmay hs g1 (by rw[g2];simpa using he);rw[this];exact h1.1
end Go.Proofs.YtdngdjbgmojcoaaGreat.Pln
namespace Go.Proofs.YtdngdjbgmojcoaaGreat.Pln
set_option linter.all false
set_option maxHeartbeats 8000000
set_option maxRecDepth 8000
open Go Go.VS Tab
attribute [local irreducible] AWp Xp0 Pg X5c Qy Lt Tp FdT Eb
theorem Js (a b:Int×Int×Int):Nk [i64 a.1,i64 a.2.1,i64 a.2.2] [i64 b.1,i64 b.2.1,i64 b.2.2]=some (a==b):=by
 have:(a==b)=(a.1==b.1&&(a.2.1==b.2.1&&a.2.2==b.2.2)):=rfl;rw[this];simp [Nk]
end Go.Proofs.YtdngdjbgmojcoaaGreat.Pln
namespace Go.Proofs.YtdngdjbgmojcoaaGreat.Pln
set_option linter.all false
set_option maxHeartbeats 4000000
set_option maxRecDepth 4000
open Go Go.VS Tab
theorem Yf8:∀{B A:List Int},B.Nodup->(∀x,x∈B->x∈A)->B.length<=A.length
 |[],_,_,_=>br _
 |b::B,A,hB,h=>by
  rw[List.nodup_cons] at hB;have hb:=h b (cy ..);have:=Yf8 (B:=B) (A:=A.erase b) hB.2 fun x hx=>(List.mem_erase_of_ne (fun e=>hB.1 (by rw[<- e];exact hx))).2 (h x (bz _ hx));rw[List.length_erase_of_mem hb] at this;have:=List.length_pos_of_mem hb;simp only[List.length_cons];omega
theorem Yfx {B A:List Int} (hB:B.Nodup) (h:∀x,x∈B->x∈A) (hl:A.length<=B.length) {a:Int} (ha:a∈A):a∈B:=by
 by_cases hm:a∈B
 ·exact hm
 ·have:=Yf8 (B:=a::B) (A:=A) (List.nodup_cons.2 ⟨hm,hB⟩) fun x hx=>by
   rcases cn.1 hx with rfl|hx
   ·exact ha
   ·exact h x hx
  simp only[List.length_cons] at this;omega
theorem Yhi {p:Pl} (h:Uf p=true) {s:Sec} (hs:s∈p.secs) (h0:s.pt≠0):∃x,Bt p.pts s.pt=some x∧x.2=s.id:=by
 obtain⟨_,hmay,hpts,_⟩:=Xol h;unfold Ul at hpts;simp only[ad,ao] at hpts;obtain⟨⟨⟨h1,_⟩,h3⟩,h4⟩:=hpts;have hr:=fun i (hi:i<p.pts.length)=>Z3.1 h1 i (by simpa using hi);simp only[Ye,ad,U1,az,ao,da] at hr;have hok:∀x,x∈p.pts->∃t,t∈p.secs∧t.id=x.2∧t.pt=x.1:=fun x hx=>by
  have:=az.1 h4 x hx;unfold okP at this;cases hg:Qt p.secs x.2 with
  |none=>rw[hg] at this;cases this
  |some t=>
   rw[hg] at this;obtain⟨a,b⟩:=W5 hg;exact⟨t,a,b,by simpa using this⟩
 have hB:(p.pts.map Prod.fst).Nodup:=by
  rw[List.Nodup,List.pairwise_iff_getElem];intro i j hi hj hij;simp only[da];have hj':j<p.pts.length:=by simpa using hj
  have hi':i<p.pts.length:=by simpa using hi
  have:=(hr j hj').2 (p.pts[i].1) (by
   rw[bm];exact⟨i,by simp;omega,by simp⟩)
  omega
 have hA:s.pt∈(p.secs.filter fun s=>s.pt !=0).map Sec.pt:=eu.2 ⟨s,iv.2 ⟨hs,by simpa using h0⟩,rfl⟩;have hin:=Yfx hB (A:=(p.secs.filter fun s=>s.pt !=0).map Sec.pt) (fun x hx=>by
  obtain⟨q,hq,rfl⟩:=eu.1 hx;obtain⟨t,a,b,c⟩:=hok q hq;obtain⟨i,hi,rfl⟩:=am hq;have:=(hr i hi).1;exact eu.2 ⟨t,iv.2 ⟨a,by simp;omega⟩,c⟩) (by
  rw[ai,ai,<- List.countP_eq_length_filter,h3];exact Nat.le_refl _) hA
 obtain⟨q,hq,hqe⟩:=eu.1 hin;cases hg:Bt p.pts s.pt with
 |none=>
  unfold Bt at hg;rw[cx] at hg;exact absurd hqe (by simpa using hg q hq)
 |some x=>
  have hx:=bg hg;have hx1:x.1=s.pt:=by simpa using dg hg
  obtain⟨t,a,b,c⟩:=hok x hx;have:t=s:=X60 hmay a hs (by omega) (by omega);exact⟨x,rfl,by rw[<- b,this]⟩
theorem Y1f {l:List Sec} (h:Uq l=true) {s:Sec} (hs:s∈l) (e:Nat):(s.ends.getD e (0,0)).2<=2:=by
 by_cases he:e<s.ends.length
 ·have hj:=(Kk.1 h).2.2 s hs e he;obtain⟨a,b,hab⟩:∃a b,s.ends[e]=(a,b):=⟨_,_,rfl⟩
  rw[Su he hab] at hj;have gd:s.ends.getD e (0,0)=(a,b):=by rw[<- hab];simp [af,he]
  rw[gd];rw[ck,ao] at hj;rcases hj with hj|hj
  ·show b<=2;omega
  ·cases hg:Qt l a with
   |none=>rw[hg] at hj;cases hj
   |some t=>
    rw[hg] at hj;simp only[ad,ao] at hj;have:=Uv.1 (U0 h (W5 hg).1).2
    show b<=2;omega
 ·simp [af,he]
theorem Xz1 (s:Sec) (a b:Int):Xoq s a b<=2:=by
 unfold Xoq;split
 ·unfold Xuv;repeat' split
  all_goals omega
 ·decide
structure AskOk (p:Pl) (L:List Int) (i:Nat) (l:List (Int×Int×Int)):Prop where
 each:∀k (hk:k<l.length),∃(j:Nat) (s:Sec),j<i∧l[k].2.2=(j:Int)∧s∈p.secs∧s.id=L.getD j 0∧s.pt=l[k].1∧s.pt≠0∧1<=l[k].2.1∧l[k].2.1<=2
 rise:∀k (hk:k+1<l.length),l[k].2.2<l[k+1].2.2
theorem AskOk.next {p:Pl} {L:List Int} {i:Nat} {l:List (Int×Int×Int)} (h:AskOk p L i l):AskOk p L (i+1) l:=
 ⟨fun k hk=>by obtain⟨j,s,h1,h2⟩:=h.each k hk;exact⟨j,s,by omega,h2⟩,h.rise⟩
theorem AskOk.snoc {p:Pl} {L:List Int} {i:Nat} {l:List (Int×Int×Int)} (h:AskOk p L i l) {s:Sec} (hs:s∈p.secs) (hid:s.id=L.getD i 0) {lie:Int} (h0:0<s.pt) (h1:0<lie) (h2:lie<=2):AskOk p L (i+1) (l++[(s.pt,lie,(i:Int))]):=by
 refine⟨fun k hk=> ?_,fun k hk=> ?_⟩
 ·by_cases hlt:k<l.length
  ·rw[dk hlt];exact h.next.each k hlt
  ·have:k=l.length:=by simp at hk;omega
   subst this;rw[dw (Nat.le_refl _)];simp only[Nat.sub_self,List.getElem_cons_zero];exact⟨i,s,by omega,rfl,hs,hid,rfl,by omega,by omega,h2⟩
 ·by_cases hlt:k+1<l.length
  ·rw[dk hlt,dk (by omega)];exact h.rise k hlt
  ·have:k+1=l.length:=by simp at hk;omega
   rw[dk (by omega),dw (by omega)];simp only[this,Nat.sub_self,List.getElem_cons_zero];obtain⟨j,_,a,b,_⟩:=h.each k (by omega);omega
theorem Xw8 {p:Pl} {L:List Int} {i:Nat} {w:Wk} (h:AskOk p L i w.asks) {s:Sec} (hs:s∈p.secs) (hid:s.id=L.getD i 0) {lie:Int} (h2:lie<=2):AskOk p L (i+1) (Xps w s.pt lie i).asks:=by
 unfold Xps;split
 ·rename_i hb;simp only[ad,ao] at hb;exact h.snoc hs hid (by omega) (by omega) h2
 ·exact h.next
theorem Xrc (p:Pl) (w:Wk) (id:Int):((Xp4 p w id).2.lost=true∧(Xp4 p w id).2.asks=w.asks∧(Xp4 p w id).2.inn=w.inn)∨(Qt p.secs id=some (Xp4 p w id).1∧(Xp4 p w id).2=w):=by
 unfold Xp4;split
 ·rename_i s hg;split
  ·exact .inl ⟨rfl,rfl,rfl⟩
  ·exact .inr ⟨hg,rfl⟩
 ·exact .inl ⟨rfl,rfl,rfl⟩
theorem Xt9 {p:Pl} (hmay:Uq p.secs=true) {L:List Int} {i:Nat} {w:Wk} (h:AskOk p L i w.asks) (hi:w.inn.2<=2) (f:Int->Int×Int->Bool):AskOk p L (i+1) (Xso p w (L.getD i 0) i f).asks∧(Xso p w (L.getD i 0) i f).inn.2<=2:=by
 unfold Xso;rcases Xrc p w (L.getD i 0) with ⟨a,b,c⟩|⟨a,b⟩
 ·generalize Xp4 p w (L.getD i 0)=q at*;unfold Xxn Xqx;rw[Xq5 fun e _=>by unfold Xr3;rw[a];rfl];dsimp only;rw[b,c];exact⟨h.next,hi⟩
 ·rw[b];obtain⟨g1,g2⟩:=W5 a;generalize (Xp4 p w (L.getD i 0)).1=s at*;unfold Xxn;split
  ·rename_i e he;unfold Xt7;dsimp only;exact⟨Xw8 h g1 g2 (Xz1 _ _ _),Y1f hmay g1 e⟩
  ·exact⟨h.next,hi⟩
theorem Xxp {p:Pl} {L:List Int} {i:Nat} {w:Wk} (h:AskOk p L i w.asks) (hi:w.inn.2<=2):AskOk p L (i+1) (Xpt p w (L.getD i 0) i).asks∧(Xpt p w (L.getD i 0) i).inn.2<=2:=by
 unfold Xpt;rcases Xrc p w (L.getD i 0) with ⟨a,b,c⟩|⟨a,b⟩
 ·rw[a,dy,dc,if_neg (by decide),b,c];exact⟨h.next,hi⟩
 ·rw[b];obtain⟨g1,g2⟩:=W5 a;generalize (Xp4 p w (L.getD i 0)).1=s at*;split
  ·obtain⟨l,e⟩:=Xoy w s.pt w.inn.2 i;exact⟨Xw8 h g1 g2 hi,by rw[e];exact hi⟩
  ·exact⟨h.next,hi⟩
theorem Xz2 {l:List Sec} (h:Uq l=true) (g:Int×Int×Int):(Xwg l g).2<=2:=by
 have:∀i,i<=l.length->(Xwg (l.take i) g).2<=2:=by
  intro i;induction i with
  |zero=>intro _;rw[List.take_zero];show(0:Int)<=2;decide
  |succ i ih=>
   intro hi;rw[Xsj (by omega)];split
   ·exact Y1f h (a8 _) _
   ·exact ih (by omega)
 have:=this l.length (Nat.le_refl _);rwa [bi] at this
theorem Xw9 {p:Pl} (hmay:Uq p.secs=true) (r:Rt):∀i,AskOk p (r.path++r.over) i (Xom p r i).asks∧(Xom p r i).inn.2<=2
 |0=>⟨⟨fun k hk=>absurd hk (Nat.not_lt_zero _),fun k hk=>absurd hk (Nat.not_lt_zero _)⟩,Xz2 hmay _⟩
 |i+1=>by
  obtain⟨h1,h2⟩:=Xw9 hmay r i
  show AskOk p _ _ (Xp6 p r (Xom p r i) i).asks∧(Xp6 p r (Xom p r i) i).inn.2<=2
  unfold Xp6;split
  ·split
   ·exact Xt9 hmay h1 h2 _
   ·exact Xt9 hmay h1 h2 _
  ·split
   ·exact Xxp h1 h2
   ·exact Xt9 hmay h1 h2 _
theorem Xu3:∀(l:List (Int×Int)) (w:Wk),(∀f,f∈l->0<f.1∧0<f.2)->(Xsk w l).asks=w.asks++l.map fun f=>(f.1,f.2, -1)
 |[],w,_=>by simp [Xsk]
 |f::l,w,h=>by
  obtain⟨a,b⟩:=h f (cy ..);have e:Xps w f.1 f.2 (-1)={w with asks:=w.asks++[(f.1,f.2, -1)]}:=by
   unfold Xps;rw[if_pos (by simp;omega)]
  have:=Xu3 l (Xps w f.1 f.2 (-1)) fun g hg=>h g (bz _ hg)
  show(Xsk (Xps w f.1 f.2 (-1)) l).asks= _
  rw[this,e];simp
theorem Xwa {p:Pl} (h:Uf p=true) {r:Rt} (hr:r∈p.rts):∀f,f∈r.flanks->0<f.1∧0<f.2:=by
 obtain⟨_,_,hpts,_,_,_,hrs⟩:=Xol h;have ho:=hrs r hr;unfold okR at ho;cases hg:Xpe p.sgs r.entry with
 |none=>rw[hg] at ho;cases ho
 |some en=>
  rw[hg] at ho;rw[ad] at ho;intro f hf;obtain⟨i,hi,rfl⟩:=am hf;have h1:=Z3.1 ho.2 i hi;unfold okF at h1;simp only[ad,ck,bq] at h1;obtain⟨⟨h2,_⟩,h3⟩:=h1;obtain⟨x,hx⟩:=cu.1 h2;have hxm:=bg hx;have hx1:x.1=r.flanks[i].1:=by simpa using dg hx
  unfold Ul at hpts;simp only[ad] at hpts;obtain⟨j,hj,rfl⟩:=am hxm;have h5:=Z3.1 hpts.1.1.1 j (by simpa using hj);simp only[Ye,ad,U1,da] at h5;omega
def Yh1 (s:Sec) (a c:Int):Int:=idx (fun e:Nat=>Xuv s a e==c) (List.range s.ends.length)
def Yhj (s:Sec) (a c:Int):Int:=if Qc s∧0<=c∧0<=Yh1 s a c then Yh1 s a c else 0
def Yhk (s:Sec) (a c:Int):Int:=if Qc s then(if c<0∨Yh1 s a c<0 then 2 else 0) else 8
end Go.Proofs.YtdngdjbgmojcoaaGreat.Pln
namespace Go.Proofs.YtdngdjbgmojcoaaGreat.Pln
set_option linter.all false
set_option maxHeartbeats 2000000
set_option maxRecDepth 4000
open Go Go.VS Tab
attribute [local irreducible] AWp Xp0 Pg X5c Qy Lt Tp FdT Eb
def Km (l:List Sec):Bool:=(l.take 40).any (fun s=>decide (20<s.ends.length))||decide (40<l.length)
theorem Hj {l:List Sec} {i:Nat} (hi:i<l.length) (h4:i<40) (h:20<l[i].ends.length):Km l=true:=by
 unfold Km;have:(l.take 40).any (fun s=>decide (20<s.ends.length))=true:=f6.2 ⟨_,Z8 h4 hi,ax h⟩;rw[this];rfl
theorem Pn {l:List Sec} {i:Nat} (hq:∀j (hj:j<l.length),j<i->¬20<l[j].ends.length) (h:40<=i∨l.length<=i):Km l=decide ((l.length:Int)>40):=by
 unfold Km;have:(l.take 40).any (fun s=>decide (20<s.ends.length))=false:=by
  rw[fi];intro x hx;rw[bm] at hx;obtain⟨j,hj,rfl⟩:=hx;have:=hq j (by omega) (by omega);simpa using this
 rw[this,ee];exact fp.2 (by omega)
theorem Hk (l:List Sec):Xr Tryz.prog 50 [P9 l] [] (bool (Km l)) []:=by
 refine Xc 0 Tryz.func50 rfl fun n out _ _=> ?_;simp only[sn,Tryz.ntmps50,simprocAttr];repeat' (first|refine Vk fun K hK=> ?_|apply V0|((first|apply gE);simp only[zA,simprocAttr])|(refine hK _ ?_;clear hK K))
 apply V5;refine Xse (40) (fun i=>(∀j (hj:j<l.length),j<i->¬20<l[j].ends.length)) (fun i=>tp [2] (tr 4 17 [(3,i64 (i:Int))])) (fun i=>[]) (by intros;omega) ?_ fun i hi=> ?_
 ·refine La rfl ?_ ?_<;>simp only[sL]
 obtain⟨hi,hq⟩:=hi;simp only[pt];have hw:=Yl (n:=i) 1 1 rfl (by omega);by_cases hlt:i<l.length
 ·have gi:=Xg Y6 l i [] hlt;have hlt':(i:Int)<(l.length:Int):=by omega
  repeat' (first|refine Vk fun K hK=> ?_|apply V0|apply Vb|apply Vs|((first|apply gE);simp only[zA,simprocAttr,hlt,hlt',gi,Y6,hw])|(apply Vz;refine Vo rfl rfl rfl (fun _ _=>rfl) ?_<;>first|rfl|(rw[Hj hlt (by simp at*;omega) (by simp at*;omega)];rfl)|(rw[Pn hq (by simp at*;omega)];rfl)|skip)|(apply Vx;simp only[sb])|(refine hK _ ?_;clear hK K)|refine Vi rfl (fun hg=> ?_) (fun hg=> ?_)|clear hK K)
  refine⟨i+1,⟨by simp at*;omega,fun j hj hji=> ?_⟩,by simp at*;omega,?_⟩
  ·by_cases h:j=i
   ·subst h;simp at*;omega
   ·exact hq j hj (by omega)
  refine La rfl ?_ ?_<;>simp only[sL]
 ·have hlt':¬(i:Int)<(l.length:Int):=by omega
  repeat' (first|refine Vk fun K hK=> ?_|apply V0|((first|apply gE);simp only[zA,simprocAttr,hlt'])|(apply Vz;refine Vo rfl rfl rfl (fun _ _=>rfl) ?_<;>first|rfl|(rw[Pn hq (by simp at*;omega)];rfl)|skip)|(apply Vx;simp only[sb])|(refine hK _ ?_;clear hK K)|refine Vf rfl ?_|clear hK K)
def X08 (r:Rt):Bool:=decide ((r.path.length:Int)>20)||decide ((r.over.length:Int)>20)||decide ((r.flanks.length:Int)>20)
def Lx (p:Pl):Bool:=(p.rts.take 40).any X08||Km p.secs||decide ((p.pts.length:Int)>40)||decide ((p.sgs.length:Int)>40)||decide ((p.rts.length:Int)>40)
theorem Hl {p:Pl} {i:Nat} (hi:i<p.rts.length) (h4:i<40) (h:X08 p.rts[i]=true):Lx p=true:=by
 unfold Lx;have:(p.rts.take 40).any X08=true:=f6.2 ⟨_,Z8 h4 hi,h⟩;rw[this];rfl
theorem Po {p:Pl} {i:Nat} (hq:∀j (hj:j<p.rts.length),j<i->X08 p.rts[j]=false) (h:40<=i∨p.rts.length<=i):Lx p=(Km p.secs||decide ((p.pts.length:Int)>40)||decide ((p.sgs.length:Int)>40)||decide ((p.rts.length:Int)>40)):=by
 unfold Lx;have:(p.rts.take 40).any X08=false:=by
  rw[fi];intro x hx;rw[bm] at hx;obtain⟨j,hj,rfl⟩:=hx;rw[hq j (by omega) (by omega)];decide
 rw[this,ee]
theorem X09 (p:Pl):Xr Tryz.prog 23 [plA p] [] (bool (Lx p)) []:=by
 have cg:=Hk p.secs;generalize hG:Km p.secs=G at cg;refine Xc 1 Tryz.func23 rfl fun n out _ _=> ?_;simp only[sn,Tryz.ntmps23,simprocAttr];have hg:=Nat.le_refl 0;repeat' (first|refine Vk fun K hK=> ?_|apply V0|((first|apply gE|apply gS);simp only[zA,simprocAttr,plA,plC])|(refine hK _ ?_;clear hK K))
 apply V5;refine Xse (40) (fun i=>(∀j (hj:j<p.rts.length),j<i->X08 p.rts[j]=false)) (fun i=>tp [2] (tr 4 39 [(3,i64 (i:Int))])) (fun i=>[some (.box 28 (plC p))]) (by intros;omega) ?_ fun i hi=> ?_
 ·refine X2 ?_ ?_ (by first|rfl|(simp only[plC];rfl)|simp only[plC]) rfl rfl rfl<;>simp only[sL,plC]
 obtain⟨hi,hq⟩:=hi;simp only[pt];have hw:=Yl (n:=i) 1 1 rfl (by omega);by_cases hlt:i<p.rts.length
 ·have gi:=Xg rtC p.rts i [] hlt;have hlt':(i:Int)<(p.rts.length:Int):=by omega
  repeat' (first|refine Vk fun K hK=> ?_|apply V0|apply Vb|apply Vs|((first|apply gE|apply gR|apply gS);simp only[zA,simprocAttr,hg,plC,hlt,hlt',gi,rtC,hw])|(apply Vz;refine Vo rfl rfl rfl (fun _ _=>rfl) ?_<;>first|rfl|(rw[Hl hlt (by simp at*;omega) (by simp [X08] at*;simp_all)];rfl)|(rw[Po hq (by first|exact .inr (by omega)|(simp at*;omega)),hG];simp only[g_0,g_s];refine congrArg VS.bool ?_;clear hq hG cg;first|(simp_all;done)|(simp_all;omega))|skip)|(refine X3 (cg) ?_)|((refine Vg (fun hg=> ?_) (fun hg=> ?_))<;>try simp only[nb] at hg)|(apply Vx;simp only[sb])|(refine hK _ ?_;clear hK K)|refine Vt rfl ?_|refine Vi rfl (fun hg=> ?_) (fun hg=> ?_)|clear hK K)
  refine⟨i+1,⟨by simp at*;omega,fun j hj hji=> ?_⟩,by simp at*;omega,?_⟩
  ·by_cases h:j=i
   ·subst h;simp [X08] at*;simp_all
   ·exact hq j hj (by omega)
  refine La rfl ?_ ?_<;>simp only[sL]
 ·have hlt':¬(i:Int)<(p.rts.length:Int):=by omega
  repeat' (first|refine Vk fun K hK=> ?_|apply V0|((first|apply gE|apply gR|apply gS);simp only[zA,simprocAttr,hg,plC,hlt'])|(apply Vz;refine Vo rfl rfl rfl (fun _ _=>rfl) ?_<;>first|rfl|(rw[Po hq (by first|exact .inr (by omega)|(simp at*;omega)),hG];simp only[g_0,g_s];refine congrArg VS.bool ?_;clear hq hG cg;first|(simp_all;done)|(simp_all;omega))|skip)|(refine X3 (cg) ?_)|((refine Vg (fun hg=> ?_) (fun hg=> ?_))<;>try simp only[nb] at hg)|(apply Vx;simp only[sb])|(refine hK _ ?_;clear hK K)|refine Vf rfl ?_|clear hK K)
end Go.Proofs.YtdngdjbgmojcoaaGreat.Pln
namespace Go.Proofs.YtdngdjbgmojcoaaGreat.Pln
set_option linter.all false
set_option maxHeartbeats 2000000
open Go Go.VS Tab
theorem X0a {p:Pl} (h:Lx p=false):Sm p:=by
 unfold Lx at h;simp only[dj,dt] at h;obtain⟨⟨⟨⟨h1,h2⟩,h3⟩,h4⟩,h5⟩:=h;unfold Km at h2;rw[dj,dt,fi] at h2;have h6:p.secs.length<=40:=by omega
 refine⟨h6,fun s hs=> ?_,by omega,by omega,by omega,fun r hr=> ?_⟩
 ·have:=h2.1 s (by rw[db h6];exact hs);simpa using this
 ·rw[fi] at h1;have:=h1 r (by rw[db (by omega)];exact hr);simp [X08] at this;omega
theorem Ydv {l:List Sec} (h:Uq l=true) {n:Int} {s:Sec} (hg:Qt l n=some s):Ybs l n=0∧Yc5 l n=s:=by
 unfold Ybs Yc5;rw[h,hg];exact⟨rfl,rfl⟩
theorem Yeo {p:Pl} (h:Uf p=true) {n e:Int} {s:Sec} (hg:Qt p.secs n=some s) (h0:0<=e) (h1:e<s.ends.length):stE p n e=0:=by
 obtain⟨_,hmay,_⟩:=Y2 h;obtain⟨a,b⟩:=Ydv hmay hg;unfold stE Yf9;rw[h,a,b,if_pos rfl,if_pos rfl,if_pos ⟨h0,h1⟩]
theorem Ygl {p:Pl} (h:Uf p=true) {i:Nat} (hi:i<p.sgs.length):stE p p.sgs[i].2.1 p.sgs[i].2.2=0∧stL p p.sgs[i].2.1 p.sgs[i].2.2=p.sgs[i].1:=by
 obtain⟨_,hmay,_,hsg,_⟩:=Y2 h;have hE:stE p p.sgs[i].2.1 p.sgs[i].2.2=0:=by
  have hq:=hsg;unfold Qu at hq;rw[ad] at hq;have h1:=Z3.1 hq.2 i hi;unfold okG at h1;rw[ad] at h1;cases hg:Qt p.secs p.sgs[i].2.1 with
  |none=>rw[hg] at h1;simp at h1
  |some s=>
   rw[hg] at h1;simp only[ad,ao] at h1;exact Yeo h hg h1.1.1 h1.1.2
 refine⟨hE,?_⟩;unfold stL;rw[if_pos hE];have:∀j,i<j->j<=p.sgs.length->atF (p.sgs.take j) p.sgs[i].2.1 p.sgs[i].2.2=p.sgs[i].1:=by
  intro j;induction j with
  |zero=>intro h;omega
  |succ j ih=>
   intro hj hjl;rw[Yfw hsg (by omega)];by_cases he:j=i
   ·subst he;rw[if_pos (by simp)]
   ·rw[if_neg,ih (by omega) (by omega)];intro hm;have hq:=hsg;unfold Qu at hq;rw[ad] at hq;have h1:=Z3.1 hq.2 j (by omega);unfold okG at h1;rw[ad,az] at h1;have h2:=h1.2 p.sgs[i] (Z8 (by omega) hi);simp only[ad,bq] at hm;have:p.sgs[i].2=p.sgs[j].2:=Prod.ext (by omega) (by omega);simp [this] at h2
 have:=this p.sgs.length hi (Nat.le_refl _);rwa [bi] at this
end Go.Proofs.YtdngdjbgmojcoaaGreat.Pln
