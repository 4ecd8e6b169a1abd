/- The layer of abstract values, joined. -/
import Derived.Test.YtdngdjbgmojcoaaGreatZPR
import Derived.Test.YtdngdjbgmojcoaaGreatZP20
import Derived.Test.YtdngdjbgmojcoaaGreatZW5
namespace Go.Proofs.YtdngdjbgmojcoaaGreat.Pln
set_option linter.unusedSimpArgs false
set_option linter.unusedVariables false
set_option maxHeartbeats 8000000
set_option maxRecDepth 8000
open Go Go.VS Tab
theorem X3g (p:Pl):Uf p=(Kq p&&Uq p.secs&&(Ul p&&Qu p&&(Ue Ye (p.rts.map Rt.id)&&decide ((p.rts.length:Int)≤16)))&&p.rts.all (okR p)):=by
 unfold Uf
 have e:decide ((p.rts.length:Int)≤16)=decide (p.rts.length≤16):=decide_eq_decide.2 (by omega)
 rw[e]
 simp only[Bool.and_assoc]
theorem Hi (p:Pl):Kq p=(!decide (p.ver<1)&& !decide (p.ver>2147483647)&& !decide (p.par<0)&& !decide (p.par≥p.ver)):=by
 unfold Kq
 rw[Bool.eq_iff_iff];simp
theorem Ss (p:Pl) (hs:SmB p):Xr Tryz.prog 51 [plA p] [] (i64 (if Uf p then 0 else 8)) []:=by
 have hme:=X3g p
 have ct:=X06 p.secs (by have:=hs.secs;omega) fun s h=>by have:=hs.ends s h;omega
 cases hmay:Uq p.secs with
 |false=>
  have hf:Uf p=false:=by rw[hme,hmay];simp
  rw[hmay] at ct
  rw[hf]
  refine Xc 3 Tryz.func51 rfl fun n out _ _=> ?_
  simp only[sn,Tryz.ntmps51,Nat.reduceAdd,Nat.reduceSub]
  repeat' (first|(with_reducible first|refine Vk fun K hK=> ?_|refine V0 ?_)|((with_reducible first|refine gE ?_|refine gR ?_);simp only[zA,simprocAttr, -List.reduceReplicate,plA,plC])|((with_reducible refine Vz ?_);refine Vo rfl rfl rfl (fun _ _=>rfl) ?_<;>first|rfl|skip)|(refine X3 (ct) ?_)|((with_reducible refine Vg (fun hg=> ?_) (fun hg=> ?_))<;>(try simp only[nb] at hg)<;>simp only[zA,simprocAttr, -List.reduceReplicate,hg])|(refine hK _ ?_;clear hK K)|refine Vt rfl ?_)
 |true=>
  rw[hmay] at ct
  have hd:=Hi p
  cases hh:Kq p with
  |false=>
   have hf:Uf p=false:=by rw[hme,hh];simp
   rw[hh] at hd
   rw[hf]
   refine Xc 3 Tryz.func51 rfl fun n out _ _=> ?_
   simp only[sn,Tryz.ntmps51,Nat.reduceAdd,Nat.reduceSub]
   repeat' (first|(with_reducible first|refine Vk fun K hK=> ?_|refine V0 ?_|refine Vs ?_)|((with_reducible first|refine gE ?_|refine gR ?_);simp only[zA,simprocAttr, -List.reduceReplicate,plA,plC])|((with_reducible refine Vz ?_);refine Vo rfl rfl rfl (fun _ _=>rfl) ?_<;>first|rfl|skip)|(refine X3 (ct) ?_)|((with_reducible refine Vg (fun hg=> ?_) (fun hg=> ?_))<;>(try simp only[nb] at hg)<;>simp only[zA,simprocAttr, -List.reduceReplicate,hg])|(refine hK _ ?_;clear hK K)|refine Vt rfl ?_|refine Vf rfl ?_)
   all_goals (exfalso;clear hme hf ct hs hK K;simp only[*,Bool.not_false,Bool.and_true,Bool.not_true,Bool.and_self,reduceCtorEq] at hd)
  |true=>
   rw[hh] at hd
   obtain⟨⟨⟨d1,d2⟩,d3⟩,d4⟩:((decide (p.ver<1)=false∧decide (p.ver>2147483647)=false)∧decide (p.par<0)=false)∧decide (p.par≥p.ver)=false:=by
    have:=hd.symm
    simp only[Bool.and_eq_true,Bool.not_eq_true'] at this
    exact this
   have ce:=X5y p.secs hmay
   have cp:=Az p hs hmay
   have cg:=H8 p hs hmay
   have cr:=H0 p.rts 16 (by have:=hs.rts;omega)
   simp only[plA,plC] at cp cg
   rw[hh,hmay,Bool.true_and,Bool.true_and] at hme
   cases hpg:Ul p&&Qu p&&(Ue Ye (p.rts.map Rt.id)&&decide ((p.rts.length:Int)≤16)) with
   |false=>
    have hf:Uf p=false:=by rw[hme,hpg];rfl
    rw[hf]
    generalize (Ue Ye (p.rts.map Rt.id)&&decide ((p.rts.length:Int)≤16))=R at*
    generalize Ul p=P1 at*
    generalize Qu p=G1 at*
    refine Xc 3 Tryz.func51 rfl fun n out _ _=> ?_
    simp only[sn,Tryz.ntmps51,Nat.reduceAdd,Nat.reduceSub]
    repeat' (first|(with_reducible first|refine Vk fun K hK=> ?_|refine V0 ?_|refine Vs ?_)|((with_reducible first|refine gE ?_|refine gR ?_);simp only[zA,simprocAttr, -List.reduceReplicate,plA,plC,d1,d2,d3,d4,X0,Yt])|((with_reducible refine Vz ?_);refine Vo rfl rfl rfl (fun _ _=>rfl) ?_<;>first|rfl|skip)|(refine X3 (ct) ?_)|(refine X3 (ce) ?_)|(refine X3 (cp) ?_)|(refine X3 (cg) ?_)|(refine X3 (cr) ?_)|((with_reducible refine Vg (fun hg=> ?_) (fun hg=> ?_))<;>(try simp only[nb] at hg)<;>simp only[zA,simprocAttr, -List.reduceReplicate,hg])|(refine hK _ ?_;clear hK K)|refine Vt rfl ?_|refine Vf rfl ?_|refine Vi rfl (fun hg=> ?_) (fun hg=> ?_))
    all_goals (exfalso;clear hme hf ct hs hK K ce cp cg cr hd hh d1 d2 d3 d4;revert P1 G1 R;decide)
   |true=>
    rw[hpg,Bool.true_and] at hme
    rw[Bool.and_eq_true,Bool.and_eq_true] at hpg
    obtain⟨⟨g1,g2⟩,g3⟩:=hpg
    rw[g1] at cp
    rw[g2] at cg
    rw[g3] at cr
    refine Xc 3 Tryz.func51 rfl fun n out _ _=> ?_
    simp only[sn,Tryz.ntmps51,Nat.reduceAdd,Nat.reduceSub]
    repeat' (first|(with_reducible first|refine Vk fun K hK=> ?_|refine V0 ?_|refine Vs ?_)|((with_reducible first|refine gE ?_|refine gR ?_);simp only[zA,simprocAttr, -List.reduceReplicate,plA,plC,d1,d2,d3,d4,X0,Yt])|(refine X3 (ct) ?_)|(refine X3 (ce) ?_)|(refine X3 (cp) ?_)|(refine X3 (cg) ?_)|(refine X3 (cr) ?_)|(refine hK _ ?_;clear hK K)|refine Vf rfl ?_)
    refine V5 ?_
    refine Xpw (p.rts.length) (fun i=>(∀j (hj:j<p.rts.length),j<i→okR p p.rts[j]=true)) (fun m i=>tp [2,5] (tr 54 9 [(53,i64 (i:Int)),(1,.ptr (m+0) 0),(3,.ptr (m+1) 0)])) (fun m i=>[some (.box 28 (plC p)),some (.box 132 (Uj p.secs)),none]) (by intros;omega) ?_ fun m i hm hi=> ?_
    ·refine X2 ?_ ?_ (by first|rfl|(simp only[plC,List.length_map];rfl)|simp only[plC,List.length_map]) rfl rfl rfl<;>simp only[sL,plC]
    obtain⟨hi,hq⟩:=hi
    simp only[pt]
    have hw:=Yl (n:=i) 1 1 rfl (by have:=hs.rts;omega)
    by_cases hlt:i<p.rts.length
    ·have gi:=Xg rtC p.rts i [] hlt
     have cq:=X33 p p.rts[i] hs (hs.rt _ (List.getElem_mem hlt)) hmay g2
     simp only[plA,plC,rtA,rtC] at cq
     have bad:okR p p.rts[i]=false→Uf p=false:=fun h=>by rw[hme,Kp hlt h]
     repeat' (first|(with_reducible first|refine Vk fun K hK=> ?_|refine V0 ?_|refine Vb ?_|refine Vs ?_)|((with_reducible first|refine gE ?_|refine gR ?_);simp only[zA,simprocAttr, -List.reduceReplicate,Xi hm,plC,rtC,hlt,gi,X0,hw,E6 (Yt p.secs)])|((with_reducible refine Vz ?_);refine Vo rfl rfl rfl (fun _ _=>rfl) ?_<;>first|rfl|(rw[bad (by simpa using hg)];rfl)|skip)|(refine X3 (cq) ?_)|(refine hK _ ?_;clear hK K)|refine Vt rfl ?_|refine Vi rfl (fun hg=> ?_) (fun hg=> ?_)|clear hK K)
     refine⟨i+1,⟨by omega,fun j hj hji=> ?_⟩,by omega,?_⟩
     ·by_cases h':j=i
      ·subst h';simpa using hg
      ·exact hq j hj (by omega)
     refine Xx [true,true,false] ?_ ?_<;>intro n_<;>simp only[sM]
    ·have e:=Mm (p:=okR p) (l:=p.rts) fun j hj=>hq j hj (by omega)
     repeat' (first|(with_reducible first|refine Vk fun K hK=> ?_|refine V0 ?_)|((with_reducible refine gE ?_);simp only[zA,simprocAttr, -List.reduceReplicate,plC,hlt])|((with_reducible refine Vz ?_);refine Vo rfl rfl rfl (fun _ _=>rfl) ?_<;>first|rfl|(rw[hme,e];rfl)|skip)|((with_reducible refine Vx ?_);simp only[sb])|(refine hK _ ?_;clear hK K)|refine Vf rfl ?_|clear hK K)
theorem Dr (p:Pl) (hs:Sm p):Xr Tryz.prog 51 [plA p] [] (i64 (if Uf p then 0 else 8)) []:=Ss p hs.wide
theorem Xol {p:Pl} (h:Uf p=true):Kq p=true∧Uq p.secs=true∧Ul p=true∧Qu p=true∧Ue Ye (p.rts.map Rt.id)=true∧p.rts.length≤16∧∀r,r∈p.rts→okR p r=true:=by
 unfold Uf at h
 simp only[Bool.and_eq_true,decide_eq_true_eq,List.all_eq_true] at h
 obtain⟨⟨⟨⟨⟨⟨h1,h2⟩,h3⟩,h4⟩,h5⟩,h6⟩,h7⟩:=h
 exact⟨h1,h2,h3,h4,h5,h6,h7⟩
theorem Xw7 {l:List (Int×Int×Int)} (hr:∀i (hi:i<l.length) j (hj:j<i),(l[j]'(by omega)).1<l[i].1) (n:Int):Xl0 l n=(Xpe l n).getD (0,0,0):=by
 have:∀i,i≤l.length→Xl0 (l.take i) n=(Xpe (l.take i) n).getD (0,0,0):=by
  intro i
  induction i with
  |zero=>intro _;rfl
  |succ i ih=>
   intro hi
   rw[Xra (by omega),ih (by omega)]
   unfold Xpe
   rw[List.take_succ_eq_append_getElem (by omega),List.find?_append]
   by_cases h:l[i].1=n
   ·have hno:(l.take i).find? (fun x=>x.1==n)=none:=by
     rw[List.find?_eq_none]
     intro x hx
     rw[List.mem_take_iff_getElem] at hx
     obtain⟨j,hj,rfl⟩:=hx
     have:=hr i (by omega) j (by omega)
     simp;omega
    rw[hno]
    simp [h]
   ·rw[if_neg (by simpa using h)]
    have:[l[i]].find? (fun x=>x.1==n)=none:=by simp [h]
    rw[this]
    cases (l.take i).find? (fun x=>x.1==n)<;>rfl
 have:=this l.length (Nat.le_refl _)
 rwa [List.take_length] at this
theorem Xxo {p:Pl} (h:Qu p=true):∀i (hi:i<p.sgs.length) j (hj:j<i),(p.sgs[j]'(by omega)).1<p.sgs[i].1:=by
 intro i hi j hj
 unfold Qu at h
 rw[Bool.and_eq_true,Bool.and_eq_true] at h
 have h1:=Z3.1 h.1.1 i (by simpa using hi)
 simp only[Ye,Bool.and_eq_true,List.all_eq_true,decide_eq_true_eq,List.getElem_map] at h1
 have:p.sgs[j].1∈(p.sgs.map Prod.fst).take i:=by
  rw[List.mem_take_iff_getElem]
  exact⟨j,by simp;omega,by simp⟩
 exact h1.2 _ this
theorem Xu2 {p:Pl} (h:Uf p=true) {r:Rt} (hr:r∈p.rts):1≤r.path.length∧∃en,Xpe p.sgs r.entry=some en∧Xl0 p.sgs r.entry=en∧en∈p.sgs∧∀s,s∈p.secs→(s.id==en.2.1)=true→0≤en.2.2∧en.2.2<s.ends.length:=by
 obtain⟨_,hmay,_,hsg,_,_,hrs⟩:=Xol h
 have ho:=hrs r hr
 unfold okR at ho
 cases hg:Xpe p.sgs r.entry with
 |none=>rw[hg] at ho;cases ho
 |some en=>
  rw[hg] at ho
  simp only[Bool.and_eq_true,decide_eq_true_eq] at ho
  obtain⟨⟨⟨⟨⟨⟨⟨⟨_,hp⟩,_⟩,_⟩,_⟩,_⟩,_⟩,_⟩,_⟩:=ho
  have hm:=List.mem_of_find?_eq_some hg
  refine⟨hp,en,rfl,by rw[Xw7 (Xxo hsg),hg];rfl,hm,fun s hs he=> ?_⟩
  obtain⟨i,hi,rfl⟩:=List.getElem_of_mem hm
  unfold Qu at hsg
  rw[Bool.and_eq_true] at hsg
  have h1:=Z3.1 hsg.2 i hi
  unfold okG at h1
  rw[Bool.and_eq_true] at h1
  cases hgs:Qt p.secs p.sgs[i].2.1 with
  |none=>rw[hgs] at h1;simp at h1
  |some s'=>
   rw[hgs] at h1
   simp only[Bool.and_eq_true,decide_eq_true_eq] at h1
   obtain⟨g1,g2⟩:=W5 hgs
   have:s=s':=X5z hmay hs g1 (by rw[g2];simpa using he)
   rw[this]
   exact h1.1
theorem Js (a b:Int×Int×Int):Nk [i64 a.1,i64 a.2.1,i64 a.2.2] [i64 b.1,i64 b.2.1,i64 b.2.2]=some (a==b):=by
 have:(a==b)=(a.1==b.1&&(a.2.1==b.2.1&&a.2.2==b.2.2)):=rfl
 rw[this];simp [Nk]
theorem Y1f {l:List Sec} (h:Uq l=true) {s:Sec} (hs:s∈l) (e:Nat):(s.ends.getD e (0,0)).2≤2:=by
 by_cases he:e<s.ends.length
 ·have hj:=(Kk.1 h).2.2 s hs e he
  obtain⟨a,b,hab⟩:∃a b,s.ends[e]=(a,b):=⟨_,_,rfl⟩
  rw[Su he hab] at hj
  have gd:s.ends.getD e (0,0)=(a,b):=by rw[← hab];simp [List.getD_eq_getElem?_getD,he]
  rw[gd]
  rw[Bool.or_eq_true,decide_eq_true_eq] at hj
  rcases hj with hj|hj
  ·show b≤2;omega
  ·cases hg:Qt l a with
   |none=>rw[hg] at hj;cases hj
   |some t=>
    rw[hg] at hj
    simp only[Bool.and_eq_true,decide_eq_true_eq] at hj
    have:=Uv.1 (U0 h (W5 hg).1).2
    show b≤2;omega
 ·simp [List.getD_eq_getElem?_getD,he]
theorem Xz1 (s:Sec) (a b:Int):Xoq s a b≤2:=by
 unfold Xoq
 split
 ·unfold Xuv
  repeat' split
  all_goals omega
 ·decide
structure AskOk (p:Pl) (L:List Int) (i:Nat) (l:List (Int×Int×Int)):Prop where
 each:∀k (hk:k<l.length),∃(j:Nat) (s:Sec),j<i∧l[k].2.2=(j:Int)∧s∈p.secs∧s.id=L.getD j 0∧s.pt=l[k].1∧s.pt≠0∧1≤l[k].2.1∧l[k].2.1≤2
 rise:∀k (hk:k+1<l.length),l[k].2.2<l[k+1].2.2
theorem AskOk.next {p:Pl} {L:List Int} {i:Nat} {l:List (Int×Int×Int)} (h:AskOk p L i l):AskOk p L (i+1) l:=
 ⟨fun k hk=>by obtain⟨j,s,h1,h2⟩:=h.each k hk;exact⟨j,s,by omega,h2⟩,h.rise⟩
theorem AskOk.snoc {p:Pl} {L:List Int} {i:Nat} {l:List (Int×Int×Int)} (h:AskOk p L i l) {s:Sec} (hs:s∈p.secs) (hid:s.id=L.getD i 0) {lie:Int} (h0:0<s.pt) (h1:0<lie) (h2:lie≤2):AskOk p L (i+1) (l++[(s.pt,lie,(i:Int))]):=by
 refine⟨fun k hk=> ?_,fun k hk=> ?_⟩
 ·by_cases hlt:k<l.length
  ·rw[List.getElem_append_left hlt]
   exact h.next.each k hlt
  ·have:k=l.length:=by simp at hk;omega
   subst this
   rw[List.getElem_append_right (Nat.le_refl _)]
   simp only[Nat.sub_self,List.getElem_cons_zero]
   exact⟨i,s,by omega,rfl,hs,hid,rfl,by omega,by omega,h2⟩
 ·by_cases hlt:k+1<l.length
  ·rw[List.getElem_append_left hlt,List.getElem_append_left (by omega)]
   exact h.rise k hlt
  ·have:k+1=l.length:=by simp at hk;omega
   rw[List.getElem_append_left (by omega),List.getElem_append_right (by omega)]
   simp only[this,Nat.sub_self,List.getElem_cons_zero]
   obtain⟨j,_,a,b,_⟩:=h.each k (by omega)
   omega
theorem Xw8 {p:Pl} {L:List Int} {i:Nat} {w:Wk} (h:AskOk p L i w.asks) {s:Sec} (hs:s∈p.secs) (hid:s.id=L.getD i 0) {lie:Int} (h2:lie≤2):AskOk p L (i+1) (Xps w s.pt lie i).asks:=by
 unfold Xps
 split
 ·rename_i hb
  simp only[Bool.and_eq_true,decide_eq_true_eq] at hb
  exact h.snoc hs hid (by omega) (by omega) h2
 ·exact h.next
theorem Xrc (p:Pl) (w:Wk) (id:Int):((Xp4 p w id).2.lost=true∧(Xp4 p w id).2.asks=w.asks∧(Xp4 p w id).2.inn=w.inn)∨(Qt p.secs id=some (Xp4 p w id).1∧(Xp4 p w id).2=w):=by
 unfold Xp4
 split
 ·rename_i s hg
  split
  ·exact .inl ⟨rfl,rfl,rfl⟩
  ·exact .inr ⟨hg,rfl⟩
 ·exact .inl ⟨rfl,rfl,rfl⟩
theorem Xt9 {p:Pl} (hmay:Uq p.secs=true) {L:List Int} {i:Nat} {w:Wk} (h:AskOk p L i w.asks) (hi:w.inn.2≤2) (f:Int→Int×Int→Bool):AskOk p L (i+1) (Xso p w (L.getD i 0) i f).asks∧(Xso p w (L.getD i 0) i f).inn.2≤2:=by
 unfold Xso
 rcases Xrc p w (L.getD i 0) with ⟨a,b,c⟩|⟨a,b⟩
 ·generalize Xp4 p w (L.getD i 0)=q at*
  unfold Xxn Xqx
  rw[Xq5 fun e _=>by unfold Xr3;rw[a];rfl]
  dsimp only
  rw[b,c]
  exact⟨h.next,hi⟩
 ·rw[b]
  obtain⟨g1,g2⟩:=W5 a
  generalize (Xp4 p w (L.getD i 0)).1=s at*
  unfold Xxn
  split
  ·rename_i e he
   unfold Xt7
   dsimp only
   exact⟨Xw8 h g1 g2 (Xz1 _ _ _),Y1f hmay g1 e⟩
  ·exact⟨h.next,hi⟩
theorem Xxp {p:Pl} {L:List Int} {i:Nat} {w:Wk} (h:AskOk p L i w.asks) (hi:w.inn.2≤2):AskOk p L (i+1) (Xpt p w (L.getD i 0) i).asks∧(Xpt p w (L.getD i 0) i).inn.2≤2:=by
 unfold Xpt
 rcases Xrc p w (L.getD i 0) with ⟨a,b,c⟩|⟨a,b⟩
 ·rw[a,Bool.not_true,Bool.false_and,if_neg (by decide),b,c]
  exact⟨h.next,hi⟩
 ·rw[b]
  obtain⟨g1,g2⟩:=W5 a
  generalize (Xp4 p w (L.getD i 0)).1=s at*
  split
  ·obtain⟨l,e⟩:=Xoy w s.pt w.inn.2 i
   exact⟨Xw8 h g1 g2 hi,by rw[e];exact hi⟩
  ·exact⟨h.next,hi⟩
theorem Xz2 {l:List Sec} (h:Uq l=true) (g:Int×Int×Int):(Xwg l g).2≤2:=by
 have:∀i,i≤l.length→(Xwg (l.take i) g).2≤2:=by
  intro i
  induction i with
  |zero=>intro _;rw[List.take_zero];show(0:Int)≤2;decide
  |succ i ih=>
   intro hi
   rw[Xsj (by omega)]
   split
   ·exact Y1f h (List.getElem_mem _) _
   ·exact ih (by omega)
 have:=this l.length (Nat.le_refl _)
 rwa [List.take_length] at this
theorem Xw9 {p:Pl} (hmay:Uq p.secs=true) (r:Rt):∀i,AskOk p (r.path++r.over) i (Xom p r i).asks∧(Xom p r i).inn.2≤2
 |0=>⟨⟨fun k hk=>absurd hk (Nat.not_lt_zero _),fun k hk=>absurd hk (Nat.not_lt_zero _)⟩,Xz2 hmay _⟩
 |i+1=>by
  obtain⟨h1,h2⟩:=Xw9 hmay r i
  show AskOk p _ _ (Xp6 p r (Xom p r i) i).asks∧(Xp6 p r (Xom p r i) i).inn.2≤2
  unfold Xp6
  split
  ·split
   ·exact Xt9 hmay h1 h2 _
   ·exact Xt9 hmay h1 h2 _
  ·split
   ·exact Xxp h1 h2
   ·exact Xt9 hmay h1 h2 _
theorem Xu3:∀(l:List (Int×Int)) (w:Wk),(∀f,f∈l→0<f.1∧0<f.2)→(Xsk w l).asks=w.asks++l.map fun f=>(f.1,f.2, -1)
 |[],w,_=>by simp [Xsk]
 |f::l,w,h=>by
  obtain⟨a,b⟩:=h f (List.mem_cons_self ..)
  have e:Xps w f.1 f.2 (-1)={w with asks:=w.asks++[(f.1,f.2, -1)]}:=by
   unfold Xps
   rw[if_pos (by simp;omega)]
  have:=Xu3 l (Xps w f.1 f.2 (-1)) fun g hg=>h g (List.mem_cons_of_mem _ hg)
  show(Xsk (Xps w f.1 f.2 (-1)) l).asks= _
  rw[this,e]
  simp
theorem Xwa {p:Pl} (h:Uf p=true) {r:Rt} (hr:r∈p.rts):∀f,f∈r.flanks→0<f.1∧0<f.2:=by
 obtain⟨_,_,hpts,_,_,_,hrs⟩:=Xol h
 have ho:=hrs r hr
 unfold okR at ho
 cases hg:Xpe p.sgs r.entry with
 |none=>rw[hg] at ho;cases ho
 |some en=>
  rw[hg] at ho
  rw[Bool.and_eq_true] at ho
  intro f hf
  obtain⟨i,hi,rfl⟩:=List.getElem_of_mem hf
  have h1:=Z3.1 ho.2 i hi
  unfold okF at h1
  simp only[Bool.and_eq_true,Bool.or_eq_true,beq_iff_eq] at h1
  obtain⟨⟨h2,_⟩,h3⟩:=h1
  obtain⟨x,hx⟩:=Option.isSome_iff_exists.1 h2
  have hxm:=List.mem_of_find?_eq_some hx
  have hx1:x.1=r.flanks[i].1:=by simpa using List.find?_some hx
  unfold Ul at hpts
  simp only[Bool.and_eq_true] at hpts
  obtain⟨j,hj,rfl⟩:=List.getElem_of_mem hxm
  have h5:=Z3.1 hpts.1.1.1 j (by simpa using hj)
  simp only[Ye,Bool.and_eq_true,U1,List.getElem_map] at h5
  omega
end Go.Proofs.YtdngdjbgmojcoaaGreat.Pln
