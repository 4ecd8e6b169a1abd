/- The layer of abstract values, joined. -/
import Derived.Test.YtgpdghbmiihfbaaGreatZP5
import Derived.Test.YtgpdghbmiihfbaaGreatZW5
namespace Go.Proofs.YtgpdghbmiihfbaaGreat.Pln
set_option linter.all false
set_option maxHeartbeats 8000000
set_option maxRecDepth 4000
open Go Go.VS Tab
attribute [local irreducible] AWp Xp0 Pg X5c Qy Lt Tp FdT Eb
theorem Au {α:Type} (f:List α->α->Bool) (a b:List α):Ue f (a++b)=(Ue f a&&Ue (fun pre x=>f (a++pre) x) b):=by
 rw[bp,ag,Z3,Z3,Z3];constructor
 ·intro h;constructor
  ·intro i hi;have:=h i (by simp;omega);rwa [ew hi,fm (by omega)] at this
  ·intro i hi;have:=h (a.length+i) (by simp;omega);rw[f7 (by omega)] at this;simp only[Nat.add_sub_cancel_left] at this;rwa [List.take_length_add_append] at this
 ·rintro⟨h1,h2⟩ i hi;by_cases hlt:i<a.length
  ·rw[ew hlt,fm (by omega)];exact h1 i hlt
  ·have hi':i - a.length<b.length:=by simp at hi;omega
   have:=h2 (i - a.length) hi';rw[f7 (by omega)];obtain⟨j,rfl⟩:∃j,i=a.length+j:=⟨i - a.length,by omega⟩
   simp only[Nat.add_sub_cancel_left] at this⊢;rwa [List.take_length_add_append]
def Ma (p:Pl) (r:Rt):Bool:=(decide (r.ex=0)||((Xpe p.sgs r.ex).isSome&& !(r.ex==r.entry)))&& !(decide (r.ex=0)&& !r.over.isEmpty)&&
  decide (1<=r.path.length)&&decide (r.path.length<=6)&&decide (r.over.length<=2)&&decide (r.flanks.length<=3)&&decide (1<=r.timer)&&decide (r.timer<=9)
def okQ (p:Pl) (own:Int) (B L:List Int):Bool:=Ue (fun pre x=>okL p own (B++pre) x) L
theorem Rh {p:Pl} {r:Rt} {en:Int×Int×Int} (h:Xpe p.sgs r.entry=some en):okR p r=(Ma p r&&okQ p en.2.1 [] r.path&&okQ p en.2.1 r.path r.over&&Ue (okF p) r.flanks):=by
 unfold okR okQ Ma;rw[h];simp only[Au,List.nil_append,Bool.and_assoc]
theorem Dj {p:Pl} {r:Rt} (h:Xpe p.sgs r.entry=none):okR p r=false:=by unfold okR;rw[h]
theorem Dk {p:Pl} {r:Rt} {en:Int×Int×Int} (h:Xpe p.sgs r.entry=some en) (hh:Ma p r=false):okR p r=false:=by rw[Rh h,hh];rfl
theorem H2 {p:Pl} (hmay:Uq p.secs=true) (h:Qu p=true) {g:Int×Int×Int} (hg:g∈p.sgs):1<=g.2.1∧g.2.1<=99∧(Qt p.secs g.2.1).isSome=true:=by
 obtain⟨i,hi,rfl⟩:=az hg;unfold Qu at h;rw[ag] at h;have:=Z3.1 h.2 i hi;unfold okG at this;cases hs:Qt p.secs p.sgs[i].2.1 with
 |none=>rw[hs] at this;simp at this
 |some s=>
  obtain⟨h1,h2⟩:=W5 hs;have:=U1.1 (U0 hmay h1).1;exact⟨by omega,by omega,rfl⟩
def met (own:Int) (pre:List Int) (k:Nat):Bool:=own==(k:Int)||pre.any fun x=>x==(k:Int)
def Fu (own:Int) (pre:List Int):List AV:=(List.range 100).map fun k=>bool (met own pre k)
theorem Ri (own:Int) (pre:List Int):(Fu own pre).length=100:=by simp [Fu]
theorem Mt (own:Int) (pre:List Int) (j s:Nat) (h:j<100):pick false s (List.drop j (Fu own pre))=some (bool (met own pre j)):=Uu _ _ _ _ h
theorem Xuk (j:Nat) (h:j<100):Yf (List.replicate 100 (bool false)) j [bool true]=Fu j []:=by
 rw[W4,Q0 _ _ _ h,Fu];apply dl;intro k hk;unfold met;by_cases e:k=j
 ·subst e;simp
 ·rw[if_neg e];have:((j:Int)==(k:Int))=false:=by simp;omega
  rw[this];rfl
theorem Av (own:Int) (pre:List Int) (j:Nat) (h:j<100):Yf (Fu own pre) j [bool true]=Fu own (pre++[(j:Int)]):=by
 rw[Fu,Q0 _ _ _ h,Fu];apply dl;intro k hk;unfold met;rw[jl];by_cases e:k=j
 ·subst e;simp
 ·rw[if_neg e];have:((j:Int)==(k:Int))=false:=by simp;omega
  simp [this]
theorem X5u (p:Pl) (own:Int) (pre:List Int) (k:Nat):okL p own pre k=((Qt p.secs k).isSome&& !met own pre k):=by
 unfold okL met;have e:((k:Int)==own)=(own==(k:Int)):=by rw[bp];simp;omega
 rw[e];simp [i6,Bool.and_assoc]
def X5v (l:List Int):List AV:=[X62 l]
theorem Xtc (p:Pl) (r:Rt) (hs:SmV p) (h20:r.path.length<=140737488355328∧r.over.length<=140737488355328∧r.flanks.length<=140737488355328) (hmay:Uq p.secs=true) (hsg:Qu p=true) (hno:Xpe p.sgs r.entry=none∨Ma p r=false):Xr Tryz.prog 192 [plA p,rtA r,.agg (Uj p.secs)] [] (bool (okR p r)) []:=by
 obtain⟨hp1,hp2,hp3⟩:=h20;have hsl:=hs.sgs;have hpl:=hs.pts;have c1:=Kl p.sgs r.entry (by omega);have c2:=Kl p.sgs r.ex (by omega);cases hg:Xpe p.sgs r.entry with
 |none=>
  rw[Dj hg];rw[hg] at c1;refine Xc 8 Tryz.func192 rfl fun n out _ _=> ?_;simp only[sn,Tryz.ntmps192,simprocAttr];repeat' (first|refine Vk fun K hK=> ?_|apply V0|apply Vb|apply Vs|((first|apply gE|apply gR);simp only[zA,simprocAttr, -List.reduceReplicate,plA,plC,rtA,rtC,sgA,sgC,X0,Option.getD_none,Option.isSome_none])|(apply Vz;refine Vo rfl rfl rfl (fun _ _=>rfl) ?_<;>first|rfl|skip)|(refine X3 (c1) ?_)|(refine X3 (c2) ?_)|(refine hK _ ?_;clear hK K)|refine Vt rfl ?_)
 |some en=>
  rw[hg] at c1;have hen:en∈p.sgs:=bz hg;obtain⟨hn1,hn2,hn3⟩:=H2 hmay hsg hen;obtain⟨ne,hne⟩:=br (a:=en.2.1) (by omega);have hn:ne<100:=by omega
  have hn':(ne:Int)<100:=by omega
  have hn9:ne<=99:=by omega
  have hok:=Rh hg;rw[hne] at hok;have hh:Ma p r=false:=hno.resolve_left (by rw[hg];simp)
  ·have hbad:=Dk hg hh;rw[hbad];unfold Ma at hh;generalize hB:(Xpe p.sgs r.ex).isSome=B at c2 hh;generalize (Xpe p.sgs r.ex).getD (0,0,0)=ex at c2;have fin:decide ((r.path.length:Int)<1)=false->decide ((r.path.length:Int)>6)=false->decide ((r.over.length:Int)>2)=false->decide ((r.flanks.length:Int)>3)=false->decide (r.timer<1)=false->decide (r.timer>9)=false→
     ((decide (r.ex=0)||(B&& !(r.ex==r.entry)))&& !(decide (r.ex=0)&& !r.over.isEmpty))=true->False:=fun e1 e2 e3 e4 e5 e6 e7=>by
    rw[e7] at hh;simp only[dk] at e1 e2 e3 e4 e5 e6;rw[show decide (1<=r.path.length)=true from ay (by omega),show decide (r.path.length<=6)=true from ay (by omega),show decide (r.over.length<=2)=true from ay (by omega),show decide (r.flanks.length<=3)=true from ay (by omega),
     show decide (1<=r.timer)=true from ay (by omega),show decide (r.timer<=9)=true from ay (by omega)] at hh
    cases hh
   clear hh hok;by_cases hx:r.ex=0
   ·have x1:(r.ex !=0)=false:=by simp [hx]
    have x2:(r.ex==0)=true:=by simp [hx]
    by_cases ho:r.over=[]
    ·have x3:decide ((r.over.length:Int)>0)=false:=by simp [ho]
     refine Xc 8 Tryz.func192 rfl fun n out _ _=> ?_;simp only[sn,Tryz.ntmps192,simprocAttr];repeat' (first|refine Vk fun K hK=> ?_|apply V0|apply Vb|apply Vs|with_reducible apply aa|((first|apply gE|apply gR);simp only[zB,simprocAttr, -List.reduceReplicate,plA,plC,rtA,rtC,sgA,sgC,X0,Option.getD_some,hne,x1,x2,x3])|(apply Vz;refine Vo rfl rfl rfl (fun _ _=>rfl) ?_<;>first|rfl|skip)|(refine X3 (c1) ?_)|(refine X3 (c2) ?_)|(refine hK _ ?_;clear hK K)|refine Vt rfl ?_|refine Vf rfl ?_|(refine Vi rfl (fun hg=> ?_) (fun hg=> ?_))<;>try simp only[hg]|clear hK K)
     all_goals (exfalso;refine fin (by assumption) (by assumption) (by assumption) (by assumption) (by assumption) (by assumption) ?_;rw[ay hx,ho];rfl)
    ·have x3:decide ((r.over.length:Int)>0)=true:=ay (by have:=fq.2 ho;omega);refine Xc 8 Tryz.func192 rfl fun n out _ _=> ?_;simp only[sn,Tryz.ntmps192,simprocAttr];repeat' (first|refine Vk fun K hK=> ?_|apply V0|apply Vb|((first|apply gE|apply gR);simp only[zB,simprocAttr, -List.reduceReplicate,plA,plC,rtA,rtC,sgA,sgC,X0,Option.getD_some,hne,x1,x2,x3])|(apply Vz;refine Vo rfl rfl rfl (fun _ _=>rfl) ?_<;>first|rfl|skip)|(refine X3 (c1) ?_)|(refine X3 (c2) ?_)|(refine hK _ ?_;clear hK K)|refine Vt rfl ?_|refine Vf rfl ?_)
   ·have x1:(r.ex !=0)=true:=by simpa using hx
    have x2:(r.ex==0)=false:=by simpa using hx
    cases B with
    |false=>
     refine Xc 8 Tryz.func192 rfl fun n out _ _=> ?_;simp only[sn,Tryz.ntmps192,simprocAttr];repeat' (first|refine Vk fun K hK=> ?_|apply V0|apply Vb|apply Vs|((first|apply gE|apply gR);simp only[zB,simprocAttr, -List.reduceReplicate,plA,plC,rtA,rtC,sgA,sgC,X0,Option.getD_some,hne,x1])|(apply Vz;refine Vo rfl rfl rfl (fun _ _=>rfl) ?_<;>first|rfl|skip)|(refine X3 (c1) ?_)|(refine X3 (c2) ?_)|(refine hK _ ?_;clear hK K)|refine Vt rfl ?_|refine Vf rfl ?_)
    |true=>
     cases x5:(r.ex==r.entry) with
     |true=>
      refine Xc 8 Tryz.func192 rfl fun n out _ _=> ?_;simp only[sn,Tryz.ntmps192,simprocAttr];repeat' (first|refine Vk fun K hK=> ?_|apply V0|apply Vb|apply Vs|((first|apply gE|apply gR);simp only[zB,simprocAttr, -List.reduceReplicate,plA,plC,rtA,rtC,sgA,sgC,X0,Option.getD_some,hne,x1,x5])|(apply Vz;refine Vo rfl rfl rfl (fun _ _=>rfl) ?_<;>first|rfl|skip)|(refine X3 (c1) ?_)|(refine X3 (c2) ?_)|(refine hK _ ?_;clear hK K)|refine Vt rfl ?_|refine Vf rfl ?_)
     |false=>
      refine Xc 8 Tryz.func192 rfl fun n out _ _=> ?_;simp only[sn,Tryz.ntmps192,simprocAttr];repeat' (first|refine Vk fun K hK=> ?_|apply V0|apply Vb|apply Vs|with_reducible apply aa|((first|apply gE|apply gR);simp only[zB,simprocAttr, -List.reduceReplicate,plA,plC,rtA,rtC,sgA,sgC,X0,Option.getD_some,hne,x1,x2,x5])|(apply Vz;refine Vo rfl rfl rfl (fun _ _=>rfl) ?_<;>first|rfl|skip)|(refine X3 (c1) ?_)|(refine X3 (c2) ?_)|(refine hK _ ?_;clear hK K)|refine Vt rfl ?_|refine Vf rfl ?_|(refine Vi rfl (fun hg=> ?_) (fun hg=> ?_))<;>try simp only[hg]|clear hK K)
      all_goals (exfalso;refine fin (by assumption) (by assumption) (by assumption) (by assumption) (by assumption) (by assumption) ?_;rw[aq hx,x5];rfl)
theorem X33 (p:Pl) (r:Rt) (hs:SmV p) (h20:r.path.length<=140737488355328∧r.over.length<=140737488355328∧r.flanks.length<=140737488355328) (hmay:Uq p.secs=true) (hsg:Qu p=true):Xr Tryz.prog 192 [plA p,rtA r,.agg (Uj p.secs)] [] (bool (okR p r)) []:=by
 obtain⟨hp1,hp2,hp3⟩:=h20;have hsl:=hs.sgs;have hpl:=hs.pts;have c1:=Kl p.sgs r.entry (by omega);have c2:=Kl p.sgs r.ex (by omega);cases hg:Xpe p.sgs r.entry with
 |none=>
  exact Xtc p r hs ⟨hp1,hp2,hp3⟩ hmay hsg (.inl hg)
 |some en=>
  rw[hg] at c1;have hen:en∈p.sgs:=bz hg;obtain⟨hn1,hn2,hn3⟩:=H2 hmay hsg hen;obtain⟨ne,hne⟩:=br (a:=en.2.1) (by omega);have hn:ne<100:=by omega
  have hn':(ne:Int)<100:=by omega
  have hn9:ne<=99:=by omega
  have hok:=Rh hg;rw[hne] at hok;cases hh:Ma p r with
  |false=>exact Xtc p r hs ⟨hp1,hp2,hp3⟩ hmay hsg (.inr hh)
  |true=>
   rw[hh,cy] at hok;unfold Ma at hh;simp only[ag,c9,am,dv,Bool.and_eq_false_iff,dk] at hh;obtain⟨⟨⟨⟨⟨⟨⟨q1,q2⟩,q3⟩,q4⟩,q5⟩,q6⟩,q7⟩,q8⟩:=hh;generalize hB:(Xpe p.sgs r.ex).isSome=B at c2 q1;generalize (Xpe p.sgs r.ex).getD (0,0,0)=ex at c2;have d1:decide ((r.path.length:Int)<1)=false:=aq (by omega);have d2:decide ((r.path.length:Int)>6)=false:=aq (by omega);have d3:decide ((r.over.length:Int)>2)=false:=aq (by omega);have d4:decide ((r.flanks.length:Int)>3)=false:=aq (by omega);have d5:decide (r.timer<1)=false:=aq (by omega);have d6:decide (r.timer>9)=false:=aq (by omega);refine Xc 8 Tryz.func192 rfl fun n out _ _=> ?_;simp only[sn,Tryz.ntmps192,simprocAttr];have hg:=Nat.le_refl 0;refine Vy fun K hK=> ?_;simp only[zA,simprocAttr, -List.reduceReplicate,plA,plC,rtA,rtC]
   (refine hK _ ?_;clear hK K)
   refine Vy fun K hK=> ?_;simp only[zA,simprocAttr, -List.reduceReplicate]
   skip
   refine X3 c1 ?_;simp only[zA,simprocAttr, -List.reduceReplicate,sgA,sgC,X0,Option.getD_some,hne]
   (refine hK _ ?_;clear hK K)
   refine Vy fun K hK=> ?_;simp only[zA,simprocAttr, -List.reduceReplicate]
   skip
   refine X3 c2 ?_;simp only[zA,simprocAttr, -List.reduceReplicate,sgA,sgC,X0]
   (refine hK _ ?_;clear hK K)
   refine Vk fun K hK=> ?_;obtain⟨LO,hLO⟩:∃LO,LO=[some (Res.box 28 (plC p)),some (.box 161 (rtC r)),some (.box 243 (Uj p.secs)),some (.box 169 [i64 en.1,i64 (ne:Int),i64 en.2.2]),some (.box 169 (sgC ex)),none,none,none]:=⟨_,rfl⟩
   refine Xsh [(6,.top),(36,.top),(37,.top),(38,.top),(39,.top),(40,.top),(41,.top),(42,.top),(43,.top),(44,.top),(45,.top),(46,.top),(47,.top),(48,.top),(49,.top),(50,.top),(51,.top),(52,.top),(53,.top),(54,.top),(55,.top),(56,.top),(57,.top),(58,.top),(59,.top),(60,.top),(61,.top),(62,.top),(63,.top),(64,.top),(65,.top),(66,.top),(67,.top),(68,.top),(69,.top),(70,.top),(71,.top),(72,.top),(73,.top),(74,.top),(75,.top),(76,.top),(77,.top),(78,.top),(79,.top),(80,.top),(81,.top),(82,.top),(83,.top),(84,.top),(85,.top)] LO out ?_ ?_;rotate_left
   ·by_cases hx:r.ex=0
    ·have x1:(r.ex !=0)=false:=by simp [hx]
     have x2:(r.ex==0)=true:=by simp [hx]
     have x3:decide ((r.over.length:Int)>0)=false:=by
      rcases q2 with h|h
      ·exact absurd hx h
      ·have:r.over=[]:=by simpa using h
       simp [this]
     repeat' (first|refine Vk fun K hK=> ?_|apply V0|apply Vs|((first|apply gE|apply gS);simp only[zA,simprocAttr, -List.reduceReplicate,hLO,plC,rtC,sgC,x1,x2,x3,d1,d2,d3,d4,d5,d6])|(refine hK _ ?_;clear hK K)|refine Vf rfl ?_|(refine Or.inl ⟨rfl,?_⟩;refine La rfl ?_ ?_<;>simp only[sL,hLO,plC,rtC,sgC]))
    ·have x1:(r.ex !=0)=true:=by simpa using hx
     have x2:(r.ex==0)=false:=by simpa using hx
     obtain⟨x4,x5⟩:B=true∧(r.ex==r.entry)=false:=by
      rcases q1 with h|h
      ·exact absurd h hx
      ·exact⟨h.1,h.2⟩
     repeat' (first|refine Vk fun K hK=> ?_|apply V0|apply Vs|((first|apply gE|apply gS);simp only[zA,simprocAttr, -List.reduceReplicate,hLO,plC,rtC,sgC,x1,x2,x4,x5,d1,d2,d3,d4,d5,d6])|(refine hK _ ?_;clear hK K)|refine Vf rfl ?_|(refine Or.inl ⟨rfl,?_⟩;refine La rfl ?_ ?_<;>simp only[sL,hLO,plC,rtC,sgC,x4]))
   refine hK _ ?_;clear hK K;simp only[pt,hLO];clear hLO;obtain⟨LL,hLL⟩:∃LL,LL=[r.path,r.over]:=⟨_,rfl⟩
   have hl2:LL.length=2:=by rw[hLL];rfl
   have hL20:∀i (hi:i<LL.length),LL[i].length<=140737488355328:=fun i hi=>by
    subst hLL;have:i=0∨i=1:=by simp at hi;omega
    rcases this with rfl|rfl<;>simp<;>omega
   have hbadQ:∀j (hj:j<LL.length),okQ p ne (LL.take j).flatten LL[j]=false->okR p r=false:=fun j hj h=>by
    subst hLL;have:j=0∨j=1:=by simp at hj;omega
    rcases this with rfl|rfl
    ·simp at h;rw[hok,h];simp
    ·simp at h;rw[hok,h];simp
   have hgoodQ:(∀j (hj:j<LL.length),okQ p ne (LL.take j).flatten LL[j]=true)->okR p r=Ue (okF p) r.flanks:=fun h=>by
    have h0:=h 0 (by omega);have h1:=h 1 (by omega);subst hLL;simp at h0 h1;rw[hok,h0,h1];rfl
   have lit:∀(σ:AState) (K:AV->List (Nat×Res)->Prop),X1 tab σ K none 326 2 [(0,.sl 1 (r.path.map Ym) .sh),(1,.sl 1 (r.over.map Ym) .sh)]=K (.sl 1 (LL.map X5v) .full) []:=fun σ K=>by
    rw[hLL];exact Te (T:=tab) (ti:=ti326) (te:=ti99) rfl rfl rfl rfl rfl rfl
   repeat' (first|refine Vk fun K hK=> ?_|apply V0|((first|apply gE|apply gS);simp only[zB,simprocAttr, -List.reduceReplicate,plC,rtC,hn',hn9,Qg,Xuk ne hn,lit])|(refine hK _ ?_;clear hK K))
   apply V5;refine Xpw (LL.length) (fun i=>(∀j (hj:j<LL.length),j<i->okQ p ne (LL.take j).flatten LL[j]=true)) (fun m i=>tp [6,13,15] (tr 96 22 [(95,i64 (i:Int)),(3,.ptr (m+0) 0),(4,.ptr (m+1) 0),(5,.ptr (m+2) 0),(7,.ptr (m+3) 0),(9,.ptr (m+4) 0),(11,.ptr (m+5) 0)])) (fun m i=>[some (.box 28 (plC p)),some (.box 161 (rtC r)),some (.box 243 (Uj p.secs)),some (.box 169 [i64 en.1,i64 (ne:Int),i64 en.2.2]),some (.box 169 (sgC ex)),some (.box 242 (Fu ne (LL.take i).flatten)),none,none]) (by intros;omega) ?_ fun m i hm hi=> ?_
   ·refine X2 ?_ ?_ (by first|rfl|(simp only[af,List.take_zero,List.flatten_nil,plC,rtC,sgC];rfl)|simp only[af,List.take_zero,List.flatten_nil,plC,rtC,sgC]) rfl rfl rfl<;>simp only[sL,List.flatten_nil,plC,rtC,sgC]
   obtain⟨hi,hq⟩:=hi;simp only[pt];have hw:=Yl (n:=i) 1 1 rfl (by omega);by_cases hlt:i<LL.length
   ·have gi:=Xg X5v LL i [] hlt;have hq0:=hq;clear hq;repeat' (first|refine Vk fun K hK=> ?_|apply V0|apply Vb|apply Vs|((first|apply gE|apply gS);simp only[zA,simprocAttr, -List.reduceReplicate,hlt,gi,X5v])|(refine hK _ ?_;clear hK K)|refine Vt rfl ?_)
    have hLi:=hL20 i hlt;have hlti:=hlt;obtain⟨L,hL⟩:∃L,L=LL[i]:=⟨_,rfl⟩
    obtain⟨Bf,hBf⟩:∃Bf,Bf=(LL.take i).flatten:=⟨_,rfl⟩
    have hfl:(LL.take (i+1)).flatten=Bf++L:=by rw[ai hlti,es,hBf,hL];simp
    have hbad2:okQ p ne Bf L=false->okR p r=false:=fun h=>hbadQ i hlti (by rw[<- hBf,<- hL];exact h);have hnext:okQ p ne Bf L=true->∀j (hj:j<LL.length),j<i+1->okQ p ne (LL.take j).flatten LL[j]=true:=fun h j hj hji=>by
     by_cases h':j=i
     ·subst h';rw[<- hBf,<- hL];exact h
     ·exact hq0 j hj (by omega)
    rw[<- hL] at hLi;simp only[<- hL,<- hBf];apply V5;refine Xpw (L.length) (fun k=>(∀q (hq:q<L.length),q<k->okL p ne (Bf++L.take q) L[q]=true)) (fun m k=>tp [6,15] (tr 102 15 [(101,i64 (k:Int)),(3,.ptr (m+0) 0),(4,.ptr (m+1) 0),(5,.ptr (m+2) 0),(7,.ptr (m+3) 0),(9,.ptr (m+4) 0),(11,.ptr (m+5) 0)])) (fun m k=>[some (.box 28 (plC p)),some (.box 161 (rtC r)),some (.box 243 (Uj p.secs)),some (.box 169 [i64 en.1,i64 (ne:Int),i64 en.2.2]),some (.box 169 (sgC ex)),some (.box 242 (Fu ne (Bf++L.take k))),none,none]) (by intros;omega) ?_ fun m k hm hk=> ?_
    ·refine X2 ?_ ?_ (by first|rfl|(simp only[af,List.take_zero,b9,plC,rtC,sgC];rfl)|simp only[af,List.take_zero,b9,plC,rtC,sgC]) rfl rfl rfl<;>simp only[sL,b9,plC,rtC,sgC]
    obtain⟨hk,hq⟩:=hk;simp only[pt];have hw2:=Yl (n:=k) 1 1 rfl (by omega);by_cases hlt:k<L.length
    ·have gk:=Xg Ym L k [] hlt;have ct:=Hg p.secs L[k] hmay;have hfk:Bf++L.take k++[L[k]]=Bf++L.take (k+1):=by rw[aw,<- ai hlt]
     cases hgs:(Qt p.secs L[k]).isSome with
     |false=>
      have bad:okL p ne (Bf++L.take k) L[k]=false:=by unfold okL;rw[hgs];rfl
      rw[hgs] at ct;repeat' (first|refine Vk fun K hK=> ?_|apply V0|apply Vb|apply Vs|((first|apply gE|apply gR|apply gS);simp only[zA,simprocAttr, -List.reduceReplicate,Xi hm,hlt,gk,Ym])|(apply Vz;(try refine Or.inr ⟨(by intro h;cases h),?_⟩);refine Vo rfl rfl rfl (fun _ _=>rfl) ?_<;>first|rfl|(rw[hbad2 (Yz hlt bad)];rfl)|skip)|(refine X3 (ct) ?_)|(refine hK _ ?_;clear hK K)|refine Vt rfl ?_)
     |true=>
      obtain⟨nb,hnb,hnb1⟩:∃nb:Nat,L[k]=nb∧nb<100:=by
       obtain⟨s,hs'⟩:=ez.1 hgs;obtain⟨h1,h2⟩:=W5 hs';have:=U1.1 (U0 hmay h1).1;exact⟨(L[k]).toNat,by omega,by omega⟩
      have hnb':(nb:Int)<100:=by omega
      have hnb9:nb<=99:=by omega
      have hokL:=X5u p ne (Bf++L.take k) nb;rw[<- hnb,hgs,cy] at hokL;have hst:=Av ne (Bf++L.take k) nb hnb1;rw[<- hnb,hfk] at hst;rw[hgs,hnb] at ct;repeat' (first|refine Vk fun K hK=> ?_|apply V0|apply Vb|apply Vs|((first|apply gE|apply gR|apply gS);simp only[zA,simprocAttr, -List.reduceReplicate,hg,Xi hm,hlt,gk,Ym,hnb,hnb',hnb9,Ri,Mt _ _ nb 1 hnb1,hst,hw2])|(apply Vz;(try refine Or.inr ⟨(by intro h;cases h),?_⟩);refine Vo rfl rfl rfl (fun _ _=>rfl) ?_<;>first|rfl|(rw[hbad2 (Yz hlt (by rw[hokL];simp_all))];rfl)|skip)|(refine X3 (ct) ?_)|(refine hK _ ?_;clear hK K)|refine Vt rfl ?_|refine Vi rfl (fun hg=> ?_) (fun hg=> ?_)|clear hK K)
      refine⟨k+1,⟨by omega,fun q hq1 hq2=> ?_⟩,by omega,?_⟩
      ·by_cases h:q=k
       ·subst h;rw[hokL];simp_all
       ·exact hq q hq1 (by omega)
      refine Xx [true,true,true,true,true,true,false,false] ?_ ?_<;>intro n_<;>simp only[sM,plC,rtC,sgC]
    ·obtain rfl:k=L.length:=by omega
     have hallL:okQ p ne Bf L=true:=Q3 fun q hq1=>hq q hq1 hq1;repeat' (first|refine Vk fun K hK=> ?_|apply V0|((first|apply gE|apply gS);simp only[zA,simprocAttr, -List.reduceReplicate,hlt,hw,bm])|(apply Vx;simp only[sb,Nat.reduceEqDiff])|(refine hK _ ?_;clear hK K)|refine Vf rfl ?_|clear hK K)
     refine⟨i+1,⟨by omega,hnext hallL⟩,by omega,?_⟩;rw[hfl];refine Xx [true,true,true,true,true,true,false,false] ?_ ?_<;>intro n_<;>simp only[sM,plC,rtC,sgC]
   ·obtain rfl:i=LL.length:=by omega
    have hok2:=hgoodQ fun j hj=>hq j hj hj;clear hq hbadQ hgoodQ;obtain⟨MA,hMA⟩:∃MA,MA=Fu ne (LL.take LL.length).flatten:=⟨_,rfl⟩
    rw[<- hMA];repeat' (first|refine Vk fun K hK=> ?_|apply V0|((first|apply gE|apply gS);simp only[zA,simprocAttr, -List.reduceReplicate,Xi hm,plC,rtC,hlt])|(apply Vx;simp only[sb])|(refine hK _ ?_;clear hK K)|refine Vf rfl ?_|clear hK K)
    apply V5;refine Xpw (r.flanks.length) (fun i=>(∀j (hj:j<r.flanks.length),j<i->okF p (r.flanks.take j) r.flanks[j]=true)) (fun m i=>tp [6] (tr 122 41 (tr 16 4 [(121,i64 (i:Int)),(3,.ptr (m+0) 0),(4,.ptr (m+1) 0),(5,.ptr (m+2) 0),(7,.ptr (m+3) 0),(9,.ptr (m+4) 0),(11,.ptr (m+5) 0)]))) (fun m i=>[some (.box 28 (plC p)),some (.box 161 (rtC r)),some (.box 243 (Uj p.secs)),some (.box 169 [i64 en.1,i64 (ne:Int),i64 en.2.2]),some (.box 169 (sgC ex)),some (.box 242 (MA)),none,none]) (by intros;omega) ?_ fun m i hm hi=> ?_
    ·refine X2 ?_ ?_ (by first|rfl|(simp only[af,plC,rtC,sgC];rfl)|simp only[af,plC,rtC,sgC]) rfl rfl rfl<;>simp only[sL,plC,rtC,sgC]
    obtain⟨hi,hq⟩:=hi;simp only[pt];have hw:=Yl (n:=i) 1 1 rfl (by omega);by_cases hltf:i<r.flanks.length
    ·have gi:=Xg jnC r.flanks i [] hltf;have c3:=He p.pts r.flanks[i].1 (by omega);have hokF:okF p (r.flanks.take i) r.flanks[i]=((Bt p.pts r.flanks[i].1).isSome&&(match (r.flanks.take i).getLast? with
      |none=>true
      |some k=>decide (k.1<r.flanks[i].1))&&(r.flanks[i].2==1||r.flanks[i].2==2)):=rfl
     generalize (Bt p.pts r.flanks[i].1).getD (0,0)=X at c3;generalize (Bt p.pts r.flanks[i].1).isSome=S at c3 hokF;have bad:okF p (r.flanks.take i) r.flanks[i]=false->okR p r=false:=fun h=>by rw[hok2,Yz hltf h]
     have next:okF p (r.flanks.take i) r.flanks[i]=true->∀j (hj:j<r.flanks.length),j<i+1->okF p (r.flanks.take j) r.flanks[j]=true:=fun h j hj hji=>by
      by_cases h':j=i
      ·subst h';exact h
      ·exact hq j hj (by omega)
     by_cases h0:i=0
     ·have hd0:decide ((i:Int)>0)=false:=aq (by omega);have hlast:(r.flanks.take i).getLast? =none:=by rw[h0];rfl
      rw[hlast] at hokF;simp only[ef] at hokF;repeat' (first|refine Vk fun K hK=> ?_|apply V0|apply Vb|apply Vs|refine Vq (by kernel_rfl) ?_|((first|apply gE|apply gR|apply gS);simp only[zA,simprocAttr, -List.reduceReplicate,hg,Xi hm,plC,hltf,gi,jnA,jnC,X0,hd0,hw])|(apply Vz;(try refine Or.inr ⟨(by intro h;cases h),?_⟩);refine Vo rfl rfl rfl (fun _ _=>rfl) ?_<;>first|rfl|(rw[bad (by rw[hokF];simp at*;simp_all)];rfl)|skip)|(refine X3 (c3) ?_)|((refine Vg (fun hg=> ?_) (fun hg=> ?_))<;>try simp only[nb] at hg)|(refine hK _ ?_;clear hK K)|refine Vt rfl ?_|refine Vf rfl ?_|(refine Vi rfl (fun hg=> ?_) (fun hg=> ?_))<;>try simp only[hg]|clear hK K)
      ·refine⟨i+1,⟨by omega,next (by rw[hokF];simp at*;simp_all)⟩,by omega,?_⟩;refine Xx [true,true,true,true,true,true,false,false] ?_ ?_<;>intro n_<;>simp only[sM,rtC,sgC]
      ·refine⟨i+1,⟨by omega,next (by rw[hokF];simp at*;simp_all)⟩,by omega,?_⟩;refine Xx [true,true,true,true,true,true,false,false] ?_ ?_<;>intro n_<;>simp only[sM,rtC,sgC]
     ·have hd0:decide ((i:Int)>0)=true:=ay (by omega);have hs1:=X25 (n:=i) 1 1 rfl (by omega) (by omega);have hl1:i - 1<r.flanks.length:=by omega
      have g1:=Xg jnC r.flanks (i - 1) [] hl1;have hlast:(r.flanks.take i).getLast? =some r.flanks[i - 1]:=by rw[List.getLast?_eq_getElem?,aj,Nat.min_eq_left (by omega),bi (by omega),ae hl1]
      rw[hlast] at hokF;dsimp only at hokF;have hge:decide (r.flanks[i - 1].1>=r.flanks[i].1)= !decide (r.flanks[i - 1].1<r.flanks[i].1):=by rw[bp];simp
      generalize decide (r.flanks[i - 1].1<r.flanks[i].1)=D at hokF hge;repeat' (first|refine Vk fun K hK=> ?_|apply V0|apply Vb|apply Vs|refine Vq (by kernel_rfl) ?_|((first|apply gE|apply gR|apply gS);simp only[zA,simprocAttr, -List.reduceReplicate,hg,Xi hm,plC,rtC,hltf,gi,jnA,jnC,X0,hd0,hs1,hl1,g1,hge,hw])|(apply Vz;(try refine Or.inr ⟨(by intro h;cases h),?_⟩);refine Vo rfl rfl rfl (fun _ _=>rfl) ?_<;>first|rfl|(rw[bad (by rw[hokF];clear hge;simp at*;simp_all)];rfl)|skip)|(refine X3 (c3) ?_)|((refine Vg (fun hg=> ?_) (fun hg=> ?_))<;>try simp only[nb] at hg)|(refine hK _ ?_;clear hK K)|refine Vt rfl ?_|refine Vf rfl ?_|(refine Vi rfl (fun hg=> ?_) (fun hg=> ?_))<;>try simp only[hg]|clear hK K)
      ·refine⟨i+1,⟨by omega,next (by rw[hokF];clear hge;simp at*;simp_all)⟩,by omega,?_⟩;refine Xx [true,true,true,true,true,true,false,false] ?_ ?_<;>intro n_<;>simp only[sM,sgC]
      ·refine⟨i+1,⟨by omega,next (by rw[hokF];clear hge;simp at*;simp_all)⟩,by omega,?_⟩;refine Xx [true,true,true,true,true,true,false,false] ?_ ?_<;>intro n_<;>simp only[sM,sgC]
    ·have e:=Q3 (f:=okF p) (l:=r.flanks) fun j hj=>hq j hj (by omega);repeat' (first|refine Vk fun K hK=> ?_|apply V0|((first|apply gE|apply gS);simp only[zA,simprocAttr, -List.reduceReplicate,rtC,hltf])|(apply Vz;(try refine Or.inr ⟨(by intro h;cases h),?_⟩);refine Vo rfl rfl rfl (fun _ _=>rfl) ?_<;>first|rfl|(rw[hok2,e];rfl)|skip)|(apply Vx;simp only[sb])|(refine hK _ ?_;clear hK K)|refine Vf rfl ?_|clear hK K)
end Go.Proofs.YtgpdghbmiihfbaaGreat.Pln
