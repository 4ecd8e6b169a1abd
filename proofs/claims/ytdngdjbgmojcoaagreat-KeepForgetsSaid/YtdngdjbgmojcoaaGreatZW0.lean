/- The layer of abstract values, joined. -/
import Derived.Test.YtdngdjbgmojcoaaGreatZPR
import Derived.Test.YtdngdjbgmojcoaaGreatZP5
namespace Go.Proofs.YtdngdjbgmojcoaaGreat.Pln
set_option linter.unusedVariables false
set_option linter.unusedSimpArgs false
open Go Go.VS Tab
set_option maxHeartbeats 4000000
set_option maxRecDepth 4000
structure Wk where
 inn:Int×Int
 asks:List (Int×Int×Int)
 outs:List (Int×Int)
 lost:Bool
def wkC (p:Pl) (w:Wk) (ka ko:Nat):List AV:=[i64 p.ver,i64 p.par,.sl 3 (p.secs.map Y6) .sh,.sl 2 (p.pts.map jnC) .sh,.sl 3 (p.sgs.map sgC) .sh,.sl 7 (p.rts.map rtC) .sh,i64 w.inn.1,i64 w.inn.2,.sl 3 (w.asks.map sgC) (.own ka),.sl 2 (w.outs.map jnC) (.own ko),bool w.lost]
def Xps (w:Wk) (pt lie at':Int):Wk:=if (decide (pt>0)&&decide (lie>0))=true then{w with asks:=w.asks++[(pt,lie,at')]} else w
theorem Xp1 {P:Program} {n:Nat} {fn:Func} {out:Nat→Option Res} {gives:List (Nat×Res)} {σ:AState} (hr:fn.results= #[]) (hd:σ.df=[]) (h0:σ.n0=n) (ho:σ.out=upd out gives):Zq P n fn out gives (.tup []) .normal σ:=
 Xy (.inl rfl) hr hd h0 (fun k _=>by rw[ho])
theorem Jr (s:Nat→Option Res) {k j:Nat} (r q:Res) (h:k≠j):Xw (Xw s k r) j q=Xw (Xw s j q) k r:=by
 funext i;unfold Xw
 by_cases h1:i=j
 ·have h2:¬i=k:=fun e=>h (e.symm.trans h1)
  simp [h1,Ne.symm h]
 ·simp [h1]
theorem Xk {P:Program} {σ:AState} {K:AV→List (Nat×Res)→Prop} {f:FuncId} {args:List AV} {k j:Nat} {q u:Option Res} {q' u':Res} {r:AV} (h:Xr P f args [(k,q),(j,u)] r [(k,q'),(j,u')]) (h1:σ.look k=q) (h2:σ.look j=u)
  (d1:σ.dom k) (d2:σ.dom j) (n1:q≠some .dead) (n2:u≠some .dead) (hK:K r [(k,q'),(j,u')]):M8 P σ K f args:=
 ⟨_,r,_,h,⟨h1,h2,trivial⟩,⟨d1,d2,trivial⟩,(fun x hx=>by simp at hx;rcases hx with rfl|rfl;exact⟨d1,n1⟩;exact⟨d2,n2⟩),hK⟩
theorem Xpb {P:Program} {σ:AState} {K:AV→List (Nat×Res)→Prop} {f:FuncId} {args:List AV} {k j i:Nat} {q u v:Option Res} {q' u' v':Res} {r:AV} (h:Xr P f args [(k,q),(j,u),(i,v)] r [(k,q'),(j,u'),(i,v')]) (h1:σ.look k=q) (h2:σ.look j=u) (h3:σ.look i=v)
  (d1:σ.dom k) (d2:σ.dom j) (d3:σ.dom i) (n1:q≠some .dead) (n2:u≠some .dead) (n3:v≠some .dead) (hK:K r [(k,q'),(j,u'),(i,v')]):M8 P σ K f args:=
 ⟨_,r,_,h,⟨h1,h2,h3,trivial⟩,⟨d1,d2,d3,trivial⟩,(fun x hx=>by simp at hx;rcases hx with rfl|rfl|rfl;exact⟨d1,n1⟩;exact⟨d2,n2⟩;exact⟨d3,n3⟩),hK⟩
theorem Xpc {P:Program} {σ:AState} {K:AV→List (Nat×Res)→Prop} {f:FuncId} {args:List AV} {k:Nat} {e:TypeId} {cs:List AV} {q':Res} {r:AV} (h:Xr P f args [(k,some (.box e cs))] r [(k,q')]) (h1:σ.look k=some (.box e cs)) (h2:σ.dom k) (hK:K r [(k,q')]):M8 P σ K f args:=
 Sb h h1 h2 (by simp) hK
theorem Xq9 {s:Nat→Option Res} {k j:Nat} {r q:Res} (h:j≠k) (hj:s j=some q):Xw s k r=upd s [(k,r),(j,q)]:=by
 rw[Zc,Zc,Wz,Qb ((Zp s r h).trans hj)]
theorem Xw2 {s:Nat→Option Res} {k j:Nat} {r q:Res} (hk:s k=some r) (hj:s j=some q):s=upd s [(k,r),(j,q)]:=by
 rw[Zc,Qb hk,Zc,Qb hj,Wz]
theorem Xxj (p:Pl) (w:Wk) (k ka ko:Nat) (hne:ka≠k) (pt lie at':Int) (hl:w.asks.length≤1000000):
  Xr Tryz.prog 164 [.ptr k 0,i64 pt,i64 lie,i64 at'] [(k,some (.box 238 (wkC p w ka ko))),(ka,some (.row 179 3 w.asks.length))] (.tup [])
   [(k,.box 238 (wkC p (Xps w pt lie at') ka ko)),(ka,.row 179 3 (Xps w pt lie at').asks.length)]:=by
 have hne':(k=ka)=False:=eq_false (Ne.symm hne)
 have hne2:(ka=k)=False:=eq_false hne
 have lit:∀(σ:AState) (K:AV→List (Nat×Res)→Prop),X1 tab σ K none 128 1 [(0,.agg [i64 pt,i64 lie,i64 at'])]=K (.sl 3 [[i64 pt,i64 lie,i64 at']] .full) []:=fun σ K=>Yk (T:=tab) (ti:=ti128) (te:=ti179) rfl rfl rfl (by decide) (by decide) rfl rfl
 have b1:(w.asks.length+1)*24≤140737488355328:=by omega
 have b2:w.asks.length≤9223372036854775806:=by omega
 unfold Xps
 refine Xc 0 Tryz.func164 rfl fun n out _ _=> ?_
 simp only[sn,Tryz.ntmps164,Nat.reduceAdd,Nat.reduceSub]
 rename_i hneeds hgv
 obtain⟨hk,hka,_⟩:=hneeds
 obtain⟨hkn,hkan,_⟩:=hgv
 repeat' (first|(with_reducible first|refine Vk fun K hK=> ?_|refine V0 ?_|refine Vs ?_|apply And.intro)|((with_reducible first|refine gE ?_|refine gR ?_);simp only[zB,simprocAttr,lit,wkC,hk,hka,X8 hkn,X8 hkan,X7 hkn,X7 hkan,Xa hkn,Xa hkan,Xif,hne',X0,b1,b2])|exact Vn|((with_reducible refine Vz ?_);refine Xy (.inr rfl) rfl rfl rfl (fun _ _=>rfl)<;>first|rfl|skip)|((with_reducible refine Vg (fun hg=> ?_) (fun hg=> ?_))<;>(try simp only[nb] at hg)<;>simp only[zB,simprocAttr,hg])|(refine hK _ ?_;clear hK K)|refine Vt rfl ?_|refine Vf rfl ?_|refine Vi rfl (fun hg=> ?_) (fun hg=> ?_)|clear hK K)
 ·have hg':decide (pt>0)=true:=by assumption
  have hq':decide (lie>0)=true:=by assumption
  rw[hg',hq',Bool.and_self,if_pos rfl]
  refine Xp1 rfl rfl rfl ?_
  simp only[Zc,Wz,sgC,List.map_append,List.map_cons,List.map_nil,List.length_append,List.length_cons,List.length_nil,Nat.zero_add]
  exact Jr _ _ _ hne
 ·have hq':decide (lie>0)=false:=by assumption
  rw[hq',Bool.and_false,if_neg (by decide)]
  exact Xp1 rfl rfl rfl (Xw2 hk hka)
 ·have hq':decide (pt>0)=false:=by assumption
  rw[hq',Bool.false_and,if_neg (by decide)]
  exact Xp1 rfl rfl rfl (Xw2 hk hka)
theorem Y19 (x:Sec) (b:Int):Xr Tryz.prog 201 [Qh x,.ref [i64 b]] [] (bool (x.id==b)) []:=by
 refine Xc 1 Tryz.func201 rfl fun n out _ _=> ?_
 simp only[sn,Tryz.ntmps201,Nat.reduceAdd,Nat.reduceSub]
 repeat' (first|(with_reducible first|refine Vk fun K hK=> ?_|refine V0 ?_|refine Vs ?_|apply And.intro)|((with_reducible first|refine gE ?_|refine gR ?_);simp only[zA,simprocAttr,Qh,Y6])|exact Vn|((with_reducible refine Vz ?_);refine Vo rfl rfl rfl (fun _ _=>rfl) ?_<;>first|rfl|skip)|(refine hK _ ?_;clear hK K)|clear hK K)
def Xp4 (p:Pl) (w:Wk) (id:Int):Sec×Wk:=match Qt p.secs id with
 |some s=>if w.inn.1 !=id then(Xp2,{w with lost:=true}) else(s,w)
 |none=>(Xp2,{w with lost:=true})
theorem Xox (p:Pl) (w:Wk) (id:Int):∃s lost,Xp4 p w id=(s,⟨w.inn,w.asks,w.outs,lost⟩):=by
 unfold Xp4
 split
 ·split
  ·exact⟨_,_,rfl⟩
  ·exact⟨_,_,rfl⟩
 ·exact⟨_,_,rfl⟩
theorem Xsi (p:Pl) (w:Wk) (k ka ko:Nat) (id:Int) (hl:p.secs.length≤1000000):
  Xr Tryz.prog 197 [.ptr k 0,i64 id] [(k,some (.box 238 (wkC p w ka ko)))] (Qh (Xp4 p w id).1) [(k,.box 238 (wkC p (Xp4 p w id).2 ka ko))]:=by
 have ci:=Xu9 p.secs _ [.ref [i64 id]] (fun x=>x.id==id) (hb0 201 (by decide) (by decide)) (by omega) fun x _=>Y19 x id
 rcases Ze (fun x:Sec=>x.id==id) p.secs with ⟨h1,h2,h3⟩|⟨i,hi,h1,h2,h3,h4⟩
 ·rw[h1] at ci
  have e:Xp4 p w id=(Xp2,{w with lost:=true}):=by unfold Xp4 Qt;rw[h2]
  rw[e]
  refine Xc 2 Tryz.func197 rfl fun n out _ _=> ?_
  simp only[sn,Tryz.ntmps197,Nat.reduceAdd,Nat.reduceSub]
  rename_i hneeds hgv
  obtain⟨hk,_⟩:=hneeds
  obtain⟨hkn,_⟩:=hgv
  refine Vy fun K hK=> ?_
  simp only[zA,simprocAttr]
  repeat' (first|(with_reducible refine hK _ ?_;clear hK K)|with_reducible apply And.intro)
  refine Yy (Zi (i:=0) (t:=3) 1 (.ref [i64 id]) rfl rfl (.ptr 0)) ?_
  simp only[s_0,s_s]
  repeat' (first|(with_reducible first|refine Vk fun K hK=> ?_|refine V0 ?_|refine Vs ?_|apply And.intro|refine Vq (by kernel_rfl) ?_)|((with_reducible first|refine gE ?_|refine gR ?_);simp only[zA,simprocAttr,wkC,hk,X8 hkn,X7 hkn,Xa hkn,X0,Qh,Y6,Xp2,Int.reduceNeg])|exact Vn|((with_reducible refine Vz ?_);(first|refine Xu (.inr rfl) rfl rfl rfl (fun _ _=>rfl) ok75 (k:=n+1) (off:=0) rfl (Xb _ (by simp)) (X6 _ (Nat.le_refl _) 1) rfl ?_|refine Xu (.inr rfl) rfl rfl rfl (fun _ _=>rfl) ok75 (k:=m+1) (off:=0) rfl (Xb _ (by simp)) (X6 _ hm 1) rfl ?_)<;>first|rfl|exact AV.le.rfl _|(simp only[sL,List.map_nil,Qh,Y6,Xp2,List.map_nil];done)|rfl|skip)|(refine X3 (ci) ?_)|((with_reducible refine Vg (fun hg=> ?_) (fun hg=> ?_))<;>(try simp only[nb] at hg)<;>simp only[zA,simprocAttr,hg,wkC,hk,X8 hkn,X7 hkn,Xa hkn,Xif,X0,Qh,Y6,Xp2,List.map_nil,Int.reduceNeg,decide_true])|(refine hK _ ?_;clear hK K)|refine Vt rfl ?_|refine Vf rfl ?_|refine Vi rfl (fun hg=> ?_) (fun hg=> ?_)|clear hK K)
 ·rw[h1] at ci
  have hi0:decide ((i:Int)<0)=false:=decide_eq_false (by omega)
  have gi:=Xg Y6 p.secs i [] hi
  have e:Xp4 p w id=if w.inn.1 !=id then(Xp2,{w with lost:=true}) else(p.secs[i],w):=by unfold Xp4 Qt;rw[h2]
  cases hb:(w.inn.1 !=id) with
  |true=>
   rw[e,hb,if_pos rfl]
   refine Xc 2 Tryz.func197 rfl fun n out _ _=> ?_
   simp only[sn,Tryz.ntmps197,Nat.reduceAdd,Nat.reduceSub]
   rename_i hneeds hgv
   obtain⟨hk,_⟩:=hneeds
   obtain⟨hkn,_⟩:=hgv
   refine Vy fun K hK=> ?_
   simp only[zA,simprocAttr]
   repeat' (first|(with_reducible refine hK _ ?_;clear hK K)|with_reducible apply And.intro)
   refine Yy (Zi (i:=0) (t:=3) 1 (.ref [i64 id]) rfl rfl (.ptr 0)) ?_
   simp only[s_0,s_s]
   repeat' (first|(with_reducible first|refine Vk fun K hK=> ?_|refine V0 ?_|refine Vs ?_|apply And.intro|refine Vq (by kernel_rfl) ?_)|((with_reducible first|refine gE ?_|refine gR ?_);simp only[zA,simprocAttr,wkC,hk,hb,X8 hkn,X7 hkn,Xa hkn,X0,Qh,Y6,Xp2,hi0])|exact Vn|((with_reducible refine Vz ?_);(first|refine Xu (.inr rfl) rfl rfl rfl (fun _ _=>rfl) ok75 (k:=n+1) (off:=0) rfl (Xb _ (by simp)) (X6 _ (Nat.le_refl _) 1) rfl ?_|refine Xu (.inr rfl) rfl rfl rfl (fun _ _=>rfl) ok75 (k:=m+1) (off:=0) rfl (Xb _ (by simp)) (X6 _ hm 1) rfl ?_)<;>first|rfl|exact AV.le.rfl _|(simp only[sL,List.map_nil,Qh,Y6,Xp2,List.map_nil];done)|rfl|skip)|(refine X3 (ci) ?_)|((with_reducible refine Vg (fun hg=> ?_) (fun hg=> ?_))<;>(try simp only[nb] at hg)<;>simp only[zA,simprocAttr,hg,wkC,hk,hb,X8 hkn,X7 hkn,Xa hkn,Xif,X0,Qh,Y6,Xp2,List.map_nil,hi0])|(refine hK _ ?_;clear hK K)|refine Vt rfl ?_|refine Vf rfl ?_|refine Vi rfl (fun hg=> ?_) (fun hg=> ?_)|clear hK K)
  |false=>
   rw[e,hb,if_neg (by decide)]
   refine Xc 2 Tryz.func197 rfl fun n out _ _=> ?_
   simp only[sn,Tryz.ntmps197,Nat.reduceAdd,Nat.reduceSub]
   rename_i hneeds hgv
   obtain⟨hk,_⟩:=hneeds
   obtain⟨hkn,_⟩:=hgv
   refine Vy fun K hK=> ?_
   simp only[zA,simprocAttr]
   repeat' (first|(with_reducible refine hK _ ?_;clear hK K)|with_reducible apply And.intro)
   refine Yy (Zi (i:=0) (t:=3) 1 (.ref [i64 id]) rfl rfl (.ptr 0)) ?_
   simp only[s_0,s_s]
   repeat' (first|(with_reducible first|refine Vk fun K hK=> ?_|refine V0 ?_|refine Vs ?_|apply And.intro|refine Vq (by kernel_rfl) ?_)|((with_reducible first|refine gE ?_|refine gR ?_);simp only[zA,simprocAttr,wkC,hk,hb,X8 hkn,X7 hkn,X0,Qh,Y6,hi0,hi,gi])|exact Vn|((with_reducible refine Vz ?_);(first|refine Xu (.inr rfl) rfl rfl rfl (fun _ _=>rfl) ok75 (k:=n+1) (off:=0) rfl (Xb _ (by simp)) (X6 _ (Nat.le_refl _) 1) rfl ?_|refine Xu (.inr rfl) rfl rfl rfl (fun _ _=>rfl) ok75 (k:=m+1) (off:=0) rfl (Xb _ (by simp)) (X6 _ hm 1) rfl ?_)<;>first|rfl|exact AV.le.rfl _|(simp only[sL,ti75,List.map_nil,wkC,hk,hb,X8 hkn,X7 hkn,Xa hkn,Xif,if_true,X0,Qh,Y6,hi0,hi,gi,List.length_map];done)|rfl|skip)|(refine X3 (ci) ?_)|((with_reducible refine Vg (fun hg=> ?_) (fun hg=> ?_))<;>(try simp only[nb] at hg)<;>simp only[zA,simprocAttr,hg,wkC,hk,hb,X8 hkn,X7 hkn,Xa hkn,Xif,X0,Qh,Y6,hi0,hi,gi,List.length_map])|(refine hK _ ?_;clear hK K)|refine Vt rfl ?_|refine Vf rfl ?_|refine Vi rfl (fun hg=> ?_) (fun hg=> ?_)|clear hK K)
   refine Yd (Xu (.inr rfl) rfl rfl rfl (fun j _=>by rw[Zc,Wz,Qb hk]) ok75 (k:=n+1) (off:=0) rfl (Xb _ (by simp)) (X6 _ (Nat.le_refl _) 1) rfl (AV.le.rfl _))
def Xpt (p:Pl) (w:Wk) (id at':Int):Wk:=if (!(Xp4 p w id).2.lost&&decide ((Xp4 p w id).2.inn.2>0))=true then Xps (Xp4 p w id).2 (Xp4 p w id).1.pt (Xp4 p w id).2.inn.2 at' else(Xp4 p w id).2
theorem Y1a (p:Pl) (w:Wk) (k ka ko:Nat) (hne:ka≠k) (id at':Int) (hp:p.secs.length≤1000000) (hl:w.asks.length≤1000000):
  Xr Tryz.prog 162 [.ptr k 0,i64 id,i64 at'] [(k,some (.box 238 (wkC p w ka ko))),(ka,some (.row 179 3 w.asks.length))] (.tup [])
   [(k,.box 238 (wkC p (Xpt p w id at') ka ko)),(ka,.row 179 3 (Xpt p w id at').asks.length)]:=by
 have hne':(k=ka)=False:=eq_false (Ne.symm hne)
 have hne2:(ka=k)=False:=eq_false hne
 have cs:=Xsi p w k ka ko id hp
 unfold Xpt
 obtain⟨s,lost,e⟩:=Xox p w id
 rw[e] at cs⊢
 clear e
 dsimp only at cs⊢
 cases lost with
 |true=>
  rw[Bool.not_true,Bool.false_and,if_neg (by decide)]
  refine Xc 1 Tryz.func162 rfl fun n out _ _=> ?_
  simp only[sn,Tryz.ntmps162,Nat.reduceAdd,Nat.reduceSub]
  rename_i hneeds hgv
  obtain⟨hk,hka,_⟩:=hneeds
  obtain⟨hkn,hkan,_⟩:=hgv
  repeat' (first|(with_reducible first|refine Vk fun K hK=> ?_|refine V0 ?_|refine Vs ?_|apply And.intro|refine Vq (by kernel_rfl) ?_)|((with_reducible first|refine gE ?_|refine gR ?_);simp only[zA,simprocAttr,wkC,Qh,Y6,X8 hkn,X7 hkn,Xa hkn,Xif,X0])|exact Vn|((with_reducible refine Vz ?_);refine Xy (.inr rfl) rfl rfl rfl (fun _ _=>rfl)<;>first|rfl|skip)|(refine Xpc cs (by rw[X8 hkn];exact hk) (by rw[X7 hkn];trivial) ?_)|((with_reducible refine Vg (fun hg=> ?_) (fun hg=> ?_))<;>(try simp only[nb] at hg)<;>simp only[zA,simprocAttr,hg,wkC,Qh,Y6,hk,hka,X8 hkn,X8 hkan,X7 hkn,X7 hkan,Xa hkn,Xa hkan,Xif,hne',hne2,X0,Bool.not_true,Bool.not_false])|(refine hK _ ?_;clear hK K)|refine Vt rfl ?_|refine Vf rfl ?_|refine Vi rfl (fun hg=> ?_) (fun hg=> ?_)|clear hK K)
  exact Xp1 rfl rfl rfl (Xq9 hne hka)
 |false=>
  rw[Bool.not_false,Bool.true_and]
  cases hb:decide (w.inn.2>0) with
  |false=>
   rw[if_neg (by decide)]
   refine Xc 1 Tryz.func162 rfl fun n out _ _=> ?_
   simp only[sn,Tryz.ntmps162,Nat.reduceAdd,Nat.reduceSub]
   rename_i hneeds hgv
   obtain⟨hk,hka,_⟩:=hneeds
   obtain⟨hkn,hkan,_⟩:=hgv
   repeat' (first|(with_reducible first|refine Vk fun K hK=> ?_|refine V0 ?_|refine Vs ?_|apply And.intro|refine Vq (by kernel_rfl) ?_)|((with_reducible first|refine gE ?_|refine gR ?_);simp only[zA,simprocAttr,wkC,Qh,Y6,hb,X8 hkn,X7 hkn,Xa hkn,Xif,X0])|exact Vn|((with_reducible refine Vz ?_);refine Xy (.inr rfl) rfl rfl rfl (fun _ _=>rfl)<;>first|rfl|skip)|(refine Xpc cs (by rw[X8 hkn];exact hk) (by rw[X7 hkn];trivial) ?_)|((with_reducible refine Vg (fun hg=> ?_) (fun hg=> ?_))<;>(try simp only[nb] at hg)<;>simp only[zA,simprocAttr,hg,wkC,Qh,Y6,hb,hk,hka,X8 hkn,X8 hkan,X7 hkn,X7 hkan,Xa hkn,Xa hkan,Xif,hne',hne2,X0,Bool.not_true,Bool.not_false])|(refine hK _ ?_;clear hK K)|refine Vt rfl ?_|refine Vf rfl ?_|refine Vi rfl (fun hg=> ?_) (fun hg=> ?_)|clear hK K)
   exact Xp1 rfl rfl rfl (Xq9 hne hka)
  |true=>
   rw[if_pos rfl]
   have ca:=Xxj p ⟨w.inn,w.asks,w.outs,false⟩ k ka ko hne s.pt w.inn.2 at' hl
   generalize Xps ⟨w.inn,w.asks,w.outs,false⟩ s.pt w.inn.2 at'=W2 at*
   simp only[wkC] at ca
   refine Xc 1 Tryz.func162 rfl fun n out _ _=> ?_
   simp only[sn,Tryz.ntmps162,Nat.reduceAdd,Nat.reduceSub]
   rename_i hneeds hgv
   obtain⟨hk,hka,_⟩:=hneeds
   obtain⟨hkn,hkan,_⟩:=hgv
   repeat' (first|(with_reducible first|refine Vk fun K hK=> ?_|refine V0 ?_|refine Vs ?_|apply And.intro|refine Xc0 (id:=2) Xj [] 9 [2,7] follows (by kernel_rfl) (by kernel_rfl) ?_|refine Vq (by kernel_rfl) ?_)|((with_reducible first|refine gE ?_|refine gR ?_|refine gT ?_|refine gU ?_);simp only[zA,simprocAttr,wkC,Qh,Y6,hb,X8 hkn,X7 hkn,Xa hkn,Xa hkan,Xif,X0])|exact Vn|((with_reducible refine Vz ?_);refine Xy (.inr rfl) rfl rfl rfl (fun _ _=>rfl)<;>first|rfl|skip)|(refine Xpc cs (by rw[X8 hkn];exact hk) (by rw[X7 hkn];trivial) ?_)|(refine Xk ca (by rw[X8 hkn,Xif,if_pos rfl]) (by rw[X8 hkan,Xif,if_neg hne];exact hka) (by rw[X7 hkn];trivial) (by rw[X7 hkan];trivial) (by simp) (by simp) ?_)|((with_reducible refine Vg (fun hg=> ?_) (fun hg=> ?_))<;>(try simp only[nb] at hg)<;>simp only[zA,simprocAttr,hg,wkC,Qh,Y6,hb,hk,hka,X8 hkn,X8 hkan,X7 hkn,X7 hkan,Xa hkn,Xa hkan,Xif,hne',hne2,X0,Bool.not_true,Bool.not_false])|(refine hK _ ?_;clear hK K)|refine Vt rfl ?_|refine Vf rfl ?_|refine Vi rfl (fun hg=> ?_) (fun hg=> ?_)|clear hK K)
   refine Xp1 rfl rfl rfl ?_
   simp only[Zc,Wz,Jp]
end Go.Proofs.YtdngdjbgmojcoaaGreat.Pln
