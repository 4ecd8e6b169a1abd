/- The layer of abstract values, joined. -/
import Derived.Test.YtdngdjbgmojcoaaGreatZPR
import Derived.Test.YtdngdjbgmojcoaaGreatZP5
import Derived.WalkKit
import Derived.Lib.Walk
import Derived.Lib.SliceRun
import Derived.Lib.AppendZerosOnto
namespace Go.Proofs.YtdngdjbgmojcoaaGreat.Pln
set_option linter.all false
set_option maxHeartbeats 8000000
set_option maxRecDepth 4000
open Go Go.VS Tab
attribute [local irreducible] AWp Xp0 Pg X5c Qy Lt Tp FdT Eb
structure Wk where
 inn:Int×Int
 asks:List (Int×Int×Int)
 outs:List (Int×Int)
 lost:Bool
def wkC (p:Pl) (w:Wk) (ka ko:Nat):List AV:=[i64 p.ver,i64 p.par,.sl 3 (p.secs.map Y6) .sh,.sl 2 (p.pts.map jnC) .sh,.sl 3 (p.sgs.map sgC) .sh,.sl 7 (p.rts.map rtC) .sh,i64 w.inn.1,i64 w.inn.2,.sl 3 (w.asks.map sgC) (.own ka),.sl 2 (w.outs.map jnC) (.own ko),bool w.lost]
def Xps (w:Wk) (pt lie at':Int):Wk:=if (decide (pt>0)&&decide (lie>0))=true then{w with asks:=w.asks++[(pt,lie,at')]} else w
theorem Xp1 {P:Program} {n:Nat} {fn:Func} {out:Nat->Option Res} {gives:List (Nat×Res)} {σ:AState} (hr:fn.results= #[]) (hd:σ.df=[]) (h0:σ.n0=n) (ho:σ.out=upd out gives):Zq P n fn out gives (.tup []) .normal σ:=
 Xy (.inl rfl) hr hd h0 (fun k _=>by rw[ho])
theorem Jr (s:Nat->Option Res) {k j:Nat} (r q:Res) (h:k≠j):Xw (Xw s k r) j q=Xw (Xw s j q) k r:=by
 funext i;unfold Xw;by_cases h1:i=j
 ·have h2:¬i=k:=fun e=>h (e.symm.trans h1);simp [h1,Ne.symm h]
 ·simp [h1]
theorem Xk {P:Program} {σ:AState} {K:AV->List (Nat×Res)->Prop} {f:FuncId} {args:List AV} {k j:Nat} {q u:Option Res} {q' u':Res} {r:AV} (h:Xr P f args [(k,q),(j,u)] r [(k,q'),(j,u')]) (h1:σ.look k=q) (h2:σ.look j=u)
  (d1:σ.dom k) (d2:σ.dom j) (n1:q≠some .dead) (n2:u≠some .dead) (hK:K r [(k,q'),(j,u')]):M8 P σ K f args:=
 ⟨_,r,_,h,⟨h1,h2,trivial⟩,⟨d1,d2,trivial⟩,(fun x hx=>by simp at hx;rcases hx with rfl|rfl;exact⟨d1,n1⟩;exact⟨d2,n2⟩),hK⟩
theorem Xpb {P:Program} {σ:AState} {K:AV->List (Nat×Res)->Prop} {f:FuncId} {args:List AV} {k j i:Nat} {q u v:Option Res} {q' u' v':Res} {r:AV} (h:Xr P f args [(k,q),(j,u),(i,v)] r [(k,q'),(j,u'),(i,v')]) (h1:σ.look k=q) (h2:σ.look j=u) (h3:σ.look i=v)
  (d1:σ.dom k) (d2:σ.dom j) (d3:σ.dom i) (n1:q≠some .dead) (n2:u≠some .dead) (n3:v≠some .dead) (hK:K r [(k,q'),(j,u'),(i,v')]):M8 P σ K f args:=
 ⟨_,r,_,h,⟨h1,h2,h3,trivial⟩,⟨d1,d2,d3,trivial⟩,(fun x hx=>by simp at hx;rcases hx with rfl|rfl|rfl;exact⟨d1,n1⟩;exact⟨d2,n2⟩;exact⟨d3,n3⟩),hK⟩
theorem Xpc {P:Program} {σ:AState} {K:AV->List (Nat×Res)->Prop} {f:FuncId} {args:List AV} {k:Nat} {e:TypeId} {cs:List AV} {q':Res} {r:AV} (h:Xr P f args [(k,some (.box e cs))] r [(k,q')]) (h1:σ.look k=some (.box e cs)) (h2:σ.dom k) (hK:K r [(k,q')]):M8 P σ K f args:=
 Sb h h1 h2 (by simp) hK
theorem Xq9 {s:Nat->Option Res} {k j:Nat} {r q:Res} (h:j≠k) (hj:s j=some q):Xw s k r=upd s [(k,r),(j,q)]:=by
 rw[Zc,Zc,Wz,Qb ((Zp s r h).trans hj)]
theorem Xw2 {s:Nat->Option Res} {k j:Nat} {r q:Res} (hk:s k=some r) (hj:s j=some q):s=upd s [(k,r),(j,q)]:=by
 rw[Zc,Qb hk,Zc,Qb hj,Wz]
theorem Xxj (p:Pl) (w:Wk) (k ka ko:Nat) (hne:ka≠k) (pt lie at':Int) (hl:w.asks.length<=1000000):
  Xr Tryz.prog 164 [.ptr k 0,i64 pt,i64 lie,i64 at'] [(k,some (.box 238 (wkC p w ka ko))),(ka,some (.row 179 3 w.asks.length))] (.tup [])
   [(k,.box 238 (wkC p (Xps w pt lie at') ka ko)),(ka,.row 179 3 (Xps w pt lie at').asks.length)]:=by
 have hne':(k=ka)=False:=ef (Ne.symm hne);have hne2:(ka=k)=False:=ef hne;have lit:∀(σ:AState) (K:AV->List (Nat×Res)->Prop),X1 tab σ K none 128 1 [(0,.agg [i64 pt,i64 lie,i64 at'])]=K (.sl 3 [[i64 pt,i64 lie,i64 at']] .full) []:=fun σ K=>Yk (T:=tab) (ti:=ti128) (te:=ti179) rfl rfl rfl (by decide) (by decide) rfl rfl;have b1:(w.asks.length+1)*24<=140737488355328:=by omega
 have b2:w.asks.length<=9223372036854775806:=by omega
 unfold Xps;refine Xc 0 Tryz.func164 rfl fun n out _ _=> ?_;simp only[sn,Tryz.ntmps164,simprocAttr];rename_i hneeds hgv;obtain⟨hk,hka,_⟩:=hneeds;obtain⟨hkn,hkan,_⟩:=hgv;repeat' (first|refine Vk fun K hK=> ?_|apply V0|apply Vs|with_reducible apply ab|((first|apply gE|apply gR);simp only[zB,simprocAttr,lit,wkC,hk,hka,X8 hkn,X8 hkan,X7 hkn,X7 hkan,Xa hkn,Xa hkan,Xif,hne',X0,b1,b2])|exact Vn|(apply Vz;refine Xy (.inr rfl) rfl rfl rfl (fun _ _=>rfl)<;>first|rfl|skip)|((refine Vg (fun hg=> ?_) (fun hg=> ?_))<;>(try simp only[nb] at hg)<;>simp only[zB,simprocAttr,hg])|(refine hK _ ?_;clear hK K)|refine Vt rfl ?_|refine Vf rfl ?_|refine Vi rfl (fun hg=> ?_) (fun hg=> ?_)|clear hK K)
 ·have hg':decide (pt>0)=true:=by assumption
  have hq':decide (lie>0)=true:=by assumption
  rw[hg',hq',Bool.and_self,if_pos rfl];refine Xp1 rfl rfl rfl ?_;simp only[Zc,Wz,sgC,aw,bk,ag,ac,List.length_cons,List.length_nil,Nat.zero_add];exact Jr _ _ _ hne
 ·have hq':decide (lie>0)=false:=by assumption
  rw[hq',dm,if_neg (by decide)];exact Xp1 rfl rfl rfl (Xw2 hk hka)
 ·have hq':decide (pt>0)=false:=by assumption
  rw[hq',dc,if_neg (by decide)];exact Xp1 rfl rfl rfl (Xw2 hk hka)
theorem Y19 (x:Sec) (b:Int):Xr Tryz.prog 201 [Qh x,.ref [i64 b]] [] (bool (x.id==b)) []:=by
 refine Xc 1 Tryz.func201 rfl fun n out _ _=> ?_;simp only[sn,Tryz.ntmps201,simprocAttr];repeat' (first|refine Vk fun K hK=> ?_|apply V0|apply Vs|with_reducible apply ab|((first|apply gE|apply gR);simp only[zA,simprocAttr,Qh,Y6])|exact Vn|(apply Vz;refine Vo rfl rfl rfl (fun _ _=>rfl) ?_<;>first|rfl|skip)|(refine hK _ ?_;clear hK K)|clear hK K)
def Xp4 (p:Pl) (w:Wk) (id:Int):Sec×Wk:=match Qt p.secs id with
 |some s=>if w.inn.1 !=id then(Xp2,{w with lost:=true}) else(s,w)
 |none=>(Xp2,{w with lost:=true})
theorem Xox (p:Pl) (w:Wk) (id:Int):∃s lost,Xp4 p w id=(s,⟨w.inn,w.asks,w.outs,lost⟩):=by
 unfold Xp4;split
 ·split
  ·exact⟨_,_,rfl⟩
  ·exact⟨_,_,rfl⟩
 ·exact⟨_,_,rfl⟩
theorem Xsi (p:Pl) (w:Wk) (k ka ko:Nat) (id:Int) (hl:p.secs.length<=1000000):
  Xr Tryz.prog 197 [.ptr k 0,i64 id] [(k,some (.box 238 (wkC p w ka ko)))] (Qh (Xp4 p w id).1) [(k,.box 238 (wkC p (Xp4 p w id).2 ka ko))]:=by
 have ci:=Xu9 p.secs _ [.ref [i64 id]] (fun x=>x.id==id) (hb0 201 (by decide) (by decide)) (by omega) fun x _=>Y19 x id;rcases Ze (fun x:Sec=>x.id==id) p.secs with ⟨h1,h2,h3⟩|⟨i,hi,h1,h2,h3,h4⟩
 ·rw[h1] at ci;have e:Xp4 p w id=(Xp2,{w with lost:=true}):=by unfold Xp4 Qt;rw[h2]
  rw[e];refine Xc 2 Tryz.func197 rfl fun n out _ _=> ?_;simp only[sn,Tryz.ntmps197,simprocAttr];have hg:=Nat.le_refl 0;rename_i hneeds hgv;obtain⟨hk,_⟩:=hneeds;obtain⟨hkn,_⟩:=hgv;refine Vy fun K hK=> ?_;simp only[zA,simprocAttr];repeat' (first|(refine hK _ ?_;clear hK K)|with_reducible apply ab)
  refine Yy (Zi (i:=0) (t:=3) 1 (.ref [i64 id]) rfl rfl (.ptr 0)) ?_;simp only[s_0,s_s];repeat' (first|refine Vk fun K hK=> ?_|apply V0|apply Vs|with_reducible apply ab|refine Vq (by kernel_rfl) ?_|((first|apply gE|apply gR|apply gS);simp only[zA,simprocAttr,wkC,hk,X8 hkn,X7 hkn,Xa hkn,X0,Qh,Y6,Xp2,Int.reduceNeg])|exact Vn|(apply Vz;(first|refine Xu (.inr rfl) rfl rfl rfl (fun _ _=>rfl) ok75 (k:=n+1) (off:=0) rfl (Xb _ (by simp)) (X6 _ (Nat.le_refl _) 1) rfl ?_|refine Xu (.inr rfl) rfl rfl rfl (fun _ _=>rfl) ok75 (k:=m+1) (off:=0) rfl (Xb _ (by simp)) (X6 _ hm 1) rfl ?_)<;>first|rfl|exact AV.le.rfl _|(simp only[sL,ag,Qh,Y6,Xp2,ag];done)|rfl|skip)|(refine X3 (ci) ?_)|((refine Vg (fun hg=> ?_) (fun hg=> ?_))<;>try simp only[nb] at hg)|(refine hK _ ?_;clear hK K)|refine Vt rfl ?_|refine Vf rfl ?_|refine Vi rfl (fun hg=> ?_) (fun hg=> ?_)|clear hK K)
 ·rw[h1] at ci;have hi0:decide ((i:Int)<0)=false:=ak (by omega);have gi:=Xg Y6 p.secs i [] hi;have e:Xp4 p w id=if w.inn.1 !=id then(Xp2,{w with lost:=true}) else(p.secs[i],w):=by unfold Xp4 Qt;rw[h2]
  cases hb:(w.inn.1 !=id) with
  |true=>
   rw[e,hb,if_pos rfl];refine Xc 2 Tryz.func197 rfl fun n out _ _=> ?_;simp only[sn,Tryz.ntmps197,simprocAttr];have hg:=Nat.le_refl 0;rename_i hneeds hgv;obtain⟨hk,_⟩:=hneeds;obtain⟨hkn,_⟩:=hgv;refine Vy fun K hK=> ?_;simp only[zA,simprocAttr];repeat' (first|(refine hK _ ?_;clear hK K)|with_reducible apply ab)
   refine Yy (Zi (i:=0) (t:=3) 1 (.ref [i64 id]) rfl rfl (.ptr 0)) ?_;simp only[s_0,s_s];repeat' (first|refine Vk fun K hK=> ?_|apply V0|apply Vs|with_reducible apply ab|refine Vq (by kernel_rfl) ?_|((first|apply gE|apply gR|apply gS);simp only[zA,simprocAttr,wkC,hk,hb,X8 hkn,X7 hkn,Xa hkn,X0,Qh,Y6,Xp2,hi0])|exact Vn|(apply Vz;(first|refine Xu (.inr rfl) rfl rfl rfl (fun _ _=>rfl) ok75 (k:=n+1) (off:=0) rfl (Xb _ (by simp)) (X6 _ (Nat.le_refl _) 1) rfl ?_|refine Xu (.inr rfl) rfl rfl rfl (fun _ _=>rfl) ok75 (k:=m+1) (off:=0) rfl (Xb _ (by simp)) (X6 _ hm 1) rfl ?_)<;>first|rfl|exact AV.le.rfl _|(simp only[sL,ag,Qh,Y6,Xp2,ag];done)|rfl|skip)|(refine X3 (ci) ?_)|((refine Vg (fun hg=> ?_) (fun hg=> ?_))<;>try simp only[nb] at hg)|(refine hK _ ?_;clear hK K)|refine Vt rfl ?_|refine Vf rfl ?_|refine Vi rfl (fun hg=> ?_) (fun hg=> ?_)|clear hK K)
  |false=>
   rw[e,hb,if_neg (by decide)];refine Xc 2 Tryz.func197 rfl fun n out _ _=> ?_;simp only[sn,Tryz.ntmps197,simprocAttr];have hg:=Nat.le_refl 0;rename_i hneeds hgv;obtain⟨hk,_⟩:=hneeds;obtain⟨hkn,_⟩:=hgv;refine Vy fun K hK=> ?_;simp only[zA,simprocAttr];repeat' (first|(refine hK _ ?_;clear hK K)|with_reducible apply ab)
   refine Yy (Zi (i:=0) (t:=3) 1 (.ref [i64 id]) rfl rfl (.ptr 0)) ?_;simp only[s_0,s_s];repeat' (first|refine Vk fun K hK=> ?_|apply V0|apply Vs|with_reducible apply ab|refine Vq (by kernel_rfl) ?_|((first|apply gE|apply gR|apply gS);simp only[zA,simprocAttr,wkC,hk,hb,X8 hkn,X7 hkn,X0,Qh,Y6,hi0,hi,gi])|exact Vn|(apply Vz;(first|refine Xu (.inr rfl) rfl rfl rfl (fun _ _=>rfl) ok75 (k:=n+1) (off:=0) rfl (Xb _ (by simp)) (X6 _ (Nat.le_refl _) 1) rfl ?_|refine Xu (.inr rfl) rfl rfl rfl (fun _ _=>rfl) ok75 (k:=m+1) (off:=0) rfl (Xb _ (by simp)) (X6 _ hm 1) rfl ?_)<;>first|rfl|exact AV.le.rfl _|(simp only[sL,ti75,ag,wkC,hk,hb,X8 hkn,X7 hkn,Xa hkn,Xif,if_true,X0,Qh,Y6,hi0,hi,gi,ai];done)|rfl|skip)|(refine X3 (ci) ?_)|((refine Vg (fun hg=> ?_) (fun hg=> ?_))<;>try simp only[nb] at hg)|(refine hK _ ?_;clear hK K)|refine Vt rfl ?_|refine Vf rfl ?_|refine Vi rfl (fun hg=> ?_) (fun hg=> ?_)|clear hK K)
   refine Yd (Xu (.inr rfl) rfl rfl rfl (fun j _=>by rw[Zc,Wz,Qb hk]) ok75 (k:=n+1) (off:=0) rfl (Xb _ (by simp)) (X6 _ (Nat.le_refl _) 1) rfl (AV.le.rfl _))
def Xpt (p:Pl) (w:Wk) (id at':Int):Wk:=if (!(Xp4 p w id).2.lost&&decide ((Xp4 p w id).2.inn.2>0))=true then Xps (Xp4 p w id).2 (Xp4 p w id).1.pt (Xp4 p w id).2.inn.2 at' else(Xp4 p w id).2
theorem Y1a (p:Pl) (w:Wk) (k ka ko:Nat) (hne:ka≠k) (id at':Int) (hp:p.secs.length<=1000000) (hl:w.asks.length<=1000000):
  Xr Tryz.prog 162 [.ptr k 0,i64 id,i64 at'] [(k,some (.box 238 (wkC p w ka ko))),(ka,some (.row 179 3 w.asks.length))] (.tup [])
   [(k,.box 238 (wkC p (Xpt p w id at') ka ko)),(ka,.row 179 3 (Xpt p w id at').asks.length)]:=by
 have hne':(k=ka)=False:=ef (Ne.symm hne);have hne2:(ka=k)=False:=ef hne;have cs:=Xsi p w k ka ko id hp;unfold Xpt;obtain⟨s,lost,e⟩:=Xox p w id;rw[e] at cs⊢;clear e;dsimp only at cs⊢;cases lost with
 |true=>
  rw[dy,dc,if_neg (by decide)];refine Xc 1 Tryz.func162 rfl fun n out _ _=> ?_;simp only[sn,Tryz.ntmps162,simprocAttr];have hg:=Nat.le_refl 0;rename_i hneeds hgv;obtain⟨hk,hka,_⟩:=hneeds;obtain⟨hkn,hkan,_⟩:=hgv;repeat' (first|refine Vk fun K hK=> ?_|apply V0|apply Vs|with_reducible apply ab|refine Vq (by kernel_rfl) ?_|((first|apply gE|apply gR|apply gS);simp only[zA,simprocAttr,wkC,Qh,Y6,X8 hkn,X7 hkn,Xa hkn,Xif,X0])|exact Vn|(apply Vz;refine Xy (.inr rfl) rfl rfl rfl (fun _ _=>rfl)<;>first|rfl|skip)|(refine Xpc cs (by rw[X8 hkn];exact hk) (by rw[X7 hkn];trivial) ?_)|((refine Vg (fun hg=> ?_) (fun hg=> ?_))<;>try simp only[nb] at hg)|(refine hK _ ?_;clear hK K)|refine Vt rfl ?_|refine Vf rfl ?_|refine Vi rfl (fun hg=> ?_) (fun hg=> ?_)|clear hK K)
  exact Xp1 rfl rfl rfl (Xq9 hne hka)
 |false=>
  rw[es,bo];cases hb:decide (w.inn.2>0) with
  |false=>
   rw[if_neg (by decide)];refine Xc 1 Tryz.func162 rfl fun n out _ _=> ?_;simp only[sn,Tryz.ntmps162,simprocAttr];have hg:=Nat.le_refl 0;rename_i hneeds hgv;obtain⟨hk,hka,_⟩:=hneeds;obtain⟨hkn,hkan,_⟩:=hgv;repeat' (first|refine Vk fun K hK=> ?_|apply V0|apply Vs|with_reducible apply ab|refine Vq (by kernel_rfl) ?_|((first|apply gE|apply gR|apply gS);simp only[zA,simprocAttr,wkC,Qh,Y6,hb,X8 hkn,X7 hkn,Xa hkn,Xif,X0])|exact Vn|(apply Vz;refine Xy (.inr rfl) rfl rfl rfl (fun _ _=>rfl)<;>first|rfl|skip)|(refine Xpc cs (by rw[X8 hkn];exact hk) (by rw[X7 hkn];trivial) ?_)|((refine Vg (fun hg=> ?_) (fun hg=> ?_))<;>try simp only[nb] at hg)|(refine hK _ ?_;clear hK K)|refine Vt rfl ?_|refine Vf rfl ?_|refine Vi rfl (fun hg=> ?_) (fun hg=> ?_)|clear hK K)
   exact Xp1 rfl rfl rfl (Xq9 hne hka)
  |true=>
   rw[if_pos rfl];have ca:=Xxj p ⟨w.inn,w.asks,w.outs,false⟩ k ka ko hne s.pt w.inn.2 at' hl;generalize Xps ⟨w.inn,w.asks,w.outs,false⟩ s.pt w.inn.2 at'=W2 at*;simp only[wkC] at ca;refine Xc 1 Tryz.func162 rfl fun n out _ _=> ?_;simp only[sn,Tryz.ntmps162,simprocAttr];have hg:=Nat.le_refl 0;rename_i hneeds hgv;obtain⟨hk,hka,_⟩:=hneeds;obtain⟨hkn,hkan,_⟩:=hgv;repeat' (first|refine Vk fun K hK=> ?_|apply V0|apply Vs|with_reducible apply ab|refine Xc0 (id:=2) Xj [] 9 [2,7] follows (by kernel_rfl) (by kernel_rfl) ?_|refine Vq (by kernel_rfl) ?_|((first|apply gE|apply gR|apply gT|apply gU|apply gS);simp only[zA,simprocAttr,wkC,Qh,Y6,hb,X8 hkn,X7 hkn,Xa hkn,Xa hkan,Xif,X0])|exact Vn|(apply Vz;refine Xy (.inr rfl) rfl rfl rfl (fun _ _=>rfl)<;>first|rfl|skip)|(refine Xpc cs (by rw[X8 hkn];exact hk) (by rw[X7 hkn];trivial) ?_)|(refine Xk ca (by rw[X8 hkn,Xif,if_pos rfl]) (by rw[X8 hkan,Xif,if_neg hne];exact hka) (by rw[X7 hkn];trivial) (by rw[X7 hkan];trivial) (by simp) (by simp) ?_)|((refine Vg (fun hg=> ?_) (fun hg=> ?_))<;>try simp only[nb] at hg)|(refine hK _ ?_;clear hK K)|refine Vt rfl ?_|refine Vf rfl ?_|refine Vi rfl (fun hg=> ?_) (fun hg=> ?_)|clear hK K)
   refine Xp1 rfl rfl rfl ?_;simp only[Zc,Wz,Jp]
def Xr3 (s:Sec) (w:Wk) (right:Int->Int×Int->Bool) (e:Nat):Bool:= !(w.lost||(Xpj s w.inn.2 e !=0|| !right e (s.ends.getD e (0,0))))
def Xqx (s:Sec) (w:Wk) (right:Int->Int×Int->Bool):Option Nat:=(List.range s.ends.length).find? (Xr3 s w right)
def Xt7 (w:Wk) (o j:Int×Int):Wk:={w with outs:=w.outs++[o],inn:=j}
def Xxn (s:Sec) (w:Wk) (id at':Int) (right:Int->Int×Int->Bool):Wk:=match Xqx s w right with
 |some e=>Xt7 (Xps w s.pt (Xoq s w.inn.2 e) at') (id,(e:Int)) (s.ends.getD e (0,0))
 |none=>{w with lost:=true}
def Xso (p:Pl) (w:Wk) (id at':Int) (right:Int->Int×Int->Bool):Wk:=Xxn (Xp4 p w id).1 (Xp4 p w id).2 id at' right
theorem Xuu {n e:Nat} {f:Nat->Bool} (he:e<n) (hf:f e=true) (hq:∀i,i<e->f i=false):(List.range n).find? f=some e:=by
 rw[ic];exact⟨hf,dq.2 he,fun j hj=>by simp [hq j hj]⟩
theorem Xq5 {n:Nat} {f:Nat->Bool} (hq:∀i,i<n->f i=false):(List.range n).find? f=none:=by
 rw[cx];intro x hx;rw[hq x (dq.1 hx)];decide
theorem Xoy (w:Wk) (a b c:Int):∃l,Xps w a b c=⟨w.inn,l,w.outs,w.lost⟩:=by
 unfold Xps;split
 ·exact⟨_,rfl⟩
 ·exact⟨_,rfl⟩
theorem Xw6 {s:Nat->Option Res} {k ka ko:Nat} (h1:ka≠k) (h2:ko≠k) (h3:ko≠ka) (A B C D F:Res):Xw (Xw (Xw (Xw s k B) ka C) ko D) k F=upd s [(k,F),(ka,C),(ko,D)]:=by
 rw[Zc,Zc,Zc,Wz];funext j;simp only[Xif];by_cases a:j=k
 ·subst a;simp [Ne.symm h1,Ne.symm h2]
 ·simp [a]
theorem Xrx {s:Nat->Option Res} {k j i:Nat} {r q u:Res} (h:j≠k) (h':i≠k) (hj:s j=some q) (hi:s i=some u):Xw s k r=upd s [(k,r),(j,q),(i,u)]:=by
 rw[Zc,Zc,Zc,Wz,Qb ((Zp s r h).trans hj),Qb ((Zp s r h').trans hi)]
theorem Xz0 (p:Pl) (w:Wk) (k ka ko:Nat) (h1:ka≠k) (h2:ko≠k) (h3:ko≠ka) (id at':Int) (fid:FuncId) (caps:List AV) (right:Int->Int×Int->Bool) (hb:Xd Tryz.prog fid=True)
  (hr:∀e j,Xr Tryz.prog fid (i64 e::jnA j::caps) [] (bool (right e j)) []) (hp:p.secs.length<=1000000) (hse:(Xp4 p w id).1.ends.length<=1000) (hl:w.asks.length<=1000000) (ho:w.outs.length<=1000000):
  Xr Tryz.prog 159 [.ptr k 0,i64 id,i64 at',.fn (.func fid) caps] [(k,some (.box 238 (wkC p w ka ko))),(ka,some (.row 179 3 w.asks.length)),(ko,some (.row 138 2 w.outs.length))] (.tup [])
   [(k,.box 238 (wkC p (Xso p w id at' right) ka ko)),(ka,.row 179 3 (Xso p w id at' right).asks.length),(ko,.row 138 2 (Xso p w id at' right).outs.length)]:=by
 have x1:(k=ka)=False:=ef (Ne.symm h1);have x2:(ka=k)=False:=ef h1;have x3:(k=ko)=False:=ef (Ne.symm h2);have x4:(ko=k)=False:=ef h2;have x5:(ka=ko)=False:=ef (Ne.symm h3);have x6:(ko=ka)=False:=ef h3;have cs:=Xsi p w k ka ko id hp;unfold Xso;obtain⟨s,lost,e⟩:=Xox p w id;rw[e] at cs hse⊢;clear e;dsimp only at cs hse⊢;obtain⟨inn,asks,outs,lost0⟩:=w;dsimp only at*;have ct:=fun e:Int=>Xv1 s inn.2 e;simp only[Qh,Y6] at ct;have hr':=fun(e:Int) (j:Int×Int)=>hr e j;simp only[jnA,jnC] at hr';have cA:=fun(x:Int)=>Xxj p ⟨inn,asks,outs,lost⟩ k ka ko h1 s.pt x at' hl
 simp only[wkC] at cA cs;obtain⟨W,hW⟩:∃W,W=Xxn s ⟨inn,asks,outs,lost⟩ id at' right:=⟨_,rfl⟩
 rw[<- hW];have lit:∀(a b:Int) (σ:AState) (K:AV->List (Nat×Res)->Prop),X1 tab σ K none 73 1 [(0,.agg [i64 a,i64 b])]=K (.sl 2 [[i64 a,i64 b]] .full) []:=fun a b σ K=>Yk (T:=tab) (ti:=ti73) (te:=ti138) rfl rfl rfl (by decide) (by decide) rfl rfl;have y1:(outs.length+1)*16<=140737488355328:=by omega
 have y2:outs.length<=9223372036854775806:=by omega
 refine Xc 2 Tryz.func159 rfl fun n out _ _=> ?_;simp only[sn,Tryz.ntmps159,simprocAttr];have hg:=Nat.le_refl 0;rename_i hneeds hgv;obtain⟨hk,hka,hko,_⟩:=hneeds;obtain⟨hkn,hkan,hkon,_⟩:=hgv;repeat' (first|refine Vk fun K hK=> ?_|apply V0|apply Vb|apply Vc|apply Vr|apply Vs|with_reducible apply ab|refine Vq (by kernel_rfl) ?_|((first|apply gE|apply gR|apply gS);simp only[zA,simprocAttr,wkC,Qh,Y6,Xa hkn,X0])|exact Vn|(apply Vz;refine Xy (.inr rfl) rfl rfl rfl (fun _ _=>rfl)<;>first|rfl|skip)|(refine Xpc cs (by rw[X8 hkn];exact hk) (by rw[X7 hkn];trivial) ?_)|((refine Vg (fun hg=> ?_) (fun hg=> ?_))<;>try simp only[nb] at hg)|(apply Vx;simp only[sb,reduceIte,Nat.reduceEqDiff])|(refine hK _ ?_;clear hK K)|refine Vt rfl ?_|refine Vf rfl ?_|refine Vi rfl (fun hg=> ?_) (fun hg=> ?_)|clear hK K)
 apply V5;refine Xl (fun m (e:Nat)=>tr 20 53 (tr 9 4 [(19,i64 (e:Int)),(8,.ptr (m+0) 0)])) (fun m e=>[some (.box 75 (Y6 s)),none]) (fun e=>Xw out k (.box 238 (wkC p ⟨inn,asks,outs,lost⟩ ka ko))) (fun e=>e<=s.ends.length∧(∀i,i<e->Xr3 s ⟨inn,asks,outs,lost⟩ right i=false)) (fun e=>s.ends.length - e) 0 ⟨br _,by intros;omega⟩ ?_ fun m e hm he=> ?_
 ·refine X2 ?_ ?_ (by first|rfl|(simp only[Y6,wkC,ai];rfl)|simp only[Y6,wkC,ai]) rfl rfl rfl<;>simp only[sL,Y6]
 obtain⟨he,hq⟩:=he;simp only[pt];have hw:=Yl (n:=e) 1 1 rfl (by omega);by_cases hlt:e<s.ends.length
 ·have ge:=Xg jnC s.ends e [] hlt;have gd:s.ends.getD e (0,0)=s.ends[e]:=by simp [af,hlt]
  have hok:Xr3 s ⟨inn,asks,outs,lost⟩ right e= !(lost||(Xpj s inn.2 e !=0|| !right e s.ends[e])):=by unfold Xr3;rw[gd]
  have next:Xr3 s ⟨inn,asks,outs,lost⟩ right e=false->∀i,i<e+1->Xr3 s ⟨inn,asks,outs,lost⟩ right i=false:=fun h i hi=>by
   by_cases h':i=e
   ·subst h';exact h
   ·exact hq i (by omega)
  have ctE:=ct e;have hrE:=hr' e s.ends[e];obtain⟨AL,hAL⟩:=Xoy ⟨inn,asks,outs,lost⟩ s.pt (Xoq s inn.2 e) at';have ca:=Xxj p ⟨inn,asks,outs,lost⟩ k ka ko h1 s.pt (Xoq s inn.2 e) at' hl;have good:Xr3 s ⟨inn,asks,outs,lost⟩ right e=true->W=⟨s.ends[e],AL,outs++[(id,(e:Int))],lost⟩:=fun h=>by
   rw[hW];unfold Xxn Xqx;rw[Xuu hlt h hq];dsimp only;rw[hAL,gd];rfl
  rw[hAL] at ca;simp only[wkC] at ca;clear hAL hW cA ct hr' hr hq;generalize Xoq s inn.2 e=TL at*;generalize Xpj s inn.2 e=TE at*;generalize right e s.ends[e]=RT at*;cases lost with
  |true=>
   repeat' (first|refine Vk fun K hK=> ?_|apply V0|apply Vb|apply Vc|apply Vr|apply Vs|with_reducible apply ab|refine Vq (by kernel_rfl) ?_|((first|apply gE|apply gR|apply gS);simp only[zB,simprocAttr,Xi hm,wkC,Y6,jnC,ge,hlt,hw,X8 hkn,X7 hkn,Xif,X0])|exact Vn|(apply Vz;refine Xy (.inr rfl) rfl rfl rfl (fun _ _=>rfl)<;>first|rfl|skip)|(refine X3 (ctE) ?_)|(refine X3 (hrE) ?_)|((refine Vg (fun hg=> ?_) (fun hg=> ?_))<;>try simp only[nb] at hg)|(apply Vx;simp only[sb,Nat.reduceEqDiff])|(refine hK _ ?_;clear hK K)|refine Vt rfl ?_|refine Vf rfl ?_|refine Vi rfl (fun hg=> ?_) (fun hg=> ?_)|clear hK K)
   refine⟨e+1,⟨by omega,next (by rw[hok];rfl)⟩,by omega,?_⟩;refine Xx [true,false] ?_ ?_<;>intro n_<;>simp only[sM]
  |false=>
   repeat' (first|refine Vk fun K hK=> ?_|apply V0|apply Vb|apply Vc|apply Vr|apply Vs|with_reducible apply ab|refine Vq (by kernel_rfl) ?_|((first|apply gE|apply gR|apply gS);simp only[zB,simprocAttr,hg,lit,Xi hm,wkC,Y6,jnC,ge,hlt,hb,hw,hko,X8 hkn,X8 hkon,X7 hkn,X7 hkon,Xa hkn,Xa hkan,Xa hkon,Xif,Jp,x1,x3,x4,x6,X0,y1,y2])|exact Vn|(apply Vz;refine Xy (.inr rfl) rfl rfl rfl (fun _ _=>rfl)<;>first|rfl|skip)|(refine X3 (ctE) ?_)|(refine X3 (hrE) ?_)|(refine Xk ca (by rw[X8 hkn,Xif,if_pos rfl]) (by rw[X8 hkan,Xif,if_neg h1];exact hka) (by rw[X7 hkn];trivial) (by rw[X7 hkan];trivial) (by simp) (by simp) ?_)|((refine Vg (fun hg=> ?_) (fun hg=> ?_))<;>try simp only[nb] at hg)|(apply Vx;simp only[sb,Nat.reduceEqDiff])|(refine hK _ ?_;clear hK K)|refine Vt rfl ?_|refine Vf rfl ?_|refine Vi rfl (fun hg=> ?_) (fun hg=> ?_)|clear hK K)
   ·refine⟨e+1,⟨by omega,next (by rw[hok];simp_all)⟩,by omega,?_⟩;refine Xx [true,false] ?_ ?_<;>intro n_<;>simp only[sM]
   ·refine⟨e+1,⟨by omega,next (by rw[hok];simp_all)⟩,by omega,?_⟩;refine Xx [true,false] ?_ ?_<;>intro n_<;>simp only[sM]
   have hE:=good (by rw[hok];simp_all);subst hE;apply Vz;refine Xy (.inr rfl) rfl rfl rfl (fun j _=>congrFun ?_ j);simp only[wkC,aw,bk,ag,jnC,ac,List.length_cons,List.length_nil,Nat.zero_add];exact Xw6 h1 h2 h3 (.box 0 []) _ _ _ _
 ·obtain rfl:e=s.ends.length:=by omega
  have bad:W=⟨inn,asks,outs,true⟩:=by
   rw[hW];unfold Xxn Xqx;rw[Xq5 hq]
  repeat' (first|refine Vk fun K hK=> ?_|apply V0|apply Vb|apply Vc|apply Vr|apply Vs|with_reducible apply ab|refine Vq (by kernel_rfl) ?_|((first|apply gE|apply gR|apply gS);simp only[zA,simprocAttr,wkC,hlt,X8 hkn,X7 hkn,Xa hkn,Xif,Jp,X0])|exact Vn|(apply Vz;refine Xy (.inr rfl) rfl rfl rfl (fun _ _=>rfl)<;>first|rfl|skip)|((refine Vg (fun hg=> ?_) (fun hg=> ?_))<;>try simp only[nb] at hg)|(apply Vx;simp only[sb])|(refine hK _ ?_;clear hK K)|refine Vt rfl ?_|refine Vf rfl ?_|refine Vi rfl (fun hg=> ?_) (fun hg=> ?_)|clear hK K)
  subst bad;exact Xp1 rfl rfl rfl (Xrx h1 h2 hka hko)
end Go.Proofs.YtdngdjbgmojcoaaGreat.Pln
namespace Go.Proofs.YtdngdjbgmojcoaaGreat.Pln
set_option linter.all false
set_option maxHeartbeats 2000000
set_option maxRecDepth 100000
open Go Go.VS Tab Go.RowKit Go.Lib
attribute [local irreducible] AWp Xp0 Pg X5c Qy Lt Tp FdT Eb
theorem Xqy (n:Nat) (w:World) (h0:0<n) (hbig:n*8<=140737488355328) (i0:TypeInfo) (z:Value) (hi0:Tryz.prog.info? 3=some i0) (hz0:i0.zero=some z) (hs0:0<i0.size) (hb0:i0.bytes=8):
  Calls Tryz.prog 196 #[.slice none 0 0,.int .i64 n] w fun e w'=>
   e= .returned (.slice (some ⟨w.heap.size,0,none⟩) 0 (grownCap w n 0 3))∧
   w'=w.drew.alloc (.cells (#[]++Builtin.zeroCells z.cells n++Builtin.zeroCells z.cells (grownCap w n 0 3 - n)) 3):=by
 have h1:¬((n:Int)<0):=by omega
 have h3:wrap64 ((n:Int) - 0)=(n:Int):=by unfold wrap64;omega
 have h4:(n:Int)>0:=by omega
 have hrz:∀ty,(Builtin.append_ #[61,3] ty #[.slice none 0 0,.int .i64 (n:Int)]).run Tryz.prog w=
   .ok (.slice (some ⟨w.heap.size,0,none⟩) n (grownCap w n 0 3)) (w.drew.alloc (.cells (#[]++Builtin.zeroCells z.cells n++Builtin.zeroCells z.cells (grownCap w n 0 3 - n)) 3)):=fun ty=>by
  have h:=Lib.run_append_grow_zeros w 61 3 ty 3 i0 z .i64 .i64 Tryz.underlying61 Tryz.underlying3 hi0 hz0 none 0 0 [] (run_firstCells_none w.drew i0.size 0 0 0) n h0 hs0 (by omega) (by omega)
   (by rw[hb0];omega) (growslice_fits (by omega) (by rw[hb0];omega))
  rw[Nat.zero_add] at h;exact h
 have hGn:n<=grownCap w n 0 3:=VS.Vu w _ _ _;have hG63:grownCap w n 0 3<=9223372036854775807:=by
  have:=grownCap_le_maxLen w n 0 3 (by unfold maxLen;omega);unfold maxLen at this;omega
 generalize grownCap w n 0 3=G at hrz hGn hG63⊢
 go_enter Tryz.func196,Tryz.ntmps196
 go_wp2_with (at_builtin;refine Lib.wpList_append_run _ rfl _ _ _ _ rfl _ _ rfl rfl _ _ (hrz _) ?_)
 all_goals (go_ret;exact⟨rfl,rfl⟩)
theorem Xt8 (k n:Nat) (hbig:n*8<=140737488355328):
  Xr Tryz.prog 196 [.sl 0 [] .nil,i64 (n:Int)] [(k,none)] (.sl 1 [] (.own k)) [(k,.row 3 1 0)]:=by
 by_cases h0:n=0
 ·subst h0;refine Xc 0 Tryz.func196 rfl fun n out _ _=> ?_;simp only[sn,Tryz.ntmps196,simprocAttr];rename_i hneeds hgv;obtain⟨hk,_⟩:=hneeds;obtain⟨hkn,_⟩:=hgv;refine Yy (X3x (k:=k) 3 1 (by rw[X7 hkn];trivial) (by rw[X8 hkn];exact hk)) ?_;rw[X79 hkn];refine Vy fun K hK=> ?_;simp only[zA,simprocAttr];repeat' (first|(refine hK _ ?_;clear hK K)|with_reducible apply ab)
  refine Vk fun KA hKA=> ?_;refine Vy fun K hK=> ?_;simp only[zA,simprocAttr];repeat' (first|(refine hK _ ?_;clear hK K)|with_reducible apply ab)
  refine Uy rfl (Xhj (hKA _ ?_));clear hKA KA;refine Vk fun KA hKA=> ?_;refine Vy fun K hK=> ?_;simp only[zA,simprocAttr,nc,Int.sub_zero,wrap_i64 (x:=0) (by decide) (by decide)];repeat' (first|(refine hK _ ?_;clear hK K)|with_reducible apply ab)
  refine Vy fun K hK=> ?_;simp only[zA,simprocAttr,Int.lt_irrefl];repeat' (first|(refine hK _ ?_;clear hK K)|with_reducible apply ab)
  refine Uy rfl (Xhj (hKA _ ?_));clear hKA KA;refine Vy fun K hK=> ?_;simp only[zA,simprocAttr];repeat' (first|(refine hK _ ?_;clear hK K)|with_reducible apply ab)
  apply Vz;exact Xv (.inr rfl) rfl rfl rfl (fun _ _=>rfl) (.nil _ _ _ (by intro h;cases h)) rfl
 ·intro M N vs hI hR hn hN hu;obtain⟨hl,hr⟩:=hR;obtain⟨v0,v1,rfl⟩:∃v0 v1,vs= #[v0,v1]:=by
   match vs,hl with
   |⟨[a,b]⟩,_=>exact⟨a,b,rfl⟩
  have r0:=hr 0 _ _ rfl rfl;have r1:=hr 1 _ _ rfl rfl;obtain rfl:v0= .slice none 0 0:=by
   cases r0 with
   |nil _ _ a h1 h2=>rw[h2 rfl]
   |slice _ _ _ a cap hs hcap hsz hst hc hmd=>exact hmd.elim
  have e1:=Yw r1;subst e1;obtain⟨i0,z,hi0,hi1,hi2,hi3,hi4⟩:=ok3.info;refine(Xqy n M.w (by omega) hbig i0 z hi0 hi3 (by rw[hi1];decide) hi2).mono fun e w' hw=> ?_;obtain⟨rfl,rfl⟩:=hw;have hcap:=VS.Vu M.w n 0 3;generalize grownCap M.w n 0 3=cap at hcap⊢;have e0:=Ext.withW (M:=M) (w':=M.w.drew) rfl;have hI0:Inv (M.withW M.w.drew):=hI.withW rfl rfl rfl rfl;have hk:Xoz (M.withW M.w.drew) k 3 1 0:= .inl hn.1;have hz1:z.cells.size=1:=by
   have:=ok3.len;rw[<- hi4] at this;simpa using this
  have hzs:∀m,(Builtin.zeroCells z.cells m).size=m*1:=fun m=>by simp [Builtin.zeroCells,hz1]
  have hzl:∀v,v∈z.cells.toList->leaf v:=fun v hv=>by
   rw[hi4] at hv;exact Uw (az.1 ok3.leafs v hv)
  refine⟨_,rfl,(M.withW M.w.drew).moveRow k 3 1 (#[]++Builtin.zeroCells z.cells n++Builtin.zeroCells z.cells (cap - n)) 0 cap,rfl,e0.trans (Ext.moveRow hI0 hk _ _),hI0.moveRow hk (by simp [hzs];omega) (br _) (fun i v h=> ?_),fun j _=>rfl,?_⟩
  ·rw[Array.getElem?_append] at h;split at h
   ·rw[Array.empty_append] at h;exact Qk hzl (by rw[hz1];decide) _ _ _ h
   ·exact Qk hzl (by rw[hz1];decide) _ _ _ h
  ·have hβ:((M.withW M.w.drew).moveRow k 3 1 (#[]++Builtin.zeroCells z.cells n++Builtin.zeroCells z.cells (cap - n)) 0 cap).β k=M.w.heap.size:=by simp [Mem.moveRow,Mem.withW]
   exact .slice 1 [] (.own k) ⟨M.w.heap.size,0,none⟩ cap rfl (br _) (fun row h=>by simp at h) (fun o ho=>by simp at ho) (fun i j row c v h=>by simp at h)
    ⟨3,0,by simp [Mem.moveRow,Xw],Nat.le_refl _,fun _=> .inr ⟨rfl,hβ.symm,by simp [Mem.moveRow]⟩⟩
theorem Xpu (k:Nat) (a b:List (List AV)) (m0 m1 m2:Md) (hb:a.length+b.length<=1000000):
  Xr Tryz.prog 158 [.sl 1 [[.sl 1 a m1],[.sl 1 b m2]] m0] [(k,none)] (.sl 1 (a++b) (.own k)) [(k,.row 3 1 (a.length+b.length))]:=by
 refine Xc 0 Tryz.func158 rfl fun n out _ _=> ?_;simp only[sn,Tryz.ntmps158,simprocAttr];rename_i hneeds hg;obtain⟨hk,_⟩:=hneeds;obtain⟨hkn,_⟩:=hg;obtain⟨els,hels⟩:∃els,els=[[AV.sl 1 a m1],[AV.sl 1 b m2]]:=⟨_,rfl⟩
 rw[<- hels];have hl2:els.length=2:=by rw[hels];rfl
 obtain⟨cat,hcat⟩:∃cat:Nat->List (List AV),cat=fun c=>(([a,b]:List (List (List AV))).take c).flatten:=⟨_,rfl⟩
 have elem:∀c,c<2->∃l md,els.getD c []=[.sl 1 l md]∧cat (c+1)=cat c++l:=fun c hc=>by
  rw[hels,hcat]
  match c,hc with
  |0,_=>exact⟨a,m1,rfl,by simp⟩
  |1,_=>exact⟨b,m2,rfl,by simp⟩
 have cat0:cat 0=[]:=by rw[hcat];rfl
 have cat2:cat 2=a++b:=by rw[hcat];simp
 have catl:∀c,c<=2->(cat c).length<=a.length+b.length:=fun c hc=>by
  rw[hcat]
  match c,hc with
  |0,_=>simp
  |1,_=>simp
  |2,_=>simp
 refine Vy fun K hK=> ?_;simp only[zA,simprocAttr];repeat' (first|(refine hK _ ?_;clear hK K)|with_reducible apply ab)
 refine Vy fun K hK=> ?_;simp only[zA,simprocAttr];repeat' (first|(refine hK _ ?_;clear hK K)|with_reducible apply ab)
 refine Vk fun KB hKB=> ?_;refine Vy fun K hK=> ?_;simp only[zA,simprocAttr,hl2];repeat' (first|(refine hK _ ?_;clear hK K)|with_reducible apply ab)
 apply V5;refine Xwm (2) (fun c=>tp [5] (tr 12 11 [(11,i64 (c:Int)),(3,i64 (((cat c).length:Nat):Int))])) (fun c=>[]) ?_ fun c hc=> ?_
 ·refine X2 ?_ ?_ (by first|rfl|(simp only[cat0,List.length_nil];rfl)|simp only[cat0,List.length_nil]) rfl rfl rfl<;>simp only[sL,cat0,List.length_nil]
 simp only[pt];refine Vy fun K hK=> ?_;simp only[zA,simprocAttr];repeat' (first|(refine hK _ ?_;clear hK K)|with_reducible apply ab)
 refine Vk fun KC hKC=> ?_;refine Uz rfl (fun ht=>Xhj (hKC _ ?_)) (fun hf=>Qi (id ?_));rotate_left
 ·simp only[Qd,Z4,if_true];refine hKB _ ?_;clear hKB KB hKC KC;have hc2:c=2:=by have:=b7 hf;omega
  subst hc2;rw[cat2];have hlab:(a++b).length=a.length+b.length:=ac;rw[hlab];refine Vy fun K hK=> ?_;simp only[zA,simprocAttr];repeat' (first|(refine hK _ ?_;clear hK K)|with_reducible apply ab)
  refine Sb (Xt8 k _ (by omega)) (by rw[X8 hkn];exact hk) (by rw[X7 hkn];trivial) (by simp) ?_;simp only[zA,simprocAttr,Cz hkn];repeat' (first|(refine hK _ ?_;clear hK K)|with_reducible apply ab)
  refine Vk fun KB hKB=> ?_;refine Vy fun K hK=> ?_;simp only[zA,simprocAttr,hl2];repeat' (first|(refine hK _ ?_;clear hK K)|with_reducible apply ab)
  apply V5;refine Xz (fun c:Nat=>tp [8] (tr 28 7 [(27,i64 (c:Int)),(6,.sl 1 (cat c) (.own k))])) (fun c=>[]) (fun c=>Xw out k (.row 3 1 (cat c).length)) (fun c=>c<=2) (fun c=>2 - c) 0 (br _) ?_ fun c hc=> ?_
  ·refine X2 ?_ ?_ (by first|rfl|(simp only[cat0,List.length_nil];rfl)|simp only[cat0,List.length_nil]) rfl rfl rfl<;>simp only[sL,cat0]
  simp only[pt];refine Vy fun K hK=> ?_;simp only[zA,simprocAttr];repeat' (first|(refine hK _ ?_;clear hK K)|with_reducible apply ab)
  refine Vk fun KC hKC=> ?_;refine Uz rfl (fun ht=>Xhj (hKC _ ?_)) (fun hf=>Qi (id ?_));rotate_left
  ·simp only[Qd,Z4,if_true];refine hKB _ ?_;clear hKB KB hKC KC;have hc2:c=2:=by have:=b7 hf;omega
   subst hc2;rw[cat2,hlab];refine Vy fun K hK=> ?_;simp only[zA,simprocAttr];repeat' (first|(refine hK _ ?_;clear hK K)|with_reducible apply ab)
   apply Vz;exact Qv (.inr rfl) rfl rfl rfl (fun _ _=>rfl) rfl
  clear hKC KC;have hc2:c<2:=by have:=bf ht;omega
  have hc3:(c:Int)<2:=by omega
  obtain⟨l,md,hel,hct⟩:=elem c hc2;have hcl:=catl (c+1) (by omega);have hcl2:(cat c).length+l.length=(cat (c+1)).length:=by rw[hct,ac]
  have e3:(cat (c+1)).length<=140737488355328:=by omega
  have e4:(cat (c+1)).length<=9223372036854775807:=by omega
  refine Vk fun KC hKC=>Xe ?_;refine Vy fun K hK=> ?_;simp only[zA,simprocAttr,hl2,hel,hc2,hc3];repeat' (first|(refine hK _ ?_;clear hK K)|with_reducible apply ab)
  refine Xn Xj [] ?_;simp only[zA,simprocAttr,hcl2,e4,X8 hkn,X7 hkn,Cz hkn,Xt,Jp]
  repeat refine ab (by omega) ?_
  refine hKC _ ?_;clear hKC KC;refine Xn Xj [] ?_;simp only[zA,simprocAttr,Yl (n:=c) 1 1 rfl (by omega)];refine⟨c+1,by omega,by omega,?_⟩;rw[hct];refine La rfl ?_ ?_<;>simp only[sL]
 clear hKC KC;have hc2:c<2:=by have:=bf ht;omega
 have hc3:(c:Int)<2:=by omega
 obtain⟨l,md,hel,hct⟩:=elem c hc2;have hcl:=catl (c+1) (by omega);have hcl2:(cat (c+1)).length=(cat c).length+l.length:=by rw[hct,ac]
 have q1:IntKind.i64.wrap (((cat c).length:Int)+(l.length:Int))=(((cat (c+1)).length:Nat):Int):=by rw[wrap_i64]<;>omega
 have q2:decide ((((cat (c+1)).length:Nat):Int)<0)=false:=ak (by omega);refine Vk fun KC hKC=>Xe ?_;refine Vy fun K hK=> ?_;simp only[zA,simprocAttr,hl2,hel,hc2,hc3];repeat' (first|(refine hK _ ?_;clear hK K)|with_reducible apply ab)
 refine Vy fun K hK=> ?_;simp only[zA,simprocAttr,q1];repeat' (first|(refine hK _ ?_;clear hK K)|with_reducible apply ab)
 refine Vy fun K hK=> ?_;simp only[zA,simprocAttr,q2];repeat' (first|(refine hK _ ?_;clear hK K)|with_reducible apply ab)
 refine Uy rfl (Xhj (id ?_));simp only[Z4,Qd];refine hKC _ ?_;clear hKC KC;refine Xn Xj [] ?_;simp only[zA,simprocAttr,Yl (n:=c) 1 1 rfl (by omega)];refine⟨c+1,by omega,by omega,?_⟩;refine La rfl ?_ ?_<;>simp only[sL]
end Go.Proofs.YtdngdjbgmojcoaaGreat.Pln
