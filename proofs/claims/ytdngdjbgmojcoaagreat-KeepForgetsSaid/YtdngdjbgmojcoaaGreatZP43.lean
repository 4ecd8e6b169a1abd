/- The layer of abstract values, joined. -/
import Derived.Test.YtdngdjbgmojcoaaGreatZPR
import Derived.Test.YtdngdjbgmojcoaaGreatZS6
import Derived.Test.YtdngdjbgmojcoaaGreatZTA
import Derived.Test.YtdngdjbgmojcoaaGreatZVsView
namespace Go.Proofs.YtdngdjbgmojcoaaGreat.Pln
set_option linter.unusedSimpArgs false
set_option linter.unusedVariables false
set_option maxHeartbeats 8000000
set_option maxRecDepth 4000
open Go Go.VS Tab
abbrev zg:List AV:=gpC g00 (.sl 0 [] .nil)
theorem Xxx:zg.length=201:=Xou (by simp [g00]) (by simp [g00])
theorem Xx9 (K:AV→List (Nat×Res)→Prop):Nv tab K 134 []=K (.agg zg) []:=rfl
def Xzk (p:Pl) (s:St):AV:=if Xrz p s=0 then .agg (gpC (Xpg p s) (.sl 4 ((Xs1 p).map wyC) .sh)) else .agg zg
theorem Y1i (p:Pl) (s:St) (hs:Sm p) (hS:SmS s):Xr Tryz.prog 70 [plA p,stA s] [] (.tup [Xzk p s,i64 (Xrz p s)]) []:=by
 have cS:=Xrp p hs
 have zl:=Xxx
 have zb:=Xx9
 by_cases hE:Xo3 p=0
 ·have cG:=Xzj p s hs hS hE
  have eE:Xrz p s=if Xqm p s then 0 else 8:=by unfold Xrz;rw[if_pos hE]
  rw[hE] at cS
  have gl:∀W,(gpC (Xpg p s) W).length=201:=fun W=>by
   obtain⟨h1,h2⟩:=Xpn (Xjs s.sw) ((p.rts.map (Xop p)).zip s.lk) g00
   exact Xou (h1.trans (by simp [g00])) (h2.trans (by simp [g00]))
  have xl:(gpC (if Xog p s then Xpg p s else g00) (if Xog p s then .sl 4 ((Xs1 p).map wyC) .sh else .sl 0 [] .nil)).length=201:=by
   split
   ·exact gl _
   ·exact zl
  have eX:Xqm p s=true→gpC (if Xog p s then Xpg p s else g00) (if Xog p s then .sl 4 ((Xs1 p).map wyC) .sh else .sl 0 [] .nil)=gpC (Xpg p s) (.sl 4 ((Xs1 p).map wyC) .sh):=fun h=>by
   have:Xog p s=true:=by unfold Xqm at h;simp_all
   rw[this];rfl
  unfold Xzk
  rw[eE]
  generalize gpC (if Xog p s then Xpg p s else g00) (if Xog p s then .sl 4 ((Xs1 p).map wyC) .sh else .sl 0 [] .nil)=X at*
  cases hB:Xqm p s with
  |true=>
   rw[← eX hB]
   rw[hB] at cG
   simp only[if_true]
   refine Xc 4 Tryz.func70 rfl fun n out _ _=> ?_
   simp only[sn,Tryz.ntmps70,Nat.reduceAdd,Nat.reduceSub]
   refine Vy fun K hK=> ?_
   simp only[zA,simprocAttr,plA,plC,stA,stC]
   repeat' (first|(with_reducible refine hK _ ?_;clear hK K)|with_reducible apply And.intro)
   refine Xr9 [some (.box 28 (plC p)),some (.box 33 (stC s)),some (.box 134 zg),none] rfl ?_
   generalize zg=Z at*
   simp only[plA,stA] at cG cS
   repeat' (first|(with_reducible first|refine Vk fun K hK=> ?_|refine V0 ?_|refine Vs ?_|apply And.intro)|((with_reducible first|refine gE ?_|refine gR ?_);simp (maxSteps:=4000000) only[sx,sy,eq_self,hbT,tab,Cl,Qd,Nat.reduceAdd,Nat.reduceLT,plC,stC,zl,xl,E6,X0])|exact Vn|((with_reducible refine Vz ?_);(first|refine Xp (.inr rfl) rfl rfl rfl (fun _ _=>rfl) ok134 (k:=n+2) (off:=0) rfl (Xb _ (by simp)) (X6 _ (Nat.le_refl _) 2) rfl rfl ?_|refine Xp (.inr rfl) rfl rfl rfl (fun _ _=>rfl) ok134 (k:=m+2) (off:=0) rfl (Xb _ (by simp)) (X6 _ hm 2) rfl rfl ?_)<;>first|rfl|exact AV.le.rfl _|(simp only[sL,ti134,List.map_nil,zb,plC,stC,zl,xl,E6,X0];done)|rfl|skip)|(refine X3 (cS) ?_)|(refine X3 (cG) ?_)|(refine hK _ ?_;clear hK K)|refine Vt rfl ?_|refine Vf rfl ?_|refine Vi rfl (fun hg=> ?_) (fun hg=> ?_)|clear hK K)
   exact Yd (Xp (.inr rfl) rfl rfl rfl (fun _ _=>rfl) ok134 (k:=n+2) (off:=0) rfl (Xb _ (by simp)) (X6 _ (Nat.le_refl _) 2) (E6 xl) rfl (.rfl _))
  |false=>
   rw[hB] at cG
   simp only[Bool.false_eq_true,if_false,show((8:Int)=0)=False from by simp]
   refine Xc 4 Tryz.func70 rfl fun n out _ _=> ?_
   simp only[sn,Tryz.ntmps70,Nat.reduceAdd,Nat.reduceSub]
   refine Vy fun K hK=> ?_
   simp only[zA,simprocAttr,plA,plC,stA,stC]
   repeat' (first|(with_reducible refine hK _ ?_;clear hK K)|with_reducible apply And.intro)
   refine Xr9 [some (.box 28 (plC p)),some (.box 33 (stC s)),some (.box 134 zg),none] rfl ?_
   generalize zg=Z at*
   simp only[plA,stA] at cG cS
   repeat' (first|(with_reducible first|refine Vk fun K hK=> ?_|refine V0 ?_|refine Vs ?_|apply And.intro)|((with_reducible first|refine gE ?_|refine gR ?_);simp (maxSteps:=4000000) only[sx,sy,eq_self,hbT,tab,Cl,Qd,Nat.reduceAdd,Nat.reduceLT,zb,plC,stC,zl,xl,E6,X0])|exact Vn|((with_reducible refine Vz ?_);(first|refine Xp (.inr rfl) rfl rfl rfl (fun _ _=>rfl) ok134 (k:=n+2) (off:=0) rfl (Xb _ (by simp)) (X6 _ (Nat.le_refl _) 2) rfl rfl ?_|refine Xp (.inr rfl) rfl rfl rfl (fun _ _=>rfl) ok134 (k:=m+2) (off:=0) rfl (Xb _ (by simp)) (X6 _ hm 2) rfl rfl ?_)<;>first|rfl|exact AV.le.rfl _|(simp only[sL,ti134,List.map_nil,zb,plC,stC,zl,xl,E6,X0];done)|rfl|skip)|(refine X3 (cS) ?_)|(refine X3 (cG) ?_)|(refine hK _ ?_;clear hK K)|refine Vt rfl ?_|refine Vf rfl ?_|refine Vi rfl (fun hg=> ?_) (fun hg=> ?_)|clear hK K)
   exact Yd (Xp (.inr rfl) rfl rfl rfl (fun _ _=>rfl) ok134 (k:=n+2) (off:=0) rfl (Xb _ (by simp)) (X6 _ (Nat.le_refl _) 2) (E6 zl) rfl (.rfl _))
 ·have eE:Xrz p s=100:=by
   unfold Xrz;rw[if_neg hE];unfold Xo3 at hE⊢;split at hE
   ·exact(hE rfl).elim
   ·rename_i h;rw[if_neg h]
  have e1:Xo3 p=100:=by
   unfold Xo3 at hE⊢;split at hE
   ·exact(hE rfl).elim
   ·rename_i h;rw[if_neg h]
  rw[e1] at cS
  unfold Xzk
  rw[eE]
  simp only[show((100:Int)=0)=False from by simp,if_false]
  refine Xc 4 Tryz.func70 rfl fun n out _ _=> ?_
  simp only[sn,Tryz.ntmps70,Nat.reduceAdd,Nat.reduceSub]
  refine Vy fun K hK=> ?_
  simp only[zA,simprocAttr,plA,plC,stA,stC]
  repeat' (first|(with_reducible refine hK _ ?_;clear hK K)|with_reducible apply And.intro)
  refine Xr9 [some (.box 28 (plC p)),some (.box 33 (stC s)),some (.box 134 zg),none] rfl ?_
  generalize zg=Z at*
  simp only[plA,stA] at cS
  repeat' (first|(with_reducible first|refine Vk fun K hK=> ?_|refine V0 ?_|refine Vs ?_|apply And.intro)|((with_reducible first|refine gE ?_|refine gR ?_);simp (maxSteps:=4000000) only[sx,sy,eq_self,hbT,tab,Cl,Qd,Nat.reduceAdd,Nat.reduceLT,zb,plC,stC,zl,E6,X0])|exact Vn|((with_reducible refine Vz ?_);(first|refine Xp (.inr rfl) rfl rfl rfl (fun _ _=>rfl) ok134 (k:=n+2) (off:=0) rfl (Xb _ (by simp)) (X6 _ (Nat.le_refl _) 2) rfl rfl ?_|refine Xp (.inr rfl) rfl rfl rfl (fun _ _=>rfl) ok134 (k:=m+2) (off:=0) rfl (Xb _ (by simp)) (X6 _ hm 2) rfl rfl ?_)<;>first|rfl|exact AV.le.rfl _|(simp only[sL,ti134,List.map_nil,zb,plC,stC,zl,E6,X0];done)|rfl|skip)|(refine X3 (cS) ?_)|(refine hK _ ?_;clear hK K)|refine Vt rfl ?_|refine Vf rfl ?_|refine Vi rfl (fun hg=> ?_) (fun hg=> ?_)|clear hK K)
  exact Yd (Xp (.inr rfl) rfl rfl rfl (fun _ _=>rfl) ok134 (k:=n+2) (off:=0) rfl (Xb _ (by simp)) (X6 _ (Nat.le_refl _) 2) (E6 zl) rfl (.rfl _))
theorem Xtq (p:Pl) (s:St) (hs:Sm p) (hS:SmS s):Xr Tryz.prog 36 [plA p,stA s] [] (i64 (Xrz p s)) []:=by
 have cO:=Y1i p s hs hS
 obtain⟨X,hX,xl⟩:∃X,Xzk p s= .agg X∧X.length=201:=by
  unfold Xzk
  split
  ·obtain⟨h1,h2⟩:=Xpn (Xjs s.sw) ((p.rts.map (Xop p)).zip s.lk) g00
   exact⟨_,rfl,Xou (h1.trans (by simp [g00])) (h2.trans (by simp [g00]))⟩
  ·exact⟨_,rfl,Xxx⟩
 rw[hX] at cO
 simp only[plA,stA] at cO
 refine Xc 3 Tryz.func36 rfl fun n out _ _=> ?_
 simp only[sn,Tryz.ntmps36,Nat.reduceAdd,Nat.reduceSub]
 repeat' (first|(with_reducible first|refine Vk fun K hK=> ?_|refine V0 ?_|refine Vs ?_|apply And.intro)|((with_reducible first|refine gE ?_|refine gR ?_);simp only[zA,simprocAttr,plA,plC,stA,stC,xl,X0])|exact Vn|((with_reducible refine Vz ?_);refine Vo rfl rfl rfl (fun _ _=>rfl) ?_<;>first|rfl|skip)|(refine X3 (cO) ?_)|(refine hK _ ?_;clear hK K)|clear hK K)
def Y1j (a b:Int×Int×Int):Bool:=a.1==b.1&&a.2.2==b.2.2
def Y1k (a b:Int×UInt8×Int×Int):Bool:=a.1==b.1&&(a.2.1==b.2.1&&a.2.2.1==b.2.2.1)
def Xzl (s t:St):Bool:=Fv Y1j s.sw t.sw&&Fv Y1k s.lk t.lk
def Xqz (s t:St):Bool:=s.tr==t.tr&&(s.sw==t.sw&&s.lk==t.lk)
theorem Y3b (a b:Int×Int×Int):Xr Tryz.prog 42 [sgA a,sgA b] [] (bool (Y1j a b)) []:=by
 unfold Y1j
 refine Xc 2 Tryz.func42 rfl fun n out _ _=> ?_
 simp only[sn,Tryz.ntmps42,Nat.reduceAdd,Nat.reduceSub]
 repeat' (first|(with_reducible first|refine Vk fun K hK=> ?_|refine V0 ?_|refine Vs ?_|apply And.intro)|((with_reducible first|refine gE ?_|refine gR ?_);simp only[zA,simprocAttr,sgA,sgC])|exact Vn|((with_reducible refine Vz ?_);refine Vo rfl rfl rfl (fun _ _=>rfl) ?_<;>first|rfl|(first|rfl|(simp only[g_0,g_s];refine congrArg VS.bool ?_;rw[Bool.eq_iff_iff];first|(simp [] at* <;>omega)|(simp_all []<;>omega)))|skip)|((with_reducible refine Vg (fun hg=> ?_) (fun hg=> ?_))<;>(try simp only[nb] at hg)<;>simp only[zA,simprocAttr,hg])|(refine hK _ ?_;clear hK K)|clear hK K)
theorem Y3c (a b:Int×UInt8×Int×Int):Xr Tryz.prog 43 [lkA a,lkA b] [] (bool (Y1k a b)) []:=by
 have q0:=Xr8 a.2.1 b.2.1
 unfold Y1k
 rw[← q0]
 refine Xc 2 Tryz.func43 rfl fun n out _ _=> ?_
 simp only[sn,Tryz.ntmps43,Nat.reduceAdd,Nat.reduceSub]
 repeat' (first|(with_reducible first|refine Vk fun K hK=> ?_|refine V0 ?_|refine Vs ?_|apply And.intro)|((with_reducible first|refine gE ?_|refine gR ?_);simp only[zA,simprocAttr,lkA,lkC])|exact Vn|((with_reducible refine Vz ?_);refine Vo rfl rfl rfl (fun _ _=>rfl) ?_<;>first|rfl|(first|rfl|(simp only[g_0,g_s];refine congrArg VS.bool ?_;rw[Bool.eq_iff_iff];first|(simp [] at* <;>omega)|(simp_all []<;>omega)))|skip)|((with_reducible refine Vg (fun hg=> ?_) (fun hg=> ?_))<;>(try simp only[nb] at hg)<;>simp only[zA,simprocAttr,hg])|(refine hK _ ?_;clear hK K)|clear hK K)
theorem Y3d (s t:St) (hS:SmS s):Xr Tryz.prog 19 [stA s,stA t] [] (bool (Xzl s t)) []:=by
 have b1:Xd Tryz.prog 42=True:=hb0 _ (by decide) (by decide)
 have b2:Xd Tryz.prog 43=True:=hb0 _ (by decide) (by decide)
 have c1:=Xta s.sw t.sw 42 [] Y1j b1 (by have:=hS.w;omega) fun x _ y _=>Y3b x y
 have c2:=Xtb s.lk t.lk 43 [] Y1k b2 (by have:=hS.l;omega) fun x _ y _=>Y3c x y
 unfold Xzl
 generalize Fv Y1j s.sw t.sw=A1 at*
 generalize Fv Y1k s.lk t.lk=A2 at*
 refine Xc 2 Tryz.func19 rfl fun n out _ _=> ?_
 simp only[sn,Tryz.ntmps19,Nat.reduceAdd,Nat.reduceSub]
 repeat' (first|(with_reducible first|refine Vk fun K hK=> ?_|refine V0 ?_|refine Vs ?_|apply And.intro)|((with_reducible first|refine gE ?_|refine gR ?_);simp only[zA,simprocAttr,stA,stC])|exact Vn|((with_reducible refine Vz ?_);refine Vo rfl rfl rfl (fun _ _=>rfl) ?_<;>first|rfl|(simp only[g_0,g_s];refine congrArg VS.bool ?_;simp_all;done)|skip)|(refine X3 (c1) ?_)|(refine X3 (c2) ?_)|((with_reducible refine Vg (fun hg=> ?_) (fun hg=> ?_))<;>(try simp only[nb] at hg)<;>simp only[zA,simprocAttr,hg])|(refine hK _ ?_;clear hK K)|clear hK K)
theorem Xyr (s t:St) (hS:SmS s):Xr Tryz.prog 21 [stA s,stA t] [] (bool (Xqz s t)) []:=by
 have c1:=Xyi s.tr t.tr (by have:=hS.t;omega)
 have c2:=Xyj s.sw t.sw (by have:=hS.w;omega)
 have c3:=Xyk s.lk t.lk (by have:=hS.l;omega)
 unfold Xqz
 generalize (s.tr==t.tr)=A1 at*
 generalize (s.sw==t.sw)=A2 at*
 generalize (s.lk==t.lk)=A3 at*
 refine Xc 2 Tryz.func21 rfl fun n out _ _=> ?_
 simp only[sn,Tryz.ntmps21,Nat.reduceAdd,Nat.reduceSub]
 repeat' (first|(with_reducible first|refine Vk fun K hK=> ?_|refine V0 ?_|refine Vs ?_|apply And.intro)|((with_reducible first|refine gE ?_|refine gR ?_);simp only[zA,simprocAttr,stA,stC])|exact Vn|((with_reducible refine Vz ?_);refine Vo rfl rfl rfl (fun _ _=>rfl) ?_<;>first|rfl|(simp only[g_0,g_s];refine congrArg VS.bool ?_;simp_all;done)|skip)|(refine X3 (c1) ?_)|(refine X3 (c2) ?_)|(refine X3 (c3) ?_)|((with_reducible refine Vg (fun hg=> ?_) (fun hg=> ?_))<;>(try simp only[nb] at hg)<;>simp only[zA,simprocAttr,hg])|(refine hK _ ?_;clear hK K)|clear hK K)
end Go.Proofs.YtdngdjbgmojcoaaGreat.Pln
namespace Go.VS
set_option maxHeartbeats 1000000
open Go Go.RowKit
def B3 (K:Nat):List (Option Res)→List (Nat×Res)
 |[]=>[]
 |none::l=>B3 (K+1) l
 |some r::l=>(K,r)::B3 (K+1) l
def Xev (K:Nat):List (Option Res)→List (Nat×Option Res)
 |[]=>[]
 |none::l=>Xev (K+1) l
 |some _::l=>(K,none)::Xev (K+1) l
def Xfx (K:Nat):List (Option Res)→List (Nat×Option Res)
 |[]=>[]
 |none::l=>Xfx (K+1) l
 |some r::l=>(K,some r)::Xfx (K+1) l
theorem Xwj {l:List (Option Res)}:∀{K:Nat} {x:Nat×Res},x∈B3 K l↔∃j,l[j]? =some (some x.2)∧x.1=K+j:=by
 induction l with
 |nil=>intro K x;simp [B3]
 |cons y l ih=>
  intro K x
  have key:(∃j,(y::l)[j]? =some (some x.2)∧x.1=K+j)↔(y=some x.2∧x.1=K)∨∃j,l[j]? =some (some x.2)∧x.1=K+1+j:=by
   constructor
   ·rintro⟨j,h1,h2⟩
    cases j with
    |zero=>simp at h1;exact .inl ⟨h1,h2⟩
    |succ j=>exact .inr ⟨j,by simpa using h1,by omega⟩
   ·rintro(⟨h1,h2⟩|⟨j,h1,h2⟩)
    ·exact⟨0,by simp [h1],h2⟩
    ·exact⟨j+1,by simpa using h1,by omega⟩
  rw[key,← ih]
  cases y with
  |none=>simp [B3]
  |some r=>obtain⟨a,b⟩:=x;simp [B3,Prod.ext_iff,and_comm,eq_comm]
theorem Xwk {l:List (Option Res)}:∀{K:Nat} {x:Nat×Option Res},x∈Xev K l↔x.2=none∧∃j r,l[j]? =some (some r)∧x.1=K+j:=by
 induction l with
 |nil=>intro K x;simp [Xev]
 |cons y l ih=>
  intro K x
  have key:(∃j r,(y::l)[j]? =some (some r)∧x.1=K+j)↔(y≠none∧x.1=K)∨∃j r,l[j]? =some (some r)∧x.1=K+1+j:=by
   constructor
   ·rintro⟨j,r,h1,h2⟩
    cases j with
    |zero=>simp at h1;exact .inl ⟨by simp [h1],h2⟩
    |succ j=>exact .inr ⟨j,r,by simpa using h1,by omega⟩
   ·rintro(⟨h1,h2⟩|⟨j,r,h1,h2⟩)
    ·cases y with
     |none=>exact(h1 rfl).elim
     |some r=>exact⟨0,r,rfl,h2⟩
    ·exact⟨j+1,r,by simpa using h1,by omega⟩
  rw[key]
  cases y with
  |none=>rw[Xev,ih];simp
  |some r=>
   rw[Xev,List.mem_cons,ih]
   obtain⟨a,b⟩:=x
   simp only[Prod.mk.injEq,ne_eq,reduceCtorEq,not_false_eq_true,true_and]
   constructor
   ·rintro(⟨rfl,rfl⟩|⟨h1,h2⟩)
    ·exact⟨rfl,.inl rfl⟩
    ·exact⟨h1,.inr h2⟩
   ·rintro⟨h1,h2|h2⟩
    ·exact .inl ⟨h2,h1⟩
    ·exact .inr ⟨h1,h2⟩
theorem Xu8 {l:List (Option Res)}:∀{K:Nat} {x:Nat×Option Res},x∈Xfx K l↔∃j r,l[j]? =some (some r)∧x=(K+j,some r):=by
 induction l with
 |nil=>intro K x;simp [Xfx]
 |cons y l ih=>
  intro K x
  have key:(∃j r,(y::l)[j]? =some (some r)∧x=(K+j,some r))↔(∃r,y=some r∧x=(K,some r))∨∃j r,l[j]? =some (some r)∧x=(K+1+j,some r):=by
   constructor
   ·rintro⟨j,r,h1,h2⟩
    cases j with
    |zero=>simp at h1;exact .inl ⟨r,h1,h2⟩
    |succ j=>exact .inr ⟨j,r,by simpa using h1,by rw[h2,Nat.add_assoc,Nat.add_comm 1]⟩
   ·rintro(⟨r,h1,h2⟩|⟨j,r,h1,h2⟩)
    ·exact⟨0,r,by simp [h1],h2⟩
    ·exact⟨j+1,r,by simpa using h1,by rw[h2,Nat.add_assoc,Nat.add_comm 1]⟩
  rw[key,← ih]
  cases y with
  |none=>simp [Xfx]
  |some r=>simp [Xfx]
def ofL (s:Nat→Option Res) (K:Nat) (l:List (Option Res)):Nat→Option Res:=fun k=>if K≤k then(match (l[k - K]?).join with|some r=>some r|none=>s k) else s k
theorem K3 {l:List (Option Res)}:∀{s:Nat→Option Res} {K:Nat},upd s (B3 K l)=ofL s K l:=by
 induction l with
 |nil=>intro s K;funext k;simp [B3,upd,ofL]
 |cons y l ih=>
  intro s K
  have step:∀(s:Nat→Option Res) (k:Nat),K+1≤k→ofL s (K+1) l k=(match ((y::l)[k - K]?).join with|some r=>some r|none=>s k):=fun s k hk=>by
   unfold ofL
   rw[if_pos hk,show k - K=(k - (K+1))+1 from by omega,List.getElem?_cons_succ]
  cases y with
  |none=>
   show upd s (B3 (K+1) l)= _
   rw[ih]
   funext k
   by_cases h:K+1≤k
   ·rw[step s k h];unfold ofL;rw[if_pos (by omega)]
   ·unfold ofL
    rw[if_neg h]
    by_cases h2:K≤k
    ·have:k=K:=by omega
     subst this;simp
    ·rw[if_neg h2]
  |some r=>
   show upd (Xw s K r) (B3 (K+1) l)= _
   rw[ih]
   funext k
   by_cases h:K+1≤k
   ·rw[step _ k h,Zp s r (by omega)];unfold ofL;rw[if_pos (by omega)]
   ·unfold ofL
    rw[if_neg h]
    by_cases h2:K≤k
    ·have:k=K:=by omega
     subst this;simp [Xw]
    ·rw[if_neg h2,Zp s r (by omega)]
theorem Xrq {s:Nat→Option Res} {K j:Nat} {l:List (Option Res)} {r:Res} (h:l[j]? =some (some r)):ofL s K l (K+j)=some r:=by
 unfold ofL;rw[if_pos (by omega),Nat.add_sub_cancel_left,h];rfl
theorem Xf6 {s:Nat→Option Res} {K j:Nat} {l:List (Option Res)} (h:l[j]? =some none):ofL s K l (K+j)=s (K+j):=by
 unfold ofL;rw[if_pos (by omega),Nat.add_sub_cancel_left,h];rfl
theorem Xge {s:Nat→Option Res} {K k:Nat} {l:List (Option Res)} (h:k<K∨K+l.length≤k):ofL s K l k=s k:=by
 unfold ofL
 split
 ·rw[List.getElem?_eq_none (by omega)];rfl
 ·rfl
theorem Xpz {s:Nat→Option Res} {K:Nat} {l:List (Option Res)} (h:holds s (Xfx K l)) {j:Nat} {r:Res} (hj:l[j]? =some (some r)):s (K+j)=some r:=
 Q5.1 h (K+j,some r) (Xu8.2 ⟨j,r,hj,rfl⟩)
def szL (sz:Nat) (els:List (List AV)):Prop:=∀e,e∈els→e.length=sz
theorem E5 {α:Type} {sz:Nat} {f:α→List AV} (h:∀a,(f a).length=sz) (l:List α):szL sz (l.map f):=fun e he=>by
 obtain⟨a,_,rfl⟩:=List.mem_map.1 he
 exact h a
theorem Xre {sz:Nat}:∀{els:List (List AV)},szL sz els→els.flatten.length=els.length*sz
 |[],_=>by simp
 |x::l,h=>by
  rw[List.flatten_cons,List.length_append,h x (by simp),Xre fun e he=>h e (by simp [he]),List.length_cons,Nat.succ_mul,Nat.add_comm]
theorem Xfi {sz:Nat} {els:List (List AV)} (h:szL sz els):∀(i:Nat),els.flatten.drop (i*sz)=(els.drop i).flatten:=by
 intro i
 induction i generalizing els with
 |zero=>simp
 |succ i ih=>
  cases els with
  |nil=>simp
  |cons x l=>
   have hx:=h x (by simp)
   have hd:(x::l).flatten.drop sz=l.flatten:=by rw[List.flatten_cons,← hx,List.drop_left]
   rw[Nat.succ_mul,Nat.add_comm,← List.drop_drop,hd,List.drop_succ_cons]
   exact ih fun e he=>h e (by simp [he])
theorem Hm {sz:Nat} {els:List (List AV)} (h:szL sz els) {i j s:Nat} {x:List AV} {c:AV} (hi:els[i]? =some x) (hj:x[j]? =some c):pick false s (els.flatten.drop (i*sz+j))=some c:=by
 obtain⟨hl,he⟩:=List.getElem?_eq_some_iff.1 hi
 obtain⟨hl2,he2⟩:=List.getElem?_eq_some_iff.1 hj
 have hx:=h x (List.mem_of_getElem? hi)
 rw[← List.drop_drop,Xfi h,List.drop_eq_getElem_cons hl,he,List.flatten_cons,List.drop_append_of_le_length (by omega),List.drop_eq_getElem_cons hl2,he2]
 rfl
theorem Xgp {sz:Nat} {els:List (List AV)} (h:szL sz els) {i j:Nat} {x:List AV} {c:AV} (hi:els[i]? =some x) (hj:x[j]? =some c):els.flatten[i*sz+j]? =some c:=by
 have:=Hm (s:=0) h hi hj
 unfold pick at this
 rw[if_neg (by decide),List.head?_drop] at this
 exact this
theorem Xf7 {sz:Nat} {els:List (List AV)} (h:szL sz els) {i:Nat} {x:List AV} (hi:els[i]? =some x):els.flatten=(els.take i).flatten++(x++(els.drop (i+1)).flatten)∧(els.take i).flatten.length=i*sz:=by
 obtain⟨hl,he⟩:=List.getElem?_eq_some_iff.1 hi
 refine⟨?_,?_⟩
 ·conv=>lhs;rw[← List.take_append_drop i els,List.flatten_append,List.drop_eq_getElem_cons hl,he,List.flatten_cons]
 ·rw[Xre (sz:=sz) fun e he=>h e (List.mem_of_mem_take he),List.length_take,Nat.min_eq_left (by omega)]
theorem Xg6 {els:List (List AV)} {i:Nat} {x y:List AV} (hi:els[i]? =some x):(els.set i y).flatten=(els.take i).flatten++(y++(els.drop (i+1)).flatten):=by
 obtain⟨hl,he⟩:=List.getElem?_eq_some_iff.1 hi
 rw[List.set_eq_take_append_cons_drop,if_pos hl,List.flatten_append,List.flatten_cons]
theorem Xul {sz:Nat} {els:List (List AV)} (h:szL sz els) {i j:Nat} {x:List AV} {c d:AV} (hi:els[i]? =some x) (hj:x[j]? =some c):Yf els.flatten (i*sz+j) [d]=(els.set i (x.set j d)).flatten:=by
 obtain⟨h1,h2⟩:=Xf7 h hi
 obtain⟨hl2,he2⟩:=List.getElem?_eq_some_iff.1 hj
 rw[Xg6 hi,h1]
 unfold Yf
 rw[← h2,List.take_append,List.take_of_length_le (by omega),Nat.add_sub_cancel_left,List.take_append_of_le_length (by omega),List.append_assoc,List.append_assoc]
 congr 1
 rw[List.set_eq_take_append_cons_drop,if_pos hl2,List.append_assoc,List.cons_append]
 congr 1
 show d:: _= _
 congr 1
 rw[show(List.take i els).flatten.length+j+([d]:List AV).length=(List.take i els).flatten.length+(j+1) from by simp;omega,← List.drop_drop,List.drop_left,List.drop_append_of_le_length (by omega)]
 rfl
end Go.VS
