/- The layer of abstract values, joined. -/
import Derived.Test.YtdngdjbgmojcoaaGreatZPR
import Derived.Test.YtdngdjbgmojcoaaGreatZP5
import Derived.Test.YtdngdjbgmojcoaaGreatZTA
import Derived.Test.YtdngdjbgmojcoaaGreatZKA
import Derived.Test.YtdngdjbgmojcoaaGreatZVsMop
namespace Go.Proofs.YtdngdjbgmojcoaaGreat.Pln
set_option linter.all false
set_option maxHeartbeats 1000000
set_option maxRecDepth 4000
open Go Go.VS Tab
attribute [local irreducible] AWp Xp0 Pg X5c Qy Lt Tp FdT Eb
theorem Lj (a b:Int×Int):Nk [i64 a.1,i64 a.2] [i64 b.1,i64 b.2]=some (a==b):=by
 rw[X32];simp [Nk]
theorem Yfm (a b:Int×Int×Int):Nk [i64 a.1,i64 a.2.1,i64 a.2.2] [i64 b.1,i64 b.2.1,i64 b.2.2]=some (a==b):=by
 rw[Xgy];simp [Nk]
theorem Ycb {α:Type} [BEq α] [LawfulBEq α] (C:α->List AV) (F sz:Nat) (hq:(F=97∧sz=2)∨(F=102∧sz=2)∨(F=101∧sz=2)∨(F=103∧sz=3)∨(F=47∧sz=2)∨(F=48∧sz=3)∨(F=49∧sz=4)) (hC:∀x,(C x).length=sz) (hE:∀x y,Nk (C x) (C y)=some (x==y)) (l m':List α) (hl:l.length<=1000000000):Xr Tryz.prog F [.sl sz (l.map C) .sh,.sl sz (m'.map C) .sh] [] (bool (l==m')) []:=by
 rcases hq with ⟨rfl,e1⟩|⟨rfl,e1⟩|⟨rfl,e1⟩|⟨rfl,e1⟩|⟨rfl,e1⟩|⟨rfl,e1⟩|⟨rfl,e1⟩
 all_goals
  subst e1;have hP:=fun x=>E6 (hC x);first|refine Xc 0 Tryz.func97 rfl fun n out _ _=> ?_|refine Xc 0 Tryz.func102 rfl fun n out _ _=> ?_|refine Xc 0 Tryz.func101 rfl fun n out _ _=> ?_|refine Xc 0 Tryz.func103 rfl fun n out _ _=> ?_|refine Xc 0 Tryz.func47 rfl fun n out _ _=> ?_|refine Xc 0 Tryz.func48 rfl fun n out _ _=> ?_|refine Xc 0 Tryz.func49 rfl fun n out _ _=> ?_
  simp only[sn,Tryz.ntmps97,Tryz.ntmps102,Tryz.ntmps101,Tryz.ntmps103,Tryz.ntmps47,Tryz.ntmps48,Tryz.ntmps49,simprocAttr];repeat' (first|refine Vk fun K hK=> ?_|apply V0|apply Vs|(apply gE;simp only[zA,simprocAttr])|(apply Vz;refine Vo rfl rfl rfl (fun _ _=>rfl) ?_<;>first|rfl|(rw[Mu (by intro h;simp [h] at hg)];rfl)|skip)|(refine hK _ ?_;clear hK K)|refine Vi rfl (fun hg=> ?_) (fun hg=> ?_))
  have hlen:l.length=m'.length:=by
   have h1:((l.length:Int) !=(m'.length:Int))=false:=hg;simp at h1;omega
  apply V5;refine Xse (l.length) (fun i=>(∀j (hj:j<l.length) (hj':j<m'.length),j<i->l[j]=m'[j])) (fun i=>tp [4,5] (tr 14 12 [(13,i64 (i:Int))])) (fun i=>[]) (by intros;omega) ?_ fun i hi=> ?_
  ·refine La rfl ?_ ?_<;>simp only[sL]
  obtain⟨hi,hq⟩:=hi;simp only[pt];refine Vy fun K hK=> ?_;simp only[zA,simprocAttr]
  (refine hK _ ?_;clear hK K)
  refine Vk fun KC hKC=> ?_;refine Uz rfl (fun ht=>Xhj (hKC _ ?_)) (fun hf=>Qi (id ?_));rotate_left
  ·simp only[Qd,Z4,if_true];refine hK _ ?_;clear hK K hKC KC;have h_ib:i=l.length:=by have:=b7 hf;omega
   subst h_ib;have e:=Ua (l:=l) (m:=m') hlen fun i hi hi'=>hq i hi hi' hi;rw[e];repeat' (first|refine Vk fun K hK=> ?_|apply V0|(apply gE;simp only[zA,simprocAttr])|(apply Vz;refine Vo rfl rfl rfl (fun _ _=>rfl) ?_<;>first|rfl|skip)|(refine hK _ ?_;clear hK K))
  clear hKC KC;have hlt:i<l.length:=by have:=bf ht;omega
  refine Vk fun KC hKC=>Xe ?_;have hlt':i<m'.length:=by omega
  refine Vy fun K hK=> ?_;simp only[zA,simprocAttr]
  (refine hK _ ?_;clear hK K)
  refine Vy2 (by kernel_rfl) fun K hK=> ?_;simp only[zA,simprocAttr,hlt,hlt',Xg C l i [] hlt,Xg C m' i [] hlt',hP,hC,hE];repeat' (first|(refine hK _ ?_;clear hK K)|with_reducible apply ab)
  all_goals first|(decide;done)|kernel_rfl|skip
  refine Uz rfl (fun ht=> ?_) (fun hf=>Xhj ?_)
  ·have e:=Ut (l:=l) (m:=m') hlt hlt' (by simpa using ht);refine Vy fun K hK=> ?_;simp only[zA,simprocAttr]
   (refine hK _ ?_;clear hK K)
   rw[<- e];apply Vz;exact Qv (.inr rfl) rfl rfl rfl (fun _ _=>rfl) rfl
  repeat refine ab (by omega) ?_
  refine hKC _ ?_;clear hKC KC;refine Xn Xj [] ?_;simp only[zA,simprocAttr,Yl (n:=i) 1 1 rfl (by omega)];refine⟨i+1,⟨by omega,?_⟩,by omega,?_⟩
  ·intro j hj hj' hji;by_cases h:j=i
   ·subst h;simpa using hf
   ·exact hq j hj hj' (by omega)
  refine La rfl ?_ ?_<;>simp only[sL]
theorem Xf5 (l m':List Int) (hl:l.length<=1000000000):Xr Tryz.prog 100 [.sl 1 (l.map Ym) .sh,.sl 1 (m'.map Ym) .sh] [] (bool (l==m')) []:=by
 refine Xc 0 Tryz.func100 rfl fun n out _ _=> ?_;simp only[sn,Tryz.ntmps100,simprocAttr];repeat' (first|refine Vk fun K hK=> ?_|apply V0|apply Vs|(apply gE;simp only[zA,simprocAttr])|(apply Vz;refine Vo rfl rfl rfl (fun _ _=>rfl) ?_<;>first|rfl|(rw[Mu (by intro h;simp [h] at hg)];rfl)|skip)|(refine hK _ ?_;clear hK K)|refine Vi rfl (fun hg=> ?_) (fun hg=> ?_))
 have hlen:l.length=m'.length:=by
  have h1:((l.length:Int) !=(m'.length:Int))=false:=hg;simp at h1;omega
 apply V5;refine Xse (l.length) (fun i=>(∀j (hj:j<l.length) (hj':j<m'.length),j<i->l[j]=m'[j])) (fun i=>tp [4,5] (tr 14 12 [(13,i64 (i:Int))])) (fun i=>[]) (by intros;omega) ?_ fun i hi=> ?_
 ·refine La rfl ?_ ?_<;>simp only[sL]
 obtain⟨hi,hq⟩:=hi;simp only[pt];refine Vy fun K hK=> ?_;simp only[zA,simprocAttr]
 (refine hK _ ?_;clear hK K)
 refine Vk fun KC hKC=> ?_;refine Uz rfl (fun ht=>Xhj (hKC _ ?_)) (fun hf=>Qi (id ?_));rotate_left
 ·simp only[Qd,Z4,if_true];refine hK _ ?_;clear hK K hKC KC;have h_ib:i=l.length:=by have:=b7 hf;omega
  subst h_ib;have e:=Ua (l:=l) (m:=m') hlen fun i hi hi'=>hq i hi hi' hi;rw[e];repeat' (first|refine Vk fun K hK=> ?_|apply V0|(apply gE;simp only[zA,simprocAttr])|(apply Vz;refine Vo rfl rfl rfl (fun _ _=>rfl) ?_<;>first|rfl|skip)|(refine hK _ ?_;clear hK K))
 clear hKC KC;have hlt:i<l.length:=by have:=bf ht;omega
 refine Vk fun KC hKC=>Xe ?_;have hlt':i<m'.length:=by omega
 refine Vy fun K hK=> ?_;simp only[zA,simprocAttr]
 (refine hK _ ?_;clear hK K)
 refine Vy2 (by kernel_rfl) fun K hK=> ?_;simp only[zA,simprocAttr,hlt,hlt',Xg Ym l i [] hlt,Xg Ym m' i [] hlt',Ym]
 (refine hK _ ?_;clear hK K)
 all_goals first|(decide;done)|kernel_rfl|skip
 refine Uz rfl (fun ht=> ?_) (fun hf=>Xhj ?_)
 ·have e:=Ut (l:=l) (m:=m') hlt hlt' (by simpa using ht);refine Vy fun K hK=> ?_;simp only[zA,simprocAttr]
  (refine hK _ ?_;clear hK K)
  rw[<- e];apply Vz;exact Qv (.inr rfl) rfl rfl rfl (fun _ _=>rfl) rfl
 repeat refine ab (by omega) ?_
 refine hKC _ ?_;clear hKC KC;refine Xn Xj [] ?_;simp only[zA,simprocAttr,Yl (n:=i) 1 1 rfl (by omega)];refine⟨i+1,⟨by omega,?_⟩,by omega,?_⟩
 ·intro j hj hj' hji;by_cases h:j=i
  ·subst h;simpa using hf
  ·exact hq j hj hj' (by omega)
 refine La rfl ?_ ?_<;>simp only[sL]
theorem Xga (l m':List (Int×Int)) (hl:l.length<=1000000000):Xr Tryz.prog 97 [.sl 2 (l.map jnC) .sh,.sl 2 (m'.map jnC) .sh] [] (bool (l==m')) []:=Ycb jnC _ _ (by decide) (fun _=>rfl) Lj l m' hl
theorem Xgb (l m':List (Int×Int)) (hl:l.length<=1000000000):Xr Tryz.prog 102 [.sl 2 (l.map jnC) .sh,.sl 2 (m'.map jnC) .sh] [] (bool (l==m')) []:=Ycb jnC _ _ (by decide) (fun _=>rfl) Lj l m' hl
theorem Xgc (l m':List (Int×Int)) (hl:l.length<=1000000000):Xr Tryz.prog 101 [.sl 2 (l.map jnC) .sh,.sl 2 (m'.map jnC) .sh] [] (bool (l==m')) []:=Ycb jnC _ _ (by decide) (fun _=>rfl) Lj l m' hl
theorem Xgd (l m':List (Int×Int×Int)) (hl:l.length<=1000000000):Xr Tryz.prog 103 [.sl 3 (l.map sgC) .sh,.sl 3 (m'.map sgC) .sh] [] (bool (l==m')) []:=Ycb sgC _ _ (by decide) (fun _=>rfl) Yfm l m' hl
def Fv {α β:Type} (p:α->β->Bool):List α->List β->Bool
 |[],[]=>true
 |x::l,y::m=>p x y&&Fv p l m
 | _,_=>false
theorem Rj {α β:Type} {p:α->β->Bool}:∀{l:List α} {m:List β},l.length≠m.length->Fv p l m=false
 |[],[],h=>(h rfl).elim
 |x::l,y::m,h=>by rw[Fv,Rj (by simpa using h),dm]
 |[],_:: _,_=>rfl
 | _:: _,[],_=>rfl
theorem Xo4 {α β:Type} {p:α->β->Bool}:∀{l:List α} {m:List β},l.length=m.length->(∀i (hi:i<l.length) (hi':i<m.length),p l[i] m[i]=true)->Fv p l m=true
 |[],[],_,_=>rfl
 |x::l,y::m,h,hp=>by
  rw[Fv,Xo4 (by simpa using h) fun i hi hi'=>hp (i+1) (by simpa using hi) (by simpa using hi'),di];exact hp 0 (by simp) (by simp)
 |[],_:: _,h,_=>by simp at h
 | _:: _,[],h,_=>by simp at h
theorem Xo5 {α β:Type} {p:α->β->Bool}:∀{l:List α} {m:List β} {i:Nat} (hi:i<l.length) (hi':i<m.length),p l[i] m[i]=false->Fv p l m=false
 |x::l,y::m,0,_,_,h=>by
  have h':p x y=false:=h;simp [Fv,h']
 |x::l,y::m,i+1,hi,hi',h=>by
  have h':=Xo5 (p:=p) (l:=l) (m:=m) (i:=i) (by simpa using hi) (by simpa using hi') h;simp [Fv,h']
 |[],_,_,hi,_,_=>by simp at hi
 | _:: _,[],_,_,hi',_=>by simp at hi'
theorem Yc8 {α β:Type} (C:α->List AV) (D:β->List AV) (F sz sz2:Nat) (hq:(F=95∧sz=3∧sz2=3)∨(F=98∧sz=7∧sz2=7)∨(F=167∧sz=2∧sz2=3)∨(F=169∧sz=3∧sz2=2)∨(F=171∧sz=4∧sz2=7)∨(F=44∧sz=3∧sz2=3)∨(F=45∧sz=4∧sz2=4)) (hC:∀x,(C x).length=sz) (hD:∀x,(D x).length=sz2) (l:List α) (m':List β) (fid:FuncId) (caps:List AV) (p:α->β->Bool) (hb:Xd Tryz.prog fid=True) (hl:l.length<=1000000000)
  (hp:∀x,x∈l->∀y,y∈m'->Xr Tryz.prog fid (.agg (C x):: .agg (D y)::caps) [] (bool (p x y)) []):
  Xr Tryz.prog F [.sl sz (l.map C) .sh,.sl sz2 (m'.map D) .sh,.fn (.func fid) caps] [] (bool (Fv p l m')) []:=by
 rcases hq with ⟨rfl,e1,e2⟩|⟨rfl,e1,e2⟩|⟨rfl,e1,e2⟩|⟨rfl,e1,e2⟩|⟨rfl,e1,e2⟩|⟨rfl,e1,e2⟩|⟨rfl,e1,e2⟩
 all_goals
  subst e1 e2;have hP:=fun x=>E6 (hC x);have hQ:=fun x=>E6 (hD x);first|refine Xc 2 Tryz.func95 rfl fun n out _ _=> ?_|refine Xc 2 Tryz.func98 rfl fun n out _ _=> ?_|refine Xc 2 Tryz.func167 rfl fun n out _ _=> ?_|refine Xc 2 Tryz.func169 rfl fun n out _ _=> ?_|refine Xc 2 Tryz.func171 rfl fun n out _ _=> ?_|refine Xc 2 Tryz.func44 rfl fun n out _ _=> ?_|refine Xc 2 Tryz.func45 rfl fun n out _ _=> ?_
  simp only[sn,Tryz.ntmps95,Tryz.ntmps98,Tryz.ntmps167,Tryz.ntmps169,Tryz.ntmps171,Tryz.ntmps44,Tryz.ntmps45,simprocAttr];repeat' (first|refine Vk fun K hK=> ?_|apply V0|apply Vs|(apply gE;simp only[zA,simprocAttr])|(apply Vz;refine Vo rfl rfl rfl (fun _ _=>rfl) ?_<;>first|rfl|(rw[Rj (p:=p) (l:=l) (m:=m') (by intro h;simp [h] at hg)];rfl)|skip)|(refine hK _ ?_;clear hK K)|refine Vi rfl (fun hg=> ?_) (fun hg=> ?_))
  have hlen:l.length=m'.length:=by
   have h1:((l.length:Int) !=(m'.length:Int))=false:=hg;simp at h1;omega
  apply V5;refine Xpw (l.length) (fun i=>(∀j (hj:j<l.length) (hj':j<m'.length),j<i->p l[j] m'[j]=true)) (fun m i=>tr 18 14 (tr 6 4 [(17,i64 (i:Int))])) (fun m i=>[none,none]) (by intros;omega) ?_ fun m i hm hi=> ?_
  ·refine La rfl ?_ ?_<;>simp only[sL]
  obtain⟨hi,hq⟩:=hi;simp only[pt];refine Vy fun K hK=> ?_;simp only[zA,simprocAttr]
  (refine hK _ ?_;clear hK K)
  refine Vk fun KC hKC=> ?_;refine Uz rfl (fun ht=>Xhj (hKC _ ?_)) (fun hf=>Qi (id ?_));rotate_left
  ·simp only[Qd,Z4,if_true];refine hK _ ?_;clear hK K hKC KC;have h_ib:i=l.length:=by have:=b7 hf;omega
   subst h_ib;have e:=Xo4 (p:=p) hlen fun i hi hi'=>hq i hi hi' hi;rw[e];repeat' (first|refine Vk fun K hK=> ?_|apply V0|(apply gE;simp only[zA,simprocAttr])|(apply Vz;refine Vo rfl rfl rfl (fun _ _=>rfl) ?_<;>first|rfl|skip)|(refine hK _ ?_;clear hK K))
  clear hKC KC;have hlt:i<l.length:=by have:=bf ht;omega
  refine Vk fun KC hKC=>Xe ?_;have hlt':i<m'.length:=by omega
  refine Vy fun K hK=> ?_;simp only[zA,simprocAttr,Xi hm,hlt,Xg C l i [] hlt,X0,hP,hC]
  (refine hK _ ?_;clear hK K)
  refine Vy fun K hK=> ?_;simp only[zA,simprocAttr,Xi hm,hlt',Xg D m' i [] hlt',X0,hQ,hD]
  (refine hK _ ?_;clear hK K)
  refine Vy fun K hK=> ?_;simp only[zA,simprocAttr,Xi hm,hb,hP,hQ]
  skip
  refine X3 (hp _ (a8 hlt) _ (a8 hlt')) ?_;simp only[zA,simprocAttr]
  (refine hK _ ?_;clear hK K)
  refine Uz rfl (fun ht=> ?_) (fun hf=>Xhj ?_)
  ·have e:=Xo5 hlt hlt' (by simpa using ht);refine Vy fun K hK=> ?_;simp only[zA,simprocAttr]
   (refine hK _ ?_;clear hK K)
   rw[<- e];apply Vz;exact Qv (.inr rfl) rfl rfl rfl (fun _ _=>rfl) rfl
  repeat refine ab (by omega) ?_
  refine hKC _ ?_;clear hKC KC;refine Xn Xj [] ?_;simp only[zA,simprocAttr,Yl (n:=i) 1 1 rfl (by omega)];refine⟨i+1,⟨by omega,?_⟩,by omega,?_⟩
  ·intro j hj hj' hji;by_cases h:j=i
   ·subst h;simpa using hf
   ·exact hq j hj hj' (by omega)
  refine Xx [false,false] ?_ ?_<;>intro n_<;>simp only[sM]
theorem Xeq (l m':List (Sec)) (fid:FuncId) (caps:List AV) (p:Sec->Sec->Bool) (hb:Xd Tryz.prog fid=True) (hl:l.length<=1000000000)
  (hp:∀x,x∈l->∀y,y∈m'->Xr Tryz.prog fid (Qh x::Qh y::caps) [] (bool (p x y)) []):
  Xr Tryz.prog 95 [.sl 3 (l.map Y6) .sh,.sl 3 (m'.map Y6) .sh,.fn (.func fid) caps] [] (bool (Fv p l m')) []:=Yc8 Y6 Y6 _ _ _ (by decide) (fun _=>rfl) (fun _=>rfl) l m' fid caps p hb hl hp
theorem Xf0 (l m':List (Rt)) (fid:FuncId) (caps:List AV) (p:Rt->Rt->Bool) (hb:Xd Tryz.prog fid=True) (hl:l.length<=1000000000)
  (hp:∀x,x∈l->∀y,y∈m'->Xr Tryz.prog fid (rtA x::rtA y::caps) [] (bool (p x y)) []):
  Xr Tryz.prog 98 [.sl 7 (l.map rtC) .sh,.sl 7 (m'.map rtC) .sh,.fn (.func fid) caps] [] (bool (Fv p l m')) []:=Yc8 rtC rtC _ _ _ (by decide) (fun _=>rfl) (fun _=>rfl) l m' fid caps p hb hl hp
end Go.Proofs.YtdngdjbgmojcoaaGreat.Pln
namespace Go.Proofs.YtdngdjbgmojcoaaGreat.Pln
set_option linter.all false
set_option maxHeartbeats 1000000
open Go Go.VS
def tkC (t:Int×UInt8):List AV:=[i64 t.1,b8 t.2]
def lkC (l:Int×UInt8×Int×Int):List AV:=[i64 l.1,b8 l.2.1,i64 l.2.2.1,i64 l.2.2.2]
def tkA (t:Int×UInt8):AV:= .agg (tkC t)
def lkA (l:Int×UInt8×Int×Int):AV:= .agg (lkC l)
structure St where
 tr:List (Int×UInt8)
 sw:List (Int×Int×Int)
 lk:List (Int×UInt8×Int×Int)
def stC (s:St):List AV:=[.sl 2 (s.tr.map tkC) .sh,.sl 3 (s.sw.map sgC) .sh,.sl 4 (s.lk.map lkC) .sh]
def stA (s:St):AV:= .agg (stC s)
def Y2v:St:=⟨[],[],[]⟩
structure SmS (s:St):Prop where
 t:s.tr.length<=1000
 w:s.sw.length<=1000
 l:s.lk.length<=1000
def Xyh (n:Int):Bool:=decide (0<=n)&&decide (n<=2)
def Xvr (t:Int×UInt8) (s:Sec):Bool:=t.1==s.id&&decide (t.2.toNat<=2)
def Xuw (w:Int×Int×Int) (x:Int×Int):Bool:=w.1==x.1&&(Xyh w.2.1&&Xyh w.2.2)
def Xr7 (l:Int×UInt8×Int×Int) (r:Rt):Bool:=
 if l.2.1=0∨l.2.1=1 then l.2.2.1==0&&l.2.2.2==0
 else if l.2.1=2 then(decide (0<=l.2.2.1)&&decide (l.2.2.1<=(r.path.length:Int) - 1))&&l.2.2.2==0
 else if l.2.1=3 then(l.2.2.1==(r.path.length:Int) - 1&&decide (1<=l.2.2.2))&&decide (l.2.2.2<=r.timer)
 else if l.2.1=4 then(l.2.2.1==0&&decide (1<=l.2.2.2))&&decide (l.2.2.2<=r.timer)
 else false
def Xsm (l:Int×UInt8×Int×Int) (r:Rt):Bool:=l.1==r.id&&Xr7 l r
def Xog (p:Pl) (s:St):Bool:=Fv Xvr s.tr p.secs&&(Fv Xuw s.sw p.pts&&Fv Xsm s.lk p.rts)
def Xpm (w:Wy) (l:Int×UInt8×Int×Int):Nat:=min (l.2.2.1.toNat) w.path.length
def Xql (w:Wy) (l:Int×UInt8×Int×Int):List Int:=if l.2.1=0 then[] else w.path.drop (Xpm w l)++w.over
def Xug (l:Int×UInt8×Int×Int) (a:Int×Int×Int):Bool:=decide (a.2.2<0)||decide (l.2.2.1<=a.2.2)
def Xrn (w:Wy) (l:Int×UInt8×Int×Int):List (Int×Int×Int):=if l.2.1=0 then[] else w.asks
structure Gp where
 ok:Bool
 hold:List Int
 ask:List Int
def Xos (id:Int) (g:Gp) (s:Int):Gp:=⟨g.ok&&(g.hold.getD s.toNat 0==0),g.hold.set s.toNat id,g.ask⟩
def Xsn (id:Int):Gp->List Int->Gp
 |g,[]=>g
 |g,s::l=>if (Xos id g s).ok then Xsn id (Xos id g s) l else Xos id g s
def Xot (called:List (Int×Int)) (g:Gp) (a:Int×Int×Int):Gp:=⟨g.ok&&(Xyw called a.1==a.2.1),g.hold,g.ask.set a.1.toNat a.2.1⟩
def Xs9 (called:List (Int×Int)) (p:Int×Int×Int->Bool):Gp->List (Int×Int×Int)->Gp
 |g,[]=>g
 |g,a::l=>if p a then(if (Xot called g a).ok then Xs9 called p (Xot called g a) l else Xot called g a) else Xs9 called p g l
def Xi0 (called:List (Int×Int)) (g:Gp) (x:Wy×(Int×UInt8×Int×Int)):Gp:=Xs9 called (Xug x.2) (Xsn x.2.1 g (Xql x.1 x.2)) (Xrn x.1 x.2)
def Xjs (s:List (Int×Int×Int)):List (Int×Int):=s.foldl (fun m w=>Xxz m w.1 w.2.2) []
def Xpg (p:Pl) (s:St):Gp:=((p.rts.map (Xop p)).zip s.lk).foldl (Xi0 (Xjs s.sw)) ⟨true,List.replicate 100 0,List.replicate 100 0⟩
def Xqm (p:Pl) (s:St):Bool:=Xog p s&&(Xpg p s).ok
def Xrz (p:Pl) (s:St):Int:=if Xo3 p=0 then(if Xqm p s then 0 else 8) else Xo3 p
theorem Xqn (id:Int):∀(l:List Int) (g:Gp),(Xsn id g l).hold.length=g.hold.length∧(Xsn id g l).ask=g.ask
 |[],_=>⟨rfl,rfl⟩
 |s::l,g=>by
  unfold Xsn;split
  ·have:=Xqn id l (Xos id g s);refine⟨this.1.trans ?_,this.2⟩;simp [Xos]
  ·exact⟨by simp [Xos],rfl⟩
theorem Xro (c:List (Int×Int)) (p:Int×Int×Int->Bool):∀(l:List (Int×Int×Int)) (g:Gp),(Xs9 c p g l).ask.length=g.ask.length∧(Xs9 c p g l).hold=g.hold
 |[],_=>⟨rfl,rfl⟩
 |a::l,g=>by
  unfold Xs9;split
  ·split
   ·have:=Xro c p l (Xot c g a);refine⟨this.1.trans ?_,this.2⟩;simp [Xot]
   ·exact⟨by simp [Xot],rfl⟩
  ·exact Xro c p l g
theorem Xvs (c:List (Int×Int)) (g:Gp) (x:Wy×(Int×UInt8×Int×Int)):(Xi0 c g x).hold.length=g.hold.length∧(Xi0 c g x).ask.length=g.ask.length:=by
 unfold Xi0;obtain⟨h1,h2⟩:=Xro c (Xug x.2) (Xrn x.1 x.2) (Xsn x.2.1 g (Xql x.1 x.2));obtain⟨h3,h4⟩:=Xqn x.2.1 (Xql x.1 x.2) g;exact⟨by rw[h2,h3],by rw[h1,h4]⟩
theorem Xpn (c:List (Int×Int)):∀(l:List (Wy×(Int×UInt8×Int×Int))) (g:Gp),(l.foldl (Xi0 c) g).hold.length=g.hold.length∧(l.foldl (Xi0 c) g).ask.length=g.ask.length
 |[],_=>⟨rfl,rfl⟩
 |x::l,g=>by
  obtain⟨h1,h2⟩:=Xpn c l (Xi0 c g x);obtain⟨h3,h4⟩:=Xvs c g x;exact⟨h1.trans h3,h2.trans h4⟩
theorem Xx7 {p:Pl} (h:Uf p=true) {r:Rt} (hr:r∈p.rts):∀n,n∈r.path++r.over->0<=n∧n<100:=by
 obtain⟨_,h2,_,_,_,_,hrs⟩:=Xol h;have ho:=hrs r hr;unfold okR at ho;cases hg:Xpe p.sgs r.entry with
 |none=>rw[hg] at ho;cases ho
 |some en=>
  rw[hg] at ho;simp only[ad,ao] at ho;intro n hn;obtain⟨i,hi,rfl⟩:=am hn;have:=Z3.1 ho.1.2 i hi;unfold okL at this;simp only[ad] at this;have hs:=this.1.1;cases hg2:Qt p.secs (r.path++r.over)[i] with
  |none=>rw[hg2] at hs;cases hs
  |some t=>
   obtain⟨ht,hid⟩:=Ba hg2;have hn:=((B9 h2).2 t ht).1;rw[U1,hid] at hn;omega
end Go.Proofs.YtdngdjbgmojcoaaGreat.Pln
namespace Go.Proofs.YtdngdjbgmojcoaaGreat.Pln
set_option linter.all false
set_option maxHeartbeats 4000000
set_option maxRecDepth 4000
open Go Go.VS Tab
theorem Xr8 (x y:UInt8):((x.toNat:Int)==(y.toNat:Int))=(x==y):=by
 rw[ar];simp only[bq];constructor
 ·intro h;exact UInt8.toNat_inj.1 (by omega)
 ·rintro rfl;rfl
theorem Xqo (a b:Int×UInt8):Nk [i64 a.1,b8 a.2] [i64 b.1,b8 b.2]=some (a==b):=by
 rw[show(a==b)=((a.1==b.1)&&(a.2==b.2)) from rfl,<- Xr8];simp [Nk]
theorem Xqp (a b:Int×UInt8×Int×Int):Nk [i64 a.1,b8 a.2.1,i64 a.2.2.1,i64 a.2.2.2] [i64 b.1,b8 b.2.1,i64 b.2.2.1,i64 b.2.2.2]=some (a==b):=by
 rw[show(a==b)=((a.1==b.1)&&((a.2.1==b.2.1)&&((a.2.2.1==b.2.2.1)&&(a.2.2.2==b.2.2.2)))) from rfl,<- Xr8];simp [Nk]
theorem Xsw (l:List (Int×UInt8)) (m':List (Sec)) (fid:FuncId) (caps:List AV) (p:Int×UInt8->Sec->Bool) (hb:Xd Tryz.prog fid=True) (hl:l.length<=1000000000)
  (hp:∀x,x∈l->∀y,y∈m'->Xr Tryz.prog fid (tkA x::Qh y::caps) [] (bool (p x y)) []):
  Xr Tryz.prog 167 [.sl 2 (l.map tkC) .sh,.sl 3 (m'.map Y6) .sh,.fn (.func fid) caps] [] (bool (Fv p l m')) []:=Yc8 tkC Y6 _ _ _ (by decide) (fun _=>rfl) (fun _=>rfl) l m' fid caps p hb hl hp
theorem Xsx (l:List (Int×Int×Int)) (m':List (Int×Int)) (fid:FuncId) (caps:List AV) (p:Int×Int×Int->Int×Int->Bool) (hb:Xd Tryz.prog fid=True) (hl:l.length<=1000000000)
  (hp:∀x,x∈l->∀y,y∈m'->Xr Tryz.prog fid (sgA x::jnA y::caps) [] (bool (p x y)) []):
  Xr Tryz.prog 169 [.sl 3 (l.map sgC) .sh,.sl 2 (m'.map jnC) .sh,.fn (.func fid) caps] [] (bool (Fv p l m')) []:=Yc8 sgC jnC _ _ _ (by decide) (fun _=>rfl) (fun _=>rfl) l m' fid caps p hb hl hp
theorem Xsy (l:List (Int×UInt8×Int×Int)) (m':List (Rt)) (fid:FuncId) (caps:List AV) (p:Int×UInt8×Int×Int->Rt->Bool) (hb:Xd Tryz.prog fid=True) (hl:l.length<=1000000000)
  (hp:∀x,x∈l->∀y,y∈m'->Xr Tryz.prog fid (lkA x::rtA y::caps) [] (bool (p x y)) []):
  Xr Tryz.prog 171 [.sl 4 (l.map lkC) .sh,.sl 7 (m'.map rtC) .sh,.fn (.func fid) caps] [] (bool (Fv p l m')) []:=Yc8 lkC rtC _ _ _ (by decide) (fun _=>rfl) (fun _=>rfl) l m' fid caps p hb hl hp
end Go.Proofs.YtdngdjbgmojcoaaGreat.Pln
namespace Go.Proofs.YtdngdjbgmojcoaaGreat.Pln
set_option linter.all false
set_option maxHeartbeats 8000000
set_option maxRecDepth 4000
open Go Go.VS Tab
attribute [local irreducible] AWp Xp0 Pg X5c Qy Lt Tp FdT Eb
theorem Xzc (n:Int):Xr Tryz.prog 166 [i64 n] [] (bool (Xyh n)) []:=by
 unfold Xyh;refine Xc 0 Tryz.func166 rfl fun n out _ _=> ?_;simp only[sn,Tryz.ntmps166,simprocAttr];have hg:=Nat.le_refl 0;repeat' (first|refine Vk fun K hK=> ?_|apply V0|apply Vs|with_reducible apply ab|((first|apply gE|apply gR|apply gS);simp only[zA,simprocAttr,hg])|exact Vn|(apply Vz;refine Vo rfl rfl rfl (fun _ _=>rfl) ?_<;>first|rfl|(first|rfl|(simp only[g_0,g_s];refine congrArg VS.bool ?_;rw[ar];first|(simp [] at* <;>omega)|(simp_all []<;>omega)))|skip)|((refine Vg (fun hg=> ?_) (fun hg=> ?_))<;>try simp only[nb] at hg)|(refine hK _ ?_;clear hK K)|clear hK K)
theorem Xzd (t:Int×UInt8) (s:Sec):Xr Tryz.prog 168 [tkA t,Qh s] [] (bool (Xvr t s)) []:=by
 unfold Xvr;refine Xc 2 Tryz.func168 rfl fun n out _ _=> ?_;simp only[sn,Tryz.ntmps168,simprocAttr];have hg:=Nat.le_refl 0;repeat' (first|refine Vk fun K hK=> ?_|apply V0|apply Vs|with_reducible apply ab|((first|apply gE|apply gR|apply gS);simp only[zA,simprocAttr,hg,tkA,tkC,Qh,Y6])|exact Vn|(apply Vz;refine Vo rfl rfl rfl (fun _ _=>rfl) ?_<;>first|rfl|(first|rfl|(simp only[g_0,g_s];refine congrArg VS.bool ?_;rw[ar];first|(simp [] at* <;>omega)|(simp_all []<;>omega)))|skip)|((refine Vg (fun hg=> ?_) (fun hg=> ?_))<;>try simp only[nb] at hg)|(refine hK _ ?_;clear hK K)|clear hK K)
theorem Xze (w:Int×Int×Int) (x:Int×Int):Xr Tryz.prog 170 [sgA w,jnA x,.ref [.fn (.func 166) []]] [] (bool (Xuw w x)) []:=by
 have hb:Xd Tryz.prog 166=True:=hb0 _ (by decide) (by decide);have c1:=Xzc w.2.1;have c2:=Xzc w.2.2;unfold Xuw;generalize Xyh w.2.1=B1 at*;generalize Xyh w.2.2=B2 at*;refine Xc 2 Tryz.func170 rfl fun n out _ _=> ?_;simp only[sn,Tryz.ntmps170,simprocAttr];have hg:=Nat.le_refl 0;repeat' (first|refine Vk fun K hK=> ?_|apply V0|apply Vs|with_reducible apply ab|((first|apply gE|apply gR|apply gS);simp only[zA,simprocAttr,hg,sgA,sgC,jnA,jnC,hb])|exact Vn|(apply Vz;refine Vo rfl rfl rfl (fun _ _=>rfl) ?_<;>first|rfl|(simp only[g_0,g_s];refine congrArg VS.bool ?_;simp_all;done)|skip)|(refine X3 (c1) ?_)|(refine X3 (c2) ?_)|((refine Vg (fun hg=> ?_) (fun hg=> ?_))<;>try simp only[nb] at hg)|(refine hK _ ?_;clear hK K)|clear hK K)
theorem Xyl (l:Int×UInt8×Int×Int) (r:Rt) (hr:r.path.length<=1000000):Xr Tryz.prog 173 [lkA l,rtA r] [] (bool (Xr7 l r)) []:=by
 have hs:IntKind.i64.wrap ((r.path.length:Int) - 1)=(r.path.length:Int) - 1:=by rw[wrap_i64]<;>omega
 obtain⟨a,ph,g,le⟩:=l;have q:∀k:UInt8,((ph.toNat:Int)==(k.toNat:Int))=(ph==k):=fun k=>Xr8 ph k;have q0:=q 0;have q1:=q 1;have q2:=q 2;have q3:=q 3;have q4:=q 4;simp only[show((0:UInt8).toNat:Int)=0 from rfl,show((1:UInt8).toNat:Int)=1 from rfl,show((2:UInt8).toNat:Int)=2 from rfl,show((3:UInt8).toNat:Int)=3 from rfl,show((4:UInt8).toNat:Int)=4 from rfl] at q0 q1 q2 q3 q4;unfold Xr7;dsimp only;by_cases p0:ph=0
 ·have e0:(ph==0)=true:=by simpa using p0
  rw[if_pos (.inl p0)];rw[e0] at q0;refine Xc 2 Tryz.func173 rfl fun n out _ _=> ?_;simp only[sn,Tryz.ntmps173,simprocAttr];have hg:=Nat.le_refl 0;repeat' (first|refine Vk fun K hK=> ?_|apply V0|apply Vb|apply Vc|apply Vr|apply Vs|with_reducible apply ab|((first|apply gE|apply gR|apply gS);simp only[zA,simprocAttr,hg,lkA,lkC,rtA,rtC,hs,q0])|exact Vn|(apply Vz;refine Vo rfl rfl rfl (fun _ _=>rfl) ?_<;>first|rfl|(first|rfl|(simp only[g_0,g_s];refine congrArg VS.bool ?_;rw[ar];first|(simp [] at* <;>omega)|(simp_all []<;>omega)))|skip)|((refine Vg (fun hg=> ?_) (fun hg=> ?_))<;>try simp only[nb] at hg)|(refine hK _ ?_;clear hK K)|refine Vt rfl ?_|refine Vf rfl ?_|refine Vi rfl (fun hg=> ?_) (fun hg=> ?_)|clear hK K)
 ·have e0:(ph==0)=false:=by simpa using p0
  rw[e0] at q0;by_cases p1:ph=1
  ·have e1:(ph==1)=true:=by simpa using p1
   rw[if_pos (.inr p1)];rw[e1] at q1;refine Xc 2 Tryz.func173 rfl fun n out _ _=> ?_;simp only[sn,Tryz.ntmps173,simprocAttr];have hg:=Nat.le_refl 0;repeat' (first|refine Vk fun K hK=> ?_|apply V0|apply Vb|apply Vc|apply Vr|apply Vs|with_reducible apply ab|((first|apply gE|apply gR|apply gS);simp only[zA,simprocAttr,hg,lkA,lkC,rtA,rtC,hs,q0,q1])|exact Vn|(apply Vz;refine Vo rfl rfl rfl (fun _ _=>rfl) ?_<;>first|rfl|(first|rfl|(simp only[g_0,g_s];refine congrArg VS.bool ?_;rw[ar];first|(simp [] at* <;>omega)|(simp_all []<;>omega)))|skip)|((refine Vg (fun hg=> ?_) (fun hg=> ?_))<;>try simp only[nb] at hg)|(refine hK _ ?_;clear hK K)|refine Vt rfl ?_|refine Vf rfl ?_|refine Vi rfl (fun hg=> ?_) (fun hg=> ?_)|clear hK K)
  ·have e1:(ph==1)=false:=by simpa using p1
   rw[e1] at q1;rw[if_neg (by simp [p0,p1])];by_cases p2:ph=2
   ·have e2:(ph==2)=true:=by simpa using p2
    rw[if_pos p2];rw[e2] at q2;refine Xc 2 Tryz.func173 rfl fun n out _ _=> ?_;simp only[sn,Tryz.ntmps173,simprocAttr];have hg:=Nat.le_refl 0;repeat' (first|refine Vk fun K hK=> ?_|apply V0|apply Vb|apply Vc|apply Vr|apply Vs|with_reducible apply ab|((first|apply gE|apply gR|apply gS);simp only[zA,simprocAttr,hg,lkA,lkC,rtA,rtC,hs,q0,q1,q2])|exact Vn|(apply Vz;refine Vo rfl rfl rfl (fun _ _=>rfl) ?_<;>first|rfl|(first|rfl|(simp only[g_0,g_s];refine congrArg VS.bool ?_;rw[ar];first|(simp [] at* <;>omega)|(simp_all []<;>omega)))|skip)|((refine Vg (fun hg=> ?_) (fun hg=> ?_))<;>try simp only[nb] at hg)|(refine hK _ ?_;clear hK K)|refine Vt rfl ?_|refine Vf rfl ?_|refine Vi rfl (fun hg=> ?_) (fun hg=> ?_)|clear hK K)
   ·have e2:(ph==2)=false:=by simpa using p2
    rw[e2] at q2;rw[if_neg p2];by_cases p3:ph=3
    ·have e3:(ph==3)=true:=by simpa using p3
     rw[if_pos p3];rw[e3] at q3;refine Xc 2 Tryz.func173 rfl fun n out _ _=> ?_;simp only[sn,Tryz.ntmps173,simprocAttr];have hg:=Nat.le_refl 0;repeat' (first|refine Vk fun K hK=> ?_|apply V0|apply Vb|apply Vc|apply Vr|apply Vs|with_reducible apply ab|((first|apply gE|apply gR|apply gS);simp only[zA,simprocAttr,hg,lkA,lkC,rtA,rtC,hs,q0,q1,q2,q3])|exact Vn|(apply Vz;refine Vo rfl rfl rfl (fun _ _=>rfl) ?_<;>first|rfl|(first|rfl|(simp only[g_0,g_s];refine congrArg VS.bool ?_;rw[ar];first|(simp [] at* <;>omega)|(simp_all []<;>omega)))|skip)|((refine Vg (fun hg=> ?_) (fun hg=> ?_))<;>try simp only[nb] at hg)|(refine hK _ ?_;clear hK K)|refine Vt rfl ?_|refine Vf rfl ?_|refine Vi rfl (fun hg=> ?_) (fun hg=> ?_)|clear hK K)
    ·have e3:(ph==3)=false:=by simpa using p3
     rw[e3] at q3;rw[if_neg p3];by_cases p4:ph=4
     ·have e4:(ph==4)=true:=by simpa using p4
      rw[if_pos p4];rw[e4] at q4;refine Xc 2 Tryz.func173 rfl fun n out _ _=> ?_;simp only[sn,Tryz.ntmps173,simprocAttr];have hg:=Nat.le_refl 0;repeat' (first|refine Vk fun K hK=> ?_|apply V0|apply Vb|apply Vc|apply Vr|apply Vs|with_reducible apply ab|((first|apply gE|apply gR|apply gS);simp only[zA,simprocAttr,hg,lkA,lkC,rtA,rtC,hs,q0,q1,q2,q3,q4])|exact Vn|(apply Vz;refine Vo rfl rfl rfl (fun _ _=>rfl) ?_<;>first|rfl|(first|rfl|(simp only[g_0,g_s];refine congrArg VS.bool ?_;rw[ar];first|(simp [] at* <;>omega)|(simp_all []<;>omega)))|skip)|((refine Vg (fun hg=> ?_) (fun hg=> ?_))<;>try simp only[nb] at hg)|(refine hK _ ?_;clear hK K)|refine Vt rfl ?_|refine Vf rfl ?_|refine Vi rfl (fun hg=> ?_) (fun hg=> ?_)|clear hK K)
     ·have e4:(ph==4)=false:=by simpa using p4
      rw[e4] at q4;rw[if_neg p4];refine Xc 2 Tryz.func173 rfl fun n out _ _=> ?_;simp only[sn,Tryz.ntmps173,simprocAttr];have hg:=Nat.le_refl 0;repeat' (first|refine Vk fun K hK=> ?_|apply V0|apply Vb|apply Vc|apply Vr|apply Vs|with_reducible apply ab|((first|apply gE|apply gR|apply gS);simp only[zA,simprocAttr,lkA,lkC,rtA,rtC,hs,q0,q1,q2,q3,q4])|exact Vn|(apply Vz;refine Vo rfl rfl rfl (fun _ _=>rfl) ?_<;>first|rfl|(first|rfl|(simp only[g_0,g_s];refine congrArg VS.bool ?_;rw[ar];first|(simp [] at* <;>omega)|(simp_all []<;>omega)))|skip)|((refine Vg (fun hg=> ?_) (fun hg=> ?_))<;>try simp only[nb] at hg)|(refine hK _ ?_;clear hK K)|refine Vt rfl ?_|refine Vf rfl ?_|refine Vi rfl (fun hg=> ?_) (fun hg=> ?_)|clear hK K)
theorem Xzf (l:Int×UInt8×Int×Int) (r:Rt) (hr:r.path.length<=1000000):Xr Tryz.prog 172 [lkA l,rtA r] [] (bool (Xsm l r)) []:=by
 have c1:=Xyl l r hr;unfold Xsm;generalize Xr7 l r=B1 at*;simp only[lkA,lkC,rtA,rtC] at c1;refine Xc 2 Tryz.func172 rfl fun n out _ _=> ?_;simp only[sn,Tryz.ntmps172,simprocAttr];have hg:=Nat.le_refl 0;repeat' (first|refine Vk fun K hK=> ?_|apply V0|apply Vs|with_reducible apply ab|((first|apply gE|apply gR|apply gS);simp only[zA,simprocAttr,hg,lkA,lkC,rtA,rtC])|exact Vn|(apply Vz;refine Vo rfl rfl rfl (fun _ _=>rfl) ?_<;>first|rfl|(simp only[g_0,g_s];refine congrArg VS.bool ?_;simp_all;done)|skip)|(refine X3 (c1) ?_)|((refine Vg (fun hg=> ?_) (fun hg=> ?_))<;>try simp only[nb] at hg)|(refine hK _ ?_;clear hK K)|clear hK K)
end Go.Proofs.YtdngdjbgmojcoaaGreat.Pln
