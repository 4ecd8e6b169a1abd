/- The layer of abstract values, joined. -/
import Derived.Test.YtdngdjbgmojcoaaGreatZPR
import Derived.Test.YtdngdjbgmojcoaaGreatZKC
import Derived.Test.YtdngdjbgmojcoaaGreatZWC
import Derived.Test.YtdngdjbgmojcoaaGreatZP19
import Derived.Test.YtdngdjbgmojcoaaGreatZVsDraw
namespace Go.Proofs.YtdngdjbgmojcoaaGreat.Pln
set_option linter.all false
set_option maxHeartbeats 8000000
set_option maxRecDepth 4000
open Go Go.VS Tab
attribute [local irreducible] AWp Xp0 Pg X5c Qy Lt Tp FdT Eb
theorem Ek (b:List UInt8) (at':Nat) (md:Md) (h:b.length<at'):Xr Tryz.prog 63 [.sl 1 (Xo b) md,i64 (at':Int)] [] (.tup [i64 0,i64 0,i64 2]) []:=by
 have hneg:¬(at':Int)<0:=by omega
 have hd:decide ((at':Int)<0)=false:=ak hneg;have h2:decide ((at':Int)>(b.length:Int))=true:=ax (by omega);have h3:(b.length:Int)<(at':Int):=by omega
 refine Xc 0 Tryz.func63 rfl fun n out _ _=> ?_;simp only[sn,Tryz.ntmps63,simprocAttr];repeat' (first|refine Vk fun K hK=> ?_|apply V0|((first|apply gE);simp only[zA,simprocAttr,X5,hneg,h3])|(refine hK _ ?_;clear hK K)|refine Vt rfl ?_)
 apply Vz;exact Zv (.inr rfl) rfl rfl rfl (fun _ _=>rfl) rfl rfl rfl (.rfl _) (.rfl _) (.rfl _)
theorem X5o (b:List UInt8) (hb:b.length<=1000000) (at':Nat) (md:Md):∃x y z:Int,Xr Tryz.prog 63 [.sl 1 (Xo b) md,i64 (at':Int)] [] (.tup [i64 x,i64 y,i64 z]) []∧(Jt (b.drop at')=none->z≠0)∧∀r,Jt (b.drop at')=some r->x=(r.1:Int)∧y=((at'+r.2:Nat):Int)∧z=0:=by
 by_cases h:at'<=b.length
 ·refine⟨_,_,_,Xqg b at' md h hb,fun h=> ?_,fun r hr=> ?_⟩
  ·rw[Gn h];decide
  ·unfold X1x;rw[hr];exact⟨rfl,rfl,rfl⟩
 ·refine⟨_,_,_,Ek b at' md (by omega),fun _=>by decide,fun r hr=> ?_⟩;rw[fk (by omega)] at hr;cases hr
abbrev atB (n:Nat):Res:= .box 3 [i64 (n:Nat)]
abbrev P7 (b:Bool):Res:= .box 4 [bool b]
theorem X5p (b:List UInt8) (hb:b.length<=1000000) (ka kd:Nat) (hne:ka≠kd) (at':Nat) (bad:Bool):
  Xr Tryz.prog 114 [.ref [.sl 1 (Xo b) .sh],.ptr ka 0,.ptr kd 0] [(ka,some (atB at')),(kd,some (P7 bad))] (i64 (rdN b (at',bad)).1) [(ka,atB (rdN b (at',bad)).2.1),(kd,P7 (rdN b (at',bad)).2.2)]:=by
 obtain⟨x,y,z,cg,g1,g2⟩:=X5o b hb at' .sh;have w1:(kd=ka)=False:=ef (Ne.symm hne);have w2:(ka=kd)=False:=ef hne;cases bad with
 |true=>
  have e:rdN b (at',true)=(-1,(at',true)):=rfl;rw[e];refine Xc 0 Tryz.func114 rfl fun n out _ _=> ?_;simp only[sn,Tryz.ntmps114,simprocAttr];rename_i hneeds hgv;obtain⟨hka,hkd,_⟩:=hneeds;obtain⟨hkan,hkdn,_⟩:=hgv;repeat' (first|refine Vk fun K hK=> ?_|apply V0|((first|apply gE|apply gR);simp only[zA,simprocAttr,hka,hkd,X8 hkan,X8 hkdn,X7 hkan,X7 hkdn,Xa hkdn,Xif,X0])|(refine X3 (cg) ?_)|(refine hK _ ?_;clear hK K)|refine Vt rfl ?_)
  apply Vz;exact Qv (.inr rfl) rfl rfl rfl (fun j _=>by rw[Zc,Zc,Wz,Qb hka]) rfl
 |false=>
  cases hN:Jt (b.drop at') with
  |none=>
   have e:rdN b (at',false)=(-1,(at',true)):=by unfold rdN;dsimp only;rw[if_neg (by decide),hN]
   have hz:(z !=0)=true:=by simpa using g1 hN
   rw[e];refine Xc 0 Tryz.func114 rfl fun n out _ _=> ?_;simp only[sn,Tryz.ntmps114,simprocAttr];rename_i hneeds hgv;obtain⟨hka,hkd,_⟩:=hneeds;obtain⟨hkan,hkdn,_⟩:=hgv;repeat' (first|refine Vk fun K hK=> ?_|apply V0|((first|apply gE|apply gR);simp only[zA,simprocAttr,hz,hka,hkd,X8 hkan,X8 hkdn,X7 hkan,X7 hkdn,Xa hkdn,Xif,X0])|(refine X3 (cg) ?_)|(refine hK _ ?_;clear hK K)|refine Vt rfl ?_)
   apply Vz;exact Qv (.inr rfl) rfl rfl rfl (fun j _=>by rw[Zc,Zc,Wz,Qb hka]) rfl
  |some r=>
   obtain⟨rfl,rfl,rfl⟩:=g2 r hN;have e:rdN b (at',false)=((r.1:Int),(at'+r.2,false)):=by unfold rdN;dsimp only;rw[if_neg (by decide),hN]
   rw[e];refine Xc 0 Tryz.func114 rfl fun n out _ _=> ?_;simp only[sn,Tryz.ntmps114,simprocAttr];rename_i hneeds hgv;obtain⟨hka,hkd,_⟩:=hneeds;obtain⟨hkan,hkdn,_⟩:=hgv;repeat' (first|refine Vk fun K hK=> ?_|apply V0|apply Vs|((first|apply gE|apply gR);simp only[zA,simprocAttr,hka,hkd,X8 hkan,X8 hkdn,X7 hkan,X7 hkdn,Xa hkan,Xa hkdn,Xif,w2,X0])|(refine X3 (cg) ?_)|(refine hK _ ?_;clear hK K)|refine Vf rfl ?_)
   apply Vz;exact Qv (.inr rfl) rfl rfl rfl (fun j _=>by rw[Zc,Zc,Wz,Jr _ _ _ hne];try rfl) rfl
def rdO (out:Nat->Option Res) (ka kd:Nat) (s:Nat×Bool):Nat->Option Res:=Xw (Xw out ka (atB s.1)) kd (P7 s.2)
theorem Xo6 {out:Nat->Option Res} {ka kd:Nat} (h:ka≠kd) (s:Nat×Bool):rdO out ka kd s ka=some (atB s.1):=by unfold rdO;rw[Zp _ _ h,Xt]
theorem Zo {out:Nat->Option Res} {ka kd:Nat} (s:Nat×Bool):rdO out ka kd s kd=some (P7 s.2):=by unfold rdO;rw[Xt]
theorem Zu {out:Nat->Option Res} {ka kd:Nat} {s:Nat×Bool} (h1:out ka=some (atB s.1)) (h2:out kd=some (P7 s.2)):rdO out ka kd s=out:=by unfold rdO;rw[Qb h1,Qb h2]
theorem Z7 (out:Nat->Option Res) (ka kd:Nat) (s:Nat×Bool):upd out [(ka,atB s.1),(kd,P7 s.2)]=rdO out ka kd s:=by rw[Zc,Zc,Wz];rfl
theorem Xq (out:Nat->Option Res) (ka kd:Nat) (s t:Nat×Bool):Xw (Xw (rdO out ka kd s) ka (atB t.1)) kd (P7 t.2)=rdO out ka kd t:=by
 unfold rdO;funext j;simp only[Xw];by_cases h1:j=kd
 ·rw[if_pos h1,if_pos h1]
 ·by_cases h2:j=ka
  ·rw[if_neg h1,if_pos h2,if_neg h1,if_pos h2]
  ·rw[if_neg h1,if_neg h2,if_neg h1,if_neg h2,if_neg h1,if_neg h2]
def RdC {α:Type} (gf:FuncId) (caps:List AV) (f:Rd α) (av:α->AV) (b:List UInt8) (ka kd:Nat):Prop:=
 ∀s:Nat×Bool,Xr Tryz.prog gf caps [(ka,some (atB s.1)),(kd,some (P7 s.2))] (av (f b s).1) [(ka,atB (f b s).2.1),(kd,P7 (f b s).2.2)]
abbrev nxC (b:List UInt8) (ka kd:Nat):List AV:=[.ref [.sl 1 (Xo b) .sh],.ptr ka 0,.ptr kd 0]
abbrev nxF (b:List UInt8) (ka kd:Nat):AV:= .fn (.func 114) (nxC b ka kd)
theorem Yo (b:List UInt8) (hb:b.length<=1000000) (ka kd:Nat) (hne:ka≠kd):RdC 114 (nxC b ka kd) rdN i64 b ka kd:=fun s=>X5p b hb ka kd hne s.1 s.2
theorem nxB:Xd Tryz.prog 114=True:=hb0 _ (by decide) (by decide)
theorem Uh {α:Type} (one:Rd α) (b:List UInt8):∀(k:Nat) (s:Nat×Bool),rdK one (k+1) b s=((rdK one k b s).1++[(one b (rdK one k b s).2).1],(one b (rdK one k b s).2).2)
 |0,s=>rfl
 |k+1,s=>by
  have h:=Uh one b k (one b s).2;have e:rdK one (k+1+1) b s=((one b s).1::(rdK one (k+1) b (one b s).2).1,(rdK one (k+1) b (one b s).2).2):=rfl;have e2:rdK one (k+1) b s=((one b s).1::(rdK one k b (one b s).2).1,(rdK one k b (one b s).2).2):=rfl;rw[e,h,e2];rfl
theorem K8 {α:Type} (one:Rd α) (b:List UInt8):∀(k:Nat) (s:Nat×Bool),(rdK one k b s).1.length=k
 |0,s=>rfl
 |k+1,s=>by rw[Uh,ac,K8 one b k s];rfl
abbrev Ycd {α:Type} (F sz:Nat) (C:α->List AV) (f:Rd α) (gf:FuncId) (caps:List AV) (b:List UInt8) (ka kd:Nat) (s:Nat×Bool):Prop:=
 Xr Tryz.prog F [.agg [nxF b ka kd],.fn (.func gf) caps] [(ka,some (atB s.1)),(kd,some (P7 s.2))] (.sl sz ((rdL f b s).1.map C) .sh) [(ka,atB (rdL f b s).2.1),(kd,P7 (rdL f b s).2.2)]
theorem Yc9 {α:Type} (C:α->List AV) (F te ts sz w:Nat) (hq:(F=116∧te=75∧ts=23∧sz=3∧w=40)∨(F=118∧te=79∧ts=24∧sz=2∧w=16)∨(F=120∧te=92∧ts=25∧sz=3∧w=24)∨(F=122∧te=82∧ts=26∧sz=7∧w=104)∨(F=125∧te=142∧ts=80∧sz=2∧w=16)∨(F=124∧te=3∧ts=61∧sz=1∧w=8)) (hC:∀x,(C x).length=sz)
  (b:List UInt8) (hb:b.length<=1000000) (ka kd:Nat) (hne:ka≠kd) (gf:FuncId) (caps:List AV) (hB:Xd Tryz.prog gf=True) (f:Rd α) (av:α->AV) (hp:∀x,(av x).parts=some (C x)) (hf:RdC gf caps f av b ka kd) (s:Nat×Bool):Ycd F sz C f gf caps b ka kd s:=by
 unfold Ycd;obtain⟨N,s1,hN⟩:∃N s1,rdN b s=(N,s1):=⟨_,_,rfl⟩
 have c0:=Yo b hb ka kd hne s;rw[hN] at c0;obtain⟨cnt,hcnt⟩:∃cnt,cnt=if N<=99 then N.toNat else 0:=⟨_,rfl⟩
 have hL:rdL f b s=rdK f cnt b s1:=by
  unfold rdL rdB;rw[hN];dsimp only;rw[hcnt];by_cases h:N<=99
  ·rw[if_pos h,if_pos h]
  ·rw[if_neg h,if_neg h];rfl
 have hc99:cnt<=99:=by rw[hcnt];split<;>omega
 rw[hL];rcases hq with ⟨rfl,e1,e2,e3,e4⟩|⟨rfl,e1,e2,e3,e4⟩|⟨rfl,e1,e2,e3,e4⟩|⟨rfl,e1,e2,e3,e4⟩|⟨rfl,e1,e2,e3,e4⟩|⟨rfl,e1,e2,e3,e4⟩
 all_goals
  first|refine Xc 2 Tryz.func116 rfl fun n out _ _=> ?_|refine Xc 2 Tryz.func118 rfl fun n out _ _=> ?_|refine Xc 2 Tryz.func120 rfl fun n out _ _=> ?_|refine Xc 2 Tryz.func122 rfl fun n out _ _=> ?_|refine Xc 2 Tryz.func125 rfl fun n out _ _=> ?_|refine Xc 2 Tryz.func124 rfl fun n out _ _=> ?_
  simp only[sn,Tryz.ntmps116,Tryz.ntmps118,Tryz.ntmps120,Tryz.ntmps122,Tryz.ntmps125,Tryz.ntmps124,simprocAttr];rename_i hneeds hgv;obtain⟨hka,hkd,_⟩:=hneeds;obtain⟨hkan,hkdn,_⟩:=hgv;rw[<- Zu hka hkd];repeat' (first|refine Vk fun K hK=> ?_|apply V0|((first|apply gE|apply gR);simp only[zA,simprocAttr,Xa hkan,Xa hkdn,Xq])|(refine Xk c0 (by rw[X8 hkan];exact Xo6 hne _) (by rw[X8 hkdn];exact Zo _) (by rw[X7 hkan];trivial) (by rw[X7 hkdn];trivial) (by simp) (by simp) ?_)|(refine hK _ ?_;clear hK K))
  refine Yy (Q9 (i:=1) te sz rfl) ?_;simp only[s_0,s_s];apply V5;refine Xl (fun m (i:Nat)=>tr 11 14 [(7,i64 (i:Int)),(2,.ptr (m+0) 0),(8,.ptr (m+0) 0),(5,.sl sz ((rdK f i b s1).1.map C) (.own (m+1)))]) (fun m i=>[some (.box 184 [nxF b ka kd]),some (.row te sz i)]) (fun i=>rdO out ka kd (rdK f i b s1).2) (fun i=>i<=cnt) (fun i=>cnt - i) 0 (br _) ?_ fun m i hm hi=> ?_
  ·refine X2 ?_ ?_ (by first|rfl|(simp only[show(rdK f 0 b s1).1=[] from rfl,show(rdK f 0 b s1).2=s1 from rfl,ag,e1,e3];rfl)|simp only[show(rdK f 0 b s1).1=[] from rfl,show(rdK f 0 b s1).2=s1 from rfl,ag,e1,e3]) rfl rfl rfl<;>simp only[sL,show(rdK f 0 b s1).1=[] from rfl,ag,e1,e3]
  simp only[pt];have hw:=Yl (n:=i) 1 1 rfl (by omega);have hlen:=K8 f b i s1;by_cases hlt:i<cnt
  ·have hN9:N<=99:=by
    rcases Int.lt_or_le 99 N with h|h
    ·rw[hcnt,if_neg (by omega)] at hlt;omega
    ·exact h
   have hiN:(i:Int)<N:=by rw[hcnt,if_pos hN9] at hlt;omega
   have cp:=hf (rdK f i b s1).2;have hS:=Uh f b i s1;obtain⟨L,t,hLt⟩:∃L t,rdK f i b s1=(L,t):=⟨_,_,rfl⟩
   rw[hLt] at cp hS hlen⊢;dsimp only at cp hS hlen⊢;obtain⟨v,t',hv⟩:∃v t',f b t=(v,t'):=⟨_,_,rfl⟩
   rw[hv] at cp hS;dsimp only at cp hS;have lit:∀(σ:AState) (K:AV->List (Nat×Res)->Prop),X1 tab σ K none ts 1 [(0,av v)]=K (.sl sz [C v] .full) []:=fun σ K=>by subst e1 e2 e3;first|exact Yk (T:=tab) (ti:=ti23) (te:=ti75) rfl rfl rfl (by decide) (by decide) (hp v) (hC v)|exact Yk (T:=tab) (ti:=ti24) (te:=ti79) rfl rfl rfl (by decide) (by decide) (hp v) (hC v)|exact Yk (T:=tab) (ti:=ti25) (te:=ti92) rfl rfl rfl (by decide) (by decide) (hp v) (hC v)|exact Yk (T:=tab) (ti:=ti26) (te:=ti82) rfl rfl rfl (by decide) (by decide) (hp v) (hC v)|exact Yk (T:=tab) (ti:=ti80) (te:=ti142) rfl rfl rfl (by decide) (by decide) (hp v) (hC v)|exact Yk (T:=tab) (ti:=ti61) (te:=ti3) rfl rfl rfl (by decide) (by decide) (hp v) (hC v)
   simp only[e2,e3] at lit;have y2:i<=9223372036854775806:=by omega
   have y1:(i+1)*w<=140737488355328:=by rw[e4];omega
   rw[e4] at y1;repeat' (first|refine Vk fun K hK=> ?_|apply V0|apply Vr|apply Vs|((first|apply gE|apply gR);simp only[zB,simprocAttr,lit,e1,e3,Xi hm,hB,hN9,hiN,hlen,y1,y2,Xa hkan,Xa hkdn,Xq,hw])|(refine Xk cp (by rw[X8 hkan];exact Xo6 hne _) (by rw[X8 hkdn];exact Zo _) (by rw[X7 hkan];trivial) (by rw[X7 hkdn];trivial) (by simp) (by simp) ?_)|(refine hK _ ?_;clear hK K)|refine Vt rfl ?_|clear hK K)
   refine⟨i+1,by omega,by omega,?_⟩;rw[hS,aw,bk,ag];refine Xx [true,true] ?_ ?_<;>intro n_<;>simp only[sM]
  ·obtain rfl:i=cnt:=by omega
   by_cases hN9:N<=99
   ·have hiN:¬(i:Int)<N:=by
     have:i=N.toNat:=by rw[hcnt,if_pos hN9]
     omega
    repeat' (first|refine Vk fun K hK=> ?_|apply V0|((first|apply gE);simp only[zA,simprocAttr,hiN])|(apply Vx;simp only[sb])|(refine hK _ ?_;clear hK K)|refine Vf rfl ?_|clear hK K)
    refine Yd (Xv (.inr rfl) rfl rfl rfl (fun j _=>by rw[Z7];exact congrFun (Xq _ _ _ _ _).symm j) (.sh _ _ _) rfl)
   ·have hi0:i=0:=by rw[hcnt,if_neg hN9]
    subst hi0;have hiN:(0:Int)<N:=by omega
    repeat' (first|refine Vk fun K hK=> ?_|apply V0|((first|apply gE);simp only[zA,simprocAttr,hN9,hiN])|(apply Vx;simp only[sb])|(refine hK _ ?_;clear hK K)|refine Vf rfl ?_|clear hK K)
    all_goals refine Yd (Xv (.inr rfl) rfl rfl rfl (fun j _=>by rw[Z7];exact congrFun (Xq _ _ _ _ _).symm j) (.sh _ _ _) rfl)
theorem Aj (b:List UInt8) (hb:b.length<=1000000) (ka kd:Nat) (hne:ka≠kd) (gf:FuncId) (caps:List AV) (hB:Xd Tryz.prog gf=True) (f:Rd (Sec)) (av:Sec->AV) (hp:∀x,(av x).parts=some (Y6 x)) (hf:RdC gf caps f av b ka kd) (s:Nat×Bool):Ycd 116 3 Y6 f gf caps b ka kd s:=Yc9 Y6 _ 75 23 _ 40 (by decide) (fun _=>rfl) b hb ka kd hne gf caps hB f av hp hf s
theorem Ak (b:List UInt8) (hb:b.length<=1000000) (ka kd:Nat) (hne:ka≠kd) (gf:FuncId) (caps:List AV) (hB:Xd Tryz.prog gf=True) (f:Rd (Int×Int)) (av:Int×Int->AV) (hp:∀x,(av x).parts=some (jnC x)) (hf:RdC gf caps f av b ka kd) (s:Nat×Bool):Ycd 118 2 jnC f gf caps b ka kd s:=Yc9 jnC _ 79 24 _ 16 (by decide) (fun _=>rfl) b hb ka kd hne gf caps hB f av hp hf s
theorem Xwi (b:List UInt8) (hb:b.length<=1000000) (ka kd:Nat) (hne:ka≠kd) (gf:FuncId) (caps:List AV) (hB:Xd Tryz.prog gf=True) (f:Rd (Int×Int×Int)) (av:Int×Int×Int->AV) (hp:∀x,(av x).parts=some (sgC x)) (hf:RdC gf caps f av b ka kd) (s:Nat×Bool):Ycd 120 3 sgC f gf caps b ka kd s:=Yc9 sgC _ 92 25 _ 24 (by decide) (fun _=>rfl) b hb ka kd hne gf caps hB f av hp hf s
theorem Am (b:List UInt8) (hb:b.length<=1000000) (ka kd:Nat) (hne:ka≠kd) (gf:FuncId) (caps:List AV) (hB:Xd Tryz.prog gf=True) (f:Rd (Rt)) (av:Rt->AV) (hp:∀x,(av x).parts=some (rtC x)) (hf:RdC gf caps f av b ka kd) (s:Nat×Bool):Ycd 122 7 rtC f gf caps b ka kd s:=Yc9 rtC _ 82 26 _ 104 (by decide) (fun _=>rfl) b hb ka kd hne gf caps hB f av hp hf s
theorem An (b:List UInt8) (hb:b.length<=1000000) (ka kd:Nat) (hne:ka≠kd) (gf:FuncId) (caps:List AV) (hB:Xd Tryz.prog gf=True) (f:Rd (Int×Int)) (av:Int×Int->AV) (hp:∀x,(av x).parts=some (jnC x)) (hf:RdC gf caps f av b ka kd) (s:Nat×Bool):Ycd 125 2 jnC f gf caps b ka kd s:=Yc9 jnC _ 142 80 _ 16 (by decide) (fun _=>rfl) b hb ka kd hne gf caps hB f av hp hf s
theorem Df (b:List UInt8) (hb:b.length<=1000000) (ka kd:Nat) (hne:ka≠kd) (gf:FuncId) (caps:List AV) (hB:Xd Tryz.prog gf=True) (f:Rd (Int)) (av:Int->AV) (hp:∀x,(av x).parts=some (Ym x)) (hf:RdC gf caps f av b ka kd) (s:Nat×Bool):Ycd 124 1 Ym f gf caps b ka kd s:=Yc9 Ym _ 3 61 _ 8 (by decide) (fun _=>rfl) b hb ka kd hne gf caps hB f av hp hf s
end Go.Proofs.YtdngdjbgmojcoaaGreat.Pln
namespace Go.Proofs.YtdngdjbgmojcoaaGreat.Pln
set_option linter.all false
set_option maxHeartbeats 8000000
set_option maxRecDepth 4000
open Go Go.VS Tab
theorem Y8 {a b:Nat} {l wr:List Nat} {R:AState->Prop} {σ:AState} {d:Option Tmp} {r:AV} {q q':Res} (h:(wr.contains 100&&wr.contains 101)=true):
  Th (a::b::l) wr R σ d r [(a,q),(b,q')]=R (σ.next d r [(a,q),(b,q')]):=by
 rw[ad] at h;refine propext ⟨fun h'=>h'.2,fun h'=>⟨fun y hy=> ?_,h'⟩⟩;simp only[cn,dd,or_false] at hy;rcases hy with rfl|rfl
 ·exact⟨100,c8.1 h.1,.inr (by simp),rfl⟩
 ·exact⟨101,c8.1 h.2,.inr (by simp),rfl⟩
theorem Va {ka kd:Nat} (o:Nat->Option Res):Qe [100,101] 0 [ka,kd] o ka=o ka:=by simp [Qe]
theorem Vh {ka kd:Nat} (h:ka≠kd) (o:Nat->Option Res):Qe [100,101] 0 [ka,kd] o kd=o kd:=by simp [Qe,Ne.symm h]
theorem Ycf (F:Nat) (hq:(F=115)∨(F=119)∨(F=126)) (b:List UInt8) (hb:b.length<=1000000) (ka kd:Nat) (hne:ka≠kd):RdC F [.ref [nxF b ka kd]] Kd jnA b ka kd:=fun s=>by
 obtain⟨x1,s1,h1⟩:∃x t,rdN b s=(x,t):=⟨_,_,rfl⟩
 obtain⟨x2,s2,h2⟩:∃x t,rdN b s1=(x,t):=⟨_,_,rfl⟩
 have e:Kd b s=((x1,x2),s2):=by unfold Kd rdB rdP;rw[h1];dsimp only;rw[h2]
 have c1:=Yo b hb ka kd hne s;have c2:=Yo b hb ka kd hne s1;rw[h1] at c1;rw[h2] at c2;rw[e];clear h1 h2 e;rcases hq with rfl|rfl|rfl
 all_goals
  first|refine Xc 1 Tryz.func115 rfl fun n out _ _=> ?_|refine Xc 1 Tryz.func119 rfl fun n out _ _=> ?_|refine Xc 1 Tryz.func126 rfl fun n out _ _=> ?_
  simp only[sn,Tryz.ntmps115,Tryz.ntmps119,Tryz.ntmps126,simprocAttr];rename_i hneeds hgv;obtain⟨hka,hkd,_⟩:=hneeds;obtain⟨hkan,hkdn,_⟩:=hgv;have hoN:[ka,kd].Nodup:=by simp [hne]
  have hoL:∀k,k∈[ka,kd]->k<n:=fun k hk=>by
   simp only[cn,dd,or_false] at hk;rcases hk with rfl|rfl
   ·exact hkan
   ·exact hkdn
  rw[<- Zu hka hkd];refine Vy fun K hK=> ?_;simp only[zA,simprocAttr]
  (refine hK _ ?_;clear hK K)
  refine Vk fun K hK=>Xik Xj [] [ka,kd] [[],[],[100,101],[],[],[100,101],[],[0]] [[],[],[100,101],[],[],[100,101],[],[0]] hoN hoL follows (by kernel_rfl) (by decide) (by decide) (by kernel_rfl) ?_;simp only[zA,simprocAttr,so]
  skip
  refine Xk c1 (by rw[X8 hkan,Va];exact Xo6 hne _) (by rw[X8 hkdn,Vh hne];exact Zo _) (by rw[X7 hkan];trivial) (by rw[X7 hkdn];trivial) (by simp) (by simp) ?_;simp only[zA,simprocAttr,so,Y8,Xa hkan,Xa hkdn,Xq]
  skip
  refine Xk c2 (by rw[X8 hkan,Va];exact Xo6 hne _) (by rw[X8 hkdn,Vh hne];exact Zo _) (by rw[X7 hkan];trivial) (by rw[X7 hkdn];trivial) (by simp) (by simp) ?_;simp only[zA,simprocAttr,so,Y8,Xa hkan,Xa hkdn,Xq,X0]
  (refine hK _ ?_;clear hK K)
  first|refine Yd (Xu (.inr rfl) rfl rfl rfl (fun j _=>by rw[Z7];exact congrFun (Xq _ _ _ _ _).symm j) ok138 (k:=n+0) (off:=0) rfl (Xb _ (by simp)) (X6 _ (Nat.le_refl _) 0) rfl (AV.le.rfl _))|refine Yd (Xu (.inr rfl) rfl rfl rfl (fun j _=>by rw[Z7];exact congrFun (Xq _ _ _ _ _).symm j) ok79 (k:=n+0) (off:=0) rfl (Xb _ (by simp)) (X6 _ (Nat.le_refl _) 0) rfl (AV.le.rfl _))|refine Yd (Xu (.inr rfl) rfl rfl rfl (fun j _=>by rw[Z7];exact congrFun (Xq _ _ _ _ _).symm j) ok142 (k:=n+0) (off:=0) rfl (Xb _ (by simp)) (X6 _ (Nat.le_refl _) 0) rfl (AV.le.rfl _))
theorem Bk (b:List UInt8) (hb:b.length<=1000000) (ka kd:Nat) (hne:ka≠kd):RdC 115 [.ref [nxF b ka kd]] Kd jnA b ka kd:=Ycf _ (by decide) b hb ka kd hne
theorem X2t (b:List UInt8) (hb:b.length<=1000000) (ka kd:Nat) (hne:ka≠kd):RdC 119 [.ref [nxF b ka kd]] Kd jnA b ka kd:=Ycf _ (by decide) b hb ka kd hne
theorem X2u (b:List UInt8) (hb:b.length<=1000000) (ka kd:Nat) (hne:ka≠kd):RdC 126 [.ref [nxF b ka kd]] Kd jnA b ka kd:=Ycf _ (by decide) b hb ka kd hne
theorem X2v (b:List UInt8) (hb:b.length<=1000000) (ka kd:Nat) (hne:ka≠kd):RdC 121 [.ref [nxF b ka kd]] G8 sgA b ka kd:=fun s=>by
 obtain⟨x1,s1,h1⟩:∃x t,rdN b s=(x,t):=⟨_,_,rfl⟩
 obtain⟨x2,s2,h2⟩:∃x t,rdN b s1=(x,t):=⟨_,_,rfl⟩
 obtain⟨x3,s3,h3⟩:∃x t,rdN b s2=(x,t):=⟨_,_,rfl⟩
 have e:G8 b s=((x1,x2,x3),s3):=by unfold G8 rdB rdP;rw[h1];dsimp only;rw[h2];dsimp only;rw[h3]
 have c1:=Yo b hb ka kd hne s;have c2:=Yo b hb ka kd hne s1;have c3:=Yo b hb ka kd hne s2;rw[h1] at c1;rw[h2] at c2;rw[h3] at c3;rw[e];clear h1 h2 h3 e;refine Xc 1 Tryz.func121 rfl fun n out _ _=> ?_;simp only[sn,Tryz.ntmps121,simprocAttr];rename_i hneeds hgv;obtain⟨hka,hkd,_⟩:=hneeds;obtain⟨hkan,hkdn,_⟩:=hgv;have hoN:[ka,kd].Nodup:=by simp [hne]
 have hoL:∀k,k∈[ka,kd]->k<n:=fun k hk=>by
  simp only[cn,dd,or_false] at hk;rcases hk with rfl|rfl
  ·exact hkan
  ·exact hkdn
 rw[<- Zu hka hkd];refine Vy fun K hK=> ?_;simp only[zA,simprocAttr]
 (refine hK _ ?_;clear hK K)
 refine Vk fun K hK=>Xik Xj [] [ka,kd] [[],[],[100,101],[],[],[100,101],[],[],[100,101],[],[0]] [[],[],[100,101],[],[],[100,101],[],[],[100,101],[],[0]] hoN hoL follows (by kernel_rfl) (by decide) (by decide) (by kernel_rfl) ?_;simp only[zA,simprocAttr,so]
 skip
 refine Xk c1 (by rw[X8 hkan,Va];exact Xo6 hne _) (by rw[X8 hkdn,Vh hne];exact Zo _) (by rw[X7 hkan];trivial) (by rw[X7 hkdn];trivial) (by simp) (by simp) ?_;simp only[zA,simprocAttr,so,Y8,Xa hkan,Xa hkdn,Xq]
 skip
 refine Xk c2 (by rw[X8 hkan,Va];exact Xo6 hne _) (by rw[X8 hkdn,Vh hne];exact Zo _) (by rw[X7 hkan];trivial) (by rw[X7 hkdn];trivial) (by simp) (by simp) ?_;simp only[zA,simprocAttr,so,Y8,Xa hkan,Xa hkdn,Xq]
 skip
 refine Xk c3 (by rw[X8 hkan,Va];exact Xo6 hne _) (by rw[X8 hkdn,Vh hne];exact Zo _) (by rw[X7 hkan];trivial) (by rw[X7 hkdn];trivial) (by simp) (by simp) ?_;simp only[zA,simprocAttr,so,Y8,Xa hkan,Xa hkdn,Xq,X0]
 (refine hK _ ?_;clear hK K)
 refine Yd (Xu (.inr rfl) rfl rfl rfl (fun j _=>by rw[Z7];exact congrFun (Xq _ _ _ _ _).symm j) ok92 (k:=n+0) (off:=0) rfl (Xb _ (by simp)) (X6 _ (Nat.le_refl _) 0) rfl (AV.le.rfl _))
theorem Ao (a b c d:Int) (σ:AState) (K:AV->List (Nat×Res)->Prop):X1 tab σ K none 73 2 [(0,.agg [i64 a,i64 b]),(1,.agg [i64 c,i64 d])]=K (.sl 2 [[i64 a,i64 b],[i64 c,i64 d]] .full) []:=by
 have hr:U4 (fun i=>some (i*ti138.size,ti138.size)) (Y7 ti138.zero (2*ti138.size)) [(0,AV.agg [i64 a,i64 b]),(1,AV.agg [i64 c,i64 d])]=some [i64 a,i64 b,i64 c,i64 d]:=rfl;have h1:tab 73=some ti73:=rfl;have h2:ti73.desc= .slice 138:=rfl;have h3:tab 138=some ti138:=rfl;have h4:ti138.size=2:=rfl;simp only[X1,h1,h2,h3,hr];simp [h4,Yh]
theorem Ap (a b:Int) (σ:AState) (K:AV->List (Nat×Res)->Prop):X1 tab σ K none 73 1 [(0,.agg [i64 a,i64 b])]=K (.sl 2 [[i64 a,i64 b]] .full) []:=Yk (T:=tab) (ti:=ti73) (te:=ti138) rfl rfl rfl (by decide) (by decide) rfl rfl
theorem X2w (b:List UInt8) (hb:b.length<=1000000) (ka kd:Nat) (hne:ka≠kd):RdC 117 [.ref [nxF b ka kd],.ref [.fn (.func 115) [.ref [nxF b ka kd]]]] Ft Qh b ka kd:=fun s=>by
 obtain⟨x1,s1,h1⟩:∃x t,rdN b s=(x,t):=⟨_,_,rfl⟩
 obtain⟨x2,s2,h2⟩:∃x t,rdN b s1=(x,t):=⟨_,_,rfl⟩
 obtain⟨j1,s3,h3⟩:∃x t,Kd b s2=(x,t):=⟨_,_,rfl⟩
 obtain⟨j2,s4,h4⟩:∃x t,Kd b s3=(x,t):=⟨_,_,rfl⟩
 obtain⟨j3,s5,h5⟩:∃x t,Kd b s4=(x,t):=⟨_,_,rfl⟩
 have e:Ft b s=if 0<x2 then(⟨x1,x2,[j1,j2,j3]⟩,s5) else(⟨x1,x2,[j1,j2]⟩,s4):=by
  unfold Ft rdB;rw[h1];dsimp only;rw[h2];dsimp only;rw[h3];dsimp only;rw[h4];dsimp only;by_cases hq:0<x2
  ·rw[if_pos hq,if_pos hq,h5];rfl
  ·rw[if_neg hq,if_neg hq];rfl
 have c1:=Yo b hb ka kd hne s;have c2:=Yo b hb ka kd hne s1;have c3:=Bk b hb ka kd hne s2;have c4:=Bk b hb ka kd hne s3;have c5:=Bk b hb ka kd hne s4;rw[h1] at c1;rw[h2] at c2;rw[h3] at c3;rw[h4] at c4;rw[h5] at c5;rw[e];clear h1 h2 h3 h4 h5 e;simp only[jnA,jnC] at c3 c4 c5;refine Xc 2 Tryz.func117 rfl fun n out _ _=> ?_;simp only[sn,Tryz.ntmps117,simprocAttr];rename_i hneeds hgv;obtain⟨hka,hkd,_⟩:=hneeds;obtain⟨hkan,hkdn,_⟩:=hgv;have hoN:[ka,kd].Nodup:=by simp [hne]
 have hoL:∀k,k∈[ka,kd]->k<n:=fun k hk=>by
  simp only[cn,dd,or_false] at hk;rcases hk with rfl|rfl
  ·exact hkan
  ·exact hkdn
 rw[<- Zu hka hkd];refine Vy fun K hK=> ?_;simp only[zA,simprocAttr]
 (refine hK _ ?_;clear hK K)
 refine Vk fun K hK=>Xik Xj [] [ka,kd] [[],[],[100,101],[],[],[100,101],[],[1],[1]] [[],[],[100,101],[],[],[100,101],[],[1],[1]] hoN hoL follows (by kernel_rfl) (by decide) (by decide) (by kernel_rfl) ?_;simp only[zA,simprocAttr,so]
 skip
 refine Xk c1 (by rw[X8 hkan,Va];exact Xo6 hne _) (by rw[X8 hkdn,Vh hne];exact Zo _) (by rw[X7 hkan];trivial) (by rw[X7 hkdn];trivial) (by simp) (by simp) ?_;simp only[zA,simprocAttr,so,Y8,Xa hkan,Xa hkdn,Xq]
 skip
 refine Xk c2 (by rw[X8 hkan,Va];exact Xo6 hne _) (by rw[X8 hkdn,Vh hne];exact Zo _) (by rw[X7 hkan];trivial) (by rw[X7 hkdn];trivial) (by simp) (by simp) ?_;simp only[zA,simprocAttr,so,Y8,Xa hkan,Xa hkdn,Xq,X0]
 (refine hK _ ?_;clear hK K)
 refine Vk fun K hK=>Xik Xj [] [ka,kd] [[],[100,101],[],[100,101],[],[],[1]] [[],[100,101],[],[100,101],[],[],[1]] hoN hoL follows (by kernel_rfl) (by decide) (by decide) (by kernel_rfl) ?_;simp only[zB,simprocAttr,so]
 skip
 refine Xk c3 (by rw[X8 hkan,Va];exact Xo6 hne _) (by rw[X8 hkdn,Vh hne];exact Zo _) (by rw[X7 hkan];trivial) (by rw[X7 hkdn];trivial) (by simp) (by simp) ?_;simp only[zB,simprocAttr,so,Y8,Xa hkan,Xa hkdn,Xq]
 skip
 refine Xk c4 (by rw[X8 hkan,Va];exact Xo6 hne _) (by rw[X8 hkdn,Vh hne];exact Zo _) (by rw[X7 hkan];trivial) (by rw[X7 hkdn];trivial) (by simp) (by simp) ?_;simp only[zB,simprocAttr,Ao,so,Y8,Xa hkan,Xa hkdn,Xq,X0]
 (refine hK _ ?_;clear hK K)
 by_cases hq:0<x2
 ·have hd:decide (x2>0)=true:=ax hq;rw[if_pos hq];refine Vk fun KC hKC=> ?_;refine Vy fun K hK=> ?_;simp only[zA,simprocAttr,hq]
  (refine hK _ ?_;clear hK K)
  refine Wm rfl ?_;refine Xik Xj [] [ka,kd] [[],[1],[],[100,101],[],[],[],[1]] [[],[],[],[100,101],[],[],[],[1]] hoN hoL follows (by kernel_rfl) (by decide) (by decide) (by kernel_rfl) ?_;simp only[zB,simprocAttr,so];refine Xk c5 (by rw[X8 hkan,Va];exact Xo6 hne _) (by rw[X8 hkdn,Vh hne];exact Zo _) (by rw[X7 hkan];trivial) (by rw[X7 hkdn];trivial) (by simp) (by simp) ?_;simp only[zB,simprocAttr,Ap,so,Y8,Xa hkan,Xa hkdn,Xq,X0]
  skip
  all_goals try decide
  refine hKC _ ?_;clear hKC KC;refine Vy fun K hK=> ?_;simp only[zA,simprocAttr,X0]
  (refine hK _ ?_;clear hK K)
  refine Yd (Xu (.inr rfl) rfl rfl rfl (fun j _=>by rw[Z7];exact congrFun (Xq _ _ _ _ _).symm j) ok75 (k:=n+0) (off:=0) rfl (Xb _ (by simp)) (X6 _ (Nat.le_refl _) 0) rfl ?_);simp only[Qh,Y6,bk,ag,List.cons_append,List.nil_append,jnC,sL]
 ·have hd:decide (x2>0)=false:=ak hq;rw[if_neg hq];refine Vk fun KC hKC=> ?_;refine Vy fun K hK=> ?_;simp only[zA,simprocAttr,hq]
  (refine hK _ ?_;clear hK K)
  refine Uy rfl ?_;refine Xhj ?_;simp only[Qd,Z4,if_true];refine hKC _ ?_;clear hKC KC;refine Vy fun K hK=> ?_;simp only[zA,simprocAttr,X0]
  (refine hK _ ?_;clear hK K)
  refine Yd (Xu (.inr rfl) rfl rfl rfl (fun j _=>by rw[Z7];exact congrFun (Xq _ _ _ _ _).symm j) ok75 (k:=n+0) (off:=0) rfl (Xb _ (by simp)) (X6 _ (Nat.le_refl _) 0) rfl ?_);simp only[Qh,Y6,bk,ag,List.cons_append,List.nil_append,jnC,sL]
end Go.Proofs.YtdngdjbgmojcoaaGreat.Pln
namespace Go.Proofs.YtdngdjbgmojcoaaGreat.Pln
set_option linter.all false
set_option maxHeartbeats 8000000
set_option maxRecDepth 4000
open Go Go.VS Tab
attribute [local irreducible] AWp Xp0 Pg X5c Qy Lt Tp FdT Eb
theorem flB:Xd Tryz.prog 126=True:=hb0 _ (by decide) (by decide)
theorem X2x (b:List UInt8) (hb:b.length<=1000000) (ka kd:Nat) (hne:ka≠kd):RdC 123 [.ref [nxF b ka kd]] B4 rtA b ka kd:=fun s=>by
 obtain⟨x1,s1,h1⟩:∃x t,rdN b s=(x,t):=⟨_,_,rfl⟩
 obtain⟨x2,s2,h2⟩:∃x t,rdN b s1=(x,t):=⟨_,_,rfl⟩
 obtain⟨x3,s3,h3⟩:∃x t,rdN b s2=(x,t):=⟨_,_,rfl⟩
 obtain⟨pa,s4,h4⟩:∃x t,rdL rdN b s3=(x,t):=⟨_,_,rfl⟩
 obtain⟨ov,s5,h5⟩:∃x t,rdL rdN b s4=(x,t):=⟨_,_,rfl⟩
 obtain⟨fl,s6,h6⟩:∃x t,rdL Kd b s5=(x,t):=⟨_,_,rfl⟩
 obtain⟨tm,s7,h7⟩:∃x t,rdN b s6=(x,t):=⟨_,_,rfl⟩
 have e:B4 b s=(⟨x1,x2,x3,pa,ov,fl,tm⟩,s7):=by
  unfold B4 rdB;rw[h1];dsimp only;rw[h2];dsimp only;rw[h3];dsimp only
  show(match rdL rdN b s3 with|v=>rdB (rdL rdN) (fun over=>rdB (rdL Kd) fun fl=>rdB rdN fun t=>rdP (⟨x1,x2,x3,v.1,over,fl,t⟩:Rt)) b v.2)= _
  rw[h4]
  show(match rdL rdN b s4 with|v=>rdB (rdL Kd) (fun fl=>rdB rdN fun t=>rdP (⟨x1,x2,x3,pa,v.1,fl,t⟩:Rt)) b v.2)= _
  rw[h5]
  show(match rdL Kd b s5 with|v=>rdB rdN (fun t=>rdP (⟨x1,x2,x3,pa,ov,v.1,t⟩:Rt)) b v.2)= _
  rw[h6]
  show(match rdN b s6 with|v=>((⟨x1,x2,x3,pa,ov,fl,v.1⟩:Rt),v.2))= _
  rw[h7]
 have c1:=Yo b hb ka kd hne s;have c2:=Yo b hb ka kd hne s1;have c3:=Yo b hb ka kd hne s2;have c4:=Df b hb ka kd hne _ _ nxB rdN i64 (fun _=>rfl) (Yo b hb ka kd hne) s3;have c5:=Df b hb ka kd hne _ _ nxB rdN i64 (fun _=>rfl) (Yo b hb ka kd hne) s4;have c6:=An b hb ka kd hne _ _ flB Kd jnA (fun _=>rfl) (X2u b hb ka kd hne) s5;have c7:=Yo b hb ka kd hne s6;unfold Ycd at c4 c5 c6;rw[h1] at c1;rw[h2] at c2;rw[h3] at c3;rw[h4] at c4;rw[h5] at c5;rw[h6] at c6;rw[h7] at c7;rw[e];clear h1 h2 h3 h4 h5 h6 h7 e;dsimp only at c1 c2 c3 c4 c5 c6 c7⊢;refine Xc 2 Tryz.func123 rfl fun n out _ _=> ?_;simp only[sn,Tryz.ntmps123,simprocAttr];rename_i hneeds hgv;obtain⟨hka,hkd,_⟩:=hneeds;obtain⟨hkan,hkdn,_⟩:=hgv;have hoN:[ka,kd].Nodup:=by simp [hne]
 have hoL:∀k,k∈[ka,kd]->k<n:=fun k hk=>by
  simp only[cn,dd,or_false] at hk;rcases hk with rfl|rfl
  ·exact hkan
  ·exact hkdn
 rw[<- Zu hka hkd];refine Vy fun K hK=> ?_;simp only[zA,simprocAttr]
 (refine hK _ ?_;clear hK K)
 refine Vk fun K hK=>Xik Xj [] [ka,kd] [[],[],[100,101],[],[],[100,101],[],[],[100,101],[],[1],[1]] [[],[],[100,101],[],[],[100,101],[],[],[100,101],[],[1],[1]] hoN hoL follows (by kernel_rfl) (by decide) (by decide) (by kernel_rfl) ?_;simp only[zA,simprocAttr,so]
 skip
 refine Xk c1 (by rw[X8 hkan,Va];exact Xo6 hne _) (by rw[X8 hkdn,Vh hne];exact Zo _) (by rw[X7 hkan];trivial) (by rw[X7 hkdn];trivial) (by simp) (by simp) ?_;simp only[zA,simprocAttr,so,Y8,Xa hkan,Xa hkdn,Xq]
 skip
 refine Xk c2 (by rw[X8 hkan,Va];exact Xo6 hne _) (by rw[X8 hkdn,Vh hne];exact Zo _) (by rw[X7 hkan];trivial) (by rw[X7 hkdn];trivial) (by simp) (by simp) ?_;simp only[zA,simprocAttr,so,Y8,Xa hkan,Xa hkdn,Xq]
 skip
 refine Xk c3 (by rw[X8 hkan,Va];exact Xo6 hne _) (by rw[X8 hkdn,Vh hne];exact Zo _) (by rw[X7 hkan];trivial) (by rw[X7 hkdn];trivial) (by simp) (by simp) ?_;simp only[zA,simprocAttr,so,Y8,Xa hkan,Xa hkdn,Xq,X0]
 (refine hK _ ?_;clear hK K)
 refine Vk fun K hK=>Xik Xj [] [ka,kd] [[],[],[],[100,101],[],[],[],[100,101],[],[1],[],[1]] [[],[],[],[100,101],[],[],[],[100,101],[],[1],[],[1]] hoN hoL follows (by kernel_rfl) (by decide) (by decide) (by kernel_rfl) ?_;simp only[zA,simprocAttr,so]
 skip
 refine Xk c4 (by rw[X8 hkan,Va];exact Xo6 hne _) (by rw[X8 hkdn,Vh hne];exact Zo _) (by rw[X7 hkan];trivial) (by rw[X7 hkdn];trivial) (by simp) (by simp) ?_;simp only[zA,simprocAttr,so,Y8,Xa hkan,Xa hkdn,Xq]
 skip
 refine Xk c5 (by rw[X8 hkan,Va];exact Xo6 hne _) (by rw[X8 hkdn,Vh hne];exact Zo _) (by rw[X7 hkan];trivial) (by rw[X7 hkdn];trivial) (by simp) (by simp) ?_;simp only[zA,simprocAttr,so,Y8,Xa hkan,Xa hkdn,Xq]
 (refine hK _ ?_;clear hK K)
 repeat' (first|refine Vk fun K hK=> ?_|apply V0|((first|apply gE|apply gR);simp only[zA,simprocAttr,X0,Xa hkan,Xa hkdn,Xq])|(refine Xk c6 (by rw[X8 hkan];exact Xo6 hne _) (by rw[X8 hkdn];exact Zo _) (by rw[X7 hkan];trivial) (by rw[X7 hkdn];trivial) (by simp) (by simp) ?_)|(refine Xk c7 (by rw[X8 hkan];exact Xo6 hne _) (by rw[X8 hkdn];exact Zo _) (by rw[X7 hkan];trivial) (by rw[X7 hkdn];trivial) (by simp) (by simp) ?_)|(refine hK _ ?_;clear hK K))
 refine Yd (Xu (.inr rfl) rfl rfl rfl (fun j _=>by rw[Z7];exact(congrFun (Xq out ka kd s s7) j).symm) ok82 (k:=n+0) (off:=0) rfl (Xb _ (by simp)) (X6 _ (Nat.le_refl _) 0) rfl (AV.le.rfl _))
end Go.Proofs.YtdngdjbgmojcoaaGreat.Pln
