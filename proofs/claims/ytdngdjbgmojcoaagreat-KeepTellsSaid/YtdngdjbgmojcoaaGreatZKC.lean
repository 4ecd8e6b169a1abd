/- The layer of abstract values, joined. -/
import Derived.Test.YtdngdjbgmojcoaaGreatZPR
import Derived.Test.YtdngdjbgmojcoaaGreatZKA
import Derived.Test.YtdngdjbgmojcoaaGreatZW14
import Derived.Test.YtdngdjbgmojcoaaGreatZTab
import Derived.Test.YtdngdjbgmojcoaaGreatZVsDraw
namespace Go.Proofs.YtdngdjbgmojcoaaGreat.Pln
set_option linter.all false
set_option maxHeartbeats 8000000
set_option maxRecDepth 4000
open Go Go.VS Tab
attribute [local irreducible] AWp Xp0 Pg X5c Qy Lt Tp FdT Eb
theorem X7y (i:Nat):2 ^ (7*i)=128 ^ i:=by rw[Nat.pow_mul]
def X1x (b:List UInt8) (at':Nat):Int×Int×Int:=match Jt (b.drop at') with
 |none=>(0,0,8)
 |some r=>(r.1,((at'+r.2:Nat):Int),0)
theorem Gn {b:List UInt8} {at':Nat} (h:Jt (b.drop at')=none):X1x b at'=(0,0,8):=by unfold X1x;rw[h]
theorem Xqg (b:List UInt8) (at':Nat) (md:Md) (h:at'<=b.length) (hb:b.length<=1000000):Xr Tryz.prog 63 [.sl 1 (Xo b) md,i64 (at':Int)] [] (.tup [i64 (X1x b at').1,i64 (X1x b at').2.1,i64 (X1x b at').2.2]) []:=by
 obtain⟨l,hl⟩:∃l,l=b.drop at':=⟨_,rfl⟩
 have hd:List.take (b.length - at') (List.drop at' b)=l:=by rw[hl];exact db (by simp)
 have hll:l.length<=1000000:=by rw[hl,bt];omega
 have hneg:¬(at':Int)<0:=by omega
 have hle:¬b.length<at':=by omega
 obtain⟨T,hT⟩:∃T,T=X1x b at':=⟨_,rfl⟩
 have hN:=hT;unfold X1x at hN;rw[<- hl] at hN;rw[<- hT];refine Xc 0 Tryz.func63 rfl fun n out _ _=> ?_;simp only[sn,Tryz.ntmps63,simprocAttr];repeat' (first|refine Vk fun K hK=> ?_|apply V0|apply Vs|((first|apply gE);simp only[zA,simprocAttr,X5,hneg,hle,h,gt_iff_lt,Int.ofNat_lt,P6,Nh,Q1,Q2,hd])|(refine hK _ ?_;clear hK K)|refine Vf rfl ?_)
 apply V5;refine Xse ((min l.length 5)) (fun i=>(∀j,j<i->128<=(l.getD j 0).toNat)) (fun i=>tr 22 32 (tr 5 4 [(4,i64 (K5 l i:Nat)),(21,i64 (i:Int))])) (fun i=>[]) (by intros;omega) ?_ fun i hi=> ?_
 ·refine X2 ?_ ?_ (by first|rfl|(simp only[K5];rfl)|simp only[K5]) rfl rfl rfl<;>simp only[sL,K5]
 obtain⟨hi,hq⟩:=hi;simp only[pt];have hw:=Yl (n:=i) 1 1 rfl (by omega);have hGi:=Ga l i (by omega) hq (by omega);have hsl:=Bb l i;have h7:=X95 (n:=i) 7 7 rfl (by omega);by_cases hlt:i<l.length
 ·have gi:=Xqt l i hlt;have ge:l.getD i 0=l[i]:=by simp [af,hlt]
  rw[cd hlt,<- ge,R1] at hGi;by_cases h5:i=5
  ·have h5b:((i:Int)==5)=true:=by rw[h5];rfl
   rw[if_pos h5] at hGi;rw[hGi] at hN;dsimp only at hN;subst hN;repeat' (first|refine Vk fun K hK=> ?_|apply V0|apply Vb|apply Vs|((first|apply gE);simp only[zA,simprocAttr,X5,hlt,gi,h5b])|(apply Vz;refine Zv (.inr rfl) rfl rfl rfl (fun _ _=>rfl) rfl rfl rfl ?_ ?_ ?_<;>first|rfl|(exact AV.le.rfl _)|(simp only[sL,X5,hlt,gi,h5b];done)|rfl|skip)|(apply Vx;simp only[sb,Nat.reduceEqDiff])|(refine hK _ ?_;clear hK K)|refine Vt rfl ?_|clear hK K)
  ·have h5b:((i:Int)==5)=false:=by rw[dz];omega
   rw[if_neg h5] at hGi;obtain⟨c,hc⟩:∃c,c=l.getD i 0:=⟨_,rfl⟩
   rw[<- hc] at gi hGi;have hc8:=c.toNat_lt;have a1:=X9f c;have a2:IntKind.i64.wrap ((c.toNat % 128:Nat):Int)=((c.toNat % 128:Nat):Int):=by rw[wrap_i64]<;>omega
   have a3:=X9g (m:=c.toNat % 128) (i:=i) (by omega) (by omega);have hp:128 ^ i<=128 ^ 4:=Nat.pow_le_pow_right (by decide) (by omega);have hmb:128 ^ i*(c.toNat % 128)<=128 ^ 4*127:=Nat.mul_le_mul hp (by omega);have hS:K5 l (i+1)=K5 l i+c.toNat % 128*128 ^ i:=by rw[hc];rfl
   have a4:Zr .or .i64 (K5 l i:Int) ((2 ^ (7*i)*(c.toNat % 128):Nat):Int)=some (.int .i64 (K5 l (i+1):Int)):=by
    rw[X9e (by rw[X7y];exact hsl) (by rw[X7y];omega),X7y,hS,Nat.add_comm,Nat.mul_comm]
   rw[<- hS] at hGi;by_cases hbig:128<=c.toNat
   ·have hbI:decide ((c.toNat:Int)>=128)=true:=ax (by omega);have hbJ:(128:Int)<=(c.toNat:Int):=by omega
    repeat' (first|refine Vk fun K hK=> ?_|apply V0|apply Vb|apply Vs|((first|apply gE);simp only[zA,simprocAttr,X5,hlt,gi,h5b,a1,a2,h7,a3,a4,ge_iff_le,hbJ,hw])|(apply Vx;simp only[sb,Nat.reduceEqDiff])|(refine hK _ ?_;clear hK K)|refine Vt rfl ?_|refine Vf rfl ?_|clear hK K)
    refine⟨i+1,⟨by omega,fun j hj=> ?_⟩,by omega,?_⟩
    ·by_cases hji:j=i
     ·rw[hji,<- hc];exact hbig
     ·exact hq j (by omega)
    refine La rfl ?_ ?_<;>simp only[sL]
   ·have hbI:decide ((c.toNat:Int)>=128)=false:=ak (by omega);have hbJ:¬(128:Int)<=(c.toNat:Int):=by omega
    rw[if_neg hbig] at hGi;by_cases hz:c=0∧0<i
    ·rw[if_pos (.inl hz)] at hGi;rw[hGi] at hN;dsimp only at hN;subst hN;have z1:((c.toNat:Int)==0)=true:=by rw[hz.1];rfl
     have z2:(0:Int)<(i:Int):=by omega
     repeat' (first|refine Vk fun K hK=> ?_|apply V0|apply Vb|apply Vs|((first|apply gE);simp only[zA,simprocAttr,X5,hlt,gi,h5b,a1,a2,h7,a3,a4,ge_iff_le,hbJ,z1,z2])|(apply Vz;refine Zv (.inr rfl) rfl rfl rfl (fun _ _=>rfl) rfl rfl rfl ?_ ?_ ?_<;>first|rfl|(exact AV.le.rfl _)|(simp only[sL,X5,hlt,gi,h5b,a1,a2,h7,a3,a4,hbI,ge_iff_le,hbJ,z1,z2,gt_iff_lt];done)|rfl|skip)|(apply Vx;simp only[sb,Nat.reduceEqDiff])|(refine hK _ ?_;clear hK K)|refine Vt rfl ?_|refine Vf rfl ?_|clear hK K)
    ·by_cases hm:2147483647<K5 l (i+1)
     ·rw[if_pos (.inr hm)] at hGi;rw[hGi] at hN;dsimp only at hN;subst hN;have m1:(2147483647:Int)<(K5 l (i+1):Int):=by omega
      by_cases hc0:c=0
      ·have z1:((c.toNat:Int)==0)=true:=by rw[hc0];rfl
       have z2:¬(0:Int)<(i:Int):=by intro h;exact hz ⟨hc0,by omega⟩
       repeat' (first|refine Vk fun K hK=> ?_|apply V0|apply Vb|apply Vs|((first|apply gE);simp only[zA,simprocAttr,X5,hlt,gi,h5b,a1,a2,h7,a3,a4,ge_iff_le,hbJ,z1,z2,gt_iff_lt,m1])|(apply Vz;refine Zv (.inr rfl) rfl rfl rfl (fun _ _=>rfl) rfl rfl rfl ?_ ?_ ?_<;>first|rfl|(exact AV.le.rfl _)|(simp only[sL,X5,hlt,gi,h5b,a1,a2,h7,a3,a4,hbI,ge_iff_le,hbJ,z1,z2,gt_iff_lt,m1];done)|rfl|skip)|(apply Vx;simp only[sb,Nat.reduceEqDiff])|(refine hK _ ?_;clear hK K)|refine Vt rfl ?_|refine Vf rfl ?_|clear hK K)
      ·have z1:((c.toNat:Int)==0)=false:=by rw[dz];intro h;exact hc0 (UInt8.toNat_inj.1 (by have e0:(0:UInt8).toNat=0:=rfl;omega))
       repeat' (first|refine Vk fun K hK=> ?_|apply V0|apply Vb|apply Vs|((first|apply gE);simp only[zA,simprocAttr,X5,hlt,gi,h5b,a1,a2,h7,a3,a4,ge_iff_le,hbJ,z1,gt_iff_lt,m1])|(apply Vz;refine Zv (.inr rfl) rfl rfl rfl (fun _ _=>rfl) rfl rfl rfl ?_ ?_ ?_<;>first|rfl|(exact AV.le.rfl _)|(simp only[sL,X5,hlt,gi,h5b,a1,a2,h7,a3,a4,hbI,ge_iff_le,hbJ,z1,gt_iff_lt,m1];done)|rfl|skip)|(apply Vx;simp only[sb,Nat.reduceEqDiff])|(refine hK _ ?_;clear hK K)|refine Vt rfl ?_|refine Vf rfl ?_|clear hK K)
     ·rw[if_neg (by rintro(h|h);exact hz h;exact hm h)] at hGi;rw[hGi] at hN;dsimp only at hN;subst hN;have m1:¬(2147483647:Int)<(K5 l (i+1):Int):=by omega
      have b1:=Yl (n:=at') (i:Int) i rfl (by omega);have b2:=Yl (n:=at'+i) 1 1 rfl (by omega);by_cases hc0:c=0
      ·have z1:((c.toNat:Int)==0)=true:=by rw[hc0];rfl
       have z2:¬(0:Int)<(i:Int):=by intro h;exact hz ⟨hc0,by omega⟩
       repeat' (first|refine Vk fun K hK=> ?_|apply V0|apply Vb|apply Vs|((first|apply gE);simp only[zA,simprocAttr,X5,hlt,gi,h5b,a1,a2,h7,a3,a4,ge_iff_le,hbJ,z1,z2,gt_iff_lt,m1,b1,b2])|(apply Vz;refine Zv (.inr rfl) rfl rfl rfl (fun _ _=>rfl) rfl rfl rfl ?_ ?_ ?_<;>first|rfl|(exact AV.le.rfl _)|(simp only[sL,X5,hlt,gi,h5b,a1,a2,h7,a3,a4,hbI,ge_iff_le,hbJ,z1,z2,gt_iff_lt,m1,b1,b2];done)|rfl|skip)|(refine hK _ ?_;clear hK K)|refine Vt rfl ?_|refine Vf rfl ?_)
      ·have z1:((c.toNat:Int)==0)=false:=by rw[dz];intro h;exact hc0 (UInt8.toNat_inj.1 (by have e0:(0:UInt8).toNat=0:=rfl;omega))
       repeat' (first|refine Vk fun K hK=> ?_|apply V0|apply Vb|apply Vs|((first|apply gE);simp only[zA,simprocAttr,X5,hlt,gi,h5b,a1,a2,h7,a3,a4,ge_iff_le,hbJ,z1,gt_iff_lt,m1,b1,b2])|(apply Vz;refine Zv (.inr rfl) rfl rfl rfl (fun _ _=>rfl) rfl rfl rfl ?_ ?_ ?_<;>first|rfl|(exact AV.le.rfl _)|(simp only[sL,X5,hlt,gi,h5b,a1,a2,h7,a3,a4,hbI,ge_iff_le,hbJ,z1,gt_iff_lt,m1,b1,b2];done)|rfl|skip)|(refine hK _ ?_;clear hK K)|refine Vt rfl ?_|refine Vf rfl ?_)
 ·obtain hil:i=l.length:=by omega
  rw[fk (by omega),R1] at hGi;rw[hGi] at hN;dsimp only at hN;subst hN;repeat' (first|refine Vk fun K hK=> ?_|apply V0|((first|apply gE);simp only[zA,simprocAttr,hlt])|(apply Vz;refine Zv (.inr rfl) rfl rfl rfl (fun _ _=>rfl) rfl rfl rfl ?_ ?_ ?_<;>first|rfl|(exact AV.le.rfl _)|(simp only[sL,X5,hlt];done)|rfl|skip)|(apply Vx;simp only[sb])|(refine hK _ ?_;clear hK K)|refine Vf rfl ?_|clear hK K)
theorem Aa (k:Nat) (n':Int):Xr Tryz.prog 104 [i64 n'] [(k,none)] (.fn (.func 145) [.ptr k 0]) [(k,.box 3 [i64 n'])]:=by
 refine Xc 1 Tryz.func104 rfl fun n out _ _=> ?_;simp only[sn,Tryz.ntmps104,simprocAttr];rename_i hneeds hgv;obtain⟨hk,_⟩:=hneeds;obtain⟨hkn,_⟩:=hgv;refine Vy fun K hK=> ?_;simp only[zA,simprocAttr]
 (refine hK _ ?_;clear hK K)
 refine Vy fun K hK=> ?_;simp only[zA,simprocAttr]
 (refine hK _ ?_;clear hK K)
 have hfn:Mv [true] (n+0) k (.fn (.func 145) [.ptr (n+0) 0]) (.fn (.func 145) [.ptr k 0]):= .fn _ _ _ rfl fun i c c' h1 h2=>by
  match i,h1,h2 with
  |0,h1,h2=>
   simp only[List.getElem?_cons_zero,bb] at h1 h2;subst h1;subst h2;exact Mv.ptr (keep:=[true]) (n:=n+0) (n':=k) 0 0 rfl
  |i+1,h1,_=>simp at h1
 refine Yy (Il (i:=0) (k:=k) [(1,.ptr k 0),(2,.fn (.func 145) [.ptr k 0]),(3,.fn (.func 145) [.ptr k 0])] (lo1:=[some (.box 3 [i64 n'])]) rfl (by exact hkn) (by exact hk) ?_ ?_) ?_
 ·simp only[Jc,sM,hfn]
 ·simp only[Ty,E8,R0,sM]
 simp only[pt,Xoe];apply Vz;exact Qv (.inr rfl) rfl rfl rfl (fun _ _=>rfl) rfl
theorem Gq (l kl k ka kb:Nat) (n0:kl≠k) (n1:kl≠ka) (n2:kl≠kb) (n3:k≠ka) (n4:k≠kb) (n5:ka≠kb) (P0:Res) (hP:P0≠ .dead) (A B:Nat->Res) (hA:∀i,A i≠ .dead) (hB:∀i,B i≠ .dead) (D:Nat->Nat) (cnt:Nat) (hD:∀i,D i<=2147483647) (hDS:∀i,D (i+1)=D i / 128)
  (hmore:∀i,i<cnt->128<=D i) (hlast:D cnt<128)
  (hy:∀i,i<=cnt->X6t Tryz.prog l [b8 (UInt8.ofNat (D i % 128)),bool (decide (128<=D i))] [(kl,some P0),(ka,some (A i)),(kb,some (B i))] (.val (.bool true)) [(ka,A (i+1)),(kb,B (i+1))]):
  Xr Tryz.prog 145 [.fn (.yield l) [],.ptr k 0] [(kl,some P0),(k,some (.box 3 [i64 (D 0:Nat)])),(ka,some (A 0)),(kb,some (B 0))] (.tup []) [(k,.box 3 [i64 (D cnt:Nat)]),(ka,A (cnt+1)),(kb,B (cnt+1))]:=by
 refine Kz 0 Tryz.func145 rfl fun n out _ _ _=> ?_;simp only[sn,Tryz.ntmps145,simprocAttr];rename_i hneeds hg hz;obtain⟨hkl,hk,hka,hkb,_⟩:=hneeds;obtain⟨hkn,hkan,hkbn,_⟩:=hg;have hkln:kl<n:=by
  rcases Nat.lt_or_ge kl n with h|h
  ·exact h
  ·rw[hz kl h] at hkl;cases hkl
 obtain⟨O,hO⟩:∃O:Nat->Res->Res->Nat->Option Res,O=fun x a b=>Xw (Xw (Xw out k (.box 3 [i64 (x:Nat)])) ka a) kb b:=⟨_,rfl⟩
 have O0:O (D 0) (A 0) (B 0)=out:=by rw[hO];dsimp only;rw[Qb hk,Qb hka,Qb hkb]
 have O1:∀x a b,O x a b k=some (.box 3 [i64 (x:Nat)]):=fun x a b=>by rw[hO];dsimp only;rw[Zp _ _ n4,Zp _ _ n3,Xt]
 have O2:∀x a b,O x a b ka=some a:=fun x a b=>by rw[hO];dsimp only;rw[Zp _ _ n5,Xt]
 have O3:∀x a b,O x a b kb=some b:=fun x a b=>by rw[hO];dsimp only;rw[Xt]
 have O4:∀x a b,O x a b kl=some P0:=fun x a b=>by rw[hO];dsimp only;rw[Zp _ _ n2,Zp _ _ n1,Zp _ _ n0];exact hkl
 have O5:∀x a b a' b',Xw (Xw (O x a b) ka a') kb b'=O x a' b':=fun x a b a' b'=>by
  rw[hO];funext j;simp only[Xw];by_cases h1:j=kb<;>by_cases h2:j=ka<;>simp [h1,h2]
 have O6:∀x a b x',Xw (O x a b) k (.box 3 [i64 (x':Nat)])=O x' a b:=fun x a b x'=>by
  rw[hO];funext j;simp only[Xw];by_cases h1:j=kb
  ·subst h1;simp [Ne.symm n4]
  ·by_cases h2:j=ka
   ·subst h2;simp [Ne.symm n3,n5]
   ·by_cases h3:j=k
    ·subst h3;simp [n3,n4]
    ·simp [h1,h2,h3]
 have O7:O (D cnt) (A (cnt+1)) (B (cnt+1))=upd out [(k,.box 3 [i64 (D cnt:Nat)]),(ka,A (cnt+1)),(kb,B (cnt+1))]:=by
  rw[hO,Zc,Zc,Zc,Wz]
 clear hO;apply V5;refine Xl (fun m (i:Nat)=>tr 3 13 [(1,.ptr k 0)]) (fun m i=>[]) (fun i=>O (D i) (A i) (B i)) (fun i=>i<=cnt) (fun i=>cnt - i) 0 (br _) ?_ fun m i hm hi=> ?_
 ·refine X2 ?_ ?_ (by first|rfl|(simp only[O0];rfl)|simp only[O0]) rfl rfl rfl<;>simp only[sL]
 simp only[pt];have hDi:=hD i;have q1:Zr .rem .i64 (D i:Int) 128=some (.int .i64 ((D i % 128:Nat):Int)):=by rw[X5a _ _ (by decide)];rfl
 have q2:IntKind.u8.wrap ((D i % 128:Nat):Int)=((UInt8.ofNat (D i % 128)).toNat:Int):=by rw[X1n,de];omega
 have q3:Zr .quo .i64 (D i:Int) 128=some (.int .i64 ((D (i+1):Nat):Int)):=by
  rw[X7l _ _ (by decide),hDS,show(D i:Int).tdiv 128=((D i / 128:Nat):Int) from rfl,wrap_i64 (by omega) (by omega)]
 have q4:decide ((D i:Int)>=128)=decide (128<=D i):=fp.2 (by omega);repeat' (first|refine Vk fun K hK=> ?_|apply V0|((first|apply gE);simp only[zA,simprocAttr,X8 hkn,X7 hkn,O1,q1,q2,q4]))
 refine X6i (hy i (by omega)) ⟨?_,?_,?_,trivial⟩ ⟨?_,?_,trivial⟩ ?_ ?_
 ·rw[X8 hkln];exact O4 _ _ _
 ·rw[X8 hkan];exact O2 _ _ _
 ·rw[X8 hkbn];exact O3 _ _ _
 ·rw[X7 hkan];trivial
 ·rw[X7 hkbn];trivial
 ·intro x hx;simp only[cn,dd,or_false] at hx;rcases hx with rfl|rfl|rfl
  ·exact⟨by rw[X7 hkln];trivial,by simpa using hP⟩
  ·exact⟨by rw[X7 hkan];trivial,by simpa using hA i⟩
  ·exact⟨by rw[X7 hkbn];trivial,by simpa using hB i⟩
 by_cases hlt:i<cnt
 ·have hm1:=hmore i hlt;simp only[zA,simprocAttr,Xa hkan,Xa hkbn,O5,X8 hkn,X7 hkn,O1,q4,hm1]
  (refine hK _ ?_;clear hK K)
  repeat' (first|refine Vk fun K hK=> ?_|apply Vs|(refine hK _ ?_;clear hK K)|refine Vt rfl ?_)
  refine Xe (Xhj ?_);simp only[Qd,Z4,if_true];refine hK _ ?_;clear hK K;repeat' (first|(apply V0)|((first|apply gE);simp only[zA,simprocAttr,X8 hkn,X7 hkn,O1,q3,Xa hkn,O6,X0]))
  refine⟨i+1,by omega,by omega,?_⟩;refine Xx [] ?_ ?_<;>intro n_<;>simp only[sM]
 ·obtain rfl:i=cnt:=by omega
  have hm1:¬128<=D i:=by omega
  simp only[zA,simprocAttr,Xa hkan,Xa hkbn,O5,X8 hkn,X7 hkn,O1,q4,hm1]
  (refine hK _ ?_;clear hK K)
  repeat' (first|(apply Vx;simp only[sb])|refine Vf rfl ?_|clear hK K)
  exact Xy (.inl rfl) rfl rfl rfl (fun j _=>by rw[<- O7])
theorem Dc:∀(f v:Nat),0<f->v<128 ^ f->0<(Ur f v).length∧(∀i,i<(Ur f v).length->(Ur f v).getD i 0=if 128<=v / 128 ^ i then UInt8.ofNat (v / 128 ^ i % 128+128) else UInt8.ofNat (v / 128 ^ i % 128))∧
  (∀i,i+1<(Ur f v).length->128<=v / 128 ^ i)∧v / 128 ^ ((Ur f v).length - 1)<128
 |0,_,h,_=>by omega
 |f+1,v,_,h=>by
  unfold Ur;by_cases hv:v<128
  ·rw[if_pos hv];refine⟨by simp,fun i hi=> ?_,fun i hi=>by simp at hi,by simpa using hv⟩;obtain rfl:i=0:=by simpa using hi
   simp only[Nat.pow_zero,Nat.div_one,List.getD_cons_zero];rw[if_neg (by omega),fo hv]
  ·rw[if_neg hv];have hf:0<f:=by
    rcases fh f with h0|h0
    ·subst h0;simp at h;omega
    ·exact h0
   have hd:v / 128<128 ^ f:=by rw[fu (by decide),<- Nat.pow_succ];exact h
   obtain⟨p1,p2,p3,p4⟩:=Dc f (v / 128) hf hd;have e:∀i,v / 128 / 128 ^ i=v / 128 ^ (i+1):=fun i=>by rw[Nat.div_div_eq_div_mul,Nat.pow_succ,Nat.mul_comm]
   refine⟨by simp,fun i hi=> ?_,fun i hi=> ?_,?_⟩
   ·match i,hi with
    |0,_=>
     simp only[Nat.pow_zero,Nat.div_one,List.getD_cons_zero];rw[if_pos (by omega)]
    |i+1,hi=>
     rw[List.getD_cons_succ,p2 i (by simpa using hi),e]
   ·match i,hi with
    |0,_=>simp;omega
    |i+1,hi=>
     rw[<- e];exact p3 i (by simpa using hi)
   ·rw[List.length_cons,Nat.add_sub_cancel];have:(Ur f (v / 128)).length=(Ur f (v / 128)).length - 1+1:=by omega
    rw[this,<- e];exact p4
theorem Ab {n':Int} (h:nOk n'):∃cnt,(Y3m n').length=cnt+1∧cnt<=4∧(∀i,i<cnt->128<=n'.toNat / 128 ^ i)∧n'.toNat / 128 ^ cnt<128∧
  ∀i,i<=cnt->(Y3m n').getD i 0=if 128<=n'.toNat / 128 ^ i then UInt8.ofNat (n'.toNat / 128 ^ i % 128+128) else UInt8.ofNat (n'.toNat / 128 ^ i % 128):=by
 have h1:=h.1;have h2:=h.2;obtain⟨p1,p2,p3,p4⟩:=Dc 5 n'.toNat (by decide) (by omega);have hl:=Mj 5 n'.toNat;have e:Y3m n'=Ur 5 n'.toNat:=if_pos h;rw[e];exact⟨(Ur 5 n'.toNat).length - 1,by omega,by omega,fun i hi=>p3 i (by omega),p4,fun i hi=>p2 i (by omega)⟩
theorem Ej {P:Program} {c:Code} {Q:Exit->AState->Prop} {σ:AState} (lE:List (Nat×AV)) (loE:List (Option Res)) (h1:σ.le {σ with fr:=X4 σ.fr lE,lo:=loE}) (h:Cv P c Q {σ with fr:=X4 σ.fr lE,lo:=loE}):Cv P c Q σ:=Jl h1 h
theorem Ac {fr:List AV} {lo:List (Option Res)} {out:Nat->Option Res} {n:Nat} {df:List Deferred} (i j q:Nat) (a b c:Res):AState.give ⟨fr,lo,out,n,n,df⟩ [(n+i,a),(n+j,b),(n+q,c)]=⟨fr,((lo.set i (some a)).set j (some b)).set q (some c),out,n,n,df⟩:=by
 have h1:¬n+i<n:=by omega
 have h2:¬n+j<n:=by omega
 have h3:¬n+q<n:=by omega
 simp [AState.give,h1,h2,h3]
theorem Lc {P:Program} {f:FuncId} {args:List AV} {r:Nat->AV} {r':AV} {q:Nat->Res} (h:∀k,Xr P f args [(k,none)] (r k) [(k,q k)]) (hr:∀k,AV.le (r k) r'):Xr P f args [] r' []:=fun M N vs hI hR hn hN hu=>by
 obtain⟨K,hK⟩:=hI.fin;refine(h (max N K) M (max N K+1) vs hI hR ⟨hK _ (by omega),trivial⟩ (fun k hk=>hN k (by omega)) ⟨by omega,trivial⟩).mono fun e w' ⟨v,he,M',h1,h2,h3,h4,h5⟩=>⟨v,he,M',h1,h2,h3,fun k hk=> ?_,h5.le (hr _)⟩
 rw[h4 k (by omega)];simp only[upd,Xw];rw[if_neg (by omega)]
theorem Xr4 (k:Nat) (n':Int) (hok:0<=n'∧n'<=2147483647):Xr Tryz.prog 55 [i64 n'] [(k,none)] (.tup [.sl 1 (Xo (Y3m n')) (.own k),i64 0]) [(k,.row 5 1 (Y3m n').length)]:=by
 have l1:¬n'<0:=by omega
 have l2:¬(2147483647:Int)<n':=by omega
 obtain⟨N,rfl⟩:=bj hok.1;obtain⟨cnt,g1,g2,g3,g4,g5⟩:=Ab (n':=(N:Int)) hok;rw[Int.toNat_natCast] at g3 g4 g5;obtain⟨D,hD⟩:∃D:Nat->Nat,D=fun i=>N / 128 ^ i:=⟨_,rfl⟩
 have D0:D 0=N:=by rw[hD];simp
 have DS:∀i,D (i+1)=D i / 128:=fun i=>by rw[hD];dsimp only;rw[Nat.pow_succ,<- Nat.div_div_eq_div_mul]
 have Dm:∀i,D i<=2147483647:=fun i=>by
  rw[hD];have:=Nat.div_le_self N (128 ^ i);dsimp only;omega
 have g3':∀i,i<cnt->128<=D i:=fun i hi=>by rw[hD];exact g3 i hi
 have g4':D cnt<128:=by rw[hD];exact g4
 have g5':∀i,i<=cnt->(Y3m (N:Int)).getD i 0=if 128<=D i then UInt8.ofNat (D i % 128+128) else UInt8.ofNat (D i % 128):=fun i hi=>by rw[hD];exact g5 i hi
 clear g3 g4 g5 hD;obtain⟨Z,hZ⟩:∃Z,Z=Y3m (N:Int):=⟨_,rfl⟩
 rw[<- hZ] at g1 g5'⊢;refine Ph 6 Tryz.func55 rfl fun n out _ _=> ?_;simp only[sn,Tryz.ntmps55,simprocAttr];rename_i hneeds hgv;obtain⟨hk,_⟩:=hneeds;obtain⟨hkn,_⟩:=hgv;refine V4 fun K hK=>AWp.zero (Xn Xj [] ?_);simp only[zA,simprocAttr];repeat' (first|(refine hK _ ?_;clear hK K)|with_reducible apply ab)
 refine V4 fun KB0 hKB0=>AWp.zero ?_;refine Vk fun K hK=> ?_;refine Xn Xj [] ?_;simp only[zA,simprocAttr,l1,l2];refine hK _ ?_;clear hK K;refine Uy rfl ?_;refine Xhj ?_;simp only[Qd,Z4,if_true];refine hKB0 _ ?_;clear hKB0 KB0;refine V4 fun K hK=>AWp.zero (Xn Xj [] ?_);simp only[zA,simprocAttr];repeat' (first|(refine hK _ ?_;clear hK K)|with_reducible apply ab)
 refine Jl (Q9 (i:=4) 5 1 rfl) ?_;simp only[s_0,s_s];refine Ej [] [some (.box 22 [.sl 1 [] (.own (n+4))]),none,none,none,some (.row 5 1 0),none] ?_ ?_
 ·refine La rfl ?_ ?_<;>simp only[sL]
 simp only[pt];refine V4 fun KB hKB=> ?_;refine V4 fun K hK=>AWp.zero (Xn Xj [] ?_);simp only[zA,simprocAttr];repeat' (first|(refine hK _ ?_;clear hK K)|with_reducible apply ab)
 refine Sb (Aa (n+1) (N:Int)) (X6 _ (Nat.le_refl _) 1) (Xb _ (by simp)) (by simp) ?_;simp only[zA,simprocAttr];repeat' (first|(refine hK _ ?_;clear hK K)|with_reducible apply ab)
 have D0':(N:Int)=((D 0:Nat):Int):=by rw[D0]
 refine Fp (Fq (r:= .tup []) (gf:=145) (caps:=[.ptr (n+1) 0]) 2 3 Tryz.func145 (by kernel_rfl) (by kernel_rfl) rfl (by decide) rfl rfl ?_);intro DD lp rec F hF h1 h2 h3 h4 h5;refine⟨_,_,Gq lp (n+3) (n+1) (n+0) (n+4) (by omega) (by omega) (by omega) (by omega) (by omega) (by omega) (.pin lp (.loop rec) F) (by simp) (fun i=> .box 22 [.sl 1 (Xo (Z.take i)) (.own (n+4))]) (fun i=> .row 5 1 i) (by simp) (by simp) D cnt Dm DS g3' g4'
  (fun i hi=>Y4c (fr:=F) (fr1:=(((F.set 15 (b8 (UInt8.ofNat (D i % 128)))).set 16 (bool (decide (128<=D i)))).set 5 (b8 (UInt8.ofNat (D i % 128)))).set 6 (bool (decide (128<=D i)))) (ps:=[15,16]) 1 h1 h2 h3 h4 h5 rfl (by simp) (by simp) ?_ ?_),?_,?_,?_,?_,?_⟩
 ·intro n' out';subst hF;simp only[List.zip_cons_cons,List.zip_nil_left,List.zip_nil_right,setAll,s_0,s_s];refine Vy fun K hK=> ?_;simp only[zA,simprocAttr];repeat' (first|(refine hK _ ?_;clear hK K)|with_reducible apply ab)
  refine Xn Xj [] ?_;simp only[zA,simprocAttr]
 ·intro n' out' hh hg;obtain⟨hka,hkb,_⟩:=hh;obtain⟨hkan,hkbn,_⟩:=hg;have hoN:[n+0,n+4].Nodup:=by simp
  have hoL:∀k,k∈[n+0,n+4]->k<n':=fun k hk=>by
   simp only[cn,dd,or_false] at hk;rcases hk with rfl|rfl
   ·exact hkan
   ·exact hkbn
  have hzi:i<Z.length:=by omega
  have hzt:Z.take (i+1)=Z.take i++[if 128<=D i then UInt8.ofNat (D i % 128+128) else UInt8.ofNat (D i % 128)]:=by
   rw[<- g5' i hi,List.take_add_one];simp [af,hzi]
  have hzl:(Z.take i).length=i:=by rw[ba];omega
  rw[hzt];have B6:∀(σ:AState) (K:AV->List (Nat×Res)->Prop) (v:Int),X1 tab σ K none 22 1 [(0,.val (.int .u8 v))]=K (.sl 1 [[.val (.int .u8 v)]] .full) []:=fun σ K v=>Yk (T:=tab) (ti:=ti22) (te:=ti5) rfl rfl rfl (by decide) (by decide) rfl rfl;apply V5;subst hF;simp only[List.replicate,s_0,s_s];have hne:(n+4=n+0)=False:=ef (by omega);have hk4:∀q,Xw out' (n+4) q (n+0)=some (.box 22 [.sl 1 (Xo (Z.take i)) (.own (n+4))]):=fun q=>by
   rw[Zp _ _ (by omega)];exact hka
  have y1:(i+1)*24<=140737488355328:=by omega
  have y2:i+1<=9223372036854775807:=by omega
  have fin:∀(x:UInt8) (k:Nat),k<n'->Xw (Xw out' (n+4) (Res.row 5 1 (i+1))) (n+0) (Res.box 22 [AV.sl 1 (Xo (List.take i Z)++[[AV.val (Value.int IntKind.u8 x.toNat)]]) (Md.own (n+4))]) k=
    upd out' [(n+0,Res.box 22 [AV.sl 1 (Xo (List.take i Z++[x])) (Md.own (n+4))]),(n+4,Res.row 5 1 (i+1))] k:=fun x k _=>by
   have e:Xo (List.take i Z)++[[AV.val (Value.int IntKind.u8 x.toNat)]]=Xo (List.take i Z++[x]):=L6 (List.take i Z) [x];rw[e];simp only[Zc,Wz,Xw];by_cases q1:k=n+0
   ·have q2:¬k=n+4:=by omega
    rw[if_pos q1,if_neg q2,if_pos q1]
   ·by_cases q2:k=n+4
    ·rw[if_neg q1,if_pos q2,if_pos q2]
    ·rw[if_neg q1,if_neg q2,if_neg q2,if_neg q1]
  by_cases hm:128<=D i
  ·have hb8:Zr .or .u8 ((UInt8.ofNat (D i % 128)).toNat:Int) 128=some (.int .u8 ((UInt8.ofNat (D i % 128+128)).toNat:Int)):=by
    have e:(UInt8.ofNat (D i % 128)).toNat=D i % 128:=by rw[de];omega
    rw[e];exact X7v (i6 _ (by decide))
   have hd:decide (128<=D i)=true:=ax hm;rw[if_pos hm];refine Vk fun KC hKC=> ?_;refine Vy fun K hK=> ?_;simp only[zA,simprocAttr,hd];repeat' (first|(refine hK _ ?_;clear hK K)|with_reducible apply ab)
   refine Wm rfl ?_;refine Xn Xj [] ?_;simp only[zA,simprocAttr,hb8];refine hKC _ ?_;clear hKC KC;refine Xn Xj [] ?_;simp only[zA,simprocAttr,X8 hkan,X7 hkan,hka,X8 hkbn,X7 hkbn,hkb,Xa hkan,Xa hkbn,X5,hzl,y2,hk4,X0];exact⟨by omega,fin _⟩
  ·have hd:decide (128<=D i)=false:=ak hm;rw[if_neg hm];refine Vk fun KC hKC=> ?_;refine Vy fun K hK=> ?_;simp only[zA,simprocAttr,hd];repeat' (first|(refine hK _ ?_;clear hK K)|with_reducible apply ab)
   refine Uy rfl ?_;refine Xhj ?_;simp only[Qd,Z4,if_true];refine hKC _ ?_;clear hKC KC;refine Xn Xj [] ?_;simp only[zA,simprocAttr,X8 hkan,X7 hkan,hka,X8 hkbn,X7 hkbn,hkb,Xa hkan,Xa hkbn,X5,hzl,y2,hk4,X0];exact⟨by omega,fin _⟩
 ·subst hF;simp only[holds,s_0,s_s,X2a,List.getElem?_cons_zero,List.getElem?_cons_succ,Option.join_some,and_true,true_and,D0',List.take_zero];rfl
 ·exact⟨Xb _ (by simp),Xb _ (by simp),Xb _ (by simp),trivial⟩
 ·intro x hx;simp only[cn,dd,or_false] at hx;rcases hx with rfl|rfl|rfl|rfl
  ·exact Xb _ (by simp)
  ·exact Xb _ (by simp)
  ·exact Xb _ (by simp)
  ·exact Xb _ (by simp)
 ·intro x hx;simp only[cn,dd,or_false] at hx;rcases hx with rfl|rfl|rfl
  ·show n+1≠n+3
   omega
  ·show n+0≠n+3
   omega
  ·show n+4≠n+3
   omega
 simp only[Qd,Z4,s_0,s_s,Ac,if_true];refine hKB _ ?_;clear hKB KB;refine AWp.zero ?_;refine Vy fun K hK=> ?_;simp only[zA,simprocAttr];repeat' (first|(refine hK _ ?_;clear hK K)|with_reducible apply ab)
 rw[show Z.take (cnt+1)=Z from db (by omega),<- g1];refine Yy (Ja (i:=4) (k:=k) rfl (by exact hkn) (by exact hk)) ?_;simp only[bk,ag,Option.map_some,Option.map_none,Res.ren1,AV.ren1,Nat.add_left_cancel_iff,Nat.reduceEqDiff,reduceIte,Xoe,s_0,s_s];apply Vz;exact⟨2,DD,rfl,rfl,Za (.inr rfl) rfl rfl rfl (fun _ _=>rfl) rfl rfl (.rfl _) (.rfl _)⟩
theorem Gr (n':Int):Xr Tryz.prog 55 [i64 n'] [] (.tup [.sl 1 (Xo (Y3m n')) .sh,i64 (if 0<=n'∧n'<=2147483647 then 0 else 2)]) []:=by
 by_cases hok:0<=n'∧n'<=2147483647
 ·rw[if_pos hok];exact Lc (fun k=>Xr4 k n' hok) fun k=>by simp only[sL]
 ·rw[if_neg hok];have hz:Y3m n'=[]:=if_neg hok;rw[hz];by_cases l1:n'<0
  ·refine Xc 0 Tryz.func55 rfl fun n out _ _=> ?_;simp only[sn,Tryz.ntmps55,simprocAttr];have hg:=Nat.le_refl 0;have l3:decide (n'<0)=true:=ax l1;repeat' (first|refine Vk fun K hK=> ?_|apply V0|apply Vb|apply Vc|apply Vr|apply Vs|with_reducible apply ab|((first|apply gE|apply gR|apply gS);simp only[zA,simprocAttr,l1])|exact Vn|(apply Vz;refine Za (.inr rfl) rfl rfl rfl (fun _ _=>rfl) rfl rfl ?_ ?_<;>first|rfl|(exact AV.le.rfl _)|(simp only[sL];done)|rfl|skip)|((refine Vg (fun hg=> ?_) (fun hg=> ?_))<;>try simp only[nb] at hg)|(refine hK _ ?_;clear hK K)|refine Vt rfl ?_|refine Vf rfl ?_|refine Vi rfl (fun hg=> ?_) (fun hg=> ?_)|clear hK K)
   exact .nil 0 1 .sh (by intro h;cases h)
  ·have l2:(2147483647:Int)<n':=by omega
   have l3:decide (n'<0)=false:=ak l1;have l4:decide (2147483647<n')=true:=ax l2;refine Xc 0 Tryz.func55 rfl fun n out _ _=> ?_;simp only[sn,Tryz.ntmps55,simprocAttr];have hg:=Nat.le_refl 0;repeat' (first|refine Vk fun K hK=> ?_|apply V0|apply Vb|apply Vc|apply Vr|apply Vs|with_reducible apply ab|((first|apply gE|apply gR|apply gS);simp only[zA,simprocAttr,l1,l2])|exact Vn|(apply Vz;refine Za (.inr rfl) rfl rfl rfl (fun _ _=>rfl) rfl rfl ?_ ?_<;>first|rfl|(exact AV.le.rfl _)|(simp only[sL];done)|rfl|skip)|((refine Vg (fun hg=> ?_) (fun hg=> ?_))<;>try simp only[nb] at hg)|(refine hK _ ?_;clear hK K)|refine Vt rfl ?_|refine Vf rfl ?_|refine Vi rfl (fun hg=> ?_) (fun hg=> ?_)|clear hK K)
   exact .nil 0 1 .sh (by intro h;cases h)
end Go.Proofs.YtdngdjbgmojcoaaGreat.Pln
