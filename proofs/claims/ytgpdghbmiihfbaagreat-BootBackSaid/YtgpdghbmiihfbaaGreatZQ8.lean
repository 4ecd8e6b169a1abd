/- The layer of abstract values, joined. -/
import Derived.Test.YtgpdghbmiihfbaaGreatZP5
import Derived.Test.YtgpdghbmiihfbaaGreatZQ5
import Derived.Test.YtgpdghbmiihfbaaGreatZQ3
import Derived.Test.YtgpdghbmiihfbaaGreatZK32
import Derived.Test.YtgpdghbmiihfbaaGreatZS2
import Derived.Test.YtgpdghbmiihfbaaGreatZQE
import Derived.Test.YtgpdghbmiihfbaaGreatZP46
namespace Go.Proofs.YtgpdghbmiihfbaaGreat.Pln
set_option linter.all false
set_option maxHeartbeats 8000000
set_option maxRecDepth 4000
open Go Go.VS Tab
attribute [local irreducible] AWp Xp0 Pg X5c Qy Lt Tp FdT Eb
theorem Xxt {b:List UInt8} {a:Nat} {r:List UInt8×Nat} (h:unW b a=some r) (ha:a<=b.length):r.2<=b.length∧r.1.length<=b.length:=by
 unfold unW at h;cases hg:Jt (b.drop a) with
 |none=>rw[hg] at h;cases h
 |some q=>
  rw[hg] at h;dsimp only at h;split at h
  ·cases h
  ·injection h with h
   subst h;have h1:=(Xsu hg).1;rw[bu] at h1;refine⟨by dsimp only;omega,?_⟩;rw[aj,bu];omega
theorem Xvd {e:Bool} {b:List UInt8} {s:Nat×Bool} (h:s.1<=b.length):(Xq7 e b s).2.1<=b.length:=by
 unfold Xq7;split
 ·exact h
 ·cases hu:unW b s.1 with
  |none=>exact h
  |some r=>
   have h1:=(Xxt hu h).1;dsimp only;split
   ·exact h1
   ·split<;>exact h1
theorem Xwx (e:Bool) (b:List UInt8) (a:Nat):Xq7 e b (a,true)=(Aq,(a,true)):=rfl
theorem Xve {e:Bool} {b:List UInt8} {a:Nat} (h:unW b a=none):Xq7 e b (a,false)=(Aq,(a,true)):=by simp [Xq7,h]
theorem Xud {b:List UInt8} {a y:Nat} (h:unW b a=some ([],y)):Xq7 true b (a,false)=(Aq,(y,false)):=by simp [Xq7,h]
theorem Xvf {e:Bool} {b:List UInt8} {a:Nat} {r:List UInt8×Nat} (h:unW b a=some r) (h0:¬(r.1=[]∧e=true)):Xq7 e b (a,false)=(if Z6 r.1 then(V6 r.1).1 else Aq,(r.2, !Z6 r.1)):=by
 unfold Xq7;dsimp only;rw[if_neg (by decide),h];dsimp only;rw[if_neg h0];cases Z6 r.1<;>rfl
theorem Xvg (k:Nat) (b:List UInt8) (hb:b.length<=1000000) (e:Bool) (s:Nat×Bool) (hs:s.1<=b.length):Xr Tryz.prog 166 [.ptr k 0,bool e] [(k,some (rdR b s))] (plA (Xq7 e b s).1) [(k,rdR b (Xq7 e b s).2)]:=by
 obtain⟨a,o⟩:=s;obtain⟨X,y,z,cU,u1,u2⟩:=Xww b hb a hs;dsimp only at hs⊢;cases o with
 |true=>
  rw[Xwx];clear u1 u2;unfold Aq plA plC;refine Xc 1 Tryz.func166 rfl fun n out _ _=> ?_;simp only[sn,Tryz.ntmps166,simprocAttr];have hg:=Nat.le_refl 0;rename_i hneeds hgv;obtain⟨hk,_⟩:=hneeds;obtain⟨hkn,_⟩:=hgv;have hoN:[k].Nodup:=by simp
  have hoL:∀j,j∈[k]->j<n:=fun j hj=>by simp at hj;subst hj;exact hkn
  refine Vy fun K hK=> ?_;simp only[zA,simprocAttr];repeat' (first|(refine hK _ ?_;clear hK K)|with_reducible apply aa)
  refine Vk fun K hK=>Xik Xj [] [k] [[],[],[],[100],[],[],[],[100],[],[],[],[],[],[],[],[]] [[],[],[],[],[],[],[],[],[],[],[],[],[],[],[],[]] hoN hoL follows (by kernel_rfl) (by decide) (by decide) (by kernel_rfl) ?_;simp only[zA,simprocAttr,so,rdR,rdC,X8 hkn,X7 hkn,hk];repeat' (first|(refine hK _ ?_;clear hK K)|with_reducible apply aa)
  refine X3 cU ?_;simp only[zA,simprocAttr,so];repeat' (first|(refine hK _ ?_;clear hK K)|with_reducible apply aa)
  repeat' (first|refine Vk fun K hK=> ?_|apply V0|apply Vs|with_reducible apply aa|((first|apply gE|apply gR|apply gS);simp only[zA,simprocAttr,rdR,rdC,hk,X8 hkn,X7 hkn,Xa hkn,Xif,X0])|exact Vn|(apply Vz;(first|refine Xu (.inr rfl) rfl rfl rfl (fun _ _=>rfl) ok28 (k:=n+0) (off:=0) rfl (Xb _ (by simp)) (X6 _ (Nat.le_refl _) 0) rfl ?_|refine Xu (.inr rfl) rfl rfl rfl (fun _ _=>rfl) ok28 (k:=m+0) (off:=0) rfl (Xb _ (by simp)) (X6 _ hm 0) rfl ?_)<;>first|rfl|exact AV.le.rfl _|(simp only[sL,ad];done)|rfl|skip)|((refine Vg (fun hg=> ?_) (fun hg=> ?_))<;>try simp only[nb] at hg)|(refine hK _ ?_;clear hK K)|refine Vt rfl ?_|refine Vf rfl ?_|refine Vi rfl (fun hg=> ?_) (fun hg=> ?_)|clear hK K)
 |false=>
  cases hu:unW b a with
  |none=>
   rw[Xve hu];have hz:(z !=0)=true:=by simpa using u1 hu
   clear u1 u2;unfold Aq plA plC;refine Xc 1 Tryz.func166 rfl fun n out _ _=> ?_;simp only[sn,Tryz.ntmps166,simprocAttr];have hg:=Nat.le_refl 0;rename_i hneeds hgv;obtain⟨hk,_⟩:=hneeds;obtain⟨hkn,_⟩:=hgv;have hoN:[k].Nodup:=by simp
   have hoL:∀j,j∈[k]->j<n:=fun j hj=>by simp at hj;subst hj;exact hkn
   refine Vy fun K hK=> ?_;simp only[zA,simprocAttr];repeat' (first|(refine hK _ ?_;clear hK K)|with_reducible apply aa)
   refine Vk fun K hK=>Xik Xj [] [k] [[],[],[],[100],[],[],[],[100],[],[],[],[],[],[],[],[]] [[],[],[],[],[],[],[],[],[],[],[],[],[],[],[],[]] hoN hoL follows (by kernel_rfl) (by decide) (by decide) (by kernel_rfl) ?_;simp only[zA,simprocAttr,so,rdR,rdC,X8 hkn,X7 hkn,hk];repeat' (first|(refine hK _ ?_;clear hK K)|with_reducible apply aa)
   refine X3 cU ?_;simp only[zA,simprocAttr,so];repeat' (first|(refine hK _ ?_;clear hK K)|with_reducible apply aa)
   repeat' (first|refine Vk fun K hK=> ?_|apply V0|apply Vs|with_reducible apply aa|((first|apply gE|apply gR|apply gS);simp only[zA,simprocAttr,rdR,rdC,hk,X8 hkn,X7 hkn,Xa hkn,Xif,X0,hz])|exact Vn|(apply Vz;(first|refine Xu (.inr rfl) rfl rfl rfl (fun _ _=>rfl) ok28 (k:=n+0) (off:=0) rfl (Xb _ (by simp)) (X6 _ (Nat.le_refl _) 0) rfl ?_|refine Xu (.inr rfl) rfl rfl rfl (fun _ _=>rfl) ok28 (k:=m+0) (off:=0) rfl (Xb _ (by simp)) (X6 _ hm 0) rfl ?_)<;>first|rfl|exact AV.le.rfl _|(simp only[sL,ad];done)|rfl|skip)|((refine Vg (fun hg=> ?_) (fun hg=> ?_))<;>try simp only[nb] at hg)|(refine hK _ ?_;clear hK K)|refine Vt rfl ?_|refine Vf rfl ?_|refine Vi rfl (fun hg=> ?_) (fun hg=> ?_)|clear hK K)
  |some r=>
   obtain⟨rfl,rfl,rfl⟩:=u2 r hu;have hl:=(Xxt hu hs).2;obtain⟨X,y⟩:=r;dsimp only at cU hl;by_cases h0:X=[]∧e=true
   ·obtain⟨rfl,rfl⟩:=h0;rw[Xud hu];clear u1 u2;unfold Aq plA plC;have bn:([]:List UInt8).length=0:=rfl;refine Xc 1 Tryz.func166 rfl fun n out _ _=> ?_;simp only[sn,Tryz.ntmps166,simprocAttr];have hg:=Nat.le_refl 0;rename_i hneeds hgv;obtain⟨hk,_⟩:=hneeds;obtain⟨hkn,_⟩:=hgv;have hoN:[k].Nodup:=by simp
    have hoL:∀j,j∈[k]->j<n:=fun j hj=>by simp at hj;subst hj;exact hkn
    refine Vy fun K hK=> ?_;simp only[zA,simprocAttr];repeat' (first|(refine hK _ ?_;clear hK K)|with_reducible apply aa)
    refine Vk fun K hK=>Xik Xj [] [k] [[],[],[],[100],[],[],[],[100],[],[],[],[],[],[],[],[]] [[],[],[],[],[],[],[],[],[],[],[],[],[],[],[],[]] hoN hoL follows (by kernel_rfl) (by decide) (by decide) (by kernel_rfl) ?_;simp only[zA,simprocAttr,so,rdR,rdC,X8 hkn,X7 hkn,hk];repeat' (first|(refine hK _ ?_;clear hK K)|with_reducible apply aa)
    refine X3 cU ?_;simp only[zA,simprocAttr,so];repeat' (first|(refine hK _ ?_;clear hK K)|with_reducible apply aa)
    repeat' (first|refine Vk fun K hK=> ?_|apply V0|apply Vs|with_reducible apply aa|((first|apply gE|apply gR|apply gS);simp only[zA,simprocAttr,rdR,rdC,hk,X8 hkn,X7 hkn,Xa hkn,Xif,X0,X5])|exact Vn|(apply Vz;(first|refine Xu (.inr rfl) rfl rfl rfl (fun _ _=>rfl) ok28 (k:=n+0) (off:=0) rfl (Xb _ (by simp)) (X6 _ (Nat.le_refl _) 0) rfl ?_|refine Xu (.inr rfl) rfl rfl rfl (fun _ _=>rfl) ok28 (k:=m+0) (off:=0) rfl (Xb _ (by simp)) (X6 _ hm 0) rfl ?_)<;>first|rfl|exact AV.le.rfl _|(simp only[sL,ti28,ad,rdR,rdC,hk,X8 hkn,X7 hkn,Xa hkn,Xif,X0,Int.reduceBNe,X5,List.length_nil];done)|rfl|skip)|((refine Vg (fun hg=> ?_) (fun hg=> ?_))<;>try simp only[nb] at hg)|(refine hK _ ?_;clear hK K)|refine Vt rfl ?_|refine Vf rfl ?_|refine Vi rfl (fun hg=> ?_) (fun hg=> ?_)|clear hK K)
    exact Yd (Xu (.inr rfl) rfl rfl rfl (fun j _=>by rw[Jp];rfl) ok28 (k:=n+0) (off:=0) rfl (Xb _ (by simp)) (X6 _ (Nat.le_refl _) 0) rfl (by simp only[ad,ti28,sL]))
   ·rw[Xvf hu h0];have cp:=X2y X (by omega);clear u1 u2;dsimp only;have hX:((X.length:Int)==0&&e)=false:=by
     cases X with
     |nil=>cases e<;>simp_all
     |cons x l=>simp;omega
    cases hp:Z6 X with
    |true=>
     rw[hp] at cp;simp only[if_true] at cp⊢;generalize (V6 X).1=P at*;simp only[plA,plC] at cp⊢;cases hl0:((X.length:Int)==0) with
     |true=>
      rw[hl0,cy] at hX;subst hX;refine Xc 1 Tryz.func166 rfl fun n out _ _=> ?_;simp only[sn,Tryz.ntmps166,simprocAttr];have hg:=Nat.le_refl 0;rename_i hneeds hgv;obtain⟨hk,_⟩:=hneeds;obtain⟨hkn,_⟩:=hgv;have hoN:[k].Nodup:=by simp
      have hoL:∀j,j∈[k]->j<n:=fun j hj=>by simp at hj;subst hj;exact hkn
      refine Vy fun K hK=> ?_;simp only[zA,simprocAttr];repeat' (first|(refine hK _ ?_;clear hK K)|with_reducible apply aa)
      refine Vk fun K hK=>Xik Xj [] [k] [[],[],[],[100],[],[],[],[100],[],[],[],[],[],[],[],[]] [[],[],[],[],[],[],[],[],[],[],[],[],[],[],[],[]] hoN hoL follows (by kernel_rfl) (by decide) (by decide) (by kernel_rfl) ?_;simp only[zA,simprocAttr,so,rdR,rdC,X8 hkn,X7 hkn,hk];repeat' (first|(refine hK _ ?_;clear hK K)|with_reducible apply aa)
      refine X3 cU ?_;simp only[zA,simprocAttr,so];repeat' (first|(refine hK _ ?_;clear hK K)|with_reducible apply aa)
      repeat' (first|refine Vk fun K hK=> ?_|apply V0|apply Vs|with_reducible apply aa|((first|apply gE|apply gR|apply gS);simp only[zA,simprocAttr,rdR,rdC,hk,X8 hkn,X7 hkn,Xa hkn,Xif,X0,X5,hl0])|exact Vn|(apply Vz;(first|refine Xu (.inr rfl) rfl rfl rfl (fun _ _=>rfl) ok28 (k:=n+0) (off:=0) rfl (Xb _ (by simp)) (X6 _ (Nat.le_refl _) 0) rfl ?_|refine Xu (.inr rfl) rfl rfl rfl (fun _ _=>rfl) ok28 (k:=m+0) (off:=0) rfl (Xb _ (by simp)) (X6 _ hm 0) rfl ?_)<;>first|rfl|exact AV.le.rfl _|(simp only[sL,ti28,ad,rdR,rdC,hk,X8 hkn,X7 hkn,Xa hkn,Xif,X0,Int.reduceBNe,X5,hl0];done)|rfl|skip)|(refine X3 (cp) ?_)|((refine Vg (fun hg=> ?_) (fun hg=> ?_))<;>try simp only[nb] at hg)|(refine hK _ ?_;clear hK K)|refine Vt rfl ?_|refine Vf rfl ?_|refine Vi rfl (fun hg=> ?_) (fun hg=> ?_)|clear hK K)
      exact Yd (Xu (.inr rfl) rfl rfl rfl (fun j _=>by rw[Jp,Jp];rfl) ok28 (k:=n+0) (off:=0) rfl (Xb _ (by simp)) (X6 _ (Nat.le_refl _) 0) rfl (.rfl _))
     |false=>
      refine Xc 1 Tryz.func166 rfl fun n out _ _=> ?_;simp only[sn,Tryz.ntmps166,simprocAttr];have hg:=Nat.le_refl 0;rename_i hneeds hgv;obtain⟨hk,_⟩:=hneeds;obtain⟨hkn,_⟩:=hgv;have hoN:[k].Nodup:=by simp
      have hoL:∀j,j∈[k]->j<n:=fun j hj=>by simp at hj;subst hj;exact hkn
      refine Vy fun K hK=> ?_;simp only[zA,simprocAttr];repeat' (first|(refine hK _ ?_;clear hK K)|with_reducible apply aa)
      refine Vk fun K hK=>Xik Xj [] [k] [[],[],[],[100],[],[],[],[100],[],[],[],[],[],[],[],[]] [[],[],[],[],[],[],[],[],[],[],[],[],[],[],[],[]] hoN hoL follows (by kernel_rfl) (by decide) (by decide) (by kernel_rfl) ?_;simp only[zA,simprocAttr,so,rdR,rdC,X8 hkn,X7 hkn,hk];repeat' (first|(refine hK _ ?_;clear hK K)|with_reducible apply aa)
      refine X3 cU ?_;simp only[zA,simprocAttr,so];repeat' (first|(refine hK _ ?_;clear hK K)|with_reducible apply aa)
      repeat' (first|refine Vk fun K hK=> ?_|apply V0|apply Vs|with_reducible apply aa|((first|apply gE|apply gR|apply gS);simp only[zA,simprocAttr,rdR,rdC,hk,X8 hkn,X7 hkn,Xa hkn,Xif,X0,X5,hl0])|exact Vn|(apply Vz;(first|refine Xu (.inr rfl) rfl rfl rfl (fun _ _=>rfl) ok28 (k:=n+0) (off:=0) rfl (Xb _ (by simp)) (X6 _ (Nat.le_refl _) 0) rfl ?_|refine Xu (.inr rfl) rfl rfl rfl (fun _ _=>rfl) ok28 (k:=m+0) (off:=0) rfl (Xb _ (by simp)) (X6 _ hm 0) rfl ?_)<;>first|rfl|exact AV.le.rfl _|(simp only[sL,ti28,ad,rdR,rdC,hk,X8 hkn,X7 hkn,Xa hkn,Xif,X0,Int.reduceBNe,X5,hl0];done)|rfl|skip)|(refine X3 (cp) ?_)|((refine Vg (fun hg=> ?_) (fun hg=> ?_))<;>try simp only[nb] at hg)|(refine hK _ ?_;clear hK K)|refine Vt rfl ?_|refine Vf rfl ?_|refine Vi rfl (fun hg=> ?_) (fun hg=> ?_)|clear hK K)
      exact Yd (Xu (.inr rfl) rfl rfl rfl (fun j _=>by rw[Jp,Jp];rfl) ok28 (k:=n+0) (off:=0) rfl (Xb _ (by simp)) (X6 _ (Nat.le_refl _) 0) rfl (.rfl _))
    |false=>
     rw[hp] at cp;simp only[bf,if_false,plA,plC,Aq,ad] at cp⊢;cases hl0:((X.length:Int)==0) with
     |true=>
      rw[hl0,cy] at hX;subst hX;refine Xc 1 Tryz.func166 rfl fun n out _ _=> ?_;simp only[sn,Tryz.ntmps166,simprocAttr];have hg:=Nat.le_refl 0;rename_i hneeds hgv;obtain⟨hk,_⟩:=hneeds;obtain⟨hkn,_⟩:=hgv;have hoN:[k].Nodup:=by simp
      have hoL:∀j,j∈[k]->j<n:=fun j hj=>by simp at hj;subst hj;exact hkn
      refine Vy fun K hK=> ?_;simp only[zA,simprocAttr];repeat' (first|(refine hK _ ?_;clear hK K)|with_reducible apply aa)
      refine Vk fun K hK=>Xik Xj [] [k] [[],[],[],[100],[],[],[],[100],[],[],[],[],[],[],[],[]] [[],[],[],[],[],[],[],[],[],[],[],[],[],[],[],[]] hoN hoL follows (by kernel_rfl) (by decide) (by decide) (by kernel_rfl) ?_;simp only[zA,simprocAttr,so,rdR,rdC,X8 hkn,X7 hkn,hk];repeat' (first|(refine hK _ ?_;clear hK K)|with_reducible apply aa)
      refine X3 cU ?_;simp only[zA,simprocAttr,so];repeat' (first|(refine hK _ ?_;clear hK K)|with_reducible apply aa)
      repeat' (first|refine Vk fun K hK=> ?_|apply V0|apply Vs|with_reducible apply aa|((first|apply gE|apply gR|apply gS);simp only[zA,simprocAttr,rdR,rdC,hk,X8 hkn,X7 hkn,Xa hkn,Xif,X0,X5,hl0])|exact Vn|(apply Vz;(first|refine Xu (.inr rfl) rfl rfl rfl (fun _ _=>rfl) ok28 (k:=n+0) (off:=0) rfl (Xb _ (by simp)) (X6 _ (Nat.le_refl _) 0) rfl ?_|refine Xu (.inr rfl) rfl rfl rfl (fun _ _=>rfl) ok28 (k:=m+0) (off:=0) rfl (Xb _ (by simp)) (X6 _ hm 0) rfl ?_)<;>first|rfl|exact AV.le.rfl _|(simp only[sL,ti28,ad,rdR,rdC,hk,X8 hkn,X7 hkn,Xa hkn,Xif,X0,Int.reduceBNe,X5,hl0];done)|rfl|skip)|(refine X3 (cp) ?_)|((refine Vg (fun hg=> ?_) (fun hg=> ?_))<;>try simp only[nb] at hg)|(refine hK _ ?_;clear hK K)|refine Vt rfl ?_|refine Vf rfl ?_|refine Vi rfl (fun hg=> ?_) (fun hg=> ?_)|clear hK K)
      exact Yd (Xu (.inr rfl) rfl rfl rfl (fun j _=>by rw[Jp,Jp];rfl) ok28 (k:=n+0) (off:=0) rfl (Xb _ (by simp)) (X6 _ (Nat.le_refl _) 0) rfl (by simp only[ad,ti28,sL]))
     |false=>
      refine Xc 1 Tryz.func166 rfl fun n out _ _=> ?_;simp only[sn,Tryz.ntmps166,simprocAttr];have hg:=Nat.le_refl 0;rename_i hneeds hgv;obtain⟨hk,_⟩:=hneeds;obtain⟨hkn,_⟩:=hgv;have hoN:[k].Nodup:=by simp
      have hoL:∀j,j∈[k]->j<n:=fun j hj=>by simp at hj;subst hj;exact hkn
      refine Vy fun K hK=> ?_;simp only[zA,simprocAttr];repeat' (first|(refine hK _ ?_;clear hK K)|with_reducible apply aa)
      refine Vk fun K hK=>Xik Xj [] [k] [[],[],[],[100],[],[],[],[100],[],[],[],[],[],[],[],[]] [[],[],[],[],[],[],[],[],[],[],[],[],[],[],[],[]] hoN hoL follows (by kernel_rfl) (by decide) (by decide) (by kernel_rfl) ?_;simp only[zA,simprocAttr,so,rdR,rdC,X8 hkn,X7 hkn,hk];repeat' (first|(refine hK _ ?_;clear hK K)|with_reducible apply aa)
      refine X3 cU ?_;simp only[zA,simprocAttr,so];repeat' (first|(refine hK _ ?_;clear hK K)|with_reducible apply aa)
      repeat' (first|refine Vk fun K hK=> ?_|apply V0|apply Vs|with_reducible apply aa|((first|apply gE|apply gR|apply gS);simp only[zA,simprocAttr,rdR,rdC,hk,X8 hkn,X7 hkn,Xa hkn,Xif,X0,X5,hl0])|exact Vn|(apply Vz;(first|refine Xu (.inr rfl) rfl rfl rfl (fun _ _=>rfl) ok28 (k:=n+0) (off:=0) rfl (Xb _ (by simp)) (X6 _ (Nat.le_refl _) 0) rfl ?_|refine Xu (.inr rfl) rfl rfl rfl (fun _ _=>rfl) ok28 (k:=m+0) (off:=0) rfl (Xb _ (by simp)) (X6 _ hm 0) rfl ?_)<;>first|rfl|exact AV.le.rfl _|(simp only[sL,ti28,ad,rdR,rdC,hk,X8 hkn,X7 hkn,Xa hkn,Xif,X0,Int.reduceBNe,X5,hl0];done)|rfl|skip)|(refine X3 (cp) ?_)|((refine Vg (fun hg=> ?_) (fun hg=> ?_))<;>try simp only[nb] at hg)|(refine hK _ ?_;clear hK K)|refine Vt rfl ?_|refine Vf rfl ?_|refine Vi rfl (fun hg=> ?_) (fun hg=> ?_)|clear hK K)
      exact Yd (Xu (.inr rfl) rfl rfl rfl (fun j _=>by rw[Jp,Jp];rfl) ok28 (k:=n+0) (off:=0) rfl (Xb _ (by simp)) (X6 _ (Nat.le_refl _) 0) rfl (by simp only[ad,ti28,sL]))
theorem Xz8 (r:Rt) (p g:Int) (hp:0<=p):Xr Tryz.prog 168 [rtA r,i64 p,i64 g] [] (lkA (Xpl r p g)) []:=by
 unfold Xpl;have e1:(if 255<p then 255 else p)=min p 255:=by split<;>omega
 obtain⟨q,hq⟩:∃q:Nat,min p 255=(q:Int):=br (by omega);have hq2:q<=255:=by omega
 rw[hq] at e1⊢;have e2:IntKind.u8.wrap (q:Int)=(q:Int):=by simp [IntKind.wrap,IntKind.signed,IntKind.bits];omega
 have e3:((UInt8.ofNat q).toNat:Int)=(q:Int):=by rw[dr];omega
 rw[Int.toNat_natCast];by_cases h3:q=3
 ·subst h3;refine Xc 2 Tryz.func168 rfl fun n out _ _=> ?_;simp only[sn,Tryz.ntmps168,simprocAttr];repeat' (first|apply V5|refine Vk fun K hK=> ?_|apply V0|apply Vb|apply Vc|apply Vr|apply Vs|with_reducible apply aa|((first|apply gE|apply gR);simp only[zA,simprocAttr,rtA,rtC,lkA,lkC,X0,e1])|exact Vn|(apply Vz;(first|refine Xu (.inr rfl) rfl rfl rfl (fun _ _=>rfl) ok95 (k:=n+1) (off:=0) rfl (Xb _ (by simp)) (X6 _ (Nat.le_refl _) 1) rfl ?_|refine Xu (.inr rfl) rfl rfl rfl (fun _ _=>rfl) ok95 (k:=m+1) (off:=0) rfl (Xb _ (by simp)) (X6 _ hm 1) rfl ?_)<;>first|rfl|exact AV.le.rfl _|(simp only[sL,ti95,ad,rtA,rtC,lkA,lkC,X0,e1,e2,e3];done)|(exact AV.le.rfl _)|(simp only[sL,rtA,rtC,lkA,lkC,X0,e1,e2,e3];done)|rfl|skip)|(apply Vx;simp only[sb,Nat.reduceEqDiff])|(refine hK _ ?_;clear hK K)|refine Vt rfl ?_|refine Vf rfl ?_|refine Vi rfl (fun hg=> ?_) (fun hg=> ?_)|clear hK K)
 ·have d3:((q:Int)==3)=false:=by simp;omega
  by_cases h4:q=4
  ·subst h4;refine Xc 2 Tryz.func168 rfl fun n out _ _=> ?_;simp only[sn,Tryz.ntmps168,simprocAttr];repeat' (first|apply V5|refine Vk fun K hK=> ?_|apply V0|apply Vb|apply Vc|apply Vr|apply Vs|with_reducible apply aa|((first|apply gE|apply gR);simp only[zA,simprocAttr,rtA,rtC,lkA,lkC,X0,e1])|exact Vn|(apply Vz;(first|refine Xu (.inr rfl) rfl rfl rfl (fun _ _=>rfl) ok95 (k:=n+1) (off:=0) rfl (Xb _ (by simp)) (X6 _ (Nat.le_refl _) 1) rfl ?_|refine Xu (.inr rfl) rfl rfl rfl (fun _ _=>rfl) ok95 (k:=m+1) (off:=0) rfl (Xb _ (by simp)) (X6 _ hm 1) rfl ?_)<;>first|rfl|exact AV.le.rfl _|(simp only[sL,ti95,ad,rtA,rtC,lkA,lkC,X0,e1,e2,e3];done)|(exact AV.le.rfl _)|(simp only[sL,rtA,rtC,lkA,lkC,X0,e1,e2,e3];done)|rfl|skip)|(apply Vx;simp only[sb,Nat.reduceEqDiff])|(refine hK _ ?_;clear hK K)|refine Vt rfl ?_|refine Vf rfl ?_|refine Vi rfl (fun hg=> ?_) (fun hg=> ?_)|clear hK K)
  ·have d4:((q:Int)==4)=false:=by simp;omega
   have e5:((q:Int)=3∨(q:Int)=4)=False:=dc (by omega);simp only[e5,if_false];have e6:lkA (r.id,UInt8.ofNat q,g,0)= .agg [i64 r.id,.val (.int .u8 (q:Int)),i64 g,i64 0]:=by
    show AV.agg [_,.val (.int .u8 ((UInt8.ofNat q).toNat:Int)),_,_]= _
    rw[e3]
   rw[e6];refine Xc 2 Tryz.func168 rfl fun n out _ _=> ?_;simp only[sn,Tryz.ntmps168,simprocAttr];repeat' (first|apply V5|refine Vk fun K hK=> ?_|apply V0|apply Vb|apply Vc|apply Vr|apply Vs|with_reducible apply aa|((first|apply gE|apply gR);simp only[zA,simprocAttr,rtA,rtC,X0,e1,e2,d3,d4])|exact Vn|(apply Vz;(first|refine Xu (.inr rfl) rfl rfl rfl (fun _ _=>rfl) ok95 (k:=n+1) (off:=0) rfl (Xb _ (by simp)) (X6 _ (Nat.le_refl _) 1) rfl ?_|refine Xu (.inr rfl) rfl rfl rfl (fun _ _=>rfl) ok95 (k:=m+1) (off:=0) rfl (Xb _ (by simp)) (X6 _ hm 1) rfl ?_)<;>first|rfl|exact AV.le.rfl _|(simp only[sL,ti95,ad,rtA,rtC,lkA,lkC,X0,e1,e2,e3,d3,d4];done)|(exact AV.le.rfl _)|(simp only[sL,rtA,rtC,lkA,lkC,X0,e1,e2,e3,d3,d4];done)|rfl|skip)|(apply Vx;simp only[sb,Nat.reduceEqDiff])|(refine hK _ ?_;clear hK K)|refine Vt rfl ?_|refine Vf rfl ?_|refine Vi rfl (fun hg=> ?_) (fun hg=> ?_)|clear hK K)
end Go.Proofs.YtgpdghbmiihfbaaGreat.Pln
namespace Go.Proofs.YtgpdghbmiihfbaaGreat.Pln
set_option linter.all false
set_option maxHeartbeats 1000000
open Go Go.VS
theorem Xrm (b:List UInt8) (x:Int×Int):∀(l:List (Int×Int)) (s:Nat×Bool),rdW (l++[x]) b s=((rdW l b s).1++[(x.1,0,(rdZ b (rdW l b s).2).1)],(rdZ b (rdW l b s).2).2)
 |[],s=>rfl
 |y::l,s=>by
  have ih:=Xrm b x l (rdZ b s).2
  show(((y.1,0,(rdZ b s).1)::(rdW (l++[x]) b (rdZ b s).2).1),(rdW (l++[x]) b (rdZ b s).2).2)= _
  rw[ih];rfl
theorem Xqk (b:List UInt8) (x:Rt):∀(l:List Rt) (s:Nat×Bool),Xs3 (l++[x]) b s=((Xs3 l b s).1++[Xpl x (rdZ b (Xs3 l b s).2).1 (rdZ b (rdZ b (Xs3 l b s).2).2).1],(rdZ b (rdZ b (Xs3 l b s).2).2).2)
 |[],s=>rfl
 |y::l,s=>by
  have ih:=Xqk b x l (rdZ b (rdZ b s).2).2
  show((Xpl y (rdZ b s).1 (rdZ b (rdZ b s).2).1::(Xs3 (l++[x]) b (rdZ b (rdZ b s).2).2).1),(Xs3 (l++[x]) b (rdZ b (rdZ b s).2).2).2)= _
  rw[ih];rfl
end Go.Proofs.YtgpdghbmiihfbaaGreat.Pln
namespace Go.Proofs.YtgpdghbmiihfbaaGreat.Pln
set_option linter.all false
set_option maxHeartbeats 8000000
set_option maxRecDepth 4000
open Go Go.VS Tab
attribute [local irreducible] AWp Xp0 Pg X5c Qy Lt Tp FdT Eb
theorem Xz9 (l m':List UInt8) (hl:l.length<=1000000000):Xr Tryz.prog 169 [.sl 1 (Xo l) .sh,.sl 1 (Xo m') .sh] [] (bool (l==m')) []:=by
 refine Xc 0 Tryz.func169 rfl fun n out _ _=> ?_;simp only[sn,Tryz.ntmps169,simprocAttr];repeat' (first|refine Vk fun K hK=> ?_|apply V0|apply Vb|apply Vc|apply Vr|apply Vs|with_reducible apply aa|refine Vq (by kernel_rfl) ?_|((first|apply gE|apply gR);simp only[zA,simprocAttr,X5])|exact Vn|(apply Vz;refine Vo rfl rfl rfl (fun _ _=>rfl) ?_<;>first|rfl|(rw[Mu (by intro h;simp [h] at hg)];rfl)|skip)|(apply Vx;simp only[sb,reduceIte,Nat.reduceEqDiff])|(refine hK _ ?_;clear hK K)|refine Vt rfl ?_|refine Vf rfl ?_|refine Vi rfl (fun hg=> ?_) (fun hg=> ?_)|clear hK K)
 have hlen:l.length=m'.length:=by
  have h1:((l.length:Int) !=(m'.length:Int))=false:=hg;simp at h1;omega
 apply V5;refine Xse (l.length) (fun i=>(∀j (hj:j<l.length) (hj':j<m'.length),j<i->l[j]=m'[j])) (fun i=>tp [4,5] (tr 14 12 [(13,i64 (i:Int))])) (fun i=>[]) (by intros;omega) ?_ fun i hi=> ?_
 ·refine La rfl ?_ ?_<;>simp only[sL]
 obtain⟨hi,hq⟩:=hi;simp only[pt];refine Vy fun K hK=> ?_;simp only[zA,simprocAttr];repeat' (first|(refine hK _ ?_;clear hK K)|with_reducible apply aa)
 refine Vk fun KC hKC=> ?_;refine Uz rfl (fun ht=>Xhj (hKC _ ?_)) (fun hf=>Qi (id ?_));rotate_left
 ·simp only[Qd,Z4,if_true];refine hK _ ?_;clear hK K hKC KC;have h_ib:i=l.length:=by have:=bh hf;omega
  subst h_ib;have e:=Ua (l:=l) (m:=m') hlen fun i hi hi'=>hq i hi hi' hi;rw[e];repeat' (first|refine Vk fun K hK=> ?_|apply V0|apply Vb|apply Vc|apply Vr|apply Vs|with_reducible apply aa|refine Vq (by kernel_rfl) ?_|((first|apply gE|apply gR);simp only[zA,simprocAttr])|exact Vn|(apply Vz;refine Vo rfl rfl rfl (fun _ _=>rfl) ?_<;>first|rfl|skip)|(apply Vx;simp only[sb,reduceIte,Nat.reduceEqDiff])|(refine hK _ ?_;clear hK K)|refine Vt rfl ?_|refine Vf rfl ?_|refine Vi rfl (fun hg=> ?_) (fun hg=> ?_)|clear hK K)
 clear hKC KC;have hlt:i<l.length:=by have:=au ht;omega
 refine Vk fun KC hKC=>Xe ?_;have hlt':i<m'.length:=by omega
 have g1:l.getD i 0=l[i]:=by simp [ah,hlt]
 have g2:m'.getD i 0=m'[i]:=by simp [ah,hlt']
 refine Vy fun K hK=> ?_;simp only[zA,simprocAttr];repeat' (first|(refine hK _ ?_;clear hK K)|with_reducible apply aa)
 refine Vy2 (by kernel_rfl) fun K hK=> ?_;simp only[zA,simprocAttr,hlt,hlt',X5,Xqt l i hlt,Xqt m' i hlt',g1,g2];repeat' (first|(refine hK _ ?_;clear hK K)|with_reducible apply aa)
 all_goals first|(decide;done)|kernel_rfl|skip
 refine Uz rfl (fun ht=> ?_) (fun hf=>Xhj ?_)
 ·have e:=Ut (l:=l) (m:=m') hlt hlt' (fun h0=>by rw[h0] at ht;simp at ht);refine Vy fun K hK=> ?_;simp only[zA,simprocAttr];repeat' (first|(refine hK _ ?_;clear hK K)|with_reducible apply aa)
  rw[<- e];apply Vz;exact Qv (.inr rfl) rfl rfl rfl (fun _ _=>rfl) rfl
 repeat refine aa (by omega) ?_
 refine hKC _ ?_;clear hKC KC;refine Xn Xj [] ?_;simp only[zA,simprocAttr,Yl (n:=i) 1 1 rfl (by omega)];refine⟨i+1,⟨by omega,?_⟩,by omega,?_⟩
 ·intro j hj hj' hji;by_cases h:j=i
  ·subst h;simp at hf;exact UInt8.toNat_inj.1 (by omega)
  ·exact hq j hj hj' (by omega)
 refine La rfl ?_ ?_<;>simp only[sL]
theorem Xob:Sm Aq:=⟨by decide,by decide,by decide,by decide,by decide,by decide⟩
theorem Xri (e:Bool) (b:List UInt8) (s:Nat×Bool):Sm (Xq7 e b s).1:=by
 unfold Xq7;split
 ·exact Xob
 ·cases unW b s.1 with
  |none=>exact Xob
  |some r=>
   dsimp only;split
   ·exact Xob
   ·split
    ·rename_i h;exact X20 (Kg h).1
    ·exact Xob
theorem Xss (b:List UInt8):∀(l:List (Int×Int)) (s:Nat×Bool),(rdW l b s).1.length=l.length
 |[],_=>rfl
 | _::l,s=>congrArg (· +1) (Xss b l (rdZ b s).2)
theorem Xrj (b:List UInt8):∀(l:List Rt) (s:Nat×Bool),(Xs3 l b s).1.length=l.length
 |[],_=>rfl
 | _::l,s=>congrArg (· +1) (Xrj b l (rdZ b (rdZ b s).2).2)
theorem Xxu (b:List UInt8):∀(l:List (Int×Int)) (s:Nat×Bool),s.1<=b.length->(rdW l b s).2.1<=b.length
 |[],_,h=>h
 | _::l,s,h=>Xxu b l (rdZ b s).2 (Xs6 h)
theorem Xvh (b:List UInt8):∀(l:List Rt) (s:Nat×Bool),s.1<=b.length->(Xs3 l b s).2.1<=b.length
 |[],_,h=>h
 | _::l,s,h=>Xvh b l (rdZ b (rdZ b s).2).2 (Xs6 (Xs6 h))
theorem Xxv (b:List UInt8):SmH (Xy7 b (0,false)).1:=by
 have sp:=Xri false b (0,false);have sq:=Xri true b (Xq7 false b (0,false)).2;refine⟨sp,sq,Xob,⟨?_,?_,?_⟩,ba _,ba _⟩
 ·show((Xq7 false b (0,false)).1.secs.map atT).length<=1000
  have:=sp.secs;rw[af];omega
 ·show(rdW (Xq7 false b (0,false)).1.pts b _).1.length<=1000
  have:=sp.pts;rw[Xss];omega
 ·show(Xs3 (Xq7 false b (0,false)).1.rts b _).1.length<=1000
  have:=sp.rts;rw[Xrj];omega
theorem Xyd (b:List UInt8):SmH (Xof b):=by
 unfold Xof;split
 ·exact Xxv b
 ·exact⟨Xob,Xob,Xob,⟨by decide,by decide,by decide⟩,by decide,by decide⟩
theorem Xye (b:List UInt8) (s:Nat×Bool):0<=(rdZ b s).1:=by
 obtain⟨a,o⟩:=s;cases o with
 |true=>exact Int.le_refl 0
 |false=>
  cases hg:Jt (b.drop a) with
  |none=>rw[Xti hg];exact Int.le_refl 0
  |some r=>rw[Xtj hg];exact ie _
theorem Y1g (a b c d e f g h i j k l m n o p q r s t u v w x y:AV):pick true 25 [a,b,c,d,e,f,g,h,i,j,k,l,m,n,o,p,q,r,s,t,u,v,w,x,y]=some (.agg [a,b,c,d,e,f,g,h,i,j,k,l,m,n,o,p,q,r,s,t,u,v,w,x,y]):=rfl
theorem Xrk:AV.le (.agg [.sl 0 [] .nil,i64 0,i64 0,.sl 0 [] .nil,.sl 0 [] .nil,.sl 0 [] .nil,.sl 0 [] .nil,i64 0,i64 0,.sl 0 [] .nil,.sl 0 [] .nil,.sl 0 [] .nil,.sl 0 [] .nil,i64 0,.sl 0 [] .nil,.sl 0 [] .nil,.sl 0 [] .nil,.sl 0 [] .nil,i64 0,i64 0,.sl 0 [] .nil,.sl 0 [] .nil,.sl 0 [] .nil,.sl 0 [] .nil,bool false]) (hsA Xtd):=by
 simp only[hsA,hsC,Xtd,Aq,Y2v,ad,Wb,sL]
theorem Xst (b:List UInt8) (hb:b.length<=1000000):Xr Tryz.prog 96 [.sl 1 (Xo b) .sh] [] (.tup [hsA (Xof b),i64 (if Xod b then 0 else 8)]) []:=by
 obtain⟨RA,hRA⟩:∃RA,RA=AV.tup [hsA (Xof b),i64 (if Xod b then 0 else 8)]:=⟨_,rfl⟩
 rw[<- hRA];obtain⟨P,hP⟩:∃P,P=Xq7 false b (0,false):=⟨_,rfl⟩
 obtain⟨Q,hQ⟩:∃Q,Q=Xq7 true b P.2:=⟨_,rfl⟩
 obtain⟨H,hH⟩:∃H,H=rdZ b Q.2:=⟨_,rfl⟩
 have p1:P.2.1<=b.length:=by rw[hP];exact Xvd (ba _)
 have q1:Q.2.1<=b.length:=by rw[hQ];exact Xvd p1
 have h1:H.2.1<=b.length:=by rw[hH];exact Xs6 q1
 have cP:=fun k=>Xvg k b hb false (0,false) (ba _);have cQ:=fun k=>Xvg k b hb true P.2 p1;have cH:=fun k=>Xqc k b hb Q.2 q1;have sp:=Xri false b (0,false);have sq:=Xri true b P.2;have eD:Xy7 b (0,false)=(⟨[],P.1,Q.1,H.1,⟨P.1.secs.map atT,(rdW P.1.pts b H.2).1,(Xs3 P.1.rts b (rdW P.1.pts b H.2).2).1⟩,[],Aq,false⟩,(Xs3 P.1.rts b (rdW P.1.pts b H.2).2).2):=by
  rw[hH,hQ,hP];rfl
 simp only[<- hP,<- hQ,<- hH] at cP cQ cH sp sq;clear hP hQ hH;obtain⟨p,tp⟩:=P;obtain⟨q,tq⟩:=Q;obtain⟨x,th⟩:=H;simp only[plA,plC,rdR,rdC] at cP cQ cH;dsimp only at h1 q1 p1 sp sq eD;have hsl:=sp.secs;have hpl:=sp.pts;have hrl:=sp.rts;refine Xc 7 Tryz.func96 rfl fun n out _ _=> ?_;simp only[sn,Tryz.ntmps96,simprocAttr];have hg:=Nat.le_refl 0;repeat' (first|refine Vk fun K hK=> ?_|apply V0|apply Vb|apply Vc|apply Vr|apply Vs|with_reducible apply aa|refine Vq (by kernel_rfl) ?_|((first|apply gE|apply gR|apply gS);simp only[zA,simprocAttr,Xjn (Nat.le_refl n)])|exact Vn|(apply Vz;(first|refine Xp (.inr rfl) rfl rfl rfl (fun _ _=>rfl) ok35 (k:=n+0) (off:=0) rfl (Xb _ (by simp)) (X6 _ (Nat.le_refl _) 0) rfl rfl ?_|refine Xp (.inr rfl) rfl rfl rfl (fun _ _=>rfl) ok35 (k:=m+0) (off:=0) rfl (Xb _ (by simp)) (X6 _ hm 0) rfl rfl ?_)<;>first|rfl|exact AV.le.rfl _|(simp only[sL,ti35,ad,Xjn (Nat.le_refl n)];done)|rfl|skip)|(refine Sb (cP (n+1)) (X6 _ (Nat.le_refl _) 1) (Xb _ (by simp)) (by simp) ?_)|(refine Sb (cQ (n+1)) (X6 _ (Nat.le_refl _) 1) (Xb _ (by simp)) (by simp) ?_)|(refine Sb (cH (n+1)) (X6 _ (Nat.le_refl _) 1) (Xb _ (by simp)) (by simp) ?_)|((refine Vg (fun hg=> ?_) (fun hg=> ?_))<;>try simp only[nb] at hg)|(apply Vx;simp only[sb,reduceIte,Nat.reduceEqDiff])|(refine hK _ ?_;clear hK K)|refine Vt rfl ?_|refine Vf rfl ?_|refine Vi rfl (fun hg=> ?_) (fun hg=> ?_)|clear hK K)
 refine Yy (Q9 (i:=3) 156 2 rfl) ?_;refine Yy (Q9 (i:=4) 131 3 rfl) ?_;refine Yy (Q9 (i:=5) 95 4 rfl) ?_;simp only[s_0,s_s];obtain⟨Z0,hZ0⟩:∃Z0:List AV,Z0=[.sl 0 [] .nil,i64 0,i64 0,.sl 0 [] .nil,.sl 0 [] .nil,.sl 0 [] .nil,.sl 0 [] .nil,i64 0,i64 0,.sl 0 [] .nil,.sl 0 [] .nil,.sl 0 [] .nil,.sl 0 [] .nil,i64 0,.sl 0 [] .nil,.sl 0 [] .nil,.sl 0 [] .nil,.sl 0 [] .nil,i64 0,i64 0,.sl 0 [] .nil,.sl 0 [] .nil,.sl 0 [] .nil,.sl 0 [] .nil,bool false]:=⟨_,rfl⟩
 refine Xr9 [some (.box 35 Z0),some (.box 228 [.sl 1 (Xo b) .sh,i64 (th.1:Int),bool th.2]),some (.box 35 [.sl 0 [] .nil,i64 p.ver,i64 p.par,.sl 3 (p.secs.map secC) .sh,.sl 2 (p.pts.map jnC) .sh,.sl 3 (p.sgs.map sgC) .sh,.sl 7 (p.rts.map rtC) .sh,i64 q.ver,i64 q.par,.sl 3 (q.secs.map secC) .sh,.sl 2 (q.pts.map jnC) .sh,.sl 3 (q.sgs.map sgC) .sh,.sl 7 (q.rts.map rtC) .sh,i64 x,.sl 0 [] .nil,.sl 0 [] .nil,.sl 0 [] .nil,.sl 0 [] .nil,i64 0,i64 0,.sl 0 [] .nil,.sl 0 [] .nil,.sl 0 [] .nil,.sl 0 [] .nil,bool false]),some (.row 156 2 0),some (.row 131 3 0),some (.row 95 4 0),none] (by rw[hZ0]) ?_;apply V5;refine Xrd (p.secs.length) (fun m i=>tr 29 14 [(28,i64 (i:Int)),(2,.ptr (m+0) 0),(4,.ptr (m+1) 0),(5,.ptr (m+2) 0),(7,.top)]) (fun m i=>[some (.box 35 Z0),some (.box 228 [.sl 1 (Xo b) .sh,i64 (th.1:Int),bool th.2]),some (.box 35 [.sl 0 [] .nil,i64 p.ver,i64 p.par,.sl 3 (p.secs.map secC) .sh,.sl 2 (p.pts.map jnC) .sh,.sl 3 (p.sgs.map sgC) .sh,.sl 7 (p.rts.map rtC) .sh,i64 q.ver,i64 q.par,.sl 3 (q.secs.map secC) .sh,.sl 2 (q.pts.map jnC) .sh,.sl 3 (q.sgs.map sgC) .sh,.sl 7 (q.rts.map rtC) .sh,i64 x,(.sl 2 ((p.secs.take i).map fun x=>tkC (atT x)) (.own (m+3))),.sl 0 [] .nil,.sl 0 [] .nil,.sl 0 [] .nil,i64 0,i64 0,.sl 0 [] .nil,.sl 0 [] .nil,.sl 0 [] .nil,.sl 0 [] .nil,bool false]),some (.row 156 2 i),some (.row 131 3 0),some (.row 95 4 0),none]) ?_ fun m i hm hi=> ?_
 ·refine X2 ?_ ?_ (by first|rfl|(simp only[List.take_zero,ad];rfl)|simp only[List.take_zero,ad]) rfl rfl rfl<;>simp only[sL,ad]
 simp only[pt];have hw:=Yl (n:=i) 1 1 rfl (by omega);by_cases hlt:i<p.secs.length
 ·have gi:=Xg secC p.secs i [] hlt;have hsw:=Xoi (fun x=>tkC (atT x)) hlt;have lit:∀(σ:AState) (K:AV->List (Nat×Res)->Prop),X1 tab σ K none 29 1 [(0,.agg [i64 p.secs[i].id,.val (.int .u8 2)])]=K (.sl 2 [tkC (atT p.secs[i])] .full) []:=fun σ K=>Yk (T:=tab) (ti:=ti29) (te:=ti156) rfl rfl rfl (by decide) (by decide) rfl rfl;have z1:(i+1)*16<=140737488355328:=by omega
  have z3:i<=9223372036854775806:=by omega
  repeat' (first|refine Vk fun K hK=> ?_|apply V0|apply Vb|apply Vc|apply Vr|apply Vs|with_reducible apply aa|refine Vq (by kernel_rfl) ?_|((first|apply gE|apply gR|apply gS);simp only[zB,simprocAttr,lit,Xi hm,secC,aj,Nat.min_eq_left hi,hlt,gi,X0,hw,z1,z3])|exact Vn|(apply Vz;(first|refine Xp (.inr rfl) rfl rfl rfl (fun _ _=>rfl) ok35 (k:=n+0) (off:=0) rfl (Xb _ (by simp)) (X6 _ (Nat.le_refl _) 0) rfl rfl ?_|refine Xp (.inr rfl) rfl rfl rfl (fun _ _=>rfl) ok35 (k:=m+0) (off:=0) rfl (Xb _ (by simp)) (X6 _ hm 0) rfl rfl ?_)<;>first|rfl|exact AV.le.rfl _|(simp only[sL,ti35,ad,lit,Xi hm,secC,af,aj,Nat.min_eq_left hi,hlt,gi,X0,hw,z1,z3];done)|rfl|skip)|((refine Vg (fun hg=> ?_) (fun hg=> ?_))<;>try simp only[nb] at hg)|(apply Vx;simp only[sb,reduceIte,Nat.reduceEqDiff])|(refine hK _ ?_;clear hK K)|refine Vt rfl ?_|refine Vf rfl ?_|refine Vi rfl (fun hg=> ?_) (fun hg=> ?_)|clear hK K)
  rw[hsw];refine⟨i+1,by omega,by omega,?_⟩;refine Xx [true,true,true,true,true,true,false] ?_ ?_<;>intro n_<;>simp only[sM]
 obtain rfl:i=p.secs.length:=by omega
 rw[bm];clear hw hi hlt;repeat' (first|refine Vk fun K hK=> ?_|apply V0|apply Vb|apply Vc|apply Vr|apply Vs|with_reducible apply aa|refine Vq (by kernel_rfl) ?_|((first|apply gE|apply gR|apply gS);simp only[zA,simprocAttr,Xi hm,Nat.lt_irrefl])|exact Vn|(apply Vz;(first|refine Xp (.inr rfl) rfl rfl rfl (fun _ _=>rfl) ok35 (k:=n+0) (off:=0) rfl (Xb _ (by simp)) (X6 _ (Nat.le_refl _) 0) rfl rfl ?_|refine Xp (.inr rfl) rfl rfl rfl (fun _ _=>rfl) ok35 (k:=m+0) (off:=0) rfl (Xb _ (by simp)) (X6 _ hm 0) rfl rfl ?_)<;>first|rfl|exact AV.le.rfl _|(simp only[sL,ti35,ad,Xi hm,af,dx,Nat.lt_irrefl];done)|rfl|skip)|((refine Vg (fun hg=> ?_) (fun hg=> ?_))<;>try simp only[nb] at hg)|(apply Vx;simp only[sb])|(refine hK _ ?_;clear hK K)|refine Vt rfl ?_|refine Vf rfl ?_|refine Vi rfl (fun hg=> ?_) (fun hg=> ?_)|clear hK K)
 obtain⟨W,hW⟩:∃W:Nat->List (Int×Int×Int)×(Nat×Bool),W=fun i=>rdW (p.pts.take i) b th:=⟨_,rfl⟩
 have W0:W 0=([],th):=by rw[hW];rfl
 have Wl:∀i,i<=p.pts.length->(W i).1.length=i:=fun i hi=>by rw[hW];dsimp only;rw[Xss,List.length_take];omega
 have Wi:∀i,(W i).2.1<=b.length:=fun i=>by rw[hW];exact Xxu b _ th h1
 have Ws:∀i (hi:i<p.pts.length),∃c:Int,(∀k,Xr Tryz.prog 167 [.ptr k 0] [(k,some (rdR b (W i).2))] (i64 c) [(k,rdR b (W (i+1)).2)])∧(W i).1.map sgC++[[i64 p.pts[i].1,i64 0,i64 c]]=(W (i+1)).1.map sgC:=fun i hi=>by
  have e:W (i+1)=((W i).1++[(p.pts[i].1,0,(rdZ b (W i).2).1)],(rdZ b (W i).2).2):=by rw[hW];dsimp only;rw[List.take_succ_eq_append_getElem hi,Xrm]
  refine⟨(rdZ b (W i).2).1,fun k=> ?_,?_⟩
  ·rw[e];exact Xqc k b hb (W i).2 (Wi i)
  ·rw[e,cu];rfl
 have Wn:rdW p.pts b th=W p.pts.length:=by rw[hW];dsimp only;rw[List.take_length]
 rw[Wn] at eD;have WN:=Wi p.pts.length;clear hW Wn;apply V5;refine Xrd (p.pts.length) (fun m i=>tr 48 16 [(47,i64 (i:Int)),(2,.ptr (m+0) 0),(4,.ptr (m+1) 0),(5,.ptr (m+2) 0),(7,.top),(9,.top)]) (fun m i=>[some (.box 35 Z0),some (.box 228 [.sl 1 (Xo b) .sh,i64 ((W i).2.1:Int),bool (W i).2.2]),some (.box 35 [.sl 0 [] .nil,i64 p.ver,i64 p.par,.sl 3 (p.secs.map secC) .sh,.sl 2 (p.pts.map jnC) .sh,.sl 3 (p.sgs.map sgC) .sh,.sl 7 (p.rts.map rtC) .sh,i64 q.ver,i64 q.par,.sl 3 (q.secs.map secC) .sh,.sl 2 (q.pts.map jnC) .sh,.sl 3 (q.sgs.map sgC) .sh,.sl 7 (q.rts.map rtC) .sh,i64 x,(.sl 2 (p.secs.map fun x=>tkC (atT x)) (.own (m+3))),(.sl 3 ((W i).1.map sgC) (.own (m+4))),.sl 0 [] .nil,.sl 0 [] .nil,i64 0,i64 0,.sl 0 [] .nil,.sl 0 [] .nil,.sl 0 [] .nil,.sl 0 [] .nil,bool false]),some (.row 156 2 p.secs.length),some (.row 131 3 i),some (.row 95 4 0),none]) ?_ fun m i hm hi=> ?_
 ·refine X2 ?_ ?_ (by first|rfl|(simp only[W0,ad];rfl)|simp only[W0,ad]) rfl rfl rfl<;>simp only[sL,W0,ad]
 simp only[pt];have hw:=Yl (n:=i) 1 1 rfl (by omega);by_cases hlt:i<p.pts.length
 ·have gi:=Xg jnC p.pts i [] hlt;obtain⟨c,cW,hsw⟩:=Ws i hlt;have wl:=Wl i hi;simp only[rdR,rdC] at cW;have lit:∀(σ:AState) (K:AV->List (Nat×Res)->Prop),X1 tab σ K none 30 1 [(0,.agg [i64 p.pts[i].1,.val (.int .i64 0),i64 c])]=K (.sl 3 [[i64 p.pts[i].1,i64 0,i64 c]] .full) []:=fun σ K=>Yk (T:=tab) (ti:=ti30) (te:=ti131) rfl rfl rfl (by decide) (by decide) rfl rfl;have z1:(i+1)*24<=140737488355328:=by omega
  have z3:i<=9223372036854775806:=by omega
  repeat' (first|refine Vk fun K hK=> ?_|apply V0|apply Vb|apply Vc|apply Vr|apply Vs|with_reducible apply aa|refine Vd 11 [] [[],[],[2],[],[6],[],[1],[],[],[4],[],[],[2]] [[],[],[],[],[],[],[1],[],[],[4],[],[],[2]] (by kernel_rfl) (by decide) (by decide) (by kernel_rfl) ?_|refine Vq (by kernel_rfl) ?_|((first|apply gE|apply gR|apply gD|apply gF|apply gS);simp only[zB,simprocAttr,lit,Xi hm,jnC,wl,hlt,gi,X0,hw,z1,z3])|exact Vn|(apply Vz;(first|refine Xp (.inr rfl) rfl rfl rfl (fun _ _=>rfl) ok35 (k:=n+0) (off:=0) rfl (Xb _ (by simp)) (X6 _ (Nat.le_refl _) 0) rfl rfl ?_|refine Xp (.inr rfl) rfl rfl rfl (fun _ _=>rfl) ok35 (k:=m+0) (off:=0) rfl (Xb _ (by simp)) (X6 _ hm 0) rfl rfl ?_)<;>first|rfl|exact AV.le.rfl _|(simp only[sL,ti35,ad,lit,Xi hm,jnC,af,wl,hlt,gi,X0,hw,z1,z3];done)|rfl|skip)|(refine Sb (cW (m+1)) (X6 _ hm 1) (Xb _ (by simp)) (by simp) ?_)|((refine Vg (fun hg=> ?_) (fun hg=> ?_))<;>try simp only[nb] at hg)|(apply Vx;simp only[sb,reduceIte,Nat.reduceEqDiff])|(refine hK _ ?_;clear hK K)|refine Vt rfl ?_|refine Vf rfl ?_|refine Vi rfl (fun hg=> ?_) (fun hg=> ?_)|clear hK K)
  rw[hsw];refine⟨i+1,by omega,by omega,?_⟩;refine Xx [true,true,true,true,true,true,false] ?_ ?_<;>intro n_<;>simp only[sM]
 obtain rfl:i=p.pts.length:=by omega
 clear hw hi hlt;repeat' (first|refine Vk fun K hK=> ?_|apply V0|apply Vb|apply Vc|apply Vr|apply Vs|with_reducible apply aa|refine Vq (by kernel_rfl) ?_|((first|apply gE|apply gR|apply gS);simp only[zA,simprocAttr,Xi hm,Nat.lt_irrefl])|exact Vn|(apply Vz;(first|refine Xp (.inr rfl) rfl rfl rfl (fun _ _=>rfl) ok35 (k:=n+0) (off:=0) rfl (Xb _ (by simp)) (X6 _ (Nat.le_refl _) 0) rfl rfl ?_|refine Xp (.inr rfl) rfl rfl rfl (fun _ _=>rfl) ok35 (k:=m+0) (off:=0) rfl (Xb _ (by simp)) (X6 _ hm 0) rfl rfl ?_)<;>first|rfl|exact AV.le.rfl _|(simp only[sL,ti35,ad,Xi hm,af,dx,Nat.lt_irrefl];done)|rfl|skip)|((refine Vg (fun hg=> ?_) (fun hg=> ?_))<;>try simp only[nb] at hg)|(apply Vx;simp only[sb])|(refine hK _ ?_;clear hK K)|refine Vt rfl ?_|refine Vf rfl ?_|refine Vi rfl (fun hg=> ?_) (fun hg=> ?_)|clear hK K)
 obtain⟨L,hL⟩:∃L:Nat->List (Int×UInt8×Int×Int)×(Nat×Bool),L=fun i=>Xs3 (p.rts.take i) b (W p.pts.length).2:=⟨_,rfl⟩
 have L0:L 0=([],(W p.pts.length).2):=by rw[hL];rfl
 have Ll:∀i,i<=p.rts.length->(L i).1.length=i:=fun i hi=>by rw[hL];dsimp only;rw[Xrj,List.length_take];omega
 have Li:∀i,(L i).2.1<=b.length:=fun i=>by rw[hL];exact Xvh b _ _ WN
 have Ls:∀i (hi:i<p.rts.length),∃(c d:Int) (s:Nat×Bool) (J:Int×UInt8×Int×Int),(∀k,Xr Tryz.prog 167 [.ptr k 0] [(k,some (rdR b (L i).2))] (i64 c) [(k,rdR b s)])∧(∀k,Xr Tryz.prog 167 [.ptr k 0] [(k,some (rdR b s))] (i64 d) [(k,rdR b (L (i+1)).2)])∧Xr Tryz.prog 168 [rtA p.rts[i],i64 c,i64 d] [] (lkA J) []∧(L i).1.map lkC++[[i64 J.1,b8 J.2.1,i64 J.2.2.1,i64 J.2.2.2]]=(L (i+1)).1.map lkC:=fun i hi=>by
  have e:L (i+1)=((L i).1++[Xpl p.rts[i] (rdZ b (L i).2).1 (rdZ b (rdZ b (L i).2).2).1],(rdZ b (rdZ b (L i).2).2).2):=by rw[hL];dsimp only;rw[List.take_succ_eq_append_getElem hi,Xqk]
  refine⟨_,_,_,_,fun k=>Xqc k b hb (L i).2 (Li i),fun k=> ?_,Xz8 p.rts[i] (rdZ b (L i).2).1 (rdZ b (rdZ b (L i).2).2).1 (Xye _ _),?_⟩
  ·rw[e];exact Xqc k b hb (rdZ b (L i).2).2 (Xs6 (Li i))
  ·rw[e,cu];rfl
 have Ln:Xs3 p.rts b (W p.pts.length).2=L p.rts.length:=by rw[hL];dsimp only;rw[List.take_length]
 rw[Ln] at eD;clear hL Ln Ws;apply V5;refine Xrd (p.rts.length) (fun m i=>tr 69 17 [(68,i64 (i:Int)),(2,.ptr (m+0) 0),(4,.ptr (m+1) 0),(5,.ptr (m+2) 0),(7,.top),(9,.top),(11,.top)]) (fun m i=>[some (.box 35 Z0),some (.box 228 [.sl 1 (Xo b) .sh,i64 ((L i).2.1:Int),bool (L i).2.2]),some (.box 35 [.sl 0 [] .nil,i64 p.ver,i64 p.par,.sl 3 (p.secs.map secC) .sh,.sl 2 (p.pts.map jnC) .sh,.sl 3 (p.sgs.map sgC) .sh,.sl 7 (p.rts.map rtC) .sh,i64 q.ver,i64 q.par,.sl 3 (q.secs.map secC) .sh,.sl 2 (q.pts.map jnC) .sh,.sl 3 (q.sgs.map sgC) .sh,.sl 7 (q.rts.map rtC) .sh,i64 x,(.sl 2 (p.secs.map fun x=>tkC (atT x)) (.own (m+3))),(.sl 3 ((W p.pts.length).1.map sgC) (.own (m+4))),(.sl 4 ((L i).1.map lkC) (.own (m+5))),.sl 0 [] .nil,i64 0,i64 0,.sl 0 [] .nil,.sl 0 [] .nil,.sl 0 [] .nil,.sl 0 [] .nil,bool false]),some (.row 156 2 p.secs.length),some (.row 131 3 p.pts.length),some (.row 95 4 i),none]) ?_ fun m i hm hi=> ?_
 ·refine X2 ?_ ?_ (by first|rfl|(simp only[L0,ad];rfl)|simp only[L0,ad]) rfl rfl rfl<;>simp only[sL,L0,ad]
 simp only[pt];have hw:=Yl (n:=i) 1 1 rfl (by omega);by_cases hlt:i<p.rts.length
 ·have gi:=Xg rtC p.rts i [] hlt;obtain⟨c,d,s,J,cA,cB,cL,hsl⟩:=Ls i hlt;have ll:=Ll i hi;simp only[rdR,rdC] at cA cB;simp only[rtA,rtC,lkA,lkC] at cL;have lit:∀(σ:AState) (K:AV->List (Nat×Res)->Prop),X1 tab σ K none 31 1 [(0,.agg [i64 J.1,b8 J.2.1,i64 J.2.2.1,i64 J.2.2.2])]=K (.sl 4 [[i64 J.1,b8 J.2.1,i64 J.2.2.1,i64 J.2.2.2]] .full) []:=fun σ K=>Yk (T:=tab) (ti:=ti31) (te:=ti95) rfl rfl rfl (by decide) (by decide) rfl rfl;have z1:(i+1)*32<=140737488355328:=by omega
  have z3:i<=9223372036854775806:=by omega
  repeat' (first|refine Vk fun K hK=> ?_|apply V0|apply Vb|apply Vc|apply Vr|apply Vs|with_reducible apply aa|refine Vd 16 [] [[],[],[2],[6],[],[1],[],[1],[],[],[5],[],[],[2]] [[],[],[],[],[],[1],[],[1],[],[],[5],[],[],[2]] (by kernel_rfl) (by decide) (by decide) (by kernel_rfl) ?_|refine Vq (by kernel_rfl) ?_|((first|apply gE|apply gR|apply gD|apply gF|apply gS);simp only[zB,simprocAttr,lit,Xi hm,rtC,ll,hlt,gi,X0,hw,z1,z3])|exact Vn|(apply Vz;(first|refine Xp (.inr rfl) rfl rfl rfl (fun _ _=>rfl) ok35 (k:=n+0) (off:=0) rfl (Xb _ (by simp)) (X6 _ (Nat.le_refl _) 0) rfl rfl ?_|refine Xp (.inr rfl) rfl rfl rfl (fun _ _=>rfl) ok35 (k:=m+0) (off:=0) rfl (Xb _ (by simp)) (X6 _ hm 0) rfl rfl ?_)<;>first|rfl|exact AV.le.rfl _|(simp only[sL,ti35,ad,lit,Xi hm,rtC,af,ll,hlt,gi,X0,hw,z1,z3];done)|rfl|skip)|(refine Sb (cA (m+1)) (X6 _ hm 1) (Xb _ (by simp)) (by simp) ?_)|(refine Sb (cB (m+1)) (X6 _ hm 1) (Xb _ (by simp)) (by simp) ?_)|(refine X3 (cL) ?_)|((refine Vg (fun hg=> ?_) (fun hg=> ?_))<;>try simp only[nb] at hg)|(apply Vx;simp only[sb,reduceIte,Nat.reduceEqDiff])|(refine hK _ ?_;clear hK K)|refine Vt rfl ?_|refine Vf rfl ?_|refine Vi rfl (fun hg=> ?_) (fun hg=> ?_)|clear hK K)
  rw[hsl];refine⟨i+1,by omega,by omega,?_⟩;refine Xx [true,true,true,true,true,true,false] ?_ ?_<;>intro n_<;>simp only[sM]
 obtain rfl:i=p.rts.length:=by omega
 clear hw hi hlt;obtain⟨X,hX⟩:∃X:Hs,X=⟨[],p,q,x,⟨p.secs.map atT,(W p.pts.length).1,(L p.rts.length).1⟩,[],Aq,false⟩:=⟨_,rfl⟩
 have sX:=Xxv b;rw[eD,<- hX] at sX;have rO:Xod b=(!(L p.rts.length).2.2&&(Xo9 X&&Xp7 X==b)):=by unfold Xod;rw[eD,hX]
 have rH:Xof b=if Xod b then X else Xtd:=by unfold Xof;rw[eD,hX]
 have eX:hsA X= .agg [.sl 1 [] .sh,i64 p.ver,i64 p.par,.sl 3 (p.secs.map secC) .sh,.sl 2 (p.pts.map jnC) .sh,.sl 3 (p.sgs.map sgC) .sh,.sl 7 (p.rts.map rtC) .sh,i64 q.ver,i64 q.par,.sl 3 (q.secs.map secC) .sh,.sl 2 (q.pts.map jnC) .sh,.sl 3 (q.sgs.map sgC) .sh,.sl 7 (q.rts.map rtC) .sh,i64 x,.sl 2 (p.secs.map fun x=>tkC (atT x)) .sh,.sl 3 ((W p.pts.length).1.map sgC) .sh,.sl 4 ((L p.rts.length).1.map lkC) .sh,.sl 1 [] .sh,i64 0,i64 0,.sl 3 [] .sh,.sl 2 [] .sh,.sl 3 [] .sh,.sl 7 [] .sh,bool false]:=by
  rw[hX];simp only[hsA,hsC,Wb,fu,Aq,ad];rfl
 have lx:AV.le (.agg [.sl 0 [] .nil,i64 p.ver,i64 p.par,.sl 3 (p.secs.map secC) .sh,.sl 2 (p.pts.map jnC) .sh,.sl 3 (p.sgs.map sgC) .sh,.sl 7 (p.rts.map rtC) .sh,i64 q.ver,i64 q.par,.sl 3 (q.secs.map secC) .sh,.sl 2 (q.pts.map jnC) .sh,.sl 3 (q.sgs.map sgC) .sh,.sl 7 (q.rts.map rtC) .sh,i64 x,(.sl 2 (p.secs.map fun x=>tkC (atT x)) (.own (m+3))),(.sl 3 ((W p.pts.length).1.map sgC) (.own (m+4))),(.sl 4 ((L p.rts.length).1.map lkC) (.own (m+5))),.sl 0 [] .nil,i64 0,i64 0,.sl 0 [] .nil,.sl 0 [] .nil,.sl 0 [] .nil,.sl 0 [] .nil,bool false]) (hsA X):=by rw[eX];simp only[sL]
 have cW:=Xdb (args':=[.agg [.sl 0 [] .nil,i64 p.ver,i64 p.par,.sl 3 (p.secs.map secC) .sh,.sl 2 (p.pts.map jnC) .sh,.sl 3 (p.sgs.map sgC) .sh,.sl 7 (p.rts.map rtC) .sh,i64 q.ver,i64 q.par,.sl 3 (q.secs.map secC) .sh,.sl 2 (q.pts.map jnC) .sh,.sl 3 (q.sgs.map sgC) .sh,.sl 7 (q.rts.map rtC) .sh,i64 x,(.sl 2 (p.secs.map fun x=>tkC (atT x)) (.own (m+3))),(.sl 3 ((W p.pts.length).1.map sgC) (.own (m+4))),(.sl 4 ((L p.rts.length).1.map lkC) (.own (m+5))),.sl 0 [] .nil,i64 0,i64 0,.sl 0 [] .nil,.sl 0 [] .nil,.sl 0 [] .nil,.sl 0 [] .nil,bool false]]) (Xp9 X sX) ⟨lx,trivial⟩;have wl:(Xlr X).length<=1000000000:=by
  unfold Xlr;split
  ·rename_i h;have:=Xsq h;omega
  ·simp
 have cE:=Xz9 (Xlr X) b wl;rw[rH] at hRA;clear eD sX rH wl;cases ho:(L p.rts.length).2.2 with
 |true=>
  have e:Xod b=false:=by rw[rO,ho];rfl
  rw[e,if_neg f0,if_neg f0] at hRA;generalize Xlr X=B at*;generalize Xoc X=D at*;repeat' (first|refine Vk fun K hK=> ?_|apply V0|apply Vb|apply Vc|apply Vr|apply Vs|with_reducible apply aa|refine Vq (by kernel_rfl) ?_|((first|apply gE|apply gR|apply gS);simp only[zA,simprocAttr,Xi hm,Nat.lt_irrefl,X0,hZ0])|exact Vn|(apply Vz;(first|refine Xp (.inr rfl) rfl rfl rfl (fun _ _=>rfl) ok35 (k:=n+0) (off:=0) rfl (Xb _ (by simp)) (X6 _ (Nat.le_refl _) 0) rfl rfl ?_|refine Xp (.inr rfl) rfl rfl rfl (fun _ _=>rfl) ok35 (k:=m+0) (off:=0) rfl (Xb _ (by simp)) (X6 _ hm 0) rfl rfl ?_)<;>first|rfl|exact AV.le.rfl _|(simp only[sL];done)|rfl|skip)|(refine X3 (cW) ?_)|(refine X3 (cE) ?_)|((refine Vg (fun hg=> ?_) (fun hg=> ?_))<;>try simp only[nb] at hg)|(apply Vx;simp only[sb])|(refine hK _ ?_;clear hK K)|refine Vt rfl ?_|refine Vf rfl ?_|refine Vi rfl (fun hg=> ?_) (fun hg=> ?_)|clear hK K)
  rw[hRA];exact(Fg _ _).2 ⟨Xrk,.rfl _,trivial⟩
 |false=>
  cases hcb:Xo9 X with
  |false=>
   have e:Xod b=false:=by rw[rO,ho,hcb];rfl
   have e1:Xoc X=8:=by unfold Xoc;rw[hcb];rfl
   rw[e,if_neg f0,if_neg f0] at hRA;rw[e1] at cW;generalize Xlr X=B at*;repeat' (first|refine Vk fun K hK=> ?_|apply V0|apply Vb|apply Vc|apply Vr|apply Vs|with_reducible apply aa|refine Vq (by kernel_rfl) ?_|((first|apply gE|apply gR|apply gS);simp only[zA,simprocAttr,Xi hm,Nat.lt_irrefl,X0,hZ0])|exact Vn|(apply Vz;(first|refine Xp (.inr rfl) rfl rfl rfl (fun _ _=>rfl) ok35 (k:=n+0) (off:=0) rfl (Xb _ (by simp)) (X6 _ (Nat.le_refl _) 0) rfl rfl ?_|refine Xp (.inr rfl) rfl rfl rfl (fun _ _=>rfl) ok35 (k:=m+0) (off:=0) rfl (Xb _ (by simp)) (X6 _ hm 0) rfl rfl ?_)<;>first|rfl|exact AV.le.rfl _|(simp only[sL];done)|rfl|skip)|(refine X3 (cW) ?_)|(refine X3 (cE) ?_)|((refine Vg (fun hg=> ?_) (fun hg=> ?_))<;>try simp only[nb] at hg)|(apply Vx;simp only[sb])|(refine hK _ ?_;clear hK K)|refine Vt rfl ?_|refine Vf rfl ?_|refine Vi rfl (fun hg=> ?_) (fun hg=> ?_)|clear hK K)
   rw[hRA];exact(Fg _ _).2 ⟨Xrk,.rfl _,trivial⟩
  |true=>
   have e1:Xoc X=0:=by unfold Xoc;rw[hcb];rfl
   have e2:Xlr X=Xp7 X:=by unfold Xlr;rw[hcb];rfl
   rw[e1,e2] at cW;rw[e2] at cE;cases hE:(Xp7 X==b) with
   |false=>
    have e:Xod b=false:=by rw[rO,ho,hcb,hE];rfl
    rw[e,if_neg f0,if_neg f0] at hRA;rw[hE] at cE;generalize Xp7 X=B at*;repeat' (first|refine Vk fun K hK=> ?_|apply V0|apply Vb|apply Vc|apply Vr|apply Vs|with_reducible apply aa|refine Vq (by kernel_rfl) ?_|((first|apply gE|apply gR|apply gS);simp only[zA,simprocAttr,Xi hm,Nat.lt_irrefl,X0,hZ0])|exact Vn|(apply Vz;(first|refine Xp (.inr rfl) rfl rfl rfl (fun _ _=>rfl) ok35 (k:=n+0) (off:=0) rfl (Xb _ (by simp)) (X6 _ (Nat.le_refl _) 0) rfl rfl ?_|refine Xp (.inr rfl) rfl rfl rfl (fun _ _=>rfl) ok35 (k:=m+0) (off:=0) rfl (Xb _ (by simp)) (X6 _ hm 0) rfl rfl ?_)<;>first|rfl|exact AV.le.rfl _|(simp only[sL];done)|rfl|skip)|(refine X3 (cW) ?_)|(refine X3 (cE) ?_)|((refine Vg (fun hg=> ?_) (fun hg=> ?_))<;>try simp only[nb] at hg)|(apply Vx;simp only[sb])|(refine hK _ ?_;clear hK K)|refine Vt rfl ?_|refine Vf rfl ?_|refine Vi rfl (fun hg=> ?_) (fun hg=> ?_)|clear hK K)
    rw[hRA];exact(Fg _ _).2 ⟨Xrk,.rfl _,trivial⟩
   |true=>
    have e:Xod b=true:=by rw[rO,ho,hcb,hE];rfl
    rw[e,if_pos rfl,if_pos rfl] at hRA;rw[hE] at cE;generalize Xp7 X=B at*;repeat' (first|refine Vk fun K hK=> ?_|apply V0|apply Vb|apply Vc|apply Vr|apply Vs|with_reducible apply aa|refine Vq (by kernel_rfl) ?_|((first|apply gE|apply gR|apply gS);simp only[zA,simprocAttr,Xi hm,Nat.lt_irrefl,X0,hZ0,Y1g])|exact Vn|(apply Vz;(first|refine Xp (.inr rfl) rfl rfl rfl (fun _ _=>rfl) ok35 (k:=n+0) (off:=0) rfl (Xb _ (by simp)) (X6 _ (Nat.le_refl _) 0) rfl rfl ?_|refine Xp (.inr rfl) rfl rfl rfl (fun _ _=>rfl) ok35 (k:=m+0) (off:=0) rfl (Xb _ (by simp)) (X6 _ hm 0) rfl rfl ?_)<;>first|rfl|exact AV.le.rfl _|(simp only[sL];done)|rfl|skip)|(refine X3 (cW) ?_)|(refine X3 (cE) ?_)|((refine Vg (fun hg=> ?_) (fun hg=> ?_))<;>try simp only[nb] at hg)|(apply Vx;simp only[sb])|(refine hK _ ?_;clear hK K)|refine Vt rfl ?_|refine Vf rfl ?_|refine Vi rfl (fun hg=> ?_) (fun hg=> ?_)|clear hK K)
    rw[hRA];exact(Fg _ _).2 ⟨lx,.rfl _,trivial⟩
end Go.Proofs.YtgpdghbmiihfbaaGreat.Pln
