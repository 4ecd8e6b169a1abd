/- The layer of abstract values, joined. -/
import Derived.Test.YtdngdjbgmojcoaaGreatZPR
import Derived.Test.YtdngdjbgmojcoaaGreatZKC
import Derived.Test.YtdngdjbgmojcoaaGreatZQD
import Derived.Test.YtdngdjbgmojcoaaGreatZVsDraw
import Derived.Test.YtdngdjbgmojcoaaGreatZQ3
import Derived.Test.YtdngdjbgmojcoaaGreatZKF
import Derived.Test.YtdngdjbgmojcoaaGreatZS2
namespace Go.Proofs.YtdngdjbgmojcoaaGreat.Pln
set_option linter.all false
set_option maxHeartbeats 8000000
set_option maxRecDepth 4000
open Go Go.VS Tab
attribute [local irreducible] AWp Xp0 Pg X5c Qy Lt Tp FdT Eb
def rdC (b:List UInt8) (s:Nat×Bool):List AV:=[.sl 1 (Xo b) .sh,i64 (s.1:Int),bool s.2]
def rdR (b:List UInt8) (s:Nat×Bool):Res:= .box 70 (rdC b s)
theorem Xs6 {b:List UInt8} {s:Nat×Bool} (h:s.1<=b.length):(rdZ b s).2.1<=b.length:=by
 unfold rdZ rdN;split
 ·exact h
 ·cases hg:Jt (b.drop s.1) with
  |none=>exact h
  |some r=>
   have h1:=(Xsu hg).1;rw[bt] at h1;dsimp only;omega
theorem Xyc (b:List UInt8) (a:Nat):rdZ b (a,true)=(0,(a,true)):=rfl
theorem Xti {b:List UInt8} {a:Nat} (h:Jt (b.drop a)=none):rdZ b (a,false)=(0,(a,true)):=by
 simp [rdZ,rdN,h]
theorem Xtj {b:List UInt8} {a:Nat} {r:Nat×Nat} (h:Jt (b.drop a)=some r):rdZ b (a,false)=((r.1:Int),(a+r.2,false)):=by
 simp [rdZ,rdN,h]
theorem Xqc (k:Nat) (b:List UInt8) (hb:b.length<=1000000) (s:Nat×Bool) (hs:s.1<=b.length):Xr Tryz.prog 31 [.ptr k 0] [(k,some (rdR b s))] (i64 (rdZ b s).1) [(k,rdR b (rdZ b s).2)]:=by
 obtain⟨a,o⟩:=s;have cG:=Xqg b a .sh hs hb;dsimp only at hs⊢;cases o with
 |true=>
  rw[Xyc];generalize (X1x b a).1=x at*;generalize (X1x b a).2.1=y at*;generalize (X1x b a).2.2=z at*;refine Xc 0 Tryz.func31 rfl fun n out _ _=> ?_;simp only[sn,Tryz.ntmps31,simprocAttr];have hg:=Nat.le_refl 0;rename_i hneeds hgv;obtain⟨hk,_⟩:=hneeds;obtain⟨hkn,_⟩:=hgv;have hoN:[k].Nodup:=by simp
  have hoL:∀j,j∈[k]->j<n:=fun j hj=>by simp at hj;subst hj;exact hkn
  refine Vy fun K hK=> ?_;simp only[zA,simprocAttr];repeat' (first|(refine hK _ ?_;clear hK K)|with_reducible apply ab)
  refine Vk fun K hK=>Xik Xj [] [k] [[],[],[],[100],[],[],[],[100],[],[],[],[],[],[],[],[]] [[],[],[],[],[],[],[],[],[],[],[],[],[],[],[],[]] hoN hoL follows (by kernel_rfl) (by decide) (by decide) (by kernel_rfl) ?_;simp only[zA,simprocAttr,so,rdR,rdC,X8 hkn,X7 hkn,hk];repeat' (first|(refine hK _ ?_;clear hK K)|with_reducible apply ab)
  refine X3 cG ?_;simp only[zA,simprocAttr,so];repeat' (first|(refine hK _ ?_;clear hK K)|with_reducible apply ab)
  repeat' (first|refine Vk fun K hK=> ?_|apply V0|apply Vs|with_reducible apply ab|((first|apply gE|apply gR|apply gS);simp only[zA,simprocAttr,rdR,rdC,hk,X8 hkn,X7 hkn,Xa hkn,Xif,X0])|exact Vn|(apply Vz;refine Vo rfl rfl rfl (fun _ _=>rfl) ?_<;>first|rfl|skip)|((refine Vg (fun hg=> ?_) (fun hg=> ?_))<;>try simp only[nb] at hg)|(refine hK _ ?_;clear hK K)|refine Vt rfl ?_|refine Vf rfl ?_|refine Vi rfl (fun hg=> ?_) (fun hg=> ?_)|clear hK K)
 |false=>
  cases hg:Jt (b.drop a) with
  |none=>
   rw[Xti hg];rw[Gn hg] at cG;refine Xc 0 Tryz.func31 rfl fun n out _ _=> ?_;simp only[sn,Tryz.ntmps31,simprocAttr];have hg:=Nat.le_refl 0;rename_i hneeds hgv;obtain⟨hk,_⟩:=hneeds;obtain⟨hkn,_⟩:=hgv;have hoN:[k].Nodup:=by simp
   have hoL:∀j,j∈[k]->j<n:=fun j hj=>by simp at hj;subst hj;exact hkn
   refine Vy fun K hK=> ?_;simp only[zA,simprocAttr];repeat' (first|(refine hK _ ?_;clear hK K)|with_reducible apply ab)
   refine Vk fun K hK=>Xik Xj [] [k] [[],[],[],[100],[],[],[],[100],[],[],[],[],[],[],[],[]] [[],[],[],[],[],[],[],[],[],[],[],[],[],[],[],[]] hoN hoL follows (by kernel_rfl) (by decide) (by decide) (by kernel_rfl) ?_;simp only[zA,simprocAttr,so,rdR,rdC,X8 hkn,X7 hkn,hk];repeat' (first|(refine hK _ ?_;clear hK K)|with_reducible apply ab)
   refine X3 cG ?_;simp only[zA,simprocAttr,so];repeat' (first|(refine hK _ ?_;clear hK K)|with_reducible apply ab)
   repeat' (first|refine Vk fun K hK=> ?_|apply V0|apply Vs|with_reducible apply ab|((first|apply gE|apply gR|apply gS);simp only[zA,simprocAttr,rdR,rdC,hk,X8 hkn,X7 hkn,Xa hkn,Xif,X0])|exact Vn|(apply Vz;refine Vo rfl rfl rfl (fun _ _=>rfl) ?_<;>first|rfl|skip)|((refine Vg (fun hg=> ?_) (fun hg=> ?_))<;>try simp only[nb] at hg)|(refine hK _ ?_;clear hK K)|refine Vt rfl ?_|refine Vf rfl ?_|refine Vi rfl (fun hg=> ?_) (fun hg=> ?_)|clear hK K)
  |some r=>
   have eT:X1x b a=((r.1:Int),((a+r.2:Nat):Int),0):=by unfold X1x;rw[hg]
   rw[eT] at cG;rw[Xtj hg];refine Xc 0 Tryz.func31 rfl fun n out _ _=> ?_;simp only[sn,Tryz.ntmps31,simprocAttr];have hg:=Nat.le_refl 0;rename_i hneeds hgv;obtain⟨hk,_⟩:=hneeds;obtain⟨hkn,_⟩:=hgv;have hoN:[k].Nodup:=by simp
   have hoL:∀j,j∈[k]->j<n:=fun j hj=>by simp at hj;subst hj;exact hkn
   refine Vy fun K hK=> ?_;simp only[zA,simprocAttr];repeat' (first|(refine hK _ ?_;clear hK K)|with_reducible apply ab)
   refine Vk fun K hK=>Xik Xj [] [k] [[],[],[],[100],[],[],[],[100],[],[],[],[],[],[],[],[]] [[],[],[],[],[],[],[],[],[],[],[],[],[],[],[],[]] hoN hoL follows (by kernel_rfl) (by decide) (by decide) (by kernel_rfl) ?_;simp only[zA,simprocAttr,so,rdR,rdC,X8 hkn,X7 hkn,hk];repeat' (first|(refine hK _ ?_;clear hK K)|with_reducible apply ab)
   refine X3 cG ?_;simp only[zA,simprocAttr,so];repeat' (first|(refine hK _ ?_;clear hK K)|with_reducible apply ab)
   repeat' (first|refine Vk fun K hK=> ?_|apply V0|apply Vs|with_reducible apply ab|((first|apply gE|apply gR|apply gS);simp only[zA,simprocAttr,rdR,rdC,hk,X8 hkn,X7 hkn,Xa hkn,Xif,X0])|exact Vn|(apply Vz;refine Vo rfl rfl rfl (fun _ _=>rfl) ?_<;>first|rfl|skip)|((refine Vg (fun hg=> ?_) (fun hg=> ?_))<;>try simp only[nb] at hg)|(refine hK _ ?_;clear hK K)|refine Vt rfl ?_|refine Vf rfl ?_|refine Vi rfl (fun hg=> ?_) (fun hg=> ?_)|clear hK K)
   exact Yd (Qv (.inr rfl) rfl rfl rfl (fun j _=>by rw[Jp];rfl) rfl)
theorem Xxt {b:List UInt8} {a:Nat} {r:List UInt8×Nat} (h:unW b a=some r) (ha:a<=b.length):r.2<=b.length∧r.1.length<=b.length:=by
 unfold unW at h;cases hg:Jt (b.drop a) with
 |none=>rw[hg] at h;cases h
 |some q=>
  rw[hg] at h;dsimp only at h;split at h
  ·cases h
  ·injection h with h
   subst h;have h1:=(Xsu hg).1;rw[bt] at h1;refine⟨by dsimp only;omega,?_⟩;rw[ba,bt];omega
theorem Xvd {e:Bool} {b:List UInt8} {s:Nat×Bool} (h:s.1<=b.length):(Xq7 e b s).2.1<=b.length:=by
 unfold Xq7;split
 ·exact h
 ·cases hu:unW b s.1 with
  |none=>exact h
  |some r=>
   have h1:=(Xxt hu h).1;dsimp only;split
   ·exact h1
   ·split<;>exact h1
theorem Xwx (e:Bool) (b:List UInt8) (a:Nat):Xq7 e b (a,true)=(Aq,(a,true)):=rfl
theorem Xve {e:Bool} {b:List UInt8} {a:Nat} (h:unW b a=none):Xq7 e b (a,false)=(Aq,(a,true)):=by simp [Xq7,h]
theorem Xud {b:List UInt8} {a y:Nat} (h:unW b a=some ([],y)):Xq7 true b (a,false)=(Aq,(y,false)):=by simp [Xq7,h]
theorem Xvf {e:Bool} {b:List UInt8} {a:Nat} {r:List UInt8×Nat} (h:unW b a=some r) (h0:¬(r.1=[]∧e=true)):Xq7 e b (a,false)=(if Z6 r.1 then(V6 r.1).1 else Aq,(r.2, !Z6 r.1)):=by
 unfold Xq7;dsimp only;rw[if_neg (by decide),h];dsimp only;rw[if_neg h0];cases Z6 r.1<;>rfl
theorem Xvg (k:Nat) (b:List UInt8) (hb:b.length<=1000000) (e:Bool) (s:Nat×Bool) (hs:s.1<=b.length):Xr Tryz.prog 30 [.ptr k 0,bool e] [(k,some (rdR b s))] (plA (Xq7 e b s).1) [(k,rdR b (Xq7 e b s).2)]:=by
 obtain⟨a,o⟩:=s;obtain⟨X,y,z,cU,u1,u2⟩:=Xww b hb a hs;dsimp only at hs⊢;cases o with
 |true=>
  rw[Xwx];clear u1 u2;unfold Aq plA plC;refine Xc 1 Tryz.func30 rfl fun n out _ _=> ?_;simp only[sn,Tryz.ntmps30,simprocAttr];have hg:=Nat.le_refl 0;rename_i hneeds hgv;obtain⟨hk,_⟩:=hneeds;obtain⟨hkn,_⟩:=hgv;have hoN:[k].Nodup:=by simp
  have hoL:∀j,j∈[k]->j<n:=fun j hj=>by simp at hj;subst hj;exact hkn
  refine Vy fun K hK=> ?_;simp only[zA,simprocAttr];repeat' (first|(refine hK _ ?_;clear hK K)|with_reducible apply ab)
  refine Vk fun K hK=>Xik Xj [] [k] [[],[],[],[100],[],[],[],[100],[],[],[],[],[],[],[],[]] [[],[],[],[],[],[],[],[],[],[],[],[],[],[],[],[]] hoN hoL follows (by kernel_rfl) (by decide) (by decide) (by kernel_rfl) ?_;simp only[zA,simprocAttr,so,rdR,rdC,X8 hkn,X7 hkn,hk];repeat' (first|(refine hK _ ?_;clear hK K)|with_reducible apply ab)
  refine X3 cU ?_;simp only[zA,simprocAttr,so];repeat' (first|(refine hK _ ?_;clear hK K)|with_reducible apply ab)
  repeat' (first|refine Vk fun K hK=> ?_|apply V0|apply Vs|with_reducible apply ab|((first|apply gE|apply gR|apply gS);simp only[zA,simprocAttr,rdR,rdC,hk,X8 hkn,X7 hkn,Xa hkn,Xif,X0])|exact Vn|(apply Vz;(first|refine Xu (.inr rfl) rfl rfl rfl (fun _ _=>rfl) ok28 (k:=n+0) (off:=0) rfl (Xb _ (by simp)) (X6 _ (Nat.le_refl _) 0) rfl ?_|refine Xu (.inr rfl) rfl rfl rfl (fun _ _=>rfl) ok28 (k:=m+0) (off:=0) rfl (Xb _ (by simp)) (X6 _ hm 0) rfl ?_)<;>first|rfl|exact AV.le.rfl _|(simp only[sL,ag];done)|rfl|skip)|((refine Vg (fun hg=> ?_) (fun hg=> ?_))<;>try simp only[nb] at hg)|(refine hK _ ?_;clear hK K)|refine Vt rfl ?_|refine Vf rfl ?_|refine Vi rfl (fun hg=> ?_) (fun hg=> ?_)|clear hK K)
 |false=>
  cases hu:unW b a with
  |none=>
   rw[Xve hu];have hz:(z !=0)=true:=by simpa using u1 hu
   clear u1 u2;unfold Aq plA plC;refine Xc 1 Tryz.func30 rfl fun n out _ _=> ?_;simp only[sn,Tryz.ntmps30,simprocAttr];have hg:=Nat.le_refl 0;rename_i hneeds hgv;obtain⟨hk,_⟩:=hneeds;obtain⟨hkn,_⟩:=hgv;have hoN:[k].Nodup:=by simp
   have hoL:∀j,j∈[k]->j<n:=fun j hj=>by simp at hj;subst hj;exact hkn
   refine Vy fun K hK=> ?_;simp only[zA,simprocAttr];repeat' (first|(refine hK _ ?_;clear hK K)|with_reducible apply ab)
   refine Vk fun K hK=>Xik Xj [] [k] [[],[],[],[100],[],[],[],[100],[],[],[],[],[],[],[],[]] [[],[],[],[],[],[],[],[],[],[],[],[],[],[],[],[]] hoN hoL follows (by kernel_rfl) (by decide) (by decide) (by kernel_rfl) ?_;simp only[zA,simprocAttr,so,rdR,rdC,X8 hkn,X7 hkn,hk];repeat' (first|(refine hK _ ?_;clear hK K)|with_reducible apply ab)
   refine X3 cU ?_;simp only[zA,simprocAttr,so];repeat' (first|(refine hK _ ?_;clear hK K)|with_reducible apply ab)
   repeat' (first|refine Vk fun K hK=> ?_|apply V0|apply Vs|with_reducible apply ab|((first|apply gE|apply gR|apply gS);simp only[zA,simprocAttr,rdR,rdC,hk,X8 hkn,X7 hkn,Xa hkn,Xif,X0,hz])|exact Vn|(apply Vz;(first|refine Xu (.inr rfl) rfl rfl rfl (fun _ _=>rfl) ok28 (k:=n+0) (off:=0) rfl (Xb _ (by simp)) (X6 _ (Nat.le_refl _) 0) rfl ?_|refine Xu (.inr rfl) rfl rfl rfl (fun _ _=>rfl) ok28 (k:=m+0) (off:=0) rfl (Xb _ (by simp)) (X6 _ hm 0) rfl ?_)<;>first|rfl|exact AV.le.rfl _|(simp only[sL,ag];done)|rfl|skip)|((refine Vg (fun hg=> ?_) (fun hg=> ?_))<;>try simp only[nb] at hg)|(refine hK _ ?_;clear hK K)|refine Vt rfl ?_|refine Vf rfl ?_|refine Vi rfl (fun hg=> ?_) (fun hg=> ?_)|clear hK K)
  |some r=>
   obtain⟨rfl,rfl,rfl⟩:=u2 r hu;have hl:=(Xxt hu hs).2;obtain⟨X,y⟩:=r;dsimp only at cU hl;by_cases h0:X=[]∧e=true
   ·obtain⟨rfl,rfl⟩:=h0;rw[Xud hu];clear u1 u2;unfold Aq plA plC;have bn:([]:List UInt8).length=0:=rfl;refine Xc 1 Tryz.func30 rfl fun n out _ _=> ?_;simp only[sn,Tryz.ntmps30,simprocAttr];have hg:=Nat.le_refl 0;rename_i hneeds hgv;obtain⟨hk,_⟩:=hneeds;obtain⟨hkn,_⟩:=hgv;have hoN:[k].Nodup:=by simp
    have hoL:∀j,j∈[k]->j<n:=fun j hj=>by simp at hj;subst hj;exact hkn
    refine Vy fun K hK=> ?_;simp only[zA,simprocAttr];repeat' (first|(refine hK _ ?_;clear hK K)|with_reducible apply ab)
    refine Vk fun K hK=>Xik Xj [] [k] [[],[],[],[100],[],[],[],[100],[],[],[],[],[],[],[],[]] [[],[],[],[],[],[],[],[],[],[],[],[],[],[],[],[]] hoN hoL follows (by kernel_rfl) (by decide) (by decide) (by kernel_rfl) ?_;simp only[zA,simprocAttr,so,rdR,rdC,X8 hkn,X7 hkn,hk];repeat' (first|(refine hK _ ?_;clear hK K)|with_reducible apply ab)
    refine X3 cU ?_;simp only[zA,simprocAttr,so];repeat' (first|(refine hK _ ?_;clear hK K)|with_reducible apply ab)
    repeat' (first|refine Vk fun K hK=> ?_|apply V0|apply Vs|with_reducible apply ab|((first|apply gE|apply gR|apply gS);simp only[zA,simprocAttr,rdR,rdC,hk,X8 hkn,X7 hkn,Xa hkn,Xif,X0,X5])|exact Vn|(apply Vz;(first|refine Xu (.inr rfl) rfl rfl rfl (fun _ _=>rfl) ok28 (k:=n+0) (off:=0) rfl (Xb _ (by simp)) (X6 _ (Nat.le_refl _) 0) rfl ?_|refine Xu (.inr rfl) rfl rfl rfl (fun _ _=>rfl) ok28 (k:=m+0) (off:=0) rfl (Xb _ (by simp)) (X6 _ hm 0) rfl ?_)<;>first|rfl|exact AV.le.rfl _|(simp only[sL,ti28,ag,rdR,rdC,hk,X8 hkn,X7 hkn,Xa hkn,Xif,X0,Int.reduceBNe,X5,List.length_nil];done)|rfl|skip)|((refine Vg (fun hg=> ?_) (fun hg=> ?_))<;>try simp only[nb] at hg)|(refine hK _ ?_;clear hK K)|refine Vt rfl ?_|refine Vf rfl ?_|refine Vi rfl (fun hg=> ?_) (fun hg=> ?_)|clear hK K)
    exact Yd (Xu (.inr rfl) rfl rfl rfl (fun j _=>by rw[Jp];rfl) ok28 (k:=n+0) (off:=0) rfl (Xb _ (by simp)) (X6 _ (Nat.le_refl _) 0) rfl (by simp only[ag,ti28,sL]))
   ·rw[Xvf hu h0];have cp:=X2y X (by omega);clear u1 u2;dsimp only;have hX:((X.length:Int)==0&&e)=false:=by
     cases X with
     |nil=>cases e<;>simp_all
     |cons x l=>simp;omega
    cases hp:Z6 X with
    |true=>
     rw[hp] at cp;simp only[if_true] at cp⊢;generalize (V6 X).1=P at*;simp only[plA,plC] at cp⊢;cases hl0:((X.length:Int)==0) with
     |true=>
      rw[hl0,bo] at hX;subst hX;refine Xc 1 Tryz.func30 rfl fun n out _ _=> ?_;simp only[sn,Tryz.ntmps30,simprocAttr];have hg:=Nat.le_refl 0;rename_i hneeds hgv;obtain⟨hk,_⟩:=hneeds;obtain⟨hkn,_⟩:=hgv;have hoN:[k].Nodup:=by simp
      have hoL:∀j,j∈[k]->j<n:=fun j hj=>by simp at hj;subst hj;exact hkn
      refine Vy fun K hK=> ?_;simp only[zA,simprocAttr];repeat' (first|(refine hK _ ?_;clear hK K)|with_reducible apply ab)
      refine Vk fun K hK=>Xik Xj [] [k] [[],[],[],[100],[],[],[],[100],[],[],[],[],[],[],[],[]] [[],[],[],[],[],[],[],[],[],[],[],[],[],[],[],[]] hoN hoL follows (by kernel_rfl) (by decide) (by decide) (by kernel_rfl) ?_;simp only[zA,simprocAttr,so,rdR,rdC,X8 hkn,X7 hkn,hk];repeat' (first|(refine hK _ ?_;clear hK K)|with_reducible apply ab)
      refine X3 cU ?_;simp only[zA,simprocAttr,so];repeat' (first|(refine hK _ ?_;clear hK K)|with_reducible apply ab)
      repeat' (first|refine Vk fun K hK=> ?_|apply V0|apply Vs|with_reducible apply ab|((first|apply gE|apply gR|apply gS);simp only[zA,simprocAttr,rdR,rdC,hk,X8 hkn,X7 hkn,Xa hkn,Xif,X0,X5,hl0])|exact Vn|(apply Vz;(first|refine Xu (.inr rfl) rfl rfl rfl (fun _ _=>rfl) ok28 (k:=n+0) (off:=0) rfl (Xb _ (by simp)) (X6 _ (Nat.le_refl _) 0) rfl ?_|refine Xu (.inr rfl) rfl rfl rfl (fun _ _=>rfl) ok28 (k:=m+0) (off:=0) rfl (Xb _ (by simp)) (X6 _ hm 0) rfl ?_)<;>first|rfl|exact AV.le.rfl _|(simp only[sL,ti28,ag,rdR,rdC,hk,X8 hkn,X7 hkn,Xa hkn,Xif,X0,Int.reduceBNe,X5,hl0];done)|rfl|skip)|(refine X3 (cp) ?_)|((refine Vg (fun hg=> ?_) (fun hg=> ?_))<;>try simp only[nb] at hg)|(refine hK _ ?_;clear hK K)|refine Vt rfl ?_|refine Vf rfl ?_|refine Vi rfl (fun hg=> ?_) (fun hg=> ?_)|clear hK K)
      exact Yd (Xu (.inr rfl) rfl rfl rfl (fun j _=>by rw[Jp,Jp];rfl) ok28 (k:=n+0) (off:=0) rfl (Xb _ (by simp)) (X6 _ (Nat.le_refl _) 0) rfl (.rfl _))
     |false=>
      refine Xc 1 Tryz.func30 rfl fun n out _ _=> ?_;simp only[sn,Tryz.ntmps30,simprocAttr];have hg:=Nat.le_refl 0;rename_i hneeds hgv;obtain⟨hk,_⟩:=hneeds;obtain⟨hkn,_⟩:=hgv;have hoN:[k].Nodup:=by simp
      have hoL:∀j,j∈[k]->j<n:=fun j hj=>by simp at hj;subst hj;exact hkn
      refine Vy fun K hK=> ?_;simp only[zA,simprocAttr];repeat' (first|(refine hK _ ?_;clear hK K)|with_reducible apply ab)
      refine Vk fun K hK=>Xik Xj [] [k] [[],[],[],[100],[],[],[],[100],[],[],[],[],[],[],[],[]] [[],[],[],[],[],[],[],[],[],[],[],[],[],[],[],[]] hoN hoL follows (by kernel_rfl) (by decide) (by decide) (by kernel_rfl) ?_;simp only[zA,simprocAttr,so,rdR,rdC,X8 hkn,X7 hkn,hk];repeat' (first|(refine hK _ ?_;clear hK K)|with_reducible apply ab)
      refine X3 cU ?_;simp only[zA,simprocAttr,so];repeat' (first|(refine hK _ ?_;clear hK K)|with_reducible apply ab)
      repeat' (first|refine Vk fun K hK=> ?_|apply V0|apply Vs|with_reducible apply ab|((first|apply gE|apply gR|apply gS);simp only[zA,simprocAttr,rdR,rdC,hk,X8 hkn,X7 hkn,Xa hkn,Xif,X0,X5,hl0])|exact Vn|(apply Vz;(first|refine Xu (.inr rfl) rfl rfl rfl (fun _ _=>rfl) ok28 (k:=n+0) (off:=0) rfl (Xb _ (by simp)) (X6 _ (Nat.le_refl _) 0) rfl ?_|refine Xu (.inr rfl) rfl rfl rfl (fun _ _=>rfl) ok28 (k:=m+0) (off:=0) rfl (Xb _ (by simp)) (X6 _ hm 0) rfl ?_)<;>first|rfl|exact AV.le.rfl _|(simp only[sL,ti28,ag,rdR,rdC,hk,X8 hkn,X7 hkn,Xa hkn,Xif,X0,Int.reduceBNe,X5,hl0];done)|rfl|skip)|(refine X3 (cp) ?_)|((refine Vg (fun hg=> ?_) (fun hg=> ?_))<;>try simp only[nb] at hg)|(refine hK _ ?_;clear hK K)|refine Vt rfl ?_|refine Vf rfl ?_|refine Vi rfl (fun hg=> ?_) (fun hg=> ?_)|clear hK K)
      exact Yd (Xu (.inr rfl) rfl rfl rfl (fun j _=>by rw[Jp,Jp];rfl) ok28 (k:=n+0) (off:=0) rfl (Xb _ (by simp)) (X6 _ (Nat.le_refl _) 0) rfl (.rfl _))
    |false=>
     rw[hp] at cp;simp only[bl,if_false,plA,plC,Aq,ag] at cp⊢;cases hl0:((X.length:Int)==0) with
     |true=>
      rw[hl0,bo] at hX;subst hX;refine Xc 1 Tryz.func30 rfl fun n out _ _=> ?_;simp only[sn,Tryz.ntmps30,simprocAttr];have hg:=Nat.le_refl 0;rename_i hneeds hgv;obtain⟨hk,_⟩:=hneeds;obtain⟨hkn,_⟩:=hgv;have hoN:[k].Nodup:=by simp
      have hoL:∀j,j∈[k]->j<n:=fun j hj=>by simp at hj;subst hj;exact hkn
      refine Vy fun K hK=> ?_;simp only[zA,simprocAttr];repeat' (first|(refine hK _ ?_;clear hK K)|with_reducible apply ab)
      refine Vk fun K hK=>Xik Xj [] [k] [[],[],[],[100],[],[],[],[100],[],[],[],[],[],[],[],[]] [[],[],[],[],[],[],[],[],[],[],[],[],[],[],[],[]] hoN hoL follows (by kernel_rfl) (by decide) (by decide) (by kernel_rfl) ?_;simp only[zA,simprocAttr,so,rdR,rdC,X8 hkn,X7 hkn,hk];repeat' (first|(refine hK _ ?_;clear hK K)|with_reducible apply ab)
      refine X3 cU ?_;simp only[zA,simprocAttr,so];repeat' (first|(refine hK _ ?_;clear hK K)|with_reducible apply ab)
      repeat' (first|refine Vk fun K hK=> ?_|apply V0|apply Vs|with_reducible apply ab|((first|apply gE|apply gR|apply gS);simp only[zA,simprocAttr,rdR,rdC,hk,X8 hkn,X7 hkn,Xa hkn,Xif,X0,X5,hl0])|exact Vn|(apply Vz;(first|refine Xu (.inr rfl) rfl rfl rfl (fun _ _=>rfl) ok28 (k:=n+0) (off:=0) rfl (Xb _ (by simp)) (X6 _ (Nat.le_refl _) 0) rfl ?_|refine Xu (.inr rfl) rfl rfl rfl (fun _ _=>rfl) ok28 (k:=m+0) (off:=0) rfl (Xb _ (by simp)) (X6 _ hm 0) rfl ?_)<;>first|rfl|exact AV.le.rfl _|(simp only[sL,ti28,ag,rdR,rdC,hk,X8 hkn,X7 hkn,Xa hkn,Xif,X0,Int.reduceBNe,X5,hl0];done)|rfl|skip)|(refine X3 (cp) ?_)|((refine Vg (fun hg=> ?_) (fun hg=> ?_))<;>try simp only[nb] at hg)|(refine hK _ ?_;clear hK K)|refine Vt rfl ?_|refine Vf rfl ?_|refine Vi rfl (fun hg=> ?_) (fun hg=> ?_)|clear hK K)
      exact Yd (Xu (.inr rfl) rfl rfl rfl (fun j _=>by rw[Jp,Jp];rfl) ok28 (k:=n+0) (off:=0) rfl (Xb _ (by simp)) (X6 _ (Nat.le_refl _) 0) rfl (by simp only[ag,ti28,sL]))
     |false=>
      refine Xc 1 Tryz.func30 rfl fun n out _ _=> ?_;simp only[sn,Tryz.ntmps30,simprocAttr];have hg:=Nat.le_refl 0;rename_i hneeds hgv;obtain⟨hk,_⟩:=hneeds;obtain⟨hkn,_⟩:=hgv;have hoN:[k].Nodup:=by simp
      have hoL:∀j,j∈[k]->j<n:=fun j hj=>by simp at hj;subst hj;exact hkn
      refine Vy fun K hK=> ?_;simp only[zA,simprocAttr];repeat' (first|(refine hK _ ?_;clear hK K)|with_reducible apply ab)
      refine Vk fun K hK=>Xik Xj [] [k] [[],[],[],[100],[],[],[],[100],[],[],[],[],[],[],[],[]] [[],[],[],[],[],[],[],[],[],[],[],[],[],[],[],[]] hoN hoL follows (by kernel_rfl) (by decide) (by decide) (by kernel_rfl) ?_;simp only[zA,simprocAttr,so,rdR,rdC,X8 hkn,X7 hkn,hk];repeat' (first|(refine hK _ ?_;clear hK K)|with_reducible apply ab)
      refine X3 cU ?_;simp only[zA,simprocAttr,so];repeat' (first|(refine hK _ ?_;clear hK K)|with_reducible apply ab)
      repeat' (first|refine Vk fun K hK=> ?_|apply V0|apply Vs|with_reducible apply ab|((first|apply gE|apply gR|apply gS);simp only[zA,simprocAttr,rdR,rdC,hk,X8 hkn,X7 hkn,Xa hkn,Xif,X0,X5,hl0])|exact Vn|(apply Vz;(first|refine Xu (.inr rfl) rfl rfl rfl (fun _ _=>rfl) ok28 (k:=n+0) (off:=0) rfl (Xb _ (by simp)) (X6 _ (Nat.le_refl _) 0) rfl ?_|refine Xu (.inr rfl) rfl rfl rfl (fun _ _=>rfl) ok28 (k:=m+0) (off:=0) rfl (Xb _ (by simp)) (X6 _ hm 0) rfl ?_)<;>first|rfl|exact AV.le.rfl _|(simp only[sL,ti28,ag,rdR,rdC,hk,X8 hkn,X7 hkn,Xa hkn,Xif,X0,Int.reduceBNe,X5,hl0];done)|rfl|skip)|(refine X3 (cp) ?_)|((refine Vg (fun hg=> ?_) (fun hg=> ?_))<;>try simp only[nb] at hg)|(refine hK _ ?_;clear hK K)|refine Vt rfl ?_|refine Vf rfl ?_|refine Vi rfl (fun hg=> ?_) (fun hg=> ?_)|clear hK K)
      exact Yd (Xu (.inr rfl) rfl rfl rfl (fun j _=>by rw[Jp,Jp];rfl) ok28 (k:=n+0) (off:=0) rfl (Xb _ (by simp)) (X6 _ (Nat.le_refl _) 0) rfl (by simp only[ag,ti28,sL]))
theorem Xz8 (r:Rt) (p g:Int) (hp:0<=p):Xr Tryz.prog 32 [rtA r,i64 p,i64 g] [] (lkA (Xpl r p g)) []:=by
 unfold Xpl;have e1:(if 255<p then 255 else p)=min p 255:=by split<;>omega
 obtain⟨q,hq⟩:∃q:Nat,min p 255=(q:Int):=bj (by omega);have hq2:q<=255:=by omega
 rw[hq] at e1⊢;have e2:IntKind.u8.wrap (q:Int)=(q:Int):=by simp [IntKind.wrap,IntKind.signed,IntKind.bits];omega
 have e3:((UInt8.ofNat q).toNat:Int)=(q:Int):=by rw[de];omega
 rw[Int.toNat_natCast];by_cases h3:q=3
 ·subst h3;refine Xc 2 Tryz.func32 rfl fun n out _ _=> ?_;simp only[sn,Tryz.ntmps32,simprocAttr];repeat' (first|apply V5|refine Vk fun K hK=> ?_|apply V0|apply Vb|apply Vc|apply Vr|apply Vs|with_reducible apply ab|((first|apply gE|apply gR);simp only[zA,simprocAttr,rtA,rtC,lkA,lkC,X0,e1])|exact Vn|(apply Vz;(first|refine Xu (.inr rfl) rfl rfl rfl (fun _ _=>rfl) ok65 (k:=n+1) (off:=0) rfl (Xb _ (by simp)) (X6 _ (Nat.le_refl _) 1) rfl ?_|refine Xu (.inr rfl) rfl rfl rfl (fun _ _=>rfl) ok65 (k:=m+1) (off:=0) rfl (Xb _ (by simp)) (X6 _ hm 1) rfl ?_)<;>first|rfl|exact AV.le.rfl _|(simp only[sL,ti65,ag,rtA,rtC,lkA,lkC,X0,e1,e2,e3];done)|(exact AV.le.rfl _)|(simp only[sL,rtA,rtC,lkA,lkC,X0,e1,e2,e3];done)|rfl|skip)|(apply Vx;simp only[sb,Nat.reduceEqDiff])|(refine hK _ ?_;clear hK K)|refine Vt rfl ?_|refine Vf rfl ?_|refine Vi rfl (fun hg=> ?_) (fun hg=> ?_)|clear hK K)
 ·have d3:((q:Int)==3)=false:=by simp;omega
  by_cases h4:q=4
  ·subst h4;refine Xc 2 Tryz.func32 rfl fun n out _ _=> ?_;simp only[sn,Tryz.ntmps32,simprocAttr];repeat' (first|apply V5|refine Vk fun K hK=> ?_|apply V0|apply Vb|apply Vc|apply Vr|apply Vs|with_reducible apply ab|((first|apply gE|apply gR);simp only[zA,simprocAttr,rtA,rtC,lkA,lkC,X0,e1])|exact Vn|(apply Vz;(first|refine Xu (.inr rfl) rfl rfl rfl (fun _ _=>rfl) ok65 (k:=n+1) (off:=0) rfl (Xb _ (by simp)) (X6 _ (Nat.le_refl _) 1) rfl ?_|refine Xu (.inr rfl) rfl rfl rfl (fun _ _=>rfl) ok65 (k:=m+1) (off:=0) rfl (Xb _ (by simp)) (X6 _ hm 1) rfl ?_)<;>first|rfl|exact AV.le.rfl _|(simp only[sL,ti65,ag,rtA,rtC,lkA,lkC,X0,e1,e2,e3];done)|(exact AV.le.rfl _)|(simp only[sL,rtA,rtC,lkA,lkC,X0,e1,e2,e3];done)|rfl|skip)|(apply Vx;simp only[sb,Nat.reduceEqDiff])|(refine hK _ ?_;clear hK K)|refine Vt rfl ?_|refine Vf rfl ?_|refine Vi rfl (fun hg=> ?_) (fun hg=> ?_)|clear hK K)
  ·have d4:((q:Int)==4)=false:=by simp;omega
   have e5:((q:Int)=3∨(q:Int)=4)=False:=ef (by omega);simp only[e5,if_false];have e6:lkA (r.id,UInt8.ofNat q,g,0)= .agg [i64 r.id,.val (.int .u8 (q:Int)),i64 g,i64 0]:=by
    show AV.agg [_,.val (.int .u8 ((UInt8.ofNat q).toNat:Int)),_,_]= _
    rw[e3]
   rw[e6];refine Xc 2 Tryz.func32 rfl fun n out _ _=> ?_;simp only[sn,Tryz.ntmps32,simprocAttr];repeat' (first|apply V5|refine Vk fun K hK=> ?_|apply V0|apply Vb|apply Vc|apply Vr|apply Vs|with_reducible apply ab|((first|apply gE|apply gR);simp only[zA,simprocAttr,rtA,rtC,X0,e1,e2,d3,d4])|exact Vn|(apply Vz;(first|refine Xu (.inr rfl) rfl rfl rfl (fun _ _=>rfl) ok65 (k:=n+1) (off:=0) rfl (Xb _ (by simp)) (X6 _ (Nat.le_refl _) 1) rfl ?_|refine Xu (.inr rfl) rfl rfl rfl (fun _ _=>rfl) ok65 (k:=m+1) (off:=0) rfl (Xb _ (by simp)) (X6 _ hm 1) rfl ?_)<;>first|rfl|exact AV.le.rfl _|(simp only[sL,ti65,ag,rtA,rtC,lkA,lkC,X0,e1,e2,e3,d3,d4];done)|(exact AV.le.rfl _)|(simp only[sL,rtA,rtC,lkA,lkC,X0,e1,e2,e3,d3,d4];done)|rfl|skip)|(apply Vx;simp only[sb,Nat.reduceEqDiff])|(refine hK _ ?_;clear hK K)|refine Vt rfl ?_|refine Vf rfl ?_|refine Vi rfl (fun hg=> ?_) (fun hg=> ?_)|clear hK K)
end Go.Proofs.YtdngdjbgmojcoaaGreat.Pln
namespace Go.Proofs.YtdngdjbgmojcoaaGreat.Pln
set_option linter.all false
set_option maxHeartbeats 1000000
open Go Go.VS
theorem Xrm (b:List UInt8) (x:Int×Int):∀(l:List (Int×Int)) (s:Nat×Bool),rdW (l++[x]) b s=((rdW l b s).1++[(x.1,0,(rdZ b (rdW l b s).2).1)],(rdZ b (rdW l b s).2).2)
 |[],s=>rfl
 |y::l,s=>by
  have ih:=Xrm b x l (rdZ b s).2
  show(((y.1,0,(rdZ b s).1)::(rdW (l++[x]) b (rdZ b s).2).1),(rdW (l++[x]) b (rdZ b s).2).2)= _
  rw[ih];rfl
theorem Xqk (b:List UInt8) (x:Rt):∀(l:List Rt) (s:Nat×Bool),Xs3 (l++[x]) b s=((Xs3 l b s).1++[Xpl x (rdZ b (Xs3 l b s).2).1 (rdZ b (rdZ b (Xs3 l b s).2).2).1],(rdZ b (rdZ b (Xs3 l b s).2).2).2)
 |[],s=>rfl
 |y::l,s=>by
  have ih:=Xqk b x l (rdZ b (rdZ b s).2).2
  show((Xpl y (rdZ b s).1 (rdZ b (rdZ b s).2).1::(Xs3 (l++[x]) b (rdZ b (rdZ b s).2).2).1),(Xs3 (l++[x]) b (rdZ b (rdZ b s).2).2).2)= _
  rw[ih];rfl
end Go.Proofs.YtdngdjbgmojcoaaGreat.Pln
namespace Go.Proofs.YtdngdjbgmojcoaaGreat.Pln
set_option linter.all false
set_option maxHeartbeats 4000000
set_option maxRecDepth 4000
open Go Go.VS Tab
attribute [local irreducible] AWp Xp0 Pg X5c Qy Lt Tp FdT Eb
theorem Xz9 (l m':List UInt8) (hl:l.length<=1000000000):Xr Tryz.prog 33 [.sl 1 (Xo l) .sh,.sl 1 (Xo m') .sh] [] (bool (l==m')) []:=by
 refine Xc 0 Tryz.func33 rfl fun n out _ _=> ?_;simp only[sn,Tryz.ntmps33,simprocAttr];repeat' (first|refine Vk fun K hK=> ?_|apply V0|apply Vb|apply Vc|apply Vr|apply Vs|with_reducible apply ab|refine Vq (by kernel_rfl) ?_|((first|apply gE|apply gR);simp only[zA,simprocAttr,X5])|exact Vn|(apply Vz;refine Vo rfl rfl rfl (fun _ _=>rfl) ?_<;>first|rfl|(rw[Mu (by intro h;simp [h] at hg)];rfl)|skip)|(apply Vx;simp only[sb,reduceIte,Nat.reduceEqDiff])|(refine hK _ ?_;clear hK K)|refine Vt rfl ?_|refine Vf rfl ?_|refine Vi rfl (fun hg=> ?_) (fun hg=> ?_)|clear hK K)
 have hlen:l.length=m'.length:=by
  have h1:((l.length:Int) !=(m'.length:Int))=false:=hg;simp at h1;omega
 apply V5;refine Xse (l.length) (fun i=>(∀j (hj:j<l.length) (hj':j<m'.length),j<i->l[j]=m'[j])) (fun i=>tp [4,5] (tr 14 12 [(13,i64 (i:Int))])) (fun i=>[]) (by intros;omega) ?_ fun i hi=> ?_
 ·refine La rfl ?_ ?_<;>simp only[sL]
 obtain⟨hi,hq⟩:=hi;simp only[pt];refine Vy fun K hK=> ?_;simp only[zA,simprocAttr];repeat' (first|(refine hK _ ?_;clear hK K)|with_reducible apply ab)
 refine Vk fun KC hKC=> ?_;refine Uz rfl (fun ht=>Xhj (hKC _ ?_)) (fun hf=>Qi (id ?_));rotate_left
 ·simp only[Qd,Z4,if_true];refine hK _ ?_;clear hK K hKC KC;have h_ib:i=l.length:=by have:=b7 hf;omega
  subst h_ib;have e:=Ua (l:=l) (m:=m') hlen fun i hi hi'=>hq i hi hi' hi;rw[e];repeat' (first|refine Vk fun K hK=> ?_|apply V0|apply Vb|apply Vc|apply Vr|apply Vs|with_reducible apply ab|refine Vq (by kernel_rfl) ?_|((first|apply gE|apply gR);simp only[zA,simprocAttr])|exact Vn|(apply Vz;refine Vo rfl rfl rfl (fun _ _=>rfl) ?_<;>first|rfl|skip)|(apply Vx;simp only[sb,reduceIte,Nat.reduceEqDiff])|(refine hK _ ?_;clear hK K)|refine Vt rfl ?_|refine Vf rfl ?_|refine Vi rfl (fun hg=> ?_) (fun hg=> ?_)|clear hK K)
 clear hKC KC;have hlt:i<l.length:=by have:=bf ht;omega
 refine Vk fun KC hKC=>Xe ?_;have hlt':i<m'.length:=by omega
 have g1:l.getD i 0=l[i]:=by simp [af,hlt]
 have g2:m'.getD i 0=m'[i]:=by simp [af,hlt']
 refine Vy fun K hK=> ?_;simp only[zA,simprocAttr];repeat' (first|(refine hK _ ?_;clear hK K)|with_reducible apply ab)
 refine Vy2 (by kernel_rfl) fun K hK=> ?_;simp only[zA,simprocAttr,hlt,hlt',X5,Xqt l i hlt,Xqt m' i hlt',g1,g2];repeat' (first|(refine hK _ ?_;clear hK K)|with_reducible apply ab)
 all_goals first|(decide;done)|kernel_rfl|skip
 refine Uz rfl (fun ht=> ?_) (fun hf=>Xhj ?_)
 ·have e:=Ut (l:=l) (m:=m') hlt hlt' (fun h0=>by rw[h0] at ht;simp at ht);refine Vy fun K hK=> ?_;simp only[zA,simprocAttr];repeat' (first|(refine hK _ ?_;clear hK K)|with_reducible apply ab)
  rw[<- e];apply Vz;exact Qv (.inr rfl) rfl rfl rfl (fun _ _=>rfl) rfl
 repeat refine ab (by omega) ?_
 refine hKC _ ?_;clear hKC KC;refine Xn Xj [] ?_;simp only[zA,simprocAttr,Yl (n:=i) 1 1 rfl (by omega)];refine⟨i+1,⟨by omega,?_⟩,by omega,?_⟩
 ·intro j hj hj' hji;by_cases h:j=i
  ·subst h;simp at hf;exact UInt8.toNat_inj.1 (by omega)
  ·exact hq j hj hj' (by omega)
 refine La rfl ?_ ?_<;>simp only[sL]
end Go.Proofs.YtdngdjbgmojcoaaGreat.Pln
