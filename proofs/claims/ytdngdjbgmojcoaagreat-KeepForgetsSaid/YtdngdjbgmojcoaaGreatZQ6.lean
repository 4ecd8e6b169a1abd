/- The layer of abstract values, joined. -/
import Derived.Test.YtdngdjbgmojcoaaGreatZPR
import Derived.Test.YtdngdjbgmojcoaaGreatZKC
import Derived.Test.YtdngdjbgmojcoaaGreatZQ0
import Derived.Test.YtdngdjbgmojcoaaGreatZVsDraw
import Derived.Test.YtdngdjbgmojcoaaGreatZP44
import Derived.Test.YtdngdjbgmojcoaaGreatZK32
namespace Go.Proofs.YtdngdjbgmojcoaaGreat.Pln
set_option linter.unusedSimpArgs false
set_option linter.unusedVariables false
set_option maxHeartbeats 8000000
set_option maxRecDepth 4000
open Go Go.VS Tab
def rdC (b:List UInt8) (s:Nat×Bool):List AV:=[.sl 1 (Xo b) .sh,i64 (s.1:Int),bool s.2]
def rdR (b:List UInt8) (s:Nat×Bool):Res:= .box 70 (rdC b s)
theorem Xs6 {b:List UInt8} {s:Nat×Bool} (h:s.1≤b.length):(rdZ b s).2.1≤b.length:=by
 unfold rdZ rdN
 split
 ·exact h
 ·cases hg:Jt (b.drop s.1) with
  |none=>exact h
  |some r=>
   have h1:=(Xsu hg).1
   rw[List.length_drop] at h1
   dsimp only
   omega
theorem Xyc (b:List UInt8) (a:Nat):rdZ b (a,true)=(0,(a,true)):=rfl
theorem Xti {b:List UInt8} {a:Nat} (h:Jt (b.drop a)=none):rdZ b (a,false)=(0,(a,true)):=by
 simp [rdZ,rdN,h]
theorem Xtj {b:List UInt8} {a:Nat} {r:Nat×Nat} (h:Jt (b.drop a)=some r):rdZ b (a,false)=((r.1:Int),(a+r.2,false)):=by
 simp [rdZ,rdN,h]
theorem Xoo {k:Nat} (o:Nat→Option Res):Qe [100] 0 [k] o k=o k:=by simp [Qe]
theorem Xqc (k:Nat) (b:List UInt8) (hb:b.length≤1000000) (s:Nat×Bool) (hs:s.1≤b.length):Xr Tryz.prog 31 [.ptr k 0] [(k,some (rdR b s))] (i64 (rdZ b s).1) [(k,rdR b (rdZ b s).2)]:=by
 obtain⟨a,o⟩:=s
 have cG:=Xqg b a .sh hs hb
 dsimp only at hs⊢
 cases o with
 |true=>
  rw[Xyc]
  generalize (X1x b a).1=x at*
  generalize (X1x b a).2.1=y at*
  generalize (X1x b a).2.2=z at*
  refine Xc 0 Tryz.func31 rfl fun n out _ _=> ?_
  simp only[sn,Tryz.ntmps31,Nat.reduceAdd,Nat.reduceSub]
  rename_i hneeds hgv
  obtain⟨hk,_⟩:=hneeds
  obtain⟨hkn,_⟩:=hgv
  have hoN:[k].Nodup:=by simp
  have hoL:∀j,j∈[k]→j<n:=fun j hj=>by simp at hj;subst hj;exact hkn
  refine Vy fun K hK=> ?_
  simp only[zA,simprocAttr]
  repeat' (first|(with_reducible refine hK _ ?_;clear hK K)|with_reducible apply And.intro)
  refine Vk fun K hK=>Xik Xj [] [k] [[],[],[],[100],[],[],[],[100],[],[],[],[],[],[],[],[]] [[],[],[],[],[],[],[],[],[],[],[],[],[],[],[],[]] hoN hoL follows (by kernel_rfl) (by decide) (by decide) (by kernel_rfl) ?_
  simp only[zA,simprocAttr,so,rdR,rdC,X8 hkn,X7 hkn,hk]
  repeat' (first|(with_reducible refine hK _ ?_;clear hK K)|with_reducible apply And.intro)
  refine X3 cG ?_
  simp only[zA,simprocAttr,so]
  repeat' (first|(with_reducible refine hK _ ?_;clear hK K)|with_reducible apply And.intro)
  repeat' (first|(with_reducible first|refine Vk fun K hK=> ?_|refine V0 ?_|refine Vs ?_|apply And.intro)|((with_reducible first|refine gE ?_|refine gR ?_);simp only[zA,simprocAttr,rdR,rdC,hk,X8 hkn,X7 hkn,Xa hkn,Xif,X0])|exact Vn|((with_reducible refine Vz ?_);refine Vo rfl rfl rfl (fun _ _=>rfl) ?_<;>first|rfl|skip)|((with_reducible refine Vg (fun hg=> ?_) (fun hg=> ?_))<;>(try simp only[nb] at hg)<;>simp only[zA,simprocAttr,hg,rdR,rdC,hk,X8 hkn,X7 hkn,Xa hkn,Xif,X0])|(refine hK _ ?_;clear hK K)|refine Vt rfl ?_|refine Vf rfl ?_|refine Vi rfl (fun hg=> ?_) (fun hg=> ?_)|clear hK K)
 |false=>
  cases hg:Jt (b.drop a) with
  |none=>
   rw[Xti hg]
   rw[Gn hg] at cG
   refine Xc 0 Tryz.func31 rfl fun n out _ _=> ?_
   simp only[sn,Tryz.ntmps31,Nat.reduceAdd,Nat.reduceSub]
   rename_i hneeds hgv
   obtain⟨hk,_⟩:=hneeds
   obtain⟨hkn,_⟩:=hgv
   have hoN:[k].Nodup:=by simp
   have hoL:∀j,j∈[k]→j<n:=fun j hj=>by simp at hj;subst hj;exact hkn
   refine Vy fun K hK=> ?_
   simp only[zA,simprocAttr]
   repeat' (first|(with_reducible refine hK _ ?_;clear hK K)|with_reducible apply And.intro)
   refine Vk fun K hK=>Xik Xj [] [k] [[],[],[],[100],[],[],[],[100],[],[],[],[],[],[],[],[]] [[],[],[],[],[],[],[],[],[],[],[],[],[],[],[],[]] hoN hoL follows (by kernel_rfl) (by decide) (by decide) (by kernel_rfl) ?_
   simp only[zA,simprocAttr,so,rdR,rdC,X8 hkn,X7 hkn,hk]
   repeat' (first|(with_reducible refine hK _ ?_;clear hK K)|with_reducible apply And.intro)
   refine X3 cG ?_
   simp only[zA,simprocAttr,so]
   repeat' (first|(with_reducible refine hK _ ?_;clear hK K)|with_reducible apply And.intro)
   repeat' (first|(with_reducible first|refine Vk fun K hK=> ?_|refine V0 ?_|refine Vs ?_|apply And.intro)|((with_reducible first|refine gE ?_|refine gR ?_);simp only[zA,simprocAttr,rdR,rdC,hk,X8 hkn,X7 hkn,Xa hkn,Xif,X0])|exact Vn|((with_reducible refine Vz ?_);refine Vo rfl rfl rfl (fun _ _=>rfl) ?_<;>first|rfl|skip)|((with_reducible refine Vg (fun hg=> ?_) (fun hg=> ?_))<;>(try simp only[nb] at hg)<;>simp only[zA,simprocAttr,hg,rdR,rdC,hk,X8 hkn,X7 hkn,Xa hkn,Xif,X0])|(refine hK _ ?_;clear hK K)|refine Vt rfl ?_|refine Vf rfl ?_|refine Vi rfl (fun hg=> ?_) (fun hg=> ?_)|clear hK K)
  |some r=>
   have eT:X1x b a=((r.1:Int),((a+r.2:Nat):Int),0):=by unfold X1x;rw[hg]
   rw[eT] at cG
   rw[Xtj hg]
   refine Xc 0 Tryz.func31 rfl fun n out _ _=> ?_
   simp only[sn,Tryz.ntmps31,Nat.reduceAdd,Nat.reduceSub]
   rename_i hneeds hgv
   obtain⟨hk,_⟩:=hneeds
   obtain⟨hkn,_⟩:=hgv
   have hoN:[k].Nodup:=by simp
   have hoL:∀j,j∈[k]→j<n:=fun j hj=>by simp at hj;subst hj;exact hkn
   refine Vy fun K hK=> ?_
   simp only[zA,simprocAttr]
   repeat' (first|(with_reducible refine hK _ ?_;clear hK K)|with_reducible apply And.intro)
   refine Vk fun K hK=>Xik Xj [] [k] [[],[],[],[100],[],[],[],[100],[],[],[],[],[],[],[],[]] [[],[],[],[],[],[],[],[],[],[],[],[],[],[],[],[]] hoN hoL follows (by kernel_rfl) (by decide) (by decide) (by kernel_rfl) ?_
   simp only[zA,simprocAttr,so,rdR,rdC,X8 hkn,X7 hkn,hk]
   repeat' (first|(with_reducible refine hK _ ?_;clear hK K)|with_reducible apply And.intro)
   refine X3 cG ?_
   simp only[zA,simprocAttr,so]
   repeat' (first|(with_reducible refine hK _ ?_;clear hK K)|with_reducible apply And.intro)
   repeat' (first|(with_reducible first|refine Vk fun K hK=> ?_|refine V0 ?_|refine Vs ?_|apply And.intro)|((with_reducible first|refine gE ?_|refine gR ?_);simp only[zA,simprocAttr,rdR,rdC,hk,X8 hkn,X7 hkn,Xa hkn,Xif,X0])|exact Vn|((with_reducible refine Vz ?_);refine Vo rfl rfl rfl (fun _ _=>rfl) ?_<;>first|rfl|skip)|((with_reducible refine Vg (fun hg=> ?_) (fun hg=> ?_))<;>(try simp only[nb] at hg)<;>simp only[zA,simprocAttr,hg,rdR,rdC,hk,X8 hkn,X7 hkn,Xa hkn,Xif,X0])|(refine hK _ ?_;clear hK K)|refine Vt rfl ?_|refine Vf rfl ?_|refine Vi rfl (fun hg=> ?_) (fun hg=> ?_)|clear hK K)
   exact Yd (Qv (.inr rfl) rfl rfl rfl (fun j _=>by rw[Jp];rfl) rfl)
theorem Xxt {b:List UInt8} {a:Nat} {r:List UInt8×Nat} (h:unW b a=some r) (ha:a≤b.length):r.2≤b.length∧r.1.length≤b.length:=by
 unfold unW at h
 cases hg:Jt (b.drop a) with
 |none=>rw[hg] at h;cases h
 |some q=>
  rw[hg] at h
  dsimp only at h
  split at h
  ·cases h
  ·injection h with h
   subst h
   have h1:=(Xsu hg).1
   rw[List.length_drop] at h1
   refine⟨by dsimp only;omega,?_⟩
   rw[List.length_take,List.length_drop];omega
theorem Xvd {e:Bool} {b:List UInt8} {s:Nat×Bool} (h:s.1≤b.length):(Xq7 e b s).2.1≤b.length:=by
 unfold Xq7
 split
 ·exact h
 ·cases hu:unW b s.1 with
  |none=>exact h
  |some r=>
   have h1:=(Xxt hu h).1
   dsimp only
   split
   ·exact h1
   ·split<;>exact h1
theorem Xwx (e:Bool) (b:List UInt8) (a:Nat):Xq7 e b (a,true)=(Aq,(a,true)):=rfl
theorem Xve {e:Bool} {b:List UInt8} {a:Nat} (h:unW b a=none):Xq7 e b (a,false)=(Aq,(a,true)):=by simp [Xq7,h]
theorem Xud {b:List UInt8} {a y:Nat} (h:unW b a=some ([],y)):Xq7 true b (a,false)=(Aq,(y,false)):=by simp [Xq7,h]
theorem Xvf {e:Bool} {b:List UInt8} {a:Nat} {r:List UInt8×Nat} (h:unW b a=some r) (h0:¬(r.1=[]∧e=true)):Xq7 e b (a,false)=(if Z6 r.1 then(V6 r.1).1 else Aq,(r.2, !Z6 r.1)):=by
 unfold Xq7
 dsimp only
 rw[if_neg (by decide),h]
 dsimp only
 rw[if_neg h0]
 cases Z6 r.1<;>rfl
theorem Xvg (k:Nat) (b:List UInt8) (hb:b.length≤1000000) (e:Bool) (s:Nat×Bool) (hs:s.1≤b.length):Xr Tryz.prog 30 [.ptr k 0,bool e] [(k,some (rdR b s))] (plA (Xq7 e b s).1) [(k,rdR b (Xq7 e b s).2)]:=by
 obtain⟨a,o⟩:=s
 obtain⟨X,y,z,cU,u1,u2⟩:=Xww b hb a hs
 dsimp only at hs⊢
 cases o with
 |true=>
  rw[Xwx]
  clear u1 u2
  unfold Aq plA plC
  refine Xc 1 Tryz.func30 rfl fun n out _ _=> ?_
  simp only[sn,Tryz.ntmps30,Nat.reduceAdd,Nat.reduceSub]
  rename_i hneeds hgv
  obtain⟨hk,_⟩:=hneeds
  obtain⟨hkn,_⟩:=hgv
  have hoN:[k].Nodup:=by simp
  have hoL:∀j,j∈[k]→j<n:=fun j hj=>by simp at hj;subst hj;exact hkn
  refine Vy fun K hK=> ?_
  simp only[zA,simprocAttr]
  repeat' (first|(with_reducible refine hK _ ?_;clear hK K)|with_reducible apply And.intro)
  refine Vk fun K hK=>Xik Xj [] [k] [[],[],[],[100],[],[],[],[100],[],[],[],[],[],[],[],[]] [[],[],[],[],[],[],[],[],[],[],[],[],[],[],[],[]] hoN hoL follows (by kernel_rfl) (by decide) (by decide) (by kernel_rfl) ?_
  simp only[zA,simprocAttr,so,rdR,rdC,X8 hkn,X7 hkn,Xoo,hk]
  repeat' (first|(with_reducible refine hK _ ?_;clear hK K)|with_reducible apply And.intro)
  refine X3 cU ?_
  simp only[zA,simprocAttr,so,rdC]
  repeat' (first|(with_reducible refine hK _ ?_;clear hK K)|with_reducible apply And.intro)
  repeat' (first|(with_reducible first|refine Vk fun K hK=> ?_|refine V0 ?_|refine Vs ?_|apply And.intro)|((with_reducible first|refine gE ?_|refine gR ?_);simp only[zA,simprocAttr,rdR,rdC,hk,X8 hkn,X7 hkn,Xa hkn,Xif,X0])|exact Vn|((with_reducible refine Vz ?_);(first|refine Xu (.inr rfl) rfl rfl rfl (fun _ _=>rfl) ok28 (k:=n+0) (off:=0) rfl (Xb _ (by simp)) (X6 _ (Nat.le_refl _) 0) rfl ?_|refine Xu (.inr rfl) rfl rfl rfl (fun _ _=>rfl) ok28 (k:=m+0) (off:=0) rfl (Xb _ (by simp)) (X6 _ hm 0) rfl ?_)<;>first|rfl|exact AV.le.rfl _|(simp only[sL,ti28,List.map_nil,rdR,rdC,hk,X8 hkn,X7 hkn,Xa hkn,Xif,X0,Int.reduceBNe];done)|rfl|skip)|((with_reducible refine Vg (fun hg=> ?_) (fun hg=> ?_))<;>(try simp only[nb] at hg)<;>simp only[zA,simprocAttr,hg,rdR,rdC,hk,X8 hkn,X7 hkn,Xa hkn,Xif,X0])|(refine hK _ ?_;clear hK K)|refine Vt rfl ?_|refine Vf rfl ?_|refine Vi rfl (fun hg=> ?_) (fun hg=> ?_)|clear hK K)
 |false=>
  cases hu:unW b a with
  |none=>
   rw[Xve hu]
   have hz:(z !=0)=true:=by simpa using u1 hu
   clear u1 u2
   unfold Aq plA plC
   refine Xc 1 Tryz.func30 rfl fun n out _ _=> ?_
   simp only[sn,Tryz.ntmps30,Nat.reduceAdd,Nat.reduceSub]
   rename_i hneeds hgv
   obtain⟨hk,_⟩:=hneeds
   obtain⟨hkn,_⟩:=hgv
   have hoN:[k].Nodup:=by simp
   have hoL:∀j,j∈[k]→j<n:=fun j hj=>by simp at hj;subst hj;exact hkn
   refine Vy fun K hK=> ?_
   simp only[zA,simprocAttr]
   repeat' (first|(with_reducible refine hK _ ?_;clear hK K)|with_reducible apply And.intro)
   refine Vk fun K hK=>Xik Xj [] [k] [[],[],[],[100],[],[],[],[100],[],[],[],[],[],[],[],[]] [[],[],[],[],[],[],[],[],[],[],[],[],[],[],[],[]] hoN hoL follows (by kernel_rfl) (by decide) (by decide) (by kernel_rfl) ?_
   simp only[zA,simprocAttr,so,rdR,rdC,X8 hkn,X7 hkn,Xoo,hk]
   repeat' (first|(with_reducible refine hK _ ?_;clear hK K)|with_reducible apply And.intro)
   refine X3 cU ?_
   simp only[zA,simprocAttr,so,rdC]
   repeat' (first|(with_reducible refine hK _ ?_;clear hK K)|with_reducible apply And.intro)
   repeat' (first|(with_reducible first|refine Vk fun K hK=> ?_|refine V0 ?_|refine Vs ?_|apply And.intro)|((with_reducible first|refine gE ?_|refine gR ?_);simp only[zA,simprocAttr,rdR,rdC,hk,X8 hkn,X7 hkn,Xa hkn,Xif,X0,hz])|exact Vn|((with_reducible refine Vz ?_);(first|refine Xu (.inr rfl) rfl rfl rfl (fun _ _=>rfl) ok28 (k:=n+0) (off:=0) rfl (Xb _ (by simp)) (X6 _ (Nat.le_refl _) 0) rfl ?_|refine Xu (.inr rfl) rfl rfl rfl (fun _ _=>rfl) ok28 (k:=m+0) (off:=0) rfl (Xb _ (by simp)) (X6 _ hm 0) rfl ?_)<;>first|rfl|exact AV.le.rfl _|(simp only[sL,ti28,List.map_nil,rdR,rdC,hk,X8 hkn,X7 hkn,Xa hkn,Xif,X0,Int.reduceBNe,hz];done)|rfl|skip)|((with_reducible refine Vg (fun hg=> ?_) (fun hg=> ?_))<;>(try simp only[nb] at hg)<;>simp only[zA,simprocAttr,hg,rdR,rdC,hk,X8 hkn,X7 hkn,Xa hkn,Xif,X0,hz])|(refine hK _ ?_;clear hK K)|refine Vt rfl ?_|refine Vf rfl ?_|refine Vi rfl (fun hg=> ?_) (fun hg=> ?_)|clear hK K)
  |some r=>
   obtain⟨rfl,rfl,rfl⟩:=u2 r hu
   have hl:=(Xxt hu hs).2
   obtain⟨X,y⟩:=r
   dsimp only at cU hl
   by_cases h0:X=[]∧e=true
   ·obtain⟨rfl,rfl⟩:=h0
    rw[Xud hu]
    clear u1 u2
    unfold Aq plA plC
    have bn:([]:List UInt8).length=0:=rfl
    refine Xc 1 Tryz.func30 rfl fun n out _ _=> ?_
    simp only[sn,Tryz.ntmps30,Nat.reduceAdd,Nat.reduceSub]
    rename_i hneeds hgv
    obtain⟨hk,_⟩:=hneeds
    obtain⟨hkn,_⟩:=hgv
    have hoN:[k].Nodup:=by simp
    have hoL:∀j,j∈[k]→j<n:=fun j hj=>by simp at hj;subst hj;exact hkn
    refine Vy fun K hK=> ?_
    simp only[zA,simprocAttr]
    repeat' (first|(with_reducible refine hK _ ?_;clear hK K)|with_reducible apply And.intro)
    refine Vk fun K hK=>Xik Xj [] [k] [[],[],[],[100],[],[],[],[100],[],[],[],[],[],[],[],[]] [[],[],[],[],[],[],[],[],[],[],[],[],[],[],[],[]] hoN hoL follows (by kernel_rfl) (by decide) (by decide) (by kernel_rfl) ?_
    simp only[zA,simprocAttr,so,rdR,rdC,X8 hkn,X7 hkn,Xoo,hk]
    repeat' (first|(with_reducible refine hK _ ?_;clear hK K)|with_reducible apply And.intro)
    refine X3 cU ?_
    simp only[zA,simprocAttr,so,rdC]
    repeat' (first|(with_reducible refine hK _ ?_;clear hK K)|with_reducible apply And.intro)
    repeat' (first|(with_reducible first|refine Vk fun K hK=> ?_|refine V0 ?_|refine Vs ?_|apply And.intro)|((with_reducible first|refine gE ?_|refine gR ?_);simp only[zA,simprocAttr,rdR,rdC,hk,X8 hkn,X7 hkn,Xa hkn,Xif,X0,X5,List.length_nil])|exact Vn|((with_reducible refine Vz ?_);(first|refine Xu (.inr rfl) rfl rfl rfl (fun _ _=>rfl) ok28 (k:=n+0) (off:=0) rfl (Xb _ (by simp)) (X6 _ (Nat.le_refl _) 0) rfl ?_|refine Xu (.inr rfl) rfl rfl rfl (fun _ _=>rfl) ok28 (k:=m+0) (off:=0) rfl (Xb _ (by simp)) (X6 _ hm 0) rfl ?_)<;>first|rfl|exact AV.le.rfl _|(simp only[sL,ti28,List.map_nil,rdR,rdC,hk,X8 hkn,X7 hkn,Xa hkn,Xif,X0,Int.reduceBNe,X5,List.length_nil];done)|rfl|skip)|((with_reducible refine Vg (fun hg=> ?_) (fun hg=> ?_))<;>(try simp only[nb] at hg)<;>simp only[zA,simprocAttr,hg,rdR,rdC,hk,X8 hkn,X7 hkn,Xa hkn,Xif,X0,X5,List.length_nil])|(refine hK _ ?_;clear hK K)|refine Vt rfl ?_|refine Vf rfl ?_|refine Vi rfl (fun hg=> ?_) (fun hg=> ?_)|clear hK K)
    exact Yd (Xu (.inr rfl) rfl rfl rfl (fun j _=>by rw[Jp];rfl) ok28 (k:=n+0) (off:=0) rfl (Xb _ (by simp)) (X6 _ (Nat.le_refl _) 0) rfl (by simp only[List.map_nil,ti28,sL]))
   ·rw[Xvf hu h0]
    have cp:=X2y X (by omega)
    clear u1 u2
    dsimp only
    have hX:((X.length:Int)==0&&e)=false:=by
     cases X with
     |nil=>cases e<;>simp_all
     |cons x l=>simp;omega
    cases hp:Z6 X with
    |true=>
     rw[hp] at cp
     simp only[if_true] at cp⊢
     generalize (V6 X).1=P at*
     simp only[plA,plC] at cp⊢
     cases hl0:((X.length:Int)==0) with
     |true=>
      rw[hl0,Bool.true_and] at hX
      subst hX
      refine Xc 1 Tryz.func30 rfl fun n out _ _=> ?_
      simp only[sn,Tryz.ntmps30,Nat.reduceAdd,Nat.reduceSub]
      rename_i hneeds hgv
      obtain⟨hk,_⟩:=hneeds
      obtain⟨hkn,_⟩:=hgv
      have hoN:[k].Nodup:=by simp
      have hoL:∀j,j∈[k]→j<n:=fun j hj=>by simp at hj;subst hj;exact hkn
      refine Vy fun K hK=> ?_
      simp only[zA,simprocAttr]
      repeat' (first|(with_reducible refine hK _ ?_;clear hK K)|with_reducible apply And.intro)
      refine Vk fun K hK=>Xik Xj [] [k] [[],[],[],[100],[],[],[],[100],[],[],[],[],[],[],[],[]] [[],[],[],[],[],[],[],[],[],[],[],[],[],[],[],[]] hoN hoL follows (by kernel_rfl) (by decide) (by decide) (by kernel_rfl) ?_
      simp only[zA,simprocAttr,so,rdR,rdC,X8 hkn,X7 hkn,Xoo,hk]
      repeat' (first|(with_reducible refine hK _ ?_;clear hK K)|with_reducible apply And.intro)
      refine X3 cU ?_
      simp only[zA,simprocAttr,so,rdC]
      repeat' (first|(with_reducible refine hK _ ?_;clear hK K)|with_reducible apply And.intro)
      repeat' (first|(with_reducible first|refine Vk fun K hK=> ?_|refine V0 ?_|refine Vs ?_|apply And.intro)|((with_reducible first|refine gE ?_|refine gR ?_);simp only[zA,simprocAttr,rdR,rdC,hk,X8 hkn,X7 hkn,Xa hkn,Xif,X0,X5,hl0])|exact Vn|((with_reducible refine Vz ?_);(first|refine Xu (.inr rfl) rfl rfl rfl (fun _ _=>rfl) ok28 (k:=n+0) (off:=0) rfl (Xb _ (by simp)) (X6 _ (Nat.le_refl _) 0) rfl ?_|refine Xu (.inr rfl) rfl rfl rfl (fun _ _=>rfl) ok28 (k:=m+0) (off:=0) rfl (Xb _ (by simp)) (X6 _ hm 0) rfl ?_)<;>first|rfl|exact AV.le.rfl _|(simp only[sL,ti28,List.map_nil,rdR,rdC,hk,X8 hkn,X7 hkn,Xa hkn,Xif,X0,Int.reduceBNe,X5,hl0];done)|rfl|skip)|(refine X3 (cp) ?_)|((with_reducible refine Vg (fun hg=> ?_) (fun hg=> ?_))<;>(try simp only[nb] at hg)<;>simp only[zA,simprocAttr,hg,rdR,rdC,hk,X8 hkn,X7 hkn,Xa hkn,Xif,X0,X5,hl0])|(refine hK _ ?_;clear hK K)|refine Vt rfl ?_|refine Vf rfl ?_|refine Vi rfl (fun hg=> ?_) (fun hg=> ?_)|clear hK K)
      exact Yd (Xu (.inr rfl) rfl rfl rfl (fun j _=>by rw[Jp,Jp];rfl) ok28 (k:=n+0) (off:=0) rfl (Xb _ (by simp)) (X6 _ (Nat.le_refl _) 0) rfl (.rfl _))
     |false=>
      refine Xc 1 Tryz.func30 rfl fun n out _ _=> ?_
      simp only[sn,Tryz.ntmps30,Nat.reduceAdd,Nat.reduceSub]
      rename_i hneeds hgv
      obtain⟨hk,_⟩:=hneeds
      obtain⟨hkn,_⟩:=hgv
      have hoN:[k].Nodup:=by simp
      have hoL:∀j,j∈[k]→j<n:=fun j hj=>by simp at hj;subst hj;exact hkn
      refine Vy fun K hK=> ?_
      simp only[zA,simprocAttr]
      repeat' (first|(with_reducible refine hK _ ?_;clear hK K)|with_reducible apply And.intro)
      refine Vk fun K hK=>Xik Xj [] [k] [[],[],[],[100],[],[],[],[100],[],[],[],[],[],[],[],[]] [[],[],[],[],[],[],[],[],[],[],[],[],[],[],[],[]] hoN hoL follows (by kernel_rfl) (by decide) (by decide) (by kernel_rfl) ?_
      simp only[zA,simprocAttr,so,rdR,rdC,X8 hkn,X7 hkn,Xoo,hk]
      repeat' (first|(with_reducible refine hK _ ?_;clear hK K)|with_reducible apply And.intro)
      refine X3 cU ?_
      simp only[zA,simprocAttr,so,rdC]
      repeat' (first|(with_reducible refine hK _ ?_;clear hK K)|with_reducible apply And.intro)
      repeat' (first|(with_reducible first|refine Vk fun K hK=> ?_|refine V0 ?_|refine Vs ?_|apply And.intro)|((with_reducible first|refine gE ?_|refine gR ?_);simp only[zA,simprocAttr,rdR,rdC,hk,X8 hkn,X7 hkn,Xa hkn,Xif,X0,X5,hl0])|exact Vn|((with_reducible refine Vz ?_);(first|refine Xu (.inr rfl) rfl rfl rfl (fun _ _=>rfl) ok28 (k:=n+0) (off:=0) rfl (Xb _ (by simp)) (X6 _ (Nat.le_refl _) 0) rfl ?_|refine Xu (.inr rfl) rfl rfl rfl (fun _ _=>rfl) ok28 (k:=m+0) (off:=0) rfl (Xb _ (by simp)) (X6 _ hm 0) rfl ?_)<;>first|rfl|exact AV.le.rfl _|(simp only[sL,ti28,List.map_nil,rdR,rdC,hk,X8 hkn,X7 hkn,Xa hkn,Xif,X0,Int.reduceBNe,X5,hl0];done)|rfl|skip)|(refine X3 (cp) ?_)|((with_reducible refine Vg (fun hg=> ?_) (fun hg=> ?_))<;>(try simp only[nb] at hg)<;>simp only[zA,simprocAttr,hg,rdR,rdC,hk,X8 hkn,X7 hkn,Xa hkn,Xif,X0,X5,hl0])|(refine hK _ ?_;clear hK K)|refine Vt rfl ?_|refine Vf rfl ?_|refine Vi rfl (fun hg=> ?_) (fun hg=> ?_)|clear hK K)
      exact Yd (Xu (.inr rfl) rfl rfl rfl (fun j _=>by rw[Jp,Jp];rfl) ok28 (k:=n+0) (off:=0) rfl (Xb _ (by simp)) (X6 _ (Nat.le_refl _) 0) rfl (.rfl _))
    |false=>
     rw[hp] at cp
     simp only[Bool.false_eq_true,if_false,plA,plC,Aq,List.map_nil] at cp⊢
     cases hl0:((X.length:Int)==0) with
     |true=>
      rw[hl0,Bool.true_and] at hX
      subst hX
      refine Xc 1 Tryz.func30 rfl fun n out _ _=> ?_
      simp only[sn,Tryz.ntmps30,Nat.reduceAdd,Nat.reduceSub]
      rename_i hneeds hgv
      obtain⟨hk,_⟩:=hneeds
      obtain⟨hkn,_⟩:=hgv
      have hoN:[k].Nodup:=by simp
      have hoL:∀j,j∈[k]→j<n:=fun j hj=>by simp at hj;subst hj;exact hkn
      refine Vy fun K hK=> ?_
      simp only[zA,simprocAttr]
      repeat' (first|(with_reducible refine hK _ ?_;clear hK K)|with_reducible apply And.intro)
      refine Vk fun K hK=>Xik Xj [] [k] [[],[],[],[100],[],[],[],[100],[],[],[],[],[],[],[],[]] [[],[],[],[],[],[],[],[],[],[],[],[],[],[],[],[]] hoN hoL follows (by kernel_rfl) (by decide) (by decide) (by kernel_rfl) ?_
      simp only[zA,simprocAttr,so,rdR,rdC,X8 hkn,X7 hkn,Xoo,hk]
      repeat' (first|(with_reducible refine hK _ ?_;clear hK K)|with_reducible apply And.intro)
      refine X3 cU ?_
      simp only[zA,simprocAttr,so,rdC]
      repeat' (first|(with_reducible refine hK _ ?_;clear hK K)|with_reducible apply And.intro)
      repeat' (first|(with_reducible first|refine Vk fun K hK=> ?_|refine V0 ?_|refine Vs ?_|apply And.intro)|((with_reducible first|refine gE ?_|refine gR ?_);simp only[zA,simprocAttr,rdR,rdC,hk,X8 hkn,X7 hkn,Xa hkn,Xif,X0,X5,hl0])|exact Vn|((with_reducible refine Vz ?_);(first|refine Xu (.inr rfl) rfl rfl rfl (fun _ _=>rfl) ok28 (k:=n+0) (off:=0) rfl (Xb _ (by simp)) (X6 _ (Nat.le_refl _) 0) rfl ?_|refine Xu (.inr rfl) rfl rfl rfl (fun _ _=>rfl) ok28 (k:=m+0) (off:=0) rfl (Xb _ (by simp)) (X6 _ hm 0) rfl ?_)<;>first|rfl|exact AV.le.rfl _|(simp only[sL,ti28,List.map_nil,rdR,rdC,hk,X8 hkn,X7 hkn,Xa hkn,Xif,X0,Int.reduceBNe,X5,hl0];done)|rfl|skip)|(refine X3 (cp) ?_)|((with_reducible refine Vg (fun hg=> ?_) (fun hg=> ?_))<;>(try simp only[nb] at hg)<;>simp only[zA,simprocAttr,hg,rdR,rdC,hk,X8 hkn,X7 hkn,Xa hkn,Xif,X0,X5,hl0])|(refine hK _ ?_;clear hK K)|refine Vt rfl ?_|refine Vf rfl ?_|refine Vi rfl (fun hg=> ?_) (fun hg=> ?_)|clear hK K)
      exact Yd (Xu (.inr rfl) rfl rfl rfl (fun j _=>by rw[Jp,Jp];rfl) ok28 (k:=n+0) (off:=0) rfl (Xb _ (by simp)) (X6 _ (Nat.le_refl _) 0) rfl (by simp only[List.map_nil,ti28,sL]))
     |false=>
      refine Xc 1 Tryz.func30 rfl fun n out _ _=> ?_
      simp only[sn,Tryz.ntmps30,Nat.reduceAdd,Nat.reduceSub]
      rename_i hneeds hgv
      obtain⟨hk,_⟩:=hneeds
      obtain⟨hkn,_⟩:=hgv
      have hoN:[k].Nodup:=by simp
      have hoL:∀j,j∈[k]→j<n:=fun j hj=>by simp at hj;subst hj;exact hkn
      refine Vy fun K hK=> ?_
      simp only[zA,simprocAttr]
      repeat' (first|(with_reducible refine hK _ ?_;clear hK K)|with_reducible apply And.intro)
      refine Vk fun K hK=>Xik Xj [] [k] [[],[],[],[100],[],[],[],[100],[],[],[],[],[],[],[],[]] [[],[],[],[],[],[],[],[],[],[],[],[],[],[],[],[]] hoN hoL follows (by kernel_rfl) (by decide) (by decide) (by kernel_rfl) ?_
      simp only[zA,simprocAttr,so,rdR,rdC,X8 hkn,X7 hkn,Xoo,hk]
      repeat' (first|(with_reducible refine hK _ ?_;clear hK K)|with_reducible apply And.intro)
      refine X3 cU ?_
      simp only[zA,simprocAttr,so,rdC]
      repeat' (first|(with_reducible refine hK _ ?_;clear hK K)|with_reducible apply And.intro)
      repeat' (first|(with_reducible first|refine Vk fun K hK=> ?_|refine V0 ?_|refine Vs ?_|apply And.intro)|((with_reducible first|refine gE ?_|refine gR ?_);simp only[zA,simprocAttr,rdR,rdC,hk,X8 hkn,X7 hkn,Xa hkn,Xif,X0,X5,hl0])|exact Vn|((with_reducible refine Vz ?_);(first|refine Xu (.inr rfl) rfl rfl rfl (fun _ _=>rfl) ok28 (k:=n+0) (off:=0) rfl (Xb _ (by simp)) (X6 _ (Nat.le_refl _) 0) rfl ?_|refine Xu (.inr rfl) rfl rfl rfl (fun _ _=>rfl) ok28 (k:=m+0) (off:=0) rfl (Xb _ (by simp)) (X6 _ hm 0) rfl ?_)<;>first|rfl|exact AV.le.rfl _|(simp only[sL,ti28,List.map_nil,rdR,rdC,hk,X8 hkn,X7 hkn,Xa hkn,Xif,X0,Int.reduceBNe,X5,hl0];done)|rfl|skip)|(refine X3 (cp) ?_)|((with_reducible refine Vg (fun hg=> ?_) (fun hg=> ?_))<;>(try simp only[nb] at hg)<;>simp only[zA,simprocAttr,hg,rdR,rdC,hk,X8 hkn,X7 hkn,Xa hkn,Xif,X0,X5,hl0])|(refine hK _ ?_;clear hK K)|refine Vt rfl ?_|refine Vf rfl ?_|refine Vi rfl (fun hg=> ?_) (fun hg=> ?_)|clear hK K)
      exact Yd (Xu (.inr rfl) rfl rfl rfl (fun j _=>by rw[Jp,Jp];rfl) ok28 (k:=n+0) (off:=0) rfl (Xb _ (by simp)) (X6 _ (Nat.le_refl _) 0) rfl (by simp only[List.map_nil,ti28,sL]))
end Go.Proofs.YtdngdjbgmojcoaaGreat.Pln
