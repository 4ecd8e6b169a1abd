/- The layer of abstract values, joined. -/
import Derived.Test.YtjgbbjooeibppaaZD2
import Derived.Test.YtjgbbjooeibppaaZE8
import Derived.Test.YtjgbbjooeibppaaZE4
namespace Go.Proofs.Ytjgbbjooeibppaa
set_option linter.unusedSimpArgs false
set_option linter.unusedVariables false
set_option maxHeartbeats 8000000
set_option maxRecDepth 8000
open Go Go.VS Tab
theorem Ts (B:Nat) (d:Dsk) (r:Rc) (h1:d.sectors.length≤1000) (h2:d.waits.length≤1000):Xr Try.prog 22 [Y3p d,rcA r] (Xev B (Xh9 (Y4e d r))) (.tup [.agg (Xjr B (Y4e d r)),i64 (Y4o d r)]) (Y62 B (Xh9 (Y4e d r))):=by
 by_cases hE:Y4o d r=0
 ·obtain⟨hm,h0,hl,h256⟩:=Y5h.1 hE
  have cc:=Xjg d h1 h2
  rw[hm,if_pos rfl] at cc
  have csl:=Y8s r.gen
  have hg:=(Y57 r.gen).trans (decide_eq_false h0)
  have hgt:decide ((r.text.length:Int)>1882)=false:=decide_eq_false (by omega)
  have cs:=Y6t r (by omega)
  simp only[rcA,rcC] at cs
  simp only[Y3p,Xha] at cc
  have hmy:=Y48 hl
  have hmp:=Y9o r
  have hsl:=Y50 r.gen
  obtain⟨X,hX⟩:∃X,X=Y4e d r:=⟨_,rfl⟩
  have hXs:stP d r (Y3n r)=X:=by
   rw[hX]
   unfold Y4e stP
   rw[if_pos hE,List.take_of_length_le (by rw[Y3z];exact Nat.le_refl _)]
  rw[← hX,hE]
  obtain⟨D,hD⟩:∃D:Nat→List AV,D=fun i=>if i<Y3n r then Xha (stP d r i) else Xjr B X:=⟨_,rfl⟩
  have D1:∀i,i<Y3n r→D i=[.sl 1 ((stP d r i).sectors.map Y6) .sh,.sl 2 ((stP d r i).waits.map wrC) .sh]:=fun i h=>by rw[hD];exact if_pos h
  have D2:D (Y3n r)=[.sl 1 (Xhn B X) .sh,.sl 2 (Xhh B X) .sh]:=by rw[hD];exact if_neg (Nat.lt_irrefl _)
  clear hD
  simp only[Xjr]
  refine Xc 3 Try.func22 rfl fun n out _ _=> ?_
  simp only[Try.ntmps22,List.length_cons,List.length_nil,List.length_map,List.length_replicate,Xf,Nat.reduceAdd,Nat.reduceSub,List.replicate,List.cons_append,List.nil_append]
  rename_i hkf hkg
  obtain⟨O,hO⟩:∃O:Nat→Nat→Option Res,O=fun i=>if i<Y3n r then out else ofL out B (Xh9 X):=⟨_,rfl⟩
  have O1:∀i,i<Y3n r→O i=out:=fun i h=>by rw[hO];exact if_pos h
  have O2:O (Y3n r)=ofL out B (Xh9 X):=by rw[hO];exact if_neg (Nat.lt_irrefl _)
  clear hO
  have hoA:Xj1 n [(B,(Xh9 X).length)]:=Xkp (Xih hkg (Xhv X))
  repeat' (first|(with_reducible first|refine Vk fun K hK=> ?_|refine V0 ?_|refine Vb ?_|refine Vc ?_|refine Vr ?_|refine Vs ?_|apply And.intro|refine Vq (by kernel_rfl) ?_)|((with_reducible first|refine gE ?_|refine gR ?_);simp (maxSteps:=9^7) only[ss,X1,tab,simprocAttr, -List.reduceReplicate,Y3p,Xha,rcA,rcC,hg,X5,hgt,List.length_map,Y3t])|exact Vn|((with_reducible refine Vz ?_);(first|refine Xp (.inr rfl) rfl rfl rfl (fun _ _=>rfl) ok43 (k:=n+2) (off:=0) rfl (Xb _ (by simp)) (X6 _ (Nat.le_refl _) 2) rfl rfl ?_|refine Xp (.inr rfl) rfl rfl rfl (fun _ _=>rfl) ok43 (k:=m+2) (off:=0) rfl (Xb _ (by simp)) (X6 _ hm 2) rfl rfl ?_)<;>first|rfl|exact AV.le.rfl _|(simp only[X4,sl,ti43,List.map_nil,Y3p,Xha,rcA,rcC,Int.reduceBNe,hg,X5,hgt,List.length_map,Y3t];done)|rfl|skip)|(refine X3 (cc) ?_)|(refine X3 (cs) ?_)|((with_reducible refine Vx ?_);simp only[sb,reduceIte,Nat.reduceEqDiff])|(refine hK _ ?_;clear hK K)|refine Vt rfl ?_|refine Vf rfl ?_|refine Vi rfl (fun hg=> ?_) (fun hg=> ?_)|clear hK K)
  refine Xe ?_
  refine Xz (fun i:Nat=>[(30,i64 (i:Int)),(5,.top),(6,.top),(7,.top),(8,.top),(31,.top),(32,.top),(33,.top),(34,.top),(35,.top),(36,.top),(37,.top),(38,.top),(39,.top),(40,.top),(41,.top),(42,.top),(43,.top),(44,.top),(45,.top),(46,.top),(47,.top),(48,.top),(49,.top),(50,.top)]) (fun i=>[some (.box 43 (D i)),some (.box 60 [w32 r.gen,bs r.text]),some (.box 43 [.sl 0 [] .nil,.sl 0 [] .nil])]) (fun i=>O i) (fun i=>i≤(Y3n r)) (fun i=>(Y3n r) - i) 0 (Nat.zero_le _) ?_ fun i hi=> ?_
  ·refine X2 ?_ ?_ (by first|rfl|(simp only[D1 0 hmp,O1 0 hmp,Yaw];rfl)|simp only[D1 0 hmp,O1 0 hmp,Yaw]) rfl rfl rfl<;>simp only[X4,sl,D1 0 hmp,O1 0 hmp,Yaw]
  simp only[X4,s_0,s_s]
  have hw:=Yl (n:=i) 1 1 rfl (by omega)
  by_cases hlt:i<Y3n r
  ·have hlt':(i:Int)<(Y3n r:Int):=by omega
   have hE:=Y82 hm hmy hlt (by omega)
   rw[if_neg (by omega)] at hE
   have hDw:Xhr (stP d r i) ((Y3q r.gen+i:Nat):Int) (Xgh r i)=stP d r (i+1):=by unfold Xhr;rw[hE,if_pos rfl,Y9y d r hlt]
   have gi:=Xg Y6 (Y3v r) i [] (by rw[Y3t];exact hlt)
   have gs:(Y3v r)[i]'(by rw[Y3t];exact hlt)=Xgh r i:=by
    rw[← Y5v r hlt];simp [List.getD_eq_getElem?_getD,Y3t,hlt]
   rw[gs] at gi
   have hws:=Yl (n:=Y3q r.gen) (i:Int) i rfl (by omega)
   have hsm:=Y3x (Y8j hm hmy (Nat.le_of_lt hlt) (by omega))
   rw[D1 i hlt,O1 i hlt]
   by_cases hlast:i+1=Y3n r
   ·have cw:=Xms B (stP d r i) ((Y3q r.gen+i:Nat):Int) (Xgh r i) hsm (by rw[Y4z r hlt];decide)
    rw[hE,hDw,hlast,hXs] at cw
    simp only[Y3p,Xha,Xjr] at cw
    repeat' (first|(with_reducible first|refine Vk fun K hK=> ?_|refine V0 ?_|refine Vb ?_|refine Vc ?_|refine Vr ?_|refine Vs ?_|apply And.intro)|((with_reducible first|refine gE ?_|refine gR ?_);simp (maxSteps:=9^7) only[ss,X1,tab,simprocAttr, -List.reduceReplicate,List.length_map,Y3t,hlt',gi,Y6])|exact Vn|((with_reducible refine Vz ?_);(first|refine Xp (.inr rfl) rfl rfl rfl (fun _ _=>rfl) ok43 (k:=n+2) (off:=0) rfl (Xb _ (by simp)) (X6 _ (Nat.le_refl _) 2) rfl rfl ?_|refine Xp (.inr rfl) rfl rfl rfl (fun _ _=>rfl) ok43 (k:=m+2) (off:=0) rfl (Xb _ (by simp)) (X6 _ hm 2) rfl rfl ?_)<;>first|rfl|exact AV.le.rfl _|(simp only[X4,sl,ti43,List.map_nil,List.length_map,Y3t,hlt',gi,Y6];done)|rfl|skip)|((with_reducible refine Vx ?_);simp only[sb,reduceIte,Nat.reduceEqDiff])|(refine hK _ ?_;clear hK K)|refine Vt rfl ?_|refine Vf rfl ?_|refine Vi rfl (fun hg=> ?_) (fun hg=> ?_)|clear hK K)
    ·omega
    refine Xib Xj [] [(B,(Xh9 X).length)] [[0],[],[1],[],[],[],[],[100],[],[],[],[0],[]] [[],[],[],[],[],[],[],[100],[],[],[],[0],[]] hoA follows (by kernel_rfl) (by decide) (by decide) (by kernel_rfl) ?_
    simp (maxSteps:=9^7) only[ss,X1,tab,simprocAttr, -List.reduceReplicate,sf,hws]
    refine X3 csl ?_
    simp (maxSteps:=9^7) only[ss,X1,tab,simprocAttr, -List.reduceReplicate,sf,hws]
    refine Xg1 cw ?_ ?_ ?_
    ·exact hkg
    ·exact Xix hkf (x:=100) (by decide) (by decide) rfl
    refine Xma (z:=100) ?_ ?_ ?_ ?_
    ·decide
    ·decide
    ·rfl
    rw[Xg7 hkg]
    simp (maxSteps:=9^7) only[ss,X1,tab,simprocAttr, -List.reduceReplicate,sf]
    repeat' (first|(with_reducible refine hK _ ?_;clear hK K)|with_reducible apply And.intro)
    repeat' (first|(with_reducible first|refine Vk fun K hK=> ?_|refine V0 ?_|refine Vb ?_|refine Vc ?_|refine Vr ?_|refine Vs ?_|apply And.intro|refine Vq (by kernel_rfl) ?_)|((with_reducible first|refine gE ?_|refine gR ?_);simp (maxSteps:=9^7) only[ss,X1,tab,simprocAttr, -List.reduceReplicate,hw])|exact Vn|((with_reducible refine Vz ?_);(first|refine Xp (.inr rfl) rfl rfl rfl (fun _ _=>rfl) ok43 (k:=n+2) (off:=0) rfl (Xb _ (by simp)) (X6 _ (Nat.le_refl _) 2) rfl rfl ?_|refine Xp (.inr rfl) rfl rfl rfl (fun _ _=>rfl) ok43 (k:=m+2) (off:=0) rfl (Xb _ (by simp)) (X6 _ hm 2) rfl rfl ?_)<;>first|rfl|exact AV.le.rfl _|(simp only[X4,sl,ti43,List.map_nil,Int.reduceBNe,hw];done)|rfl|skip)|((with_reducible refine Vx ?_);simp only[sb,reduceIte,Nat.reduceEqDiff])|(refine hK _ ?_;clear hK K)|refine Vt rfl ?_|refine Vf rfl ?_|refine Vi rfl (fun hg=> ?_) (fun hg=> ?_)|clear hK K)
    refine⟨i+1,by omega,by omega,?_⟩
    rw[hlast,D2,O2]
    refine X2 ?_ ?_ rfl rfl rfl rfl<;>simp only[X4,sl,hlast,hlt',decide_true]
   ·have hlt1:i+1<Y3n r:=by omega
    have cw:=Xdu (stP d r i) ((Y3q r.gen+i:Nat):Int) (Xgh r i) hsm (by rw[Y4z r hlt];decide)
    rw[hE,hDw] at cw
    simp only[Y3p,Xha] at cw
    repeat' (first|(with_reducible first|refine Vk fun K hK=> ?_|refine V0 ?_|refine Vb ?_|refine Vc ?_|refine Vr ?_|refine Vs ?_|apply And.intro|refine Vd 12 [] [[0],[],[1],[],[],[],[],[],[],[],[],[0],[]] [[],[],[],[],[],[],[],[],[],[],[],[0],[]] (by kernel_rfl) (by decide) (by decide) (by kernel_rfl) ?_|refine Vq (by kernel_rfl) ?_)|((with_reducible first|refine gE ?_|refine gR ?_|refine gD ?_|refine gF ?_);simp (maxSteps:=9^7) only[ss,X1,tab,simprocAttr, -List.reduceReplicate,List.length_map,Y3t,hlt',gi,Y6,hws,hw])|exact Vn|((with_reducible refine Vz ?_);(first|refine Xp (.inr rfl) rfl rfl rfl (fun _ _=>rfl) ok43 (k:=n+2) (off:=0) rfl (Xb _ (by simp)) (X6 _ (Nat.le_refl _) 2) rfl rfl ?_|refine Xp (.inr rfl) rfl rfl rfl (fun _ _=>rfl) ok43 (k:=m+2) (off:=0) rfl (Xb _ (by simp)) (X6 _ hm 2) rfl rfl ?_)<;>first|rfl|exact AV.le.rfl _|(simp only[X4,sl,ti43,List.map_nil,Int.reduceBNe,List.length_map,Y3t,hlt',gi,Y6,hws,hw];done)|rfl|skip)|(refine X3 (csl) ?_)|(refine X3 (cw) ?_)|((with_reducible refine Vx ?_);simp only[sb,reduceIte,Nat.reduceEqDiff])|(refine hK _ ?_;clear hK K)|refine Vt rfl ?_|refine Vf rfl ?_|refine Vi rfl (fun hg=> ?_) (fun hg=> ?_)|clear hK K)
    ·omega
    refine⟨i+1,by omega,by omega,?_⟩
    rw[D1 _ hlt1,O1 _ hlt1]
    refine X2 ?_ ?_ rfl rfl rfl rfl<;>simp only[X4,sl,hlt',decide_true]
  ·obtain rfl:i=Y3n r:=by omega
   rw[D2,O2]
   repeat' (first|(with_reducible first|refine Vk fun K hK=> ?_|refine V0 ?_|refine Vb ?_|refine Vc ?_|refine Vr ?_|refine Vs ?_|apply And.intro|refine Vq (by kernel_rfl) ?_)|((with_reducible first|refine gE ?_|refine gR ?_);simp (maxSteps:=9^7) only[ss,X1,tab,simprocAttr, -List.reduceReplicate,List.length_map,Y3t,hlt])|exact Vn|((with_reducible refine Vz ?_);(first|refine Xp (.inr rfl) rfl rfl rfl (fun _ _=>rfl) ok43 (k:=n+2) (off:=0) rfl (Xb _ (by simp)) (X6 _ (Nat.le_refl _) 2) rfl rfl ?_|refine Xp (.inr rfl) rfl rfl rfl (fun _ _=>rfl) ok43 (k:=m+2) (off:=0) rfl (Xb _ (by simp)) (X6 _ hm 2) rfl rfl ?_)<;>first|rfl|exact AV.le.rfl _|(simp only[X4,sl,ti43,List.map_nil,List.length_map,Y3t,hlt];done)|rfl|skip)|((with_reducible refine Vx ?_);simp only[sb,reduceIte,Nat.reduceEqDiff])|(refine hK _ ?_;clear hK K)|refine Vt rfl ?_|refine Vf rfl ?_|refine Vi rfl (fun hg=> ?_) (fun hg=> ?_)|clear hK K)
   refine Yd ?_
   refine Xp (.inr rfl) rfl rfl rfl (fun j _=>by rw[K3]) ok43 (k:=n+2) (off:=0) rfl (Xb _ (by simp)) (X6 _ (Nat.le_refl _) 2) rfl rfl ?_
   simp only[X4,sl]
 ·have e:Y4e d r=Xhm:=by unfold Y4e;rw[if_neg hE]
  have c:=Y83 d r h1 h2
  rw[e] at c⊢
  exact c
def C3 (b:Bool):BitVec 32:=if b then 0xedb88320 else 0
theorem C4 (w:BitVec 32):(w&&&1=1)↔w.getLsbD 0=true:=by
 constructor
 ·intro h
  have:=congrArg (fun x=>BitVec.getLsbD x 0) h
  simpa using this
 ·intro h
  refine BitVec.eq_of_getLsbD_eq fun i hi=> ?_
  rw[BitVec.getLsbD_and]
  by_cases h0:i=0
  ·subst h0;rw[h];rfl
  ·have:(1:BitVec 32).getLsbD i=false:=by
    show(BitVec.ofNat 32 1).getLsbD i=false
    rw[BitVec.getLsbD_ofNat]
    cases i with
    |zero=>exact absurd rfl h0
    |succ i=>simp [Nat.testBit_succ]
   rw[this,Bool.and_false]
theorem Wi (w:BitVec 32):Yar w=(w>>>1) ^^^ C3 (w.getLsbD 0):=by
 unfold Yar C3
 by_cases h:w&&&1=1
 ·rw[if_pos h,if_pos ((C4 w).1 h)]
 ·rw[if_neg h,if_neg fun e=>h ((C4 w).2 e)];exact BitVec.xor_zero.symm
theorem Is (a b:Bool):C3 (a ^^ b)=C3 a ^^^ C3 b:=by cases a<;>cases b<;>decide
theorem Ycr (a b:BitVec 32) (k:Nat):(a ^^^ b)>>>k=(a>>>k) ^^^ (b>>>k):=by
 refine BitVec.eq_of_getLsbD_eq fun i hi=> ?_
 simp only[BitVec.getLsbD_ushiftRight,BitVec.getLsbD_xor]
theorem A0 (a b:BitVec 32):Yar (a ^^^ b)=Yar a ^^^ Yar b:=by
 rw[Wi,Wi,Wi,BitVec.getLsbD_xor,Is,Ycr]
 ac_rfl
theorem Pl (a b:BitVec 32):∀k,Y4p (a ^^^ b) k=Y4p a k ^^^ Y4p b k
 |0=>rfl
 |k+1=>by rw[Y4p,Pl a b k,A0];rfl
theorem Li (a:BitVec 32):∀k,(∀i,i<k→a.getLsbD i=false)→Y4p a k=a>>>k
 |0,_=>by rw[Y4p,BitVec.ushiftRight_zero]
 |k+1,h=>by
  rw[Y4p,Li a k fun i hi=>h i (by omega),Wi,BitVec.getLsbD_ushiftRight,Nat.add_zero,h k (by omega),← BitVec.shiftRight_add]
  exact BitVec.xor_zero
theorem D0 (w:BitVec 32) (x:UInt8):Y4p (w ^^^ BitVec.ofNat 32 x.toNat) 8=(w>>>8) ^^^ Yas (UInt8.ofNat w.toNat ^^^ x).toNat:=by
 have lo:∀i,(BitVec.ofNat 32 (UInt8.ofNat w.toNat ^^^ x).toNat).getLsbD i=(decide (i<8)&&(w.getLsbD i ^^ x.toNat.testBit i)):=fun i=>by
  rw[UInt8.toNat_xor,BitVec.getLsbD_ofNat,Nat.testBit_xor,UInt8.toNat_ofNat',Nat.testBit_mod_two_pow,BitVec.testBit_toNat]
  by_cases h:i<8
  ·simp [h];omega
  ·have hx:x.toNat.testBit i=false:=Nat.testBit_lt_two_pow (Nat.lt_of_lt_of_le x.toNat_lt (Nat.pow_le_pow_right (n:=2) (by decide) (show 8≤i by omega)))
   simp [h,hx]
 have e:w ^^^ BitVec.ofNat 32 x.toNat=((w>>>8)<<<8) ^^^ BitVec.ofNat 32 (UInt8.ofNat w.toNat ^^^ x).toNat:=by
  refine BitVec.eq_of_getLsbD_eq fun i hi=> ?_
  rw[BitVec.getLsbD_xor,BitVec.getLsbD_xor,lo,BitVec.getLsbD_shiftLeft,BitVec.getLsbD_ushiftRight,BitVec.getLsbD_ofNat]
  by_cases h:i<8
  ·simp [h,hi]
  ·have hx:x.toNat.testBit i=false:=Nat.testBit_lt_two_pow (Nat.lt_of_lt_of_le x.toNat_lt (Nat.pow_le_pow_right (n:=2) (by decide) (show 8≤i by omega)))
   simp [h,hi,hx,show 8+(i - 8)=i by omega]
 rw[e,Pl,Li _ 8 fun i hi=>by simp [hi]]
 congr 1
 refine BitVec.eq_of_getLsbD_eq fun i hi=> ?_
 simp only[BitVec.getLsbD_ushiftRight,BitVec.getLsbD_shiftLeft]
 by_cases h:i<24
 ·simp [show 8+i<32 by omega]
 ·have hz:w.getLsbD (8+i)=false:=BitVec.getLsbD_of_ge _ _ (by omega)
  simp [show ¬8+i<32 by omega,hz]
def Zs:List UInt8→Nat
 |[]=>0
 |x::l=>x.toNat+256*Zs l
theorem Zl:∀(l:List UInt8),Zs l<256 ^ l.length
 |[]=>by decide
 |x::l=>by
  have h1:=Zl l
  have h2:=x.toNat_lt
  rw[Zs,List.length_cons,Nat.pow_succ]
  omega
theorem Ln:∀(l:List UInt8) (n:Nat),n<2 ^ 32→n % 256 ^ l.length=Zs l→Y40 (BitVec.ofNat 32 n) l.length=l
 |[],_,_,_=>rfl
 |x::l,n,hn,h=>by
  have h2:=x.toNat_lt
  rw[List.length_cons,Y40]
  rw[Zs,List.length_cons,Nat.pow_succ] at h
  have e0:n % 256=x.toNat:=by
   have:n % (256 ^ l.length*256) % 256=n % 256:=Nat.mod_mul_left_mod _ _ _
   rw[h] at this;omega
  have e1:n / 256 % 256 ^ l.length=Zs l:=by
   have:n % (256*256 ^ l.length) / 256=n / 256 % 256 ^ l.length:=Nat.mod_mul_right_div_self ..
   rw[Nat.mul_comm,h] at this;omega
  have hs:BitVec.ofNat 32 n>>>8=BitVec.ofNat 32 (n / 256):=by
   refine BitVec.eq_of_toNat_eq ?_
   rw[BitVec.toNat_ushiftRight,BitVec.toNat_ofNat,BitVec.toNat_ofNat,Nat.shiftRight_eq_div_pow,Nat.mod_eq_of_lt hn,Nat.mod_eq_of_lt (by omega)]
  rw[hs,Ln l (n / 256) (by omega) e1,BitVec.toNat_ofNat,Nat.mod_eq_of_lt hn]
  congr 1
  refine UInt8.toNat_inj.1 ?_
  rw[UInt8.toNat_ofNat'];exact e0
theorem Dl {l:List UInt8} (h:l.length=4):(Y55 l).toNat=Zs l:=by
 have hlt:=Zl l
 rw[h] at hlt
 have e:=Ln l (Zs l) (by omega) (Nat.mod_eq_of_lt (Zl l))
 rw[h] at e
 have g:=Y9m (BitVec.ofNat 32 (Zs l))
 rw[e] at g
 rw[g,BitVec.toNat_ofNat,Nat.mod_eq_of_lt (by omega)]
theorem Yda {l:List UInt8} (h:l.length=2):(Y55 l).toNat=Zs l:=by
 have hlt:=Zl l
 rw[h] at hlt
 have e:=Ln l (Zs l) (by omega) (Nat.mod_eq_of_lt (Zl l))
 rw[h] at e
 have g:=Y9n (n:=Zs l) (by omega)
 rw[e] at g
 rw[g,BitVec.toNat_ofNat,Nat.mod_eq_of_lt (by omega)]
theorem Dm (l:List UInt8) {i:Nat} (h:i<l.length):Zs (l.drop i)=l[i].toNat+256*Zs (l.drop (i+1)):=by
 rw[List.drop_eq_getElem_cons h];rfl
def Z2 (d:Dsk) (s m:Nat):Nat→Nat
 |0=>m
 |i+1=>max (max (Z2 d s m i) (Zs ((Xkr d ((s+i:Nat):Int)).take 4))) (Zs ((Xkr d ((s+i:Nat):Int)).drop 124))
theorem La {m n x:Nat} (h:m<x∧x≤m+2):max m n<Y44 n x∧Y44 n x≤max m n+2∧Y44 n x % 2=x % 2:=by
 unfold Y44
 split<;>omega
theorem Rd {d:Dsk} (hd:may d=true) {s:Nat} (hs:s≤16) (m:Nat):∀i,i≤16→Z2 d s m i<Y6r d s (m+1) i∧Y6r d s (m+1) i≤Z2 d s m i+2∧Y6r d s (m+1) i % 2=(m+1) % 2
 |0,_=>⟨Nat.lt_succ_self _,by show m+1≤m+2;omega,rfl⟩
 |i+1,hi=>by
  obtain⟨h1,h2,h3⟩:=Rd hd hs m i (by omega)
  have hl:=Y7i hd (show s+i<32 by omega)
  have e1:(Y8n (Xkr d ((s+i:Nat):Int))).toNat=Zs ((Xkr d ((s+i:Nat):Int)).take 4):=Dl (by rw[List.length_take];omega)
  have e2:(Ya0 (Xkr d ((s+i:Nat):Int))).toNat=Zs ((Xkr d ((s+i:Nat):Int)).drop 124):=Dl (by rw[List.length_drop];omega)
  rw[Y6r,Z2,e1,e2]
  obtain⟨g1,g2,g3⟩:=La (n:=Zs ((Xkr d ((s+i:Nat):Int)).take 4)) ⟨h1,h2⟩
  obtain⟨f1,f2,f3⟩:=La (n:=Zs ((Xkr d ((s+i:Nat):Int)).drop 124)) ⟨g1,g2⟩
  exact⟨f1,f2,by rw[f3,g3,h3]⟩
def Yd4 (d:Dsk) (g:BitVec 32):Nat:=Z2 d (Y3q (g+1)) g.toNat 16
theorem A2 (n:Nat):Y3q (BitVec.ofNat 32 n)=n % 2*16:=by
 unfold Y3q
 rw[BitVec.toNat_ofNat];omega
theorem A3 {d:Dsk} (hd:may d=true) (g:BitVec 32):Y68 d g=if Y3q (BitVec.ofNat 32 (Yd4 d g+1))=Y3q (g+1) then Yd4 d g+1 else Yd4 d g+2:=by
 obtain⟨h1,h2,h3⟩:=Rd hd (Y50 (g+1)) g.toNat 16 (Nat.le_refl _)
 rw[A2,P4]
 unfold Yd4 Y68
 generalize Y6r d (Y3q (g+1)) (g.toNat+1) 16=x at*
 generalize Z2 d (Y3q (g+1)) g.toNat 16=y at*
 split<;>omega
theorem Dn {d:Dsk} (hd:may d=true) {s:Nat} (hs:s≤16) {m:Nat} (hm:m<4294967296):∀i,i≤16→Z2 d s m i<4294967296
 |0,_=>hm
 |i+1,hi=>by
  have h:=Dn hd hs hm i (by omega)
  have hl:=Y7i hd (show s+i<32 by omega)
  have e1:=Zl ((Xkr d ((s+i:Nat):Int)).take 4)
  have e2:=Zl ((Xkr d ((s+i:Nat):Int)).drop 124)
  rw[List.length_take,show min 4 (Xkr d ((s+i:Nat):Int)).length=4 by omega] at e1
  rw[List.length_drop,show(Xkr d ((s+i:Nat):Int)).length - 124=4 by omega] at e2
  rw[Z2]
  omega
end Go.Proofs.Ytjgbbjooeibppaa
