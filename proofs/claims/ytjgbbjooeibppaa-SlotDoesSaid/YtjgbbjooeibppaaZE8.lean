/- The layer of abstract values, joined. -/
import Derived.Test.YtjgbbjooeibppaaZD2
import Derived.Test.YtjgbbjooeibppaaZF1
import Derived.Test.YtjgbbjooeibppaaZD27
import Derived.Test.YtjgbbjooeibppaaZE7
namespace Go.Proofs.Ytjgbbjooeibppaa
set_option linter.unusedSimpArgs false
set_option linter.unusedVariables false
set_option maxHeartbeats 8000000
set_option maxRecDepth 8000
open Go Go.VS Tab
def Xh9 (d:Dsk):List (Option Res):=Xj5 d.sectors++Xkq d.waits
def Xhn (K:Nat) (d:Dsk):List (List AV):=d.sectors.mapIdx fun i x=>scB (K+i) x
def Xhh (K:Nat) (d:Dsk):List (List AV):=d.waits.mapIdx fun i x=>wrB (K+d.sectors.length+i) x
def Xjr (K:Nat) (d:Dsk):List AV:=[.sl 1 (Xhn K d) .sh,.sl 2 (Xhh K d) .sh]
theorem Xk6 (d:Dsk):(Xh9 d).length=d.sectors.length+d.waits.length:=by simp [Xh9,Xj5,Xkq]
theorem Xhv (d:Dsk):∀x,x∈Xh9 d→x≠none:=fun x hx=>by
 simp only[Xh9,Xj5,Xkq,List.mem_append,List.mem_map] at hx
 rcases hx with ⟨_,_,rfl⟩|⟨_,_,rfl⟩<;>simp
theorem Xlm (d:Dsk) (a:Int) (b:List UInt8):Xh9 (Xjh d a b)=Xh9 d++[some (Xi2 b)]:=by
 simp [Xh9,Xjh,Xkq]
theorem Xky (k B:Nat) (d:Dsk) (hkK:k<B∨B+(Xh9 d).length≤k) (hd:Small d):Xr Try.prog 16 [Y3p d] ((k,none)::Xev B (Xh9 d)) (.agg [.sl 1 (Xhn B d) .sh,.sl 2 (Xhh B d) (.own k)]) ((k,.row 76 2 d.waits.length)::Y62 B (Xh9 d)):=by
 have hds:=hd.s
 have hdw:=hd.w
 have hB:Xd Try.prog 57=True:=hb0 _ (by decide) (by decide)
 have hT:Xd Try.prog 59=True:=hb0 _ (by decide) (by decide)
 refine Xc 4 Try.func16 rfl fun n out _ _=> ?_
 simp only[Try.ntmps16,List.length_cons,List.length_nil,List.length_map,List.length_replicate,Xf,Nat.reduceAdd,Nat.reduceSub,List.replicate,List.cons_append,List.nil_append]
 rename_i hneeds hgv
 obtain⟨hk0,hkf⟩:=hneeds
 obtain⟨hkn,hkg⟩:=hgv
 have hlt:=Xih hkg (Xhv d)
 rw[Xk6] at hlt hkK
 have hk1:n+2<B∨B+d.sectors.length≤n+2:=by have:=hlt (d.sectors.length - 1);omega
 have hk2:n+3<B+d.sectors.length∨B+d.sectors.length+d.waits.length≤n+3:=by have:=hlt (d.sectors.length+d.waits.length - 1);omega
 have hoA:Xj1 n [(B,d.sectors.length),(B+d.sectors.length,d.waits.length)]:=Xmf hlt
 rw[Xh9,Xj9,Xhk,Xji] at hkf
 rw[Xh9,Xja,Xhk,Xiq] at hkg
 have c1:=Xkj (n+2) B d.sectors 57 hk1 hB (by omega) fun x hx k=>Xk4 k x (by have:=hd.sb x hx;omega)
 have c2:=Xll (n+3) (B+d.sectors.length) d.waits 59 hk2 hT (by omega) fun x hx k=>Xle k x (by have:=hd.wb x hx;omega)
 have e1:(d.sectors.mapIdx fun i x=>scB (B+i) x)=Xhn B d:=rfl
 have e2:(d.waits.mapIdx fun i x=>wrB (B+d.sectors.length+i) x)=Xhh B d:=rfl
 rw[e1] at c1
 rw[e2] at c2
 refine X9 fun K hK=>Xn Xj [] ?_
 simp (maxSteps:=9^7) only[ss,X1,tab,simprocAttr, -List.reduceReplicate,Y3p,Xha]
 repeat' (first|(with_reducible refine hK _ ?_;clear hK K)|with_reducible apply And.intro)
 refine X9 fun K hK=>Xib Xj [] [(B,d.sectors.length),(B+d.sectors.length,d.waits.length)] [[],[0],[2,100],[],[0],[3,101],[],[1]] [[],[],[2,100],[],[],[3,101],[],[1]] hoA follows (by kernel_rfl) (by decide) (by decide) (by kernel_rfl) ?_
 simp (maxSteps:=9^7) only[ss,X1,tab,simprocAttr, -List.reduceReplicate,sf,hB,hT]
 repeat' (first|(with_reducible refine hK _ ?_;clear hK K)|with_reducible apply And.intro)
 refine Xhu c1 (X6 _ (Nat.le_refl _) 2) (Xb _ (by simp)) hkg.1 (Xix hkf.1 (x:=100) (by decide) (by decide) (by rw[Xhk];rfl)) ?_
 refine Xjp (z:=100) (by decide) (by decide) (by decide) (by decide) (by rw[Xhk];rfl) (Nat.le_refl _) hkg.1 ?_
 rw[Xg7 hkg.1]
 simp (maxSteps:=9^7) only[ss,X1,tab,simprocAttr, -List.reduceReplicate,sf,hB,hT]
 refine Xhu c2 (X6 _ (Nat.le_refl _) 3) (Xb _ (by simp)) hkg.2 (Xix (Xm9 hkf.2 (.inr (by rw[Xhk];exact Nat.le_refl _))) (x:=101) (by decide) (by decide) (by rw[Xjb];rfl)) ?_
 refine Xjp (z:=101) (by decide) (by decide) (by decide) (by decide) (by rw[Xjb];rfl) (Nat.le_refl _) hkg.2 ?_
 rw[Xg7 hkg.2]
 simp (maxSteps:=9^7) only[ss,X1,tab,simprocAttr, -List.reduceReplicate,sf]
 repeat' (first|(with_reducible refine hK _ ?_;clear hK K)|with_reducible apply And.intro)
 have hk:ofL (ofL out B (Xj5 d.sectors)) (B+d.sectors.length) (Xkq d.waits) k=none:=by
  rw[Xge (by rw[Xjb];omega),Xge (by rw[Xhk];omega)];exact hk0
 have hou:Xw (ofL (ofL out B (Xj5 d.sectors)) (B+d.sectors.length) (Xkq d.waits)) k (.row 76 2 d.waits.length)=upd out ((k,.row 76 2 d.waits.length)::Y62 B (Xh9 d)):=by
  rw[Zc,K3,Xh9,← Xnb,Xhk,Xj8 (by rw[Xhk];omega),Xj8 (by rw[Xjb];omega)]
 refine Yy (Ja (i:=3) (k:=k) rfl (by exact hkn) (by exact hk)) ?_
 simp only[List.map_cons,List.map_nil,Option.map_some,Option.map_none,Res.ren1,AV.ren1,Nat.add_left_cancel_iff,Nat.reduceEqDiff,Nat.one_ne_zero,reduceIte,Xoe,s_0,s_s]
 rw[hou]
 refine Yd ?_
 exact Xu (.inr rfl) rfl rfl rfl (fun _ _=>rfl) ok43 (k:=n+1) (off:=0) rfl (Xb _ (by simp)) (X6 _ (Nat.le_refl _) 1) rfl (by simp only[X4,sl])
theorem Xmp (B:Nat) (d:Dsk) (at':Int) (b:List UInt8) (hd:Small d) (hE:Xbb d at' b=0):Xr Try.prog 17 [Y3p d,i64 at',bs b] (Xev B (Xh9 (Xjh d at' b))) (.tup [.agg (Xjr B (Xjh d at' b)),i64 0]) (Y62 B (Xh9 (Xjh d at' b))):=by
 have hds:=hd.s
 have hdw:=hd.w
 obtain⟨hm,hat,hb,hw⟩:may d=true∧(decide (0≤at')&&decide (at'<32))=true∧b.length=128∧d.waits.length≠256:=by
  unfold Xbb at hE
  cases h1:may d<;>cases h2:(decide (0≤at')&&decide (at'<32))<;>rw[h1,h2] at hE<;>simp at hE⊢
  by_cases h3:b.length=128
  ·by_cases h4:d.waits.length=256
   ·simp [h3,h4] at hE
   ·exact⟨h3,h4⟩
  ·simp [h3] at hE
 have cb1:=Xht at' 32
 rw[hat] at cb1
 have ca:=Xiw d true hd.s hd.w
 rw[hm] at ca
 simp only[if_true,Y3p,Xha] at ca
 have g1:((b.length:Int) !=128)=false:=by simp;omega
 have g2:((d.waits.length:Int)==256)=false:=by simp;omega
 have cw:=fun k:Nat=>Xle k (Wr.mk at' b) (by show b.length≤ _;omega)
 simp only[wrA,wrC] at cw
 obtain⟨W,hW⟩:∃W,W=Xhh B d:=⟨_,rfl⟩
 have hWl:W.length=d.waits.length:=by rw[hW];simp [Xhh]
 have eW:Xhh B (Xjh d at' b)=W++[wrB (B+(Xh9 d).length) ⟨at',b⟩]:=by
  rw[hW,Xk6]
  show(d.waits++[Wr.mk at' b]).mapIdx (fun i x=>wrB (B+d.sectors.length+i) x)= _
  rw[List.mapIdx_append]
  show _++[wrB (B+d.sectors.length+(0+d.waits.length)) ⟨at',b⟩]= _
  rw[Nat.zero_add,Nat.add_assoc]
  rfl
 have eS:Xhn B (Xjh d at' b)=Xhn B d:=rfl
 rw[Xlm,Xj9,Xja]
 refine Xc 3 Try.func17 rfl fun n out _ _=> ?_
 simp only[Try.ntmps17,List.length_cons,List.length_nil,List.length_map,List.length_replicate,Xf,Nat.reduceAdd,Nat.reduceSub,List.replicate,List.cons_append,List.nil_append]
 rename_i hneeds hgv
 rw[Xji] at hneeds
 rw[Xiq] at hgv
 obtain⟨hkf,hk1⟩:=hneeds
 obtain⟨hkg,hk2⟩:=hgv
 have hKn:B+(Xh9 d).length<n:=hk2.1
 have hKN:out (B+(Xh9 d).length)=none:=hk1.1
 have hltK:=Xih hkg (Xhv d)
 have ct:=Xky (n+2) B d (by have:=hltK ((Xh9 d).length - 1);omega) hd
 simp only[Y3p,Xha] at ct
 obtain⟨Z,hZ⟩:∃Z,Z=B+(Xh9 d).length:=⟨_,rfl⟩
 rw[← hZ] at hKn hKN eW⊢
 have hoA:Xj1 n [(Z,1)]:=Xkp fun j hj=>by omega
 repeat' (first|(with_reducible first|refine Vk fun K hK=> ?_|refine V0 ?_|refine Vs ?_|apply And.intro|refine Vq (by kernel_rfl) ?_)|((with_reducible first|refine gE ?_|refine gR ?_);simp (maxSteps:=9^7) only[ss,X1,tab,simprocAttr, -List.reduceReplicate,Y3p,Xha,X5,List.length_map,g1,g2])|exact Vn|((with_reducible refine Vz ?_);(first|refine Xp (.inr rfl) rfl rfl rfl (fun _ _=>rfl) ok43 (k:=n+1) (off:=0) rfl (Xb _ (by simp)) (X6 _ (Nat.le_refl _) 1) rfl rfl ?_|refine Xp (.inr rfl) rfl rfl rfl (fun _ _=>rfl) ok43 (k:=m+1) (off:=0) rfl (Xb _ (by simp)) (X6 _ hm 1) rfl rfl ?_)<;>first|rfl|exact AV.le.rfl _|(simp only[X4,sl,ti43,List.map_nil,Y3p,Xha,X5,List.length_map,g1,g2,Int.reduceBNe,Int.reduceBEq];done)|rfl|skip)|(refine X3 (cb1) ?_)|(refine X3 (ca) ?_)|(refine Xhu ct (X6 _ (Nat.le_refl _) 2) (Xb _ (by simp)) hkg hkf ?_)|(refine hK _ ?_;clear hK K)|refine Vt rfl ?_|refine Vf rfl ?_|refine Vi rfl (fun hg=> ?_) (fun hg=> ?_)|clear hK K)
 simp (maxSteps:=9^7) only[ss,X1,tab,simprocAttr, -List.reduceReplicate,Xjn (Nat.le_refl n),Xg7 hkg]
 repeat' (first|(with_reducible refine hK _ ?_;clear hK K)|with_reducible apply And.intro)
 have oZ:ofL out B (Xh9 d) Z=none:=by rw[Xge (by omega)];exact hKN
 have hou:Xw (ofL out B (Xh9 d)) Z (Xi2 b)=upd out (Y62 B (Xh9 d)++Y62 Z [some (Xi2 b)]):=by
  rw[← K3,Xi6];rfl
 generalize ofL out B (Xh9 d)=O at*
 have lit:∀(σ:AState) (K':AV→List (Nat×Res)→Prop) (k:Nat),X1 tab σ K' none 41 1 [(0,.agg (wrB k ⟨at',b⟩))]=K' (.sl 2 [wrB k ⟨at',b⟩] .full) []:=fun σ K' k=>Yk (T:=tab) (ti:=ti41) (te:=ti76) rfl rfl rfl (by decide) (by decide) rfl rfl
 have hT:Xd Try.prog 59=True:=hb0 _ (by decide) (by decide)
 refine X9 fun K hK=>Xib Xj [] [(Z,1)] [[],[1],[],[],[],[100],[],[2],[],[1]] [[],[],[],[],[],[100],[],[2],[],[1]] hoA follows (by kernel_rfl) (by decide) (by decide) (by kernel_rfl) ?_
 simp (maxSteps:=9^7) only[ss,X1,tab,simprocAttr, -List.reduceReplicate,sf, -X1,hT]
 repeat' (first|(with_reducible refine hK _ ?_;clear hK K)|with_reducible apply And.intro)
 refine Sb (cw Z) (by rw[X8 hKn,Xlg (x:=100) (by decide) (by decide) rfl (by dsimp only;omega)];exact oZ) (by rw[X7 hKn];trivial) (by simp) ?_
 refine Xmb (z:=100) (by decide) (by decide) rfl ?_
 rw[← hW]
 generalize Xi2 b=Q at*
 simp (maxSteps:=9^7) only[ss,tab,simprocAttr, -List.reduceReplicate,sf,Xa hKn,lit,hWl,show d.waits.length+1≤140737488355328 by omega,show d.waits.length+1≤9223372036854775807 by omega]
 repeat' (first|(with_reducible refine hK _ ?_;clear hK K)|with_reducible apply And.intro)
 ·omega
 refine Yd ?_
 refine Xp (.inr rfl) rfl rfl rfl (fun j _=>by rw[hou]) ok43 (k:=n+1) (off:=0) rfl (Xb _ (by simp)) (X6 _ (Nat.le_refl _) 1) rfl rfl ?_
 simp only[Xjr,eS,eW,X4,sl]
def Xis (d:Dsk):List (List UInt8):=d.sectors++d.waits.map Wr.data
theorem Xjj (d:Dsk):Xh9 d=Xj5 (Xis d):=by simp [Xh9,Xj5,Xkq,Xis]
def bxO (r:List UInt8):Option Res:=if r.length=0 then none else some (.box 5 (r.map b8))
theorem Xo2 (l:List (List UInt8)):Xgg (Xj5 l)=l.map bxO:=by
 apply List.ext_getElem?
 intro i
 simp only[Xgg,Xj5,List.getElem?_map]
 cases l[i]? with
 |none=>rfl
 |some r=>
  simp only[Option.map_some]
  unfold bxO
  by_cases h:r.length=0
  ·rw[if_pos h]
   have e:Xi2 r= .dead:=by unfold Xi2 bxD;rw[if_pos (by rw[X5];exact h)]
   rw[e]
  ·rw[if_neg h,Xir (by omega)]
theorem Xmq {s:Nat→Option Res} {B:Nat} {L:List (Option Res)} (h:holds s (Xfx B L)):ofL s B L=s:=by
 funext k
 unfold ofL
 split
 ·cases hx:(L[k - B]?).join with
  |none=>rfl
  |some r=>
   have e:L[k - B]? =some (some r):=by
    cases hy:L[k - B]? with
    |none=>rw[hy] at hx;cases hx
    |some z=>rw[hy] at hx;rw[show z=some r from hx]
   have:=Xpz h e
   rw[show B+(k - B)=k from by omega] at this
   exact this.symm
 ·rfl
theorem Xms (B:Nat) (d:Dsk) (at':Int) (b:List UInt8) (hd:Small d) (hb:b.length≤1000000):Xr Try.prog 17 [Y3p d,i64 at',bs b] (Xev B (Xh9 (Xhr d at' b))) (.tup [.agg (Xjr B (Xhr d at' b)),i64 (Xbb d at' b)]) (Y62 B (Xh9 (Xhr d at' b))):=by
 by_cases hE:Xbb d at' b=0
 ·have e:Xhr d at' b=Xjh d at' b:=by unfold Xhr;rw[if_pos hE]
  rw[e,hE]
  exact Xmp B d at' b hd hE
 ·have e:Xhr d at' b=Xhm:=by unfold Xhr;rw[if_neg hE]
  have c:=Xdu d at' b hd hb
  rw[e] at c⊢
  exact c
def stP (d:Dsk) (r:Rc) (i:Nat):Dsk:=⟨d.sectors,d.waits++(Y5g r).take i⟩
theorem Yav (r:Rc) {i:Nat} (h:i<Y3n r):(Y5g r)[i]'(by rw[Y3z];exact h)=⟨((Y3q r.gen+i:Nat):Int),Xgh r i⟩:=by unfold Y5g;simp
theorem Y9y (d:Dsk) (r:Rc) {i:Nat} (h:i<Y3n r):Xjh (stP d r i) ((Y3q r.gen+i:Nat):Int) (Xgh r i)=stP d r (i+1):=by
 unfold Xjh stP
 rw[List.take_succ_eq_append_getElem (by rw[Y3z];exact h),Yav r h,List.append_assoc]
theorem Y8i (d:Dsk) (r:Rc) {i:Nat} (h:i≤Y3n r):(stP d r i).waits.length=d.waits.length+i:=by
 unfold stP
 simp only[List.length_append,List.length_take,Y3z];omega
theorem Y8j {d:Dsk} (hd:may d=true) {r:Rc} (hr:Y3n r≤16) {i:Nat} (h:i≤Y3n r) (hw:d.waits.length+i≤256):may (stP d r i)=true:=by
 obtain⟨d1,d2,d3,d4⟩:=(Xho d).1 hd
 refine(Xho _).2 ⟨d1,by rw[Y8i d r h];exact hw,d3,fun w hw=> ?_⟩
 rcases List.mem_append.1 hw with h|h
 ·exact d4 w h
 ·exact Y66 hr w (List.mem_of_mem_take h)
theorem Y82 {d:Dsk} (hd:may d=true) {r:Rc} (hr:Y3n r≤16) {i:Nat} (h:i<Y3n r) (hw:d.waits.length+i≤256):
  Xbb (stP d r i) ((Y3q r.gen+i:Nat):Int) (Xgh r i)=if d.waits.length+i=256 then 9 else 0:=by
 have hs:=Y50 r.gen
 unfold Xbb
 rw[Y8j hd hr (Nat.le_of_lt h) hw,if_pos rfl,if_pos (by simp;omega),if_pos (Y4z r h),Y8i d r (Nat.le_of_lt h)]
theorem Yaw (d:Dsk) (r:Rc):stP d r 0=d:=by unfold stP;simp
theorem Y3x {d:Dsk} (hd:may d=true):Small d:=by
 obtain⟨d1,d2,d3,d4⟩:=(Xho d).1 hd
 exact⟨by omega,by omega,fun b hb=>by rw[d3 b hb];decide,fun w hw=>by rw[(d4 w hw).2.2];decide⟩
theorem Y57 (g:BitVec 32):((g.toNat:Int)==0)=decide (g=0):=by
 rw[Bool.eq_iff_iff,beq_iff_eq,decide_eq_true_eq]
 constructor
 ·intro h
  exact BitVec.eq_of_toNat_eq (by have e:(0:BitVec 32).toNat=0:=rfl;omega)
 ·intro h
  rw[h];rfl
theorem Y83 (d:Dsk) (r:Rc) (h1:d.sectors.length≤1000) (h2:d.waits.length≤1000):Xr Try.prog 22 [Y3p d,rcA r] [] (.tup [Y3p (Y4e d r),i64 (Y4o d r)]) []:=by
 have cc:=Xjg d h1 h2
 have csl:=Y8s r.gen
 have bad:∀e,e≠0→Y4o d r=e→Y4e d r=Xhm:=fun e he h=>by unfold Y4e;rw[h,if_neg he]
 simp only[Y3p,Xha] at cc
 cases hm:may d with
 |false=>
  have hE:Y4o d r=8:=Ya1 r hm
  rw[bad 8 (by decide) hE,hE]
  rw[hm] at cc
  simp only[Bool.false_eq_true,if_false] at cc
  refine Xc 3 Try.func22 rfl fun n out _ _=> ?_
  simp only[Try.ntmps22,List.length_cons,List.length_nil,List.length_map,List.length_replicate,Xf,Nat.reduceAdd,Nat.reduceSub,List.replicate,List.cons_append,List.nil_append]
  repeat' (first|(with_reducible first|refine Vk fun K hK=> ?_|refine V0 ?_|refine Vb ?_|refine Vs ?_)|((with_reducible first|refine gE ?_|refine gR ?_);simp (maxSteps:=9^7) only[ss,X1,tab,simprocAttr, -List.reduceReplicate,Y3p,Xha,Xhm,rcA,rcC])|((with_reducible refine Vz ?_);(first|refine Xp (.inr rfl) rfl rfl rfl (fun _ _=>rfl) ok43 (k:=n+2) (off:=0) rfl (Xb _ (by simp)) (X6 _ (Nat.le_refl _) 2) rfl rfl ?_|refine Xp (.inr rfl) rfl rfl rfl (fun _ _=>rfl) ok43 (k:=m+2) (off:=0) rfl (Xb _ (by simp)) (X6 _ hm 2) rfl rfl ?_)<;>first|rfl|exact AV.le.rfl _|(simp only[X4,sl,ti43,List.map_nil,Y3p,Xha,Xhm,rcA,rcC,Int.reduceBNe];done)|rfl|skip)|(refine X3 (cc) ?_)|(refine hK _ ?_;clear hK K)|refine Vt rfl ?_)
 |true=>
  rw[hm] at cc
  simp only[if_true] at cc
  by_cases h0:r.gen=0
  ·have hg:=(Y57 r.gen).trans (decide_eq_true h0)
   have hE:Y4o d r=2:=by unfold Y4o;rw[hm,if_pos rfl,if_pos h0]
   rw[bad 2 (by decide) hE,hE]
   refine Xc 3 Try.func22 rfl fun n out _ _=> ?_
   simp only[Try.ntmps22,List.length_cons,List.length_nil,List.length_map,List.length_replicate,Xf,Nat.reduceAdd,Nat.reduceSub,List.replicate,List.cons_append,List.nil_append]
   repeat' (first|(with_reducible first|refine Vk fun K hK=> ?_|refine V0 ?_|refine Vb ?_)|((with_reducible first|refine gE ?_|refine gR ?_);simp (maxSteps:=9^7) only[ss,X1,tab,simprocAttr, -List.reduceReplicate,Y3p,Xha,Xhm,rcA,rcC,hg])|((with_reducible refine Vz ?_);(first|refine Xp (.inr rfl) rfl rfl rfl (fun _ _=>rfl) ok43 (k:=n+2) (off:=0) rfl (Xb _ (by simp)) (X6 _ (Nat.le_refl _) 2) rfl rfl ?_|refine Xp (.inr rfl) rfl rfl rfl (fun _ _=>rfl) ok43 (k:=m+2) (off:=0) rfl (Xb _ (by simp)) (X6 _ hm 2) rfl rfl ?_)<;>first|rfl|exact AV.le.rfl _|(simp only[X4,sl,ti43,List.map_nil,Y3p,Xha,Xhm,rcA,rcC,Int.reduceBNe,hg];done)|rfl|skip)|(refine X3 (cc) ?_)|(refine hK _ ?_;clear hK K)|refine Vt rfl ?_|refine Vf rfl ?_)
  ·have hg:=(Y57 r.gen).trans (decide_eq_false h0)
   by_cases hlt0:1882<r.text.length
   ·have hE:Y4o d r=3:=by unfold Y4o;rw[hm,if_pos rfl,if_neg h0,if_pos hlt0]
    have hgt:decide ((r.text.length:Int)>1882)=true:=decide_eq_true (by omega)
    rw[bad 3 (by decide) hE,hE]
    refine Xc 3 Try.func22 rfl fun n out _ _=> ?_
    simp only[Try.ntmps22,List.length_cons,List.length_nil,List.length_map,List.length_replicate,Xf,Nat.reduceAdd,Nat.reduceSub,List.replicate,List.cons_append,List.nil_append]
    repeat' (first|(with_reducible first|refine Vk fun K hK=> ?_|refine V0 ?_|refine Vb ?_)|((with_reducible first|refine gE ?_|refine gR ?_);simp (maxSteps:=9^7) only[ss,X1,tab,simprocAttr, -List.reduceReplicate,Y3p,Xha,Xhm,rcA,rcC,hg,X5,hgt])|((with_reducible refine Vz ?_);(first|refine Xp (.inr rfl) rfl rfl rfl (fun _ _=>rfl) ok43 (k:=n+2) (off:=0) rfl (Xb _ (by simp)) (X6 _ (Nat.le_refl _) 2) rfl rfl ?_|refine Xp (.inr rfl) rfl rfl rfl (fun _ _=>rfl) ok43 (k:=m+2) (off:=0) rfl (Xb _ (by simp)) (X6 _ hm 2) rfl rfl ?_)<;>first|rfl|exact AV.le.rfl _|(simp only[X4,sl,ti43,List.map_nil,Y3p,Xha,Xhm,rcA,rcC,Int.reduceBNe,hg,X5,hgt];done)|rfl|skip)|(refine X3 (cc) ?_)|(refine hK _ ?_;clear hK K)|refine Vt rfl ?_|refine Vf rfl ?_)
   ·have hgt:decide ((r.text.length:Int)>1882)=false:=decide_eq_false (by omega)
    have cs:=Y6t r (by omega)
    simp only[rcA,rcC] at cs
    have hmy:=Y48 (r:=r) (by omega)
    have hsl:=Y50 r.gen
    have h256:=((Xho d).1 hm).2.1
    refine Xc 3 Try.func22 rfl fun n out _ _=> ?_
    simp only[Try.ntmps22,List.length_cons,List.length_nil,List.length_map,List.length_replicate,Xf,Nat.reduceAdd,Nat.reduceSub,List.replicate,List.cons_append,List.nil_append]
    repeat' (first|(with_reducible first|refine Vk fun K hK=> ?_|refine V0 ?_|refine Vb ?_|refine Vs ?_)|((with_reducible first|refine gE ?_|refine gR ?_);simp (maxSteps:=9^7) only[ss,X1,tab,simprocAttr, -List.reduceReplicate,Y3p,Xha,rcA,rcC,hg,X5,hgt,List.length_map,Y3t])|(refine X3 (cc) ?_)|(refine X3 (cs) ?_)|(refine hK _ ?_;clear hK K)|refine Vf rfl ?_)
    refine Xe ?_
    refine Xz (fun i:Nat=>[(30,i64 (i:Int)),(5,.top),(6,.top),(7,.top),(8,.top),(31,.top),(32,.top),(33,.top),(34,.top),(35,.top),(36,.top),(37,.top),(38,.top),(39,.top),(40,.top),(41,.top),(42,.top),(43,.top),(44,.top),(45,.top),(46,.top),(47,.top),(48,.top),(49,.top),(50,.top)]) (fun i=>[some (.box 43 (Xha (stP d r i))),some (.box 60 [w32 r.gen,bs r.text]),some (.box 43 [.sl 0 [] .nil,.sl 0 [] .nil])]) (fun i=>out) (fun i=>i≤(Y3n r)∧d.waits.length+i≤256) (fun i=>(Y3n r) - i) 0 ⟨Nat.zero_le _,by intros;omega⟩ ?_ fun i hi=> ?_
    ·refine X2 ?_ ?_ (by first|rfl|(simp only[Yaw,Xha];rfl)|simp only[Yaw,Xha]) rfl rfl rfl<;>simp only[X4,sl,Yaw,Xha]
    obtain⟨hi,hq⟩:=hi
    simp only[X4,s_0,s_s]
    have hw:=Yl (n:=i) 1 1 rfl (by omega)
    by_cases hlt:i<Y3n r
    ·have hlt':(i:Int)<(Y3n r:Int):=by omega
     have hE:=Y82 hm hmy hlt hq
     have gi:=Xg Y6 (Y3v r) i [] (by rw[Y3t];exact hlt)
     have gs:(Y3v r)[i]'(by rw[Y3t];exact hlt)=Xgh r i:=by
      rw[← Y5v r hlt];simp [List.getD_eq_getElem?_getD,Y3t,hlt]
     rw[gs] at gi
     have hws:=Yl (n:=Y3q r.gen) (i:Int) i rfl (by omega)
     have cw:=Xdu (stP d r i) ((Y3q r.gen+i:Nat):Int) (Xgh r i) (Y3x (Y8j hm hmy (Nat.le_of_lt hlt) hq)) (by rw[Y4z r hlt];decide)
     by_cases hf:d.waits.length+i=256
     ·rw[if_pos hf] at hE
      have hD:Xhr (stP d r i) ((Y3q r.gen+i:Nat):Int) (Xgh r i)=Xhm:=by unfold Xhr;rw[hE,if_neg (by decide)]
      rw[hE,hD] at cw
      have hP:Y4o d r=9:=by unfold Y4o;rw[hm,if_pos rfl,if_neg h0,if_neg hlt0,if_pos (by omega)]
      rw[bad 9 (by decide) hP,hP]
      simp only[Y3p] at cw
      repeat' (first|(with_reducible first|refine Vk fun K hK=> ?_|refine V0 ?_|refine Vb ?_|refine Vs ?_|apply And.intro|refine Vd 12 [] [[0],[],[1],[],[],[],[],[],[],[],[],[0],[]] [[],[],[],[],[],[],[],[],[],[],[],[0],[]] (by kernel_rfl) (by decide) (by decide) (by kernel_rfl) ?_)|((with_reducible first|refine gE ?_|refine gD ?_|refine gF ?_);simp (maxSteps:=9^7) only[ss,X1,tab,simprocAttr, -List.reduceReplicate,Y3p,Xha,Xhm,List.length_map,Y3t,hlt',gi,Y6,hws])|((with_reducible refine Vz ?_);(first|refine Xp (.inr rfl) rfl rfl rfl (fun _ _=>rfl) ok43 (k:=n+2) (off:=0) rfl (Xb _ (by simp)) (X6 _ (Nat.le_refl _) 2) rfl rfl ?_|refine Xp (.inr rfl) rfl rfl rfl (fun _ _=>rfl) ok43 (k:=m+2) (off:=0) rfl (Xb _ (by simp)) (X6 _ hm 2) rfl rfl ?_)<;>first|rfl|exact AV.le.rfl _|(simp only[X4,sl,ti43,List.map_nil,Y3p,Xha,Xhm,Int.reduceBNe,List.length_map,Y3t,hlt',gi,Y6,hws];done)|rfl|skip)|(refine X3 (csl) ?_)|(refine X3 (cw) ?_)|(refine hK _ ?_;clear hK K)|refine Vt rfl ?_|clear hK K)
      ·omega
     ·rw[if_neg hf] at hE
      have hD:Xhr (stP d r i) ((Y3q r.gen+i:Nat):Int) (Xgh r i)=stP d r (i+1):=by unfold Xhr;rw[hE,if_pos rfl,Y9y d r hlt]
      rw[hE,hD] at cw
      simp only[Y3p] at cw
      repeat' (first|(with_reducible first|refine Vk fun K hK=> ?_|refine V0 ?_|refine Vb ?_|refine Vs ?_|apply And.intro|refine Vd 12 [] [[0],[],[1],[],[],[],[],[],[],[],[],[0],[]] [[],[],[],[],[],[],[],[],[],[],[],[0],[]] (by kernel_rfl) (by decide) (by decide) (by kernel_rfl) ?_)|((with_reducible first|refine gE ?_|refine gD ?_|refine gF ?_);simp (maxSteps:=9^7) only[ss,X1,tab,simprocAttr, -List.reduceReplicate,Y3p,Xha,List.length_map,Y3t,hlt',gi,Y6,hws,hw])|(refine X3 (csl) ?_)|(refine X3 (cw) ?_)|(refine hK _ ?_;clear hK K)|refine Vt rfl ?_|refine Vf rfl ?_|clear hK K)
      ·omega
      refine⟨i+1,⟨by omega,by omega⟩,by omega,?_⟩
      refine X2 ?_ ?_ rfl rfl rfl rfl<;>simp only[X4,sl,Xha,hlt',decide_true]
    ·obtain rfl:i=Y3n r:=by omega
     have hP:Y4o d r=0:=by unfold Y4o;rw[hm,if_pos rfl,if_neg h0,if_neg hlt0,if_neg (by omega)]
     have hD:Y4e d r=stP d r (Y3n r):=by
      unfold Y4e stP
      rw[if_pos hP,List.take_of_length_le (by rw[Y3z];exact Nat.le_refl _)]
     rw[hP,hD]
     repeat' (first|(with_reducible first|refine Vk fun K hK=> ?_|refine V0 ?_)|((with_reducible refine gE ?_);simp (maxSteps:=9^7) only[ss,X1,tab,simprocAttr, -List.reduceReplicate,Y3p,Xha,List.length_map,Y3t,hlt])|((with_reducible refine Vz ?_);(first|refine Xp (.inr rfl) rfl rfl rfl (fun _ _=>rfl) ok43 (k:=n+2) (off:=0) rfl (Xb _ (by simp)) (X6 _ (Nat.le_refl _) 2) rfl rfl ?_|refine Xp (.inr rfl) rfl rfl rfl (fun _ _=>rfl) ok43 (k:=m+2) (off:=0) rfl (Xb _ (by simp)) (X6 _ hm 2) rfl rfl ?_)<;>first|rfl|exact AV.le.rfl _|(simp only[X4,sl,ti43,List.map_nil,Y3p,Xha,List.length_map,Y3t,hlt];done)|rfl|skip)|((with_reducible refine Vx ?_);simp only[sb,reduceIte,Nat.reduceEqDiff])|(refine hK _ ?_;clear hK K)|refine Vf rfl ?_|clear hK K)
     rw[hP,hD]
     exact AV.le.rfl _
end Go.Proofs.Ytjgbbjooeibppaa
