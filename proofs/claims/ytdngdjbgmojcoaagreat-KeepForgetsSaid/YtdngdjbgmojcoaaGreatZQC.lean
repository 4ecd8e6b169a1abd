/- The layer of abstract values, joined. -/
import Derived.Test.YtdngdjbgmojcoaaGreatZPR
import Derived.Test.YtdngdjbgmojcoaaGreatZS0
import Derived.Test.YtdngdjbgmojcoaaGreatZQ0
import Derived.Test.YtdngdjbgmojcoaaGreatZS1
namespace Go.Proofs.YtdngdjbgmojcoaaGreat.Pln
set_option linter.unusedSimpArgs false
set_option linter.unusedVariables false
set_option maxHeartbeats 8000000
set_option maxRecDepth 4000
open Go Go.VS Tab
theorem Xz8 (r:Rt) (p g:Int) (hp:0≤p):Xr Tryz.prog 32 [rtA r,i64 p,i64 g] [] (lkA (Xpl r p g)) []:=by
 unfold Xpl
 have e1:(if 255<p then 255 else p)=min p 255:=by split<;>omega
 obtain⟨q,hq⟩:∃q:Nat,min p 255=(q:Int):=Int.eq_ofNat_of_zero_le (by omega)
 have hq2:q≤255:=by omega
 rw[hq] at e1⊢
 have e2:IntKind.u8.wrap (q:Int)=(q:Int):=by simp [IntKind.wrap,IntKind.signed,IntKind.bits];omega
 have e3:((UInt8.ofNat q).toNat:Int)=(q:Int):=by rw[UInt8.toNat_ofNat'];omega
 rw[Int.toNat_natCast]
 by_cases h3:q=3
 ·subst h3
  refine Xc 2 Tryz.func32 rfl fun n out _ _=> ?_
  simp only[sn,Tryz.ntmps32,Nat.reduceAdd,Nat.reduceSub]
  repeat' (first|(with_reducible first|refine V5 ?_|refine Vk fun K hK=> ?_|refine V0 ?_|refine Vb ?_|refine Vc ?_|refine Vr ?_|refine Vs ?_|apply And.intro)|((with_reducible first|refine gE ?_|refine gR ?_);simp only[zA,simprocAttr,rtA,rtC,lkA,lkC,X0,e1])|exact Vn|((with_reducible refine Vz ?_);(first|refine Xu (.inr rfl) rfl rfl rfl (fun _ _=>rfl) ok65 (k:=n+1) (off:=0) rfl (Xb _ (by simp)) (X6 _ (Nat.le_refl _) 1) rfl ?_|refine Xu (.inr rfl) rfl rfl rfl (fun _ _=>rfl) ok65 (k:=m+1) (off:=0) rfl (Xb _ (by simp)) (X6 _ hm 1) rfl ?_)<;>first|rfl|exact AV.le.rfl _|(simp only[sL,ti65,List.map_nil,rtA,rtC,lkA,lkC,X0,e1,e2,e3];done)|(exact AV.le.rfl _)|(simp only[sL,rtA,rtC,lkA,lkC,X0,e1,e2,e3];done)|rfl|skip)|((with_reducible refine Vx ?_);simp only[sb,Nat.reduceEqDiff])|(refine hK _ ?_;clear hK K)|refine Vt rfl ?_|refine Vf rfl ?_|refine Vi rfl (fun hg=> ?_) (fun hg=> ?_)|clear hK K)
 ·have d3:((q:Int)==3)=false:=by simp;omega
  by_cases h4:q=4
  ·subst h4
   refine Xc 2 Tryz.func32 rfl fun n out _ _=> ?_
   simp only[sn,Tryz.ntmps32,Nat.reduceAdd,Nat.reduceSub]
   repeat' (first|(with_reducible first|refine V5 ?_|refine Vk fun K hK=> ?_|refine V0 ?_|refine Vb ?_|refine Vc ?_|refine Vr ?_|refine Vs ?_|apply And.intro)|((with_reducible first|refine gE ?_|refine gR ?_);simp only[zA,simprocAttr,rtA,rtC,lkA,lkC,X0,e1])|exact Vn|((with_reducible refine Vz ?_);(first|refine Xu (.inr rfl) rfl rfl rfl (fun _ _=>rfl) ok65 (k:=n+1) (off:=0) rfl (Xb _ (by simp)) (X6 _ (Nat.le_refl _) 1) rfl ?_|refine Xu (.inr rfl) rfl rfl rfl (fun _ _=>rfl) ok65 (k:=m+1) (off:=0) rfl (Xb _ (by simp)) (X6 _ hm 1) rfl ?_)<;>first|rfl|exact AV.le.rfl _|(simp only[sL,ti65,List.map_nil,rtA,rtC,lkA,lkC,X0,e1,e2,e3];done)|(exact AV.le.rfl _)|(simp only[sL,rtA,rtC,lkA,lkC,X0,e1,e2,e3];done)|rfl|skip)|((with_reducible refine Vx ?_);simp only[sb,Nat.reduceEqDiff])|(refine hK _ ?_;clear hK K)|refine Vt rfl ?_|refine Vf rfl ?_|refine Vi rfl (fun hg=> ?_) (fun hg=> ?_)|clear hK K)
  ·have d4:((q:Int)==4)=false:=by simp;omega
   have e5:((q:Int)=3∨(q:Int)=4)=False:=eq_false (by omega)
   simp only[e5,if_false]
   have e6:lkA (r.id,UInt8.ofNat q,g,0)= .agg [i64 r.id,.val (.int .u8 (q:Int)),i64 g,i64 0]:=by
    show AV.agg [_,.val (.int .u8 ((UInt8.ofNat q).toNat:Int)),_,_]= _
    rw[e3]
   rw[e6]
   refine Xc 2 Tryz.func32 rfl fun n out _ _=> ?_
   simp only[sn,Tryz.ntmps32,Nat.reduceAdd,Nat.reduceSub]
   repeat' (first|(with_reducible first|refine V5 ?_|refine Vk fun K hK=> ?_|refine V0 ?_|refine Vb ?_|refine Vc ?_|refine Vr ?_|refine Vs ?_|apply And.intro)|((with_reducible first|refine gE ?_|refine gR ?_);simp only[zA,simprocAttr,rtA,rtC,X0,e1,e2,d3,d4])|exact Vn|((with_reducible refine Vz ?_);(first|refine Xu (.inr rfl) rfl rfl rfl (fun _ _=>rfl) ok65 (k:=n+1) (off:=0) rfl (Xb _ (by simp)) (X6 _ (Nat.le_refl _) 1) rfl ?_|refine Xu (.inr rfl) rfl rfl rfl (fun _ _=>rfl) ok65 (k:=m+1) (off:=0) rfl (Xb _ (by simp)) (X6 _ hm 1) rfl ?_)<;>first|rfl|exact AV.le.rfl _|(simp only[sL,ti65,List.map_nil,rtA,rtC,lkA,lkC,X0,e1,e2,e3,d3,d4];done)|(exact AV.le.rfl _)|(simp only[sL,rtA,rtC,lkA,lkC,X0,e1,e2,e3,d3,d4];done)|rfl|skip)|((with_reducible refine Vx ?_);simp only[sb,Nat.reduceEqDiff])|(refine hK _ ?_;clear hK K)|refine Vt rfl ?_|refine Vf rfl ?_|refine Vi rfl (fun hg=> ?_) (fun hg=> ?_)|clear hK K)
end Go.Proofs.YtdngdjbgmojcoaaGreat.Pln
namespace Go.Proofs.YtdngdjbgmojcoaaGreat.Pln
set_option linter.unusedSimpArgs false
set_option linter.unusedVariables false
set_option maxHeartbeats 1000000
open Go Go.VS
theorem Xrm (b:List UInt8) (x:Int×Int):∀(l:List (Int×Int)) (s:Nat×Bool),rdW (l++[x]) b s=((rdW l b s).1++[(x.1,0,(rdZ b (rdW l b s).2).1)],(rdZ b (rdW l b s).2).2)
 |[],s=>rfl
 |y::l,s=>by
  have ih:=Xrm b x l (rdZ b s).2
  show(((y.1,0,(rdZ b s).1)::(rdW (l++[x]) b (rdZ b s).2).1),(rdW (l++[x]) b (rdZ b s).2).2)= _
  rw[ih];rfl
theorem Xqk (b:List UInt8) (x:Rt):∀(l:List Rt) (s:Nat×Bool),Xs3 (l++[x]) b s=((Xs3 l b s).1++[Xpl x (rdZ b (Xs3 l b s).2).1 (rdZ b (rdZ b (Xs3 l b s).2).2).1],(rdZ b (rdZ b (Xs3 l b s).2).2).2)
 |[],s=>rfl
 |y::l,s=>by
  have ih:=Xqk b x l (rdZ b (rdZ b s).2).2
  show((Xpl y (rdZ b s).1 (rdZ b (rdZ b s).2).1::(Xs3 (l++[x]) b (rdZ b (rdZ b s).2).2).1),(Xs3 (l++[x]) b (rdZ b (rdZ b s).2).2).2)= _
  rw[ih];rfl
end Go.Proofs.YtdngdjbgmojcoaaGreat.Pln
namespace Go.Proofs.YtdngdjbgmojcoaaGreat.Pln
set_option linter.unusedSimpArgs false
set_option linter.unusedVariables false
set_option maxHeartbeats 4000000
set_option maxRecDepth 4000
open Go Go.VS Tab
theorem Xz9 (l m':List UInt8) (hl:l.length≤1000000000):Xr Tryz.prog 33 [.sl 1 (Xo l) .sh,.sl 1 (Xo m') .sh] [] (bool (l==m')) []:=by
 refine Xc 0 Tryz.func33 rfl fun n out _ _=> ?_
 simp only[sn,Tryz.ntmps33,Nat.reduceAdd,Nat.reduceSub]
 repeat' (first|(with_reducible first|refine Vk fun K hK=> ?_|refine V0 ?_|refine Vb ?_|refine Vc ?_|refine Vr ?_|refine Vs ?_|apply And.intro|refine Vq (by kernel_rfl) ?_)|((with_reducible first|refine gE ?_|refine gR ?_);simp only[zA,simprocAttr,X5])|exact Vn|((with_reducible refine Vz ?_);refine Vo rfl rfl rfl (fun _ _=>rfl) ?_<;>first|rfl|(rw[Mu (by intro h;simp [h] at hg)];rfl)|skip)|((with_reducible refine Vx ?_);simp only[sb,reduceIte,Nat.reduceEqDiff])|(refine hK _ ?_;clear hK K)|refine Vt rfl ?_|refine Vf rfl ?_|refine Vi rfl (fun hg=> ?_) (fun hg=> ?_)|clear hK K)
 have hlen:l.length=m'.length:=by
  have h1:((l.length:Int) !=(m'.length:Int))=false:=hg
  simp at h1;omega
 refine V5 ?_
 refine Xse (l.length) (fun i=>(∀j (hj:j<l.length) (hj':j<m'.length),j<i→l[j]=m'[j])) (fun i=>tp [4,5] (tr 14 12 [(13,i64 (i:Int))])) (fun i=>[]) (by intros;omega) ?_ fun i hi=> ?_
 ·refine La rfl ?_ ?_<;>simp only[sL]
 obtain⟨hi,hq⟩:=hi
 simp only[pt]
 refine Vy fun K hK=> ?_
 simp only[zA,simprocAttr]
 repeat' (first|(with_reducible refine hK _ ?_;clear hK K)|with_reducible apply And.intro)
 refine Vk fun KC hKC=> ?_
 refine Uz rfl (fun ht=>Xhj (hKC _ ?_)) (fun hf=>Qi (id ?_))
 rotate_left
 ·simp only[Qd,Z4,if_true]
  refine hK _ ?_
  clear hK K hKC KC
  have h_ib:i=l.length:=by have:=of_decide_eq_false hf;omega
  subst h_ib
  have e:=Ua (l:=l) (m:=m') hlen fun i hi hi'=>hq i hi hi' hi
  rw[e]
  repeat' (first|(with_reducible first|refine Vk fun K hK=> ?_|refine V0 ?_|refine Vb ?_|refine Vc ?_|refine Vr ?_|refine Vs ?_|apply And.intro|refine Vq (by kernel_rfl) ?_)|((with_reducible first|refine gE ?_|refine gR ?_);simp only[zA,simprocAttr])|exact Vn|((with_reducible refine Vz ?_);refine Vo rfl rfl rfl (fun _ _=>rfl) ?_<;>first|rfl|skip)|((with_reducible refine Vx ?_);simp only[sb,reduceIte,Nat.reduceEqDiff])|(refine hK _ ?_;clear hK K)|refine Vt rfl ?_|refine Vf rfl ?_|refine Vi rfl (fun hg=> ?_) (fun hg=> ?_)|clear hK K)
 clear hKC KC
 have hlt:i<l.length:=by have:=of_decide_eq_true ht;omega
 refine Vk fun KC hKC=>Xe ?_
 have hlt':i<m'.length:=by omega
 have g1:l.getD i 0=l[i]:=by simp [List.getD_eq_getElem?_getD,hlt]
 have g2:m'.getD i 0=m'[i]:=by simp [List.getD_eq_getElem?_getD,hlt']
 refine Vy fun K hK=> ?_
 simp only[zA,simprocAttr]
 repeat' (first|(with_reducible refine hK _ ?_;clear hK K)|with_reducible apply And.intro)
 refine Vy2 (by kernel_rfl) fun K hK=> ?_
 simp only[zA,simprocAttr,hlt,hlt',X5,Xqt l i hlt,Xqt m' i hlt',g1,g2]
 repeat' (first|(with_reducible refine hK _ ?_;clear hK K)|with_reducible apply And.intro)
 all_goals first|(decide;done)|kernel_rfl|skip
 refine Uz rfl (fun ht=> ?_) (fun hf=>Xhj ?_)
 ·have e:=Ut (l:=l) (m:=m') hlt hlt' (fun h0=>by rw[h0] at ht;simp at ht)
  refine Vy fun K hK=> ?_
  simp only[zA,simprocAttr]
  repeat' (first|(with_reducible refine hK _ ?_;clear hK K)|with_reducible apply And.intro)
  rw[← e]
  refine Vz ?_
  exact Qv (.inr rfl) rfl rfl rfl (fun _ _=>rfl) rfl
 repeat refine And.intro (by omega) ?_
 refine hKC _ ?_
 clear hKC KC
 refine Xn Xj [] ?_
 simp only[zA,simprocAttr,Yl (n:=i) 1 1 rfl (by omega)]
 refine⟨i+1,⟨by omega,?_⟩,by omega,?_⟩
 ·intro j hj hj' hji
  by_cases h:j=i
  ·subst h;simp at hf;exact UInt8.toNat_inj.1 (by omega)
  ·exact hq j hj hj' (by omega)
 refine La rfl ?_ ?_<;>simp only[sL]
end Go.Proofs.YtdngdjbgmojcoaaGreat.Pln
