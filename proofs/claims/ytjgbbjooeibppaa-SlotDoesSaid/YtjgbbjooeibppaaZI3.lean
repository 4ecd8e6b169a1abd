/- The layer of abstract values, joined. -/
import Derived.Test.YtjgbbjooeibppaaZD2
import Derived.Test.YtjgbbjooeibppaaZI2
import Derived.Test.YtjgbbjooeibppaaZE8
import Derived.Test.YtjgbbjooeibppaaZD23
namespace Go.Proofs.Ytjgbbjooeibppaa
set_option linter.unusedVariables false
set_option linter.unusedSimpArgs false
open Go Go.VS Tab
set_option maxHeartbeats 8000000
set_option maxRecDepth 8000
theorem Ycu (d:Dsk) (r:Rc):stP d r (Y3n r)=⟨d.sectors,d.waits++Y5g r⟩:=by
 unfold stP
 rw[List.take_of_length_le (by rw[Y3z];exact Nat.le_refl _)]
theorem Al (d:Dsk) (r:Rc) (hm:may d=true) (hl:r.text.length≤1882) (h256:d.waits.length+Y3n r≤256):Xr Try.prog 71 [Y3p d,rcA r] [] (Y3p ⟨d.sectors,d.waits++Y5g r⟩) []:=by
 have cs:=Wl r hl
 have csl:=Lf r.gen
 have hmy:=Y48 hl
 have hsl:=Y50 r.gen
 rw[← Ycu]
 simp only[rcA,rcC] at cs
 refine Xc 3 Try.func71 rfl fun n out _ _=> ?_
 simp only[Try.ntmps71,List.length_cons,List.length_nil,List.length_map,List.length_replicate,Xf,Nat.reduceAdd,Nat.reduceSub,List.replicate,List.cons_append,List.nil_append]
 repeat' (first|(with_reducible first|refine Vk fun K hK=> ?_|refine V0 ?_|refine Vb ?_|refine Vc ?_|refine Vr ?_|refine Vs ?_|apply And.intro|refine Vq (by kernel_rfl) ?_)|((with_reducible first|refine gE ?_|refine gR ?_);simp (maxSteps:=9^7) only[ss,X1,tab,simprocAttr, -List.reduceReplicate,Y3p,Xha,rcA,rcC])|exact Vn|((with_reducible refine Vz ?_);(first|refine Xu (.inr rfl) rfl rfl rfl (fun _ _=>rfl) ok43 (k:=n+2) (off:=0) rfl (Xb _ (by simp)) (X6 _ (Nat.le_refl _) 2) rfl ?_|refine Xu (.inr rfl) rfl rfl rfl (fun _ _=>rfl) ok43 (k:=m+2) (off:=0) rfl (Xb _ (by simp)) (X6 _ hm 2) rfl ?_)<;>first|rfl|exact AV.le.rfl _|(simp only[X4,sl,ti43,List.map_nil,Y3p,Xha,rcA,rcC];done)|rfl|skip)|(refine X3 (cs) ?_)|((with_reducible refine Vx ?_);simp only[sb,reduceIte,Nat.reduceEqDiff])|(refine hK _ ?_;clear hK K)|refine Vt rfl ?_|refine Vf rfl ?_|refine Vi rfl (fun hg=> ?_) (fun hg=> ?_)|clear hK K)
 refine Xe ?_
 refine Xz (fun i:Nat=>[(6,i64 (i:Int)),(9,.top),(10,.top),(11,.top),(12,.top),(13,.top),(14,.top),(15,.top),(16,.top),(17,.top),(18,.top),(19,.top),(20,.top),(21,.top),(22,.top),(23,.top),(24,.top),(25,.top)]) (fun i=>[some (.box 43 (Xha (stP d r i))),some (.box 60 [w32 r.gen,bs r.text]),some (.box 43 [.sl 0 [] .nil,.sl 0 [] .nil])]) (fun i=>out) (fun i=>i≤(Y3n r)) (fun i=>(Y3n r) - i) 0 (Nat.zero_le _) ?_ fun i hi=> ?_
 ·refine X2 ?_ ?_ (by first|rfl|(simp only[Yaw,Xha];rfl)|simp only[Yaw,Xha]) rfl rfl rfl<;>simp only[X4,sl,Yaw,Xha]
 simp only[X4,s_0,s_s]
 have hw:=Yl (n:=i) 1 1 rfl (by omega)
 by_cases hlt:i<Y3n r
 ·have hlt':(i:Int)<(Y3n r:Int):=by omega
  have gi:=Xg Y6 (Y3v r) i [] (by rw[Y3t];exact hlt)
  have gs:(Y3v r)[i]'(by rw[Y3t];exact hlt)=Xgh r i:=by
   rw[← Y5v r hlt];simp [List.getD_eq_getElem?_getD,Y3t,hlt]
  rw[gs] at gi
  have hws:=Yl (n:=Y3q r.gen) (i:Int) i rfl (by omega)
  have cw:=Ycp (stP d r i) ((Y3q r.gen+i:Nat):Int) (Xgh r i) (Y3x (Y8j hm hmy (Nat.le_of_lt hlt) (by omega))) (by rw[Y4z r hlt];decide)
  rw[Y9y d r hlt] at cw
  simp only[Y3p] at cw
  repeat' (first|(with_reducible first|refine Vk fun K hK=> ?_|refine V0 ?_|refine Vb ?_|refine Vc ?_|refine Vr ?_|refine Vs ?_|apply And.intro|refine Vd 5 [] [[0],[],[1],[],[],[],[],[],[],[],[],[0]] [[],[],[],[],[],[],[],[],[],[],[],[0]] (by kernel_rfl) (by decide) (by decide) (by kernel_rfl) ?_|refine Vq (by kernel_rfl) ?_)|((with_reducible first|refine gE ?_|refine gR ?_|refine gD ?_|refine gF ?_);simp (maxSteps:=9^7) only[ss,X1,tab,simprocAttr, -List.reduceReplicate,Xha,List.length_map,Y3t,hlt',gi,Y6,hws,hw])|exact Vn|((with_reducible refine Vz ?_);(first|refine Xu (.inr rfl) rfl rfl rfl (fun _ _=>rfl) ok43 (k:=n+2) (off:=0) rfl (Xb _ (by simp)) (X6 _ (Nat.le_refl _) 2) rfl ?_|refine Xu (.inr rfl) rfl rfl rfl (fun _ _=>rfl) ok43 (k:=m+2) (off:=0) rfl (Xb _ (by simp)) (X6 _ hm 2) rfl ?_)<;>first|rfl|exact AV.le.rfl _|(simp only[X4,sl,ti43,List.map_nil,Xha,List.length_map,Y3t,hlt',gi,Y6,hws,hw];done)|rfl|skip)|(refine X3 (csl) ?_)|(refine X3 (cw) ?_)|((with_reducible refine Vx ?_);simp only[sb,reduceIte,Nat.reduceEqDiff])|(refine hK _ ?_;clear hK K)|refine Vt rfl ?_|refine Vf rfl ?_|refine Vi rfl (fun hg=> ?_) (fun hg=> ?_)|clear hK K)
  ·omega
  refine⟨i+1,by omega,by omega,?_⟩
  refine X2 ?_ ?_ rfl rfl rfl rfl<;>simp only[X4,sl,Xha,List.length_map,Y3t,hlt',decide_true]
 ·obtain rfl:i=Y3n r:=by omega
  repeat' (first|(with_reducible first|refine Vk fun K hK=> ?_|refine V0 ?_|refine Vb ?_|refine Vc ?_|refine Vr ?_|refine Vs ?_|apply And.intro|refine Vq (by kernel_rfl) ?_)|((with_reducible first|refine gE ?_|refine gR ?_);simp (maxSteps:=9^7) only[ss,X1,tab,simprocAttr, -List.reduceReplicate,Y3p,Xha,List.length_map,Y3t,hlt])|exact Vn|((with_reducible refine Vz ?_);(first|refine Xu (.inr rfl) rfl rfl rfl (fun _ _=>rfl) ok43 (k:=n+2) (off:=0) rfl (Xb _ (by simp)) (X6 _ (Nat.le_refl _) 2) rfl ?_|refine Xu (.inr rfl) rfl rfl rfl (fun _ _=>rfl) ok43 (k:=m+2) (off:=0) rfl (Xb _ (by simp)) (X6 _ hm 2) rfl ?_)<;>first|rfl|exact AV.le.rfl _|(simp only[X4,sl,ti43,List.map_nil,Y3p,Xha,List.length_map,Y3t,hlt];done)|rfl|skip)|((with_reducible refine Vx ?_);simp only[sb,reduceIte,Nat.reduceEqDiff])|(refine hK _ ?_;clear hK K)|refine Vt rfl ?_|refine Vf rfl ?_|refine Vi rfl (fun hg=> ?_) (fun hg=> ?_)|clear hK K)
theorem Ydd (d:Dsk) (r:Rc) (h1:d.sectors.length≤1000) (h2:d.waits.length≤1000):Xr Try.prog 23 [Y3p d,rcA r] [] (.tup [Y3p (Y4e d r),i64 (Y4o d r)]) []:=by
 have cm:=X5w d h1 h2
 have bad:∀e,e≠0→Y4o d r=e→Y4e d r=Xhm:=fun e he h=>by unfold Y4e;rw[h,if_neg he]
 simp only[Y3p,Xha] at cm
 cases hm:may d with
 |false=>
  have hE:Y4o d r=8:=Ya1 r hm
  rw[bad 8 (by decide) hE,hE]
  rw[hm] at cm
  refine Xc 3 Try.func23 rfl fun n out _ _=> ?_
  simp only[Try.ntmps23,List.length_cons,List.length_nil,List.length_map,List.length_replicate,Xf,Nat.reduceAdd,Nat.reduceSub,List.replicate,List.cons_append,List.nil_append]
  repeat' (first|(with_reducible first|refine Vk fun K hK=> ?_|refine V0 ?_|refine Vs ?_|apply And.intro|refine Vq (by kernel_rfl) ?_)|((with_reducible first|refine gE ?_|refine gR ?_);simp (maxSteps:=9^7) only[ss,X1,tab,simprocAttr, -List.reduceReplicate,Y3p,Xha,Xhm,rcA,rcC,Bool.not_false])|exact Vn|((with_reducible refine Vz ?_);(first|refine Xp (.inr rfl) rfl rfl rfl (fun _ _=>rfl) ok43 (k:=n+2) (off:=0) rfl (Xb _ (by simp)) (X6 _ (Nat.le_refl _) 2) rfl rfl ?_|refine Xp (.inr rfl) rfl rfl rfl (fun _ _=>rfl) ok43 (k:=m+2) (off:=0) rfl (Xb _ (by simp)) (X6 _ hm 2) rfl rfl ?_)<;>first|rfl|exact AV.le.rfl _|(simp only[X4,sl,ti43,List.map_nil,Y3p,Xha,Xhm,rcA,rcC,Bool.not_false];done)|rfl|skip)|(refine X3 (cm) ?_)|(refine hK _ ?_;clear hK K)|refine Vt rfl ?_|refine Vf rfl ?_|refine Vi rfl (fun hg=> ?_) (fun hg=> ?_)|clear hK K)
 |true=>
  rw[hm] at cm
  by_cases h0:r.gen=0
  ·have hg:=(Y57 r.gen).trans (decide_eq_true h0)
   have hE:Y4o d r=2:=by unfold Y4o;rw[hm,if_pos rfl,if_pos h0]
   rw[bad 2 (by decide) hE,hE]
   refine Xc 3 Try.func23 rfl fun n out _ _=> ?_
   simp only[Try.ntmps23,List.length_cons,List.length_nil,List.length_map,List.length_replicate,Xf,Nat.reduceAdd,Nat.reduceSub,List.replicate,List.cons_append,List.nil_append]
   repeat' (first|(with_reducible first|refine Vk fun K hK=> ?_|refine V0 ?_|refine Vs ?_|apply And.intro|refine Vq (by kernel_rfl) ?_)|((with_reducible first|refine gE ?_|refine gR ?_);simp (maxSteps:=9^7) only[ss,X1,tab,simprocAttr, -List.reduceReplicate,Y3p,Xha,Xhm,rcA,rcC,Bool.not_true,hg])|exact Vn|((with_reducible refine Vz ?_);(first|refine Xp (.inr rfl) rfl rfl rfl (fun _ _=>rfl) ok43 (k:=n+2) (off:=0) rfl (Xb _ (by simp)) (X6 _ (Nat.le_refl _) 2) rfl rfl ?_|refine Xp (.inr rfl) rfl rfl rfl (fun _ _=>rfl) ok43 (k:=m+2) (off:=0) rfl (Xb _ (by simp)) (X6 _ hm 2) rfl rfl ?_)<;>first|rfl|exact AV.le.rfl _|(simp only[X4,sl,ti43,List.map_nil,Y3p,Xha,Xhm,rcA,rcC,Bool.not_true,hg];done)|rfl|skip)|(refine X3 (cm) ?_)|(refine hK _ ?_;clear hK K)|refine Vt rfl ?_|refine Vf rfl ?_|refine Vi rfl (fun hg=> ?_) (fun hg=> ?_)|clear hK K)
  ·have hg:=(Y57 r.gen).trans (decide_eq_false h0)
   by_cases hlt0:1882<r.text.length
   ·have hE:Y4o d r=3:=by unfold Y4o;rw[hm,if_pos rfl,if_neg h0,if_pos hlt0]
    have hgt:decide ((r.text.length:Int)>1882)=true:=decide_eq_true (by omega)
    rw[bad 3 (by decide) hE,hE]
    refine Xc 3 Try.func23 rfl fun n out _ _=> ?_
    simp only[Try.ntmps23,List.length_cons,List.length_nil,List.length_map,List.length_replicate,Xf,Nat.reduceAdd,Nat.reduceSub,List.replicate,List.cons_append,List.nil_append]
    repeat' (first|(with_reducible first|refine Vk fun K hK=> ?_|refine V0 ?_|refine Vs ?_|apply And.intro|refine Vq (by kernel_rfl) ?_)|((with_reducible first|refine gE ?_|refine gR ?_);simp (maxSteps:=9^7) only[ss,X1,tab,simprocAttr, -List.reduceReplicate,Y3p,Xha,Xhm,rcA,rcC,Bool.not_true,hg,X5,hgt])|exact Vn|((with_reducible refine Vz ?_);(first|refine Xp (.inr rfl) rfl rfl rfl (fun _ _=>rfl) ok43 (k:=n+2) (off:=0) rfl (Xb _ (by simp)) (X6 _ (Nat.le_refl _) 2) rfl rfl ?_|refine Xp (.inr rfl) rfl rfl rfl (fun _ _=>rfl) ok43 (k:=m+2) (off:=0) rfl (Xb _ (by simp)) (X6 _ hm 2) rfl rfl ?_)<;>first|rfl|exact AV.le.rfl _|(simp only[X4,sl,ti43,List.map_nil,Y3p,Xha,Xhm,rcA,rcC,Bool.not_true,hg,X5,hgt];done)|rfl|skip)|(refine X3 (cm) ?_)|(refine hK _ ?_;clear hK K)|refine Vt rfl ?_|refine Vf rfl ?_|refine Vi rfl (fun hg=> ?_) (fun hg=> ?_)|clear hK K)
   ·have hgt:decide ((r.text.length:Int)>1882)=false:=decide_eq_false (by omega)
    have hmy:=Y48 (r:=r) (by omega)
    have cs:=Wl r (by omega)
    simp only[rcA,rcC] at cs
    have hadd:=Yl (n:=d.waits.length) (Y3n r:Int) (Y3n r) rfl (by omega)
    by_cases hf:256<d.waits.length+Y3n r
    ·have hE:Y4o d r=9:=by unfold Y4o;rw[hm,if_pos rfl,if_neg h0,if_neg hlt0,if_pos hf]
     have hg2:decide (((d.waits.length+Y3n r:Nat):Int)>256)=true:=decide_eq_true (by omega)
     rw[bad 9 (by decide) hE,hE]
     refine Xc 3 Try.func23 rfl fun n out _ _=> ?_
     simp only[Try.ntmps23,List.length_cons,List.length_nil,List.length_map,List.length_replicate,Xf,Nat.reduceAdd,Nat.reduceSub,List.replicate,List.cons_append,List.nil_append]
     repeat' (first|(with_reducible first|refine Vk fun K hK=> ?_|refine V0 ?_|refine Vs ?_|apply And.intro|refine Vd 7 [] [[],[0],[],[1],[],[],[],[]] [[],[],[],[],[],[],[],[]] (by kernel_rfl) (by decide) (by decide) (by kernel_rfl) ?_|refine Vq (by kernel_rfl) ?_)|((with_reducible first|refine gE ?_|refine gR ?_|refine gD ?_|refine gF ?_);simp (maxSteps:=9^7) only[ss,X1,tab,simprocAttr, -List.reduceReplicate,Y3p,Xha,Xhm,rcA,rcC,Bool.not_true,hg,X5,hgt,List.length_map,Y3t,hadd,hg2])|exact Vn|((with_reducible refine Vz ?_);(first|refine Xp (.inr rfl) rfl rfl rfl (fun _ _=>rfl) ok43 (k:=n+2) (off:=0) rfl (Xb _ (by simp)) (X6 _ (Nat.le_refl _) 2) rfl rfl ?_|refine Xp (.inr rfl) rfl rfl rfl (fun _ _=>rfl) ok43 (k:=m+2) (off:=0) rfl (Xb _ (by simp)) (X6 _ hm 2) rfl rfl ?_)<;>first|rfl|exact AV.le.rfl _|(simp only[X4,sl,ti43,List.map_nil,Y3p,Xha,Xhm,rcA,rcC,Bool.not_true,hg,X5,hgt,List.length_map,Y3t,hadd,hg2];done)|rfl|skip)|(refine X3 (cm) ?_)|(refine X3 (cs) ?_)|(refine hK _ ?_;clear hK K)|refine Vt rfl ?_|refine Vf rfl ?_|refine Vi rfl (fun hg=> ?_) (fun hg=> ?_)|clear hK K)
    ·have hE:Y4o d r=0:=by unfold Y4o;rw[hm,if_pos rfl,if_neg h0,if_neg hlt0,if_neg hf]
     have hD:Y4e d r=⟨d.sectors,d.waits++Y5g r⟩:=by unfold Y4e;rw[if_pos hE]
     have hg2:decide (((d.waits.length+Y3n r:Nat):Int)>256)=false:=decide_eq_false (by omega)
     have cw:=Al d r hm (by omega) (by omega)
     rw[hD,hE]
     generalize (⟨d.sectors,d.waits++Y5g r⟩:Dsk)=Y at cw
     simp only[Y3p,Xha,rcA,rcC] at cw
     refine Xc 3 Try.func23 rfl fun n out _ _=> ?_
     simp only[Try.ntmps23,List.length_cons,List.length_nil,List.length_map,List.length_replicate,Xf,Nat.reduceAdd,Nat.reduceSub,List.replicate,List.cons_append,List.nil_append]
     repeat' (first|(with_reducible first|refine Vk fun K hK=> ?_|refine V0 ?_|refine Vs ?_|apply And.intro|refine Vd 7 [] [[],[0],[],[1],[],[],[],[]] [[],[],[],[],[],[],[],[]] (by kernel_rfl) (by decide) (by decide) (by kernel_rfl) ?_|refine Vq (by kernel_rfl) ?_)|((with_reducible first|refine gE ?_|refine gR ?_|refine gD ?_|refine gF ?_);simp (maxSteps:=9^7) only[ss,X1,tab,simprocAttr, -List.reduceReplicate,Y3p,Xha,rcA,rcC,Bool.not_true,hg,X5,hgt,List.length_map,Y3t,hadd,hg2])|exact Vn|((with_reducible refine Vz ?_);(first|refine Xp (.inr rfl) rfl rfl rfl (fun _ _=>rfl) ok43 (k:=n+2) (off:=0) rfl (Xb _ (by simp)) (X6 _ (Nat.le_refl _) 2) rfl rfl ?_|refine Xp (.inr rfl) rfl rfl rfl (fun _ _=>rfl) ok43 (k:=m+2) (off:=0) rfl (Xb _ (by simp)) (X6 _ hm 2) rfl rfl ?_)<;>first|rfl|exact AV.le.rfl _|(simp only[X4,sl,ti43,List.map_nil,Y3p,Xha,rcA,rcC,Bool.not_true,hg,X5,hgt,List.length_map,Y3t,hadd,hg2];done)|rfl|skip)|(refine X3 (cm) ?_)|(refine X3 (cs) ?_)|(refine X3 (cw) ?_)|(refine hK _ ?_;clear hK K)|refine Vt rfl ?_|refine Vf rfl ?_|refine Vi rfl (fun hg=> ?_) (fun hg=> ?_)|clear hK K)
end Go.Proofs.Ytjgbbjooeibppaa
