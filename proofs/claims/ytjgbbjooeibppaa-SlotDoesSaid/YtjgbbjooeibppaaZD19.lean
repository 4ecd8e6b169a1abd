/- The layer of abstract values, joined. -/
import Derived.Test.YtjgbbjooeibppaaZD2
import Derived.Test.YtjgbbjooeibppaaZD18
namespace Go.Proofs.Ytjgbbjooeibppaa
set_option linter.unusedVariables false
set_option linter.unusedSimpArgs false
open Go Go.VS Tab
set_option maxHeartbeats 2000000
set_option maxRecDepth 4000
def kq (kp:List Int) (i:Nat):Nat:=if kp=[] then 128 else(kp.getD i 0).toNat
def byS (kp:List Int) (d:Dsk) (z y:Nat) (i:Nat):UInt8:=((Y3l (kq kp) d i).getD z []).getD y 0
theorem Fs (b q:List UInt8) (y:Nat) (hq:q.length≤b.length) (hy:y<b.length):(laid b q).getD y 0=if y<q.length then q.getD y 0 else b.getD y 0:=by
 rw[laid,List.getD_eq_getElem?_getD,List.getD_eq_getElem?_getD,List.getD_eq_getElem?_getD]
 by_cases h:y<q.length
 ·rw[if_pos h,List.getElem?_append_left h]
 ·rw[if_neg h,List.getElem?_append_right (by omega),List.getElem?_drop]
  congr 2;omega
theorem G1 {kp:List Int} {d:Dsk} (hm:may d=true) (hk:∀i,i<d.waits.length→kq kp i≤128) {z y i:Nat} (hz:z<32) (hy:y<128) (hi:i<d.waits.length):
  byS kp d z y (i+1)=if (d.waits[i]).at'=(z:Int)∧y<kq kp i then(d.waits[i]).data.getD y 0 else byS kp d z y i:=by
 obtain⟨d1,d2,d3,d4⟩:=(Xho d).1 hm
 obtain⟨w1,w2,w3⟩:=d4 _ (List.getElem_mem hi)
 have hl:=Xh8 (kq kp) d i
 have hrow:=Xhb hm hk i
 rw[byS,Y41 hi,lay]
 by_cases hz2:(d.waits[i]).at'=(z:Int)
 ·have hzl:z<(Y3l (kq kp) d i).length:=by omega
  have hg:(Y3l (kq kp) d i).getD z []=(Y3l (kq kp) d i)[z]:=by simp [List.getD_eq_getElem?_getD,hzl]
  have hb:((Y3l (kq kp) d i)[z]).length=128:=hrow _ (List.getElem_mem hzl)
  rw[hz2,Int.toNat_natCast]
  have e1:((Y3l (kq kp) d i).set z (laid ((Y3l (kq kp) d i).getD z []) ((d.waits[i]).data.take (kq kp i)))).getD z []=laid ((Y3l (kq kp) d i).getD z []) ((d.waits[i]).data.take (kq kp i)):=by
   simp [List.getD_eq_getElem?_getD,hzl]
  have hki:=hk i hi
  rw[e1,Fs _ _ _ (by rw[hg,hb,List.length_take];omega) (by rw[hg,hb];exact hy),List.length_take,w3,Nat.min_eq_left hki]
  by_cases hyk:y<kq kp i
  ·rw[if_pos hyk,if_pos ⟨rfl,hyk⟩]
   simp [List.getD_eq_getElem?_getD,List.getElem?_take,hyk]
  ·rw[if_neg hyk,if_neg (by omega)];rfl
 ·rw[if_neg (by omega),byS]
  congr 1
  have:(d.waits[i]).at'.toNat≠z:=by omega
  simp only[List.getD_eq_getElem?_getD]
  rw[List.getElem?_set_ne this]
theorem Gp (d:Dsk) (kp:List Int) (z y:Nat) (hm:may d=true) (hkp:kp=[]∨kp.length=d.waits.length) (hk:∀x,x∈kp→0≤x∧x<129) (hz:z<32) (hy:y<128):
  Xr Try.prog 114 [Y3p d,.sl 1 (kp.map Ym) .sh,i64 (z:Int),i64 (y:Int)] [] (b8 (byS kp d z y d.waits.length)) []:=by
 obtain⟨d1,d2,d3,d4⟩:=(Xho d).1 hm
 have hkq:∀i,i<d.waits.length→kq kp i≤128:=fun i _=>by
  unfold kq
  split
  ·exact Nat.le_refl _
  ·exact Yd8 hk i
 have hzl:z<d.sectors.length:=by omega
 have hyl:y<(d.sectors[z]).length:=by have:=d3 _ (List.getElem_mem hzl);omega
 refine Xc 1 Try.func114 rfl fun n out _ _=> ?_
 simp only[Try.ntmps114,List.length_cons,List.length_nil,List.length_map,List.length_replicate,Xf,Nat.reduceAdd,Nat.reduceSub,List.replicate,List.cons_append,List.nil_append]
 have hgs:=Xg Y6 d.sectors z [] hzl
 have e0:(Xo d.sectors[z]).getD y []=[b8 (byS kp d z y 0)]:=by
  rw[Xqt _ _ hyl]
  simp [byS,Y3l,List.getD_eq_getElem?_getD,hzl]
 refine X9 fun K hK=>Xn Xj [] ?_
 simp (maxSteps:=9^7) only[ss,X1,tab,simprocAttr, -List.reduceReplicate,Y3p,Xha]
 repeat' (first|(with_reducible refine hK _ ?_;clear hK K)|with_reducible apply And.intro)
 refine X9 fun K hK=>Xn Xj [] ?_
 simp (maxSteps:=9^7) only[ss,X1,tab,simprocAttr, -List.reduceReplicate,hzl,List.length_map,hgs,Y6,X5,hyl,e0]
 repeat' (first|(with_reducible refine hK _ ?_;clear hK K)|with_reducible apply And.intro)
 refine X9 fun KB hKB=> ?_
 refine X9 fun K hK=>Xn Xj [] ?_
 simp (maxSteps:=9^7) only[ss,X1,tab,simprocAttr, -List.reduceReplicate]
 repeat' (first|(with_reducible refine hK _ ?_;clear hK K)|with_reducible apply And.intro)
 refine Xe ?_
 refine Xz (fun i:Nat=>[(9,b8 (byS kp d z y i)),(10,i64 (i:Int)),(19,.top),(20,.top),(21,.top),(22,.top),(23,.top),(24,.top),(25,.top),(26,.top),(27,.top),(28,.top),(29,.top),(30,.top),(31,.top),(32,.top),(33,.top),(34,.top),(35,.top),(36,.top),(37,.top),(38,.top),(39,.top),(40,.top),(41,.top),(42,.top),(43,.top),(44,.top),(45,.top),(46,.top),(47,.top),(48,.top),(49,.top),(50,.top),(51,.top),(52,.top),(53,.top),(54,.top),(55,.top)]) (fun i=>[some (.box 43 [.sl 1 (d.sectors.map Y6) .sh,.sl 2 (d.waits.map wrC) .sh])]) (fun i=>out) (fun i=>i≤d.waits.length) (fun i=>d.waits.length - i) 0 (Nat.zero_le _) ?_ fun i hi=> ?_
 ·refine X2 ?_ ?_ (by first|rfl|(simp only[List.length_map];rfl)|simp only[List.length_map]) rfl rfl rfl<;>simp only[X4,sl,List.length_map]
 simp only[X4,s_0,s_s]
 refine X9 fun KC hKC=> ?_
 refine X9 fun K hK=>Xn Xj [] ?_
 simp (maxSteps:=9^7) only[ss,X1,tab,simprocAttr, -List.reduceReplicate,List.length_map]
 repeat' (first|(with_reducible refine hK _ ?_;clear hK K)|with_reducible apply And.intro)
 refine Uz rfl (fun ht=>Xhj (hKC _ ?_)) (fun hf=>Qi (id ?_))
 rotate_left
 ·simp only[Qd,Z4,if_true]
  refine hKB _ ?_
  clear hKB KB hKC KC
  have h_ib:i=d.waits.length:=by have:=of_decide_eq_false hf;omega
  subst h_ib
  refine X9 fun K hK=>Xn Xj [] ?_
  simp (maxSteps:=9^7) only[ss,X1,tab,simprocAttr, -List.reduceReplicate]
  repeat' (first|(with_reducible refine hK _ ?_;clear hK K)|with_reducible apply And.intro)
  refine Yd ?_
  exact Qv (.inr rfl) rfl rfl rfl (fun _ _=>rfl) rfl
 clear hKC KC
 have hlt:i<d.waits.length:=by have:=of_decide_eq_true ht;omega
 refine X9 fun KC hKC=>Xe ?_
 have hgw:=Xg wrC d.waits i [] hlt
 have hst:=G1 hm hkq (z:=z) (y:=y) hz hy hlt
 obtain⟨w1,w2,w3⟩:=d4 _ (List.getElem_mem hlt)
 have hyw:y<(d.waits[i]).data.length:=by omega
 have ebw:(Xo (d.waits[i]).data).getD y []=[b8 ((d.waits[i]).data.getD y 0)]:=Xqt _ _ hyw
 have tail:∀c:Bool,(c=true↔(d.waits[i]).at'=(z:Int)∧y<kq kp i)→byS kp d z y (i+1)=if c then(d.waits[i]).data.getD y 0 else byS kp d z y i:=fun c hc=>by
  rw[hst]
  cases c with
  |true=>rw[if_pos (hc.1 rfl)];rfl
  |false=>rw[if_neg (fun h=>by have:=hc.2 h;cases this)];rfl
 by_cases g1:(d.waits[i]).at'=(z:Int)
 ·have e1:((d.waits[i]).at'==(z:Int))=true:=by simp [g1]
  rcases hkp with hkp|hkp
  ·subst hkp
   have e9:=tail true ⟨fun _=>⟨g1,by simp [kq];exact hy⟩,fun _=>rfl⟩
   rw[if_pos rfl] at e9
   refine X9 fun K hK=>Xn Xj [] ?_
   simp (maxSteps:=9^7) only[ss,X1,tab,simprocAttr, -List.reduceReplicate,hlt,List.length_map,hgw,wrC,e1,List.map_nil,List.length_nil,Int.cast_ofNat_Int]
   repeat' (first|(with_reducible refine hK _ ?_;clear hK K)|with_reducible apply And.intro)
   refine Wm rfl ?_
   refine Xn Xj [] ?_
   simp (maxSteps:=9^7) only[ss,X1,tab,simprocAttr, -List.reduceReplicate,hlt,List.length_map,hgw,wrC,X5,hyw,ebw]
   refine hKC _ ?_
   clear hKC KC
   rw[← e9]
   refine Xn Xj [] ?_
   simp (maxSteps:=9^7) only[ss,X1,tab,simprocAttr, -List.reduceReplicate,Yl (n:=i) 1 1 rfl (by omega)]
   refine⟨i+1,by omega,by omega,?_⟩
   refine X2 ?_ ?_ rfl rfl rfl rfl<;>simp only[X4,sl]
  ·have hik:i<kp.length:=by omega
   have hne:kp≠[]:=by intro h;rw[h] at hik;simp at hik
   have e2:((kp.length:Int)==0)=false:=by simp [hne]
   have hgk:=Xg Ym kp i [] hik
   have hki:=hk _ (List.getElem_mem hik)
   have hkv:kq kp i=(kp[i]).toNat:=by unfold kq;rw[if_neg hne];simp [List.getD_eq_getElem?_getD,hik]
   by_cases g2:(y:Int)<kp[i]
   ·have e3:decide ((y:Int)<kp[i])=true:=decide_eq_true g2
    have e9:=tail true ⟨fun _=>⟨g1,by omega⟩,fun _=>rfl⟩
    rw[if_pos rfl] at e9
    refine X9 fun K hK=>Xn Xj [] ?_
    simp (maxSteps:=9^7) only[ss,X1,tab,simprocAttr, -List.reduceReplicate,hlt,List.length_map,hgw,wrC,e1,e2,hik,hgk,Ym,e3]
    repeat' (first|(with_reducible refine hK _ ?_;clear hK K)|with_reducible apply And.intro)
    refine Wm rfl ?_
    refine Xn Xj [] ?_
    simp (maxSteps:=9^7) only[ss,X1,tab,simprocAttr, -List.reduceReplicate,hlt,List.length_map,hgw,wrC,X5,hyw,ebw]
    refine hKC _ ?_
    clear hKC KC
    rw[← e9]
    refine Xn Xj [] ?_
    simp (maxSteps:=9^7) only[ss,X1,tab,simprocAttr, -List.reduceReplicate,Yl (n:=i) 1 1 rfl (by omega)]
    refine⟨i+1,by omega,by omega,?_⟩
    refine X2 ?_ ?_ rfl rfl rfl rfl<;>simp only[X4,sl]
   ·have e3:decide ((y:Int)<kp[i])=false:=decide_eq_false g2
    have e9:=tail false ⟨fun h=>(by cases h),fun h=>by omega⟩
    rw[if_neg (by decide)] at e9
    refine X9 fun K hK=>Xn Xj [] ?_
    simp (maxSteps:=9^7) only[ss,X1,tab,simprocAttr, -List.reduceReplicate,hlt,List.length_map,hgw,wrC,e1,e2,hik,hgk,Ym,e3]
    repeat' (first|(with_reducible refine hK _ ?_;clear hK K)|with_reducible apply And.intro)
    refine Uy rfl (Xhj ?_)
    simp only[Qd,Z4]
    refine hKC _ ?_
    clear hKC KC
    rw[← e9]
    refine Xn Xj [] ?_
    simp (maxSteps:=9^7) only[ss,X1,tab,simprocAttr, -List.reduceReplicate,Yl (n:=i) 1 1 rfl (by omega)]
    refine⟨i+1,by omega,by omega,?_⟩
    refine X2 ?_ ?_ rfl rfl rfl rfl<;>simp only[X4,sl]
 ·have e1:((d.waits[i]).at'==(z:Int))=false:=by simp [g1]
  have e9:=tail false ⟨fun h=>(by cases h),fun h=>(g1 h.1).elim⟩
  rw[if_neg (by decide)] at e9
  refine X9 fun K hK=>Xn Xj [] ?_
  simp (maxSteps:=9^7) only[ss,X1,tab,simprocAttr, -List.reduceReplicate,hlt,List.length_map,hgw,wrC,e1]
  repeat' (first|(with_reducible refine hK _ ?_;clear hK K)|with_reducible apply And.intro)
  refine Uy rfl (Xhj ?_)
  simp only[Qd,Z4]
  refine hKC _ ?_
  clear hKC KC
  rw[← e9]
  refine Xn Xj [] ?_
  simp (maxSteps:=9^7) only[ss,X1,tab,simprocAttr, -List.reduceReplicate,Yl (n:=i) 1 1 rfl (by omega)]
  refine⟨i+1,by omega,by omega,?_⟩
  refine X2 ?_ ?_ rfl rfl rfl rfl<;>simp only[X4,sl]
theorem C2 {kp:List Int} {d:Dsk} (hm:may d=true) (hk:∀i,i<d.waits.length→kq kp i≤128) {z:Nat} (hz:z<32):
  (List.range 128).map (fun y=>byS kp d z y d.waits.length)=(Y3l (kq kp) d d.waits.length).getD z []:=by
 have hl:=Xh8 (kq kp) d d.waits.length
 have d1:=((Xho d).1 hm).1
 have hzl:z<(Y3l (kq kp) d d.waits.length).length:=by omega
 have hg:(Y3l (kq kp) d d.waits.length).getD z []=(Y3l (kq kp) d d.waits.length)[z]:=by simp [List.getD_eq_getElem?_getD,hzl]
 have hb:=Xhb hm hk d.waits.length _ (List.getElem_mem hzl)
 apply List.ext_getElem
 ·rw[hg];simp [hb]
 ·intro i h1 h2
  simp only[List.getElem_map,List.getElem_range,byS]
  rw[List.getD_eq_getElem?_getD,List.getElem?_eq_getElem h2];rfl
theorem Ydk (d:Dsk) (kp:List Int) (z:Nat) (hm:may d=true) (hkp:kp=[]∨kp.length=d.waits.length) (hk:∀x,x∈kp→0≤x∧x<129) (hz:z<32):
  Xr Try.prog 111 [Y3p d,.sl 1 (kp.map Ym) .sh,i64 (z:Int)] [] (bs ((Y3l (kq kp) d d.waits.length).getD z [])) []:=by
 have hkq:∀i,i<d.waits.length→kq kp i≤128:=fun i _=>by
  unfold kq
  split
  ·exact Nat.le_refl _
  ·exact Yd8 hk i
 rw[← C2 hm hkq hz]
 refine Xc 2 Try.func111 rfl fun n out _ _=> ?_
 simp only[Try.ntmps111,List.length_cons,List.length_nil,List.length_map,List.length_replicate,Xf,Nat.reduceAdd,Nat.reduceSub,List.replicate,List.cons_append,List.nil_append]
 refine X9 fun K hK=>Xn Xj [] ?_
 simp (maxSteps:=9^7) only[ss,X1,tab,simprocAttr, -List.reduceReplicate,Y3p,Xha]
 repeat' (first|(with_reducible refine hK _ ?_;clear hK K)|with_reducible apply And.intro)
 refine X9 fun K hK=>Xn Xj [] ?_
 simp (maxSteps:=9^7) only[ss,X1,tab,simprocAttr, -List.reduceReplicate]
 repeat' (first|(with_reducible refine hK _ ?_;clear hK K)|with_reducible apply And.intro)
 refine Yy (Q9 (i:=1) 5 1 rfl) ?_
 simp only[s_0,s_s]
 refine X9 fun KB hKB=> ?_
 refine X9 fun K hK=>Xn Xj [] ?_
 simp (maxSteps:=9^7) only[ss,X1,tab,simprocAttr, -List.reduceReplicate]
 repeat' (first|(with_reducible refine hK _ ?_;clear hK K)|with_reducible apply And.intro)
 refine Xe ?_
 refine Xz (fun i:Nat=>[(8,i64 (i:Int)),(7,.sl 1 (Xo ((List.range i).map fun y=>byS kp d z y d.waits.length)) (.own (n+1))),(9,.top),(10,.top),(11,.top),(12,.top),(13,.top),(14,.top),(15,.top),(16,.top),(17,.top),(18,.top),(19,.top),(20,.top)]) (fun i=>[some (.box 43 [.sl 1 (d.sectors.map Y6) .sh,.sl 2 (d.waits.map wrC) .sh]),some (.row 5 1 i)]) (fun i=>out) (fun i=>i≤128) (fun i=>128 - i) 0 (Nat.zero_le _) ?_ fun i hi=> ?_
 ·refine X2 ?_ ?_ (by first|rfl|(simp only[List.range_zero,List.map_nil,Wb];rfl)|simp only[List.range_zero,List.map_nil,Wb]) rfl rfl rfl<;>simp only[X4,sl,List.range_zero,List.map_nil,Wb]
 simp only[X4,s_0,s_s]
 refine X9 fun KC hKC=> ?_
 refine X9 fun K hK=>Xn Xj [] ?_
 simp (maxSteps:=9^7) only[ss,X1,tab,simprocAttr, -List.reduceReplicate,List.range_zero,List.map_nil,Wb]
 repeat' (first|(with_reducible refine hK _ ?_;clear hK K)|with_reducible apply And.intro)
 refine Uz rfl (fun ht=>Xhj (hKC _ ?_)) (fun hf=>Qi (id ?_))
 rotate_left
 ·simp only[Qd,Z4,if_true]
  refine hKB _ ?_
  clear hKB KB hKC KC
  have hi32:i=128:=by have:=of_decide_eq_false hf;omega
  subst hi32
  refine X9 fun K hK=>Xn Xj [] ?_
  simp (maxSteps:=9^7) only[ss,X1,tab,simprocAttr, -List.reduceReplicate]
  repeat' (first|(with_reducible refine hK _ ?_;clear hK K)|with_reducible apply And.intro)
  refine Yd ?_
  exact Xv (.inr rfl) rfl rfl rfl (fun _ _=>rfl) (.sh _ _ _) rfl
 clear hKC KC
 have hlt:i<128:=by have:=of_decide_eq_true ht;omega
 refine X9 fun KC hKC=>Xe ?_
 refine Xn Xj [] ?_
 simp (maxSteps:=9^7) only[ss,X1,tab,simprocAttr, -List.reduceReplicate]
 refine X3 (Gp d kp z i hm hkp hk hz hlt) ?_
 have e1:Xo ((List.range i).map fun y=>byS kp d z y d.waits.length)++[[b8 (byS kp d z i d.waits.length)]]=Xo ((List.range (i+1)).map fun y=>byS kp d z y d.waits.length):=by
  rw[List.range_succ,List.map_append];exact Xah _ _
 simp (maxSteps:=9^7) only[ss,X1,tab,simprocAttr, -List.reduceReplicate,X5,List.length_map,List.length_range,show i+1≤140737488355328 by omega,show i+1≤9223372036854775807 by omega,e1]
 refine hKC _ ?_
 clear hKC KC
 refine Xn Xj [] ?_
 simp (maxSteps:=9^7) only[ss,X1,tab,simprocAttr, -List.reduceReplicate,Yl (n:=i) 1 1 rfl (by omega)]
 refine⟨i+1,by omega,by omega,?_⟩
 refine X2 ?_ ?_ rfl rfl rfl rfl<;>simp only[X4,sl]
end Go.Proofs.Ytjgbbjooeibppaa
