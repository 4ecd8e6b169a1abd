/- The layer of abstract values, joined. -/
import Derived.Test.YtjgbbjooeibppaaZD2
import Derived.Test.YtjgbbjooeibppaaZD23
namespace Go.Proofs.Ytjgbbjooeibppaa
set_option linter.unusedSimpArgs false
set_option linter.unusedVariables false
set_option maxHeartbeats 2000000
set_option maxRecDepth 4000
open Go Go.VS Tab
theorem Xje (l m:List UInt8):(⟨l.toArray⟩:ByteArray)++(⟨m.toArray⟩:ByteArray)=⟨(l++m).toArray⟩:=by
 apply ByteArray.ext
 rw[ByteArray.data_append]
 simp
theorem Xil (l:List UInt8):(⟨l.toArray⟩:ByteArray).size=l.length:=by
 show l.toArray.size= _
 simp
theorem Xmj (a:Int):IntKind.u64.wrap a=((BitVec.ofInt 64 a).toNat:Int):=by
 rw[Xbd,BitVec.toNat_ofInt];omega
def lb (x:Int) (i:Nat):UInt8:=UInt8.ofNat ((BitVec.ofInt 64 x)>>>(8*i)).toNat
def Xid (x:Int):List UInt8:=46::(List.range 8).map (lb x)
theorem Xhf (x:Int):(Xid x).length=9:=by simp [Xid]
theorem Xm2 (x:Int):Xr Try.prog 80 [i64 x] [] (.val (.string ⟨(Xid x).toArray⟩)) []:=by
 refine Xc 0 Try.func80 rfl fun n out _ _=> ?_
 simp only[Try.ntmps80,List.length_cons,List.length_nil,List.length_map,List.length_replicate,Xf,Nat.reduceAdd,Nat.reduceSub,List.replicate,List.cons_append,List.nil_append]
 refine X9 fun K hK=>Xn Xj [] ?_
 simp (maxSteps:=9^7) only[ss,X1,tab,simprocAttr, -List.reduceReplicate]
 repeat' (first|(with_reducible refine hK _ ?_;clear hK K)|with_reducible apply And.intro)
 refine X9 fun K hK=>Xn Xj [] ?_
 simp (maxSteps:=9^7) only[ss,X1,tab,simprocAttr, -List.reduceReplicate]
 repeat' (first|(with_reducible refine hK _ ?_;clear hK K)|with_reducible apply And.intro)
 refine X9 fun K hK=>Xn Xj [] ?_
 simp (maxSteps:=9^7) only[ss,X1,tab,simprocAttr, -List.reduceReplicate,Xmj]
 repeat' (first|(with_reducible refine hK _ ?_;clear hK K)|with_reducible apply And.intro)
 refine X9 fun KB hKB=> ?_
 refine X9 fun K hK=>Xn Xj [] ?_
 simp (maxSteps:=9^7) only[ss,X1,tab,simprocAttr, -List.reduceReplicate]
 repeat' (first|(with_reducible refine hK _ ?_;clear hK K)|with_reducible apply And.intro)
 refine Xe ?_
 refine Xz (fun i:Nat=>[(3,.val (.string ⟨(46::(List.range i).map (lb x)).toArray⟩)),(4,w64 ((BitVec.ofInt 64 x)>>>(8*i))),(5,i64 (i:Int)),(8,.top),(9,.top),(10,.top),(11,.top),(12,.top),(13,.top),(14,.top),(15,.top),(16,.top),(17,.top),(18,.top),(19,.top)]) (fun i=>[]) (fun i=>out) (fun i=>i≤8) (fun i=>8 - i) 0 (Nat.zero_le _) ?_ fun i hi=> ?_
 ·refine X2 ?_ ?_ (by first|rfl|(simp only[List.range_zero,List.map_nil,Nat.mul_zero,BitVec.ushiftRight_zero];rfl)|simp only[List.range_zero,List.map_nil,Nat.mul_zero,BitVec.ushiftRight_zero]) rfl rfl rfl<;>simp only[X4,sl,List.range_zero,List.map_nil,Nat.mul_zero,BitVec.ushiftRight_zero]
 simp only[X4,s_0,s_s]
 refine X9 fun KC hKC=> ?_
 refine X9 fun K hK=>Xn Xj [] ?_
 simp (maxSteps:=9^7) only[ss,X1,tab,simprocAttr, -List.reduceReplicate,List.range_zero,List.map_nil,Nat.mul_zero,BitVec.ushiftRight_zero]
 repeat' (first|(with_reducible refine hK _ ?_;clear hK K)|with_reducible apply And.intro)
 refine Uz rfl (fun ht=>Xhj (hKC _ ?_)) (fun hf=>Qi (id ?_))
 rotate_left
 ·simp only[Qd,Z4,if_true]
  refine hKB _ ?_
  clear hKB KB hKC KC
  have hi32:i=8:=by have:=of_decide_eq_false hf;omega
  subst hi32
  refine X9 fun K hK=>Xn Xj [] ?_
  simp (maxSteps:=9^7) only[ss,X1,tab,simprocAttr, -List.reduceReplicate]
  repeat' (first|(with_reducible refine hK _ ?_;clear hK K)|with_reducible apply And.intro)
  refine Yd ?_
  exact Qv (.inr rfl) rfl rfl rfl (fun _ _=>rfl) rfl
 clear hKC KC
 have hlt:i<8:=by have:=of_decide_eq_true ht;omega
 refine X9 fun KC hKC=>Xe ?_
 have e1:(46::(List.range i).map (lb x))++[UInt8.ofNat ((BitVec.ofInt 64 x)>>>(8*i)).toNat]=46::(List.range (i+1)).map (lb x):=by
  rw[List.range_succ,List.map_append];rfl
 have e2:((BitVec.ofInt 64 x)>>>(8*i))>>>8=(BitVec.ofInt 64 x)>>>(8*(i+1)):=by
  rw[← BitVec.shiftRight_add];rfl
 have hb:∀b:UInt8,([[b8 b]]:List (List AV))=Xo [b]:=fun b=>rfl
 refine X9 fun K hK=>Xn Xj [] ?_
 simp (maxSteps:=9^7) only[ss,X1,tab,simprocAttr, -List.reduceReplicate,Xda,hb,Ya,Xil,List.length_cons,List.length_map,List.length_range,Xje]
 repeat' (first|(with_reducible refine hK _ ?_;clear hK K)|with_reducible apply And.intro)
 ·omega
 rw[e1]
 refine Xn Xj [] ?_
 simp (maxSteps:=9^7) only[ss,X1,tab,simprocAttr, -List.reduceReplicate,X3y _ (b:=8) (by decide),Int.reduceToNat,e2]
 refine hKC _ ?_
 clear hKC KC
 refine Xn Xj [] ?_
 simp (maxSteps:=9^7) only[ss,X1,tab,simprocAttr, -List.reduceReplicate,Yl (n:=i) 1 1 rfl (by omega)]
 refine⟨i+1,by omega,by omega,?_⟩
 refine X2 ?_ ?_ rfl rfl rfl rfl<;>simp only[X4,sl]
def Xi5 (l:List (List UInt8)):List UInt8:=l.flatMap fun b=>Xid b.length++b
def Xi4 (l:List Wr):List UInt8:=l.flatMap fun w=>Xid w.at'++Xid w.data.length++w.data
def Xn7 (d:Dsk):List UInt8:=Xi5 d.sectors++[124]++Xi4 d.waits
theorem Xim:Xi5 []=[]:=rfl
theorem Xin:Xi4 []=[]:=rfl
theorem Xka (l:List (List UInt8)) (h:∀b,b∈l→b.length≤1000000):(Xi5 l).length≤l.length*1000009:=by
 induction l with
 |nil=>simp [Xi5]
 |cons b l ih=>
  have h1:=ih fun b hb=>h b (by simp [hb])
  have h2:=h b (by simp)
  simp only[Xi5,List.flatMap_cons,List.length_append,Xhf,List.length_cons] at h1⊢
  omega
theorem Xm3 (l:List Wr) (h:∀w,w∈l→w.data.length≤1000000):(Xi4 l).length≤l.length*1000018:=by
 induction l with
 |nil=>simp [Xi4]
 |cons b l ih=>
  have h1:=ih fun b hb=>h b (by simp [hb])
  have h2:=h b (by simp)
  simp only[Xi4,List.flatMap_cons,List.length_append,Xhf,List.length_cons] at h1⊢
  omega
theorem Xli (l:List (List UInt8)) (i:Nat) (h:i<l.length):Xi5 (l.take i)++Xid (l[i]).length++l[i]=Xi5 (l.take (i+1)):=by
 rw[List.take_succ_eq_append_getElem h,Xi5,Xi5,List.flatMap_append];simp
theorem Xlj (l:List Wr) (i:Nat) (h:i<l.length):Xi4 (l.take i)++Xid (l[i]).at'++Xid (l[i]).data.length++(l[i]).data=Xi4 (l.take (i+1)):=by
 rw[List.take_succ_eq_append_getElem h,Xi4,Xi4,List.flatMap_append];simp
theorem Xn0 (d:Dsk) (hd:Small d):Xr Try.prog 55 [Y3p d] [] (.val (.string ⟨(Xn7 d).toArray⟩)) []:=by
 have h1:=hd.s
 have h2:=hd.w
 have hS:=Xka d.sectors hd.sb
 have hSb:∀i,(Xi5 (d.sectors.take i)).length≤1000009000:=fun i=>by
  have:=Xka (d.sectors.take i) fun b hb=>hd.sb b (List.mem_of_mem_take hb)
  have h3:(d.sectors.take i).length≤1000:=by rw[List.length_take];omega
  omega
 have hWb:∀i,(Xi4 (d.waits.take i)).length≤1000018000:=fun i=>by
  have:=Xm3 (d.waits.take i) fun b hb=>hd.wb b (List.mem_of_mem_take hb)
  have h3:(d.waits.take i).length≤1000:=by rw[List.length_take];omega
  omega
 refine Xc 1 Try.func55 rfl fun n out _ _=> ?_
 simp only[Try.ntmps55,List.length_cons,List.length_nil,List.length_map,List.length_replicate,Xf,Nat.reduceAdd,Nat.reduceSub,List.replicate,List.cons_append,List.nil_append]
 refine X9 fun K hK=>Xn Xj [] ?_
 simp (maxSteps:=9^7) only[ss,X1,tab,simprocAttr, -List.reduceReplicate,Y3p,Xha]
 repeat' (first|(with_reducible refine hK _ ?_;clear hK K)|with_reducible apply And.intro)
 refine X9 fun K hK=>Xn Xj [] ?_
 simp (maxSteps:=9^7) only[ss,X1,tab,simprocAttr, -List.reduceReplicate]
 repeat' (first|(with_reducible refine hK _ ?_;clear hK K)|with_reducible apply And.intro)
 refine X9 fun KB hKB=> ?_
 refine X9 fun K hK=>Xn Xj [] ?_
 simp (maxSteps:=9^7) only[ss,X1,tab,simprocAttr, -List.reduceReplicate]
 repeat' (first|(with_reducible refine hK _ ?_;clear hK K)|with_reducible apply And.intro)
 refine Xe ?_
 refine Xz (fun i:Nat=>[(3,.val (.string ⟨(Xi5 (d.sectors.take i)).toArray⟩)),(4,i64 (i:Int)),(6,.top),(7,.top),(8,.top),(9,.top),(10,.top),(11,.top),(12,.top),(13,.top),(14,.top),(15,.top),(16,.top),(17,.top),(18,.top),(19,.top),(20,.top),(21,.top),(22,.top),(23,.top),(24,.top),(25,.top),(26,.top),(27,.top),(28,.top)]) (fun i=>[some (.box 43 [.sl 1 (d.sectors.map Y6) .sh,.sl 2 (d.waits.map wrC) .sh])]) (fun i=>out) (fun i=>i≤d.sectors.length) (fun i=>d.sectors.length - i) 0 (Nat.zero_le _) ?_ fun i hi=> ?_
 ·refine X2 ?_ ?_ (by first|rfl|(simp only[List.take_zero,Xim,List.length_map];rfl)|simp only[List.take_zero,Xim,List.length_map]) rfl rfl rfl<;>simp only[X4,sl,List.take_zero,Xim,List.length_map]
 simp only[X4,s_0,s_s]
 refine X9 fun KC hKC=> ?_
 refine X9 fun K hK=>Xn Xj [] ?_
 simp (maxSteps:=9^7) only[ss,X1,tab,simprocAttr, -List.reduceReplicate,List.take_zero,Xim,List.length_map]
 repeat' (first|(with_reducible refine hK _ ?_;clear hK K)|with_reducible apply And.intro)
 refine Uz rfl (fun ht=>Xhj (hKC _ ?_)) (fun hf=>Qi (id ?_))
 rotate_left
 ·simp only[Qd,Z4,if_true]
  refine hKB _ ?_
  clear hKB KB hKC KC
  have h_ib:i=d.sectors.length:=by have:=of_decide_eq_false hf;omega
  subst h_ib
  rw[List.take_length]
  have hSb0:=hSb d.sectors.length
  rw[List.take_length] at hSb0
  have hc:({data:= #[124]}:ByteArray)=⟨([124]:List UInt8).toArray⟩:=rfl
  refine X9 fun K hK=>Xn Xj [] ?_
  simp (maxSteps:=9^7) only[ss,X1,tab,simprocAttr, -List.reduceReplicate,hc,Xil,Xje]
  repeat' (first|(with_reducible refine hK _ ?_;clear hK K)|with_reducible apply And.intro)
  ·omega
  refine X9 fun KB hKB=> ?_
  refine X9 fun K hK=>Xn Xj [] ?_
  simp (maxSteps:=9^7) only[ss,X1,tab,simprocAttr, -List.reduceReplicate]
  repeat' (first|(with_reducible refine hK _ ?_;clear hK K)|with_reducible apply And.intro)
  refine Xe ?_
  refine Xz (fun i:Nat=>[(3,.val (.string ⟨(Xi5 d.sectors++[124]++Xi4 (d.waits.take i)).toArray⟩)),(5,i64 (i:Int)),(31,.top),(32,.top),(33,.top),(34,.top),(35,.top),(36,.top),(37,.top),(38,.top),(39,.top),(40,.top),(41,.top),(42,.top),(43,.top),(44,.top),(45,.top),(46,.top),(47,.top),(48,.top),(49,.top),(50,.top),(51,.top),(52,.top),(53,.top),(54,.top),(55,.top),(56,.top),(57,.top),(58,.top),(59,.top),(60,.top),(61,.top),(62,.top),(63,.top)]) (fun i=>[some (.box 43 [.sl 1 (d.sectors.map Y6) .sh,.sl 2 (d.waits.map wrC) .sh])]) (fun i=>out) (fun i=>i≤d.waits.length) (fun i=>d.waits.length - i) 0 (Nat.zero_le _) ?_ fun i hi=> ?_
  ·refine X2 ?_ ?_ (by first|rfl|(simp only[List.take_zero,Xin,List.length_map,List.append_nil];rfl)|simp only[List.take_zero,Xin,List.length_map,List.append_nil]) rfl rfl rfl<;>simp only[X4,sl,List.take_zero,Xin,List.length_map,List.append_nil]
  simp only[X4,s_0,s_s]
  refine X9 fun KC hKC=> ?_
  refine X9 fun K hK=>Xn Xj [] ?_
  simp (maxSteps:=9^7) only[ss,X1,tab,simprocAttr, -List.reduceReplicate,List.take_zero,Xin,List.length_map,List.append_nil]
  repeat' (first|(with_reducible refine hK _ ?_;clear hK K)|with_reducible apply And.intro)
  refine Uz rfl (fun ht=>Xhj (hKC _ ?_)) (fun hf=>Qi (id ?_))
  rotate_left
  ·simp only[Qd,Z4,if_true]
   refine hKB _ ?_
   clear hKB KB hKC KC
   have h_ib:i=d.waits.length:=by have:=of_decide_eq_false hf;omega
   subst h_ib
   rw[List.take_length]
   refine X9 fun K hK=>Xn Xj [] ?_
   simp (maxSteps:=9^7) only[ss,X1,tab,simprocAttr, -List.reduceReplicate]
   repeat' (first|(with_reducible refine hK _ ?_;clear hK K)|with_reducible apply And.intro)
   refine Yd ?_
   exact Qv (.inr rfl) rfl rfl rfl (fun _ _=>rfl) rfl
  clear hKC KC
  have hlt:i<d.waits.length:=by have:=of_decide_eq_true ht;omega
  refine X9 fun KC hKC=>Xe ?_
  have hgw:=Xg wrC d.waits i [] hlt
  have hwb:=hd.wb _ (List.getElem_mem hlt)
  have hW2:=hWb i
  have hsn:=Xlj d.waits i hlt
  refine Xqf Xj follows (by kernel_rfl) ?_
  simp (maxSteps:=9^7) only[ss,X1,tab,simprocAttr, -List.reduceReplicate,List.length_map,hlt,hgw,wrC]
  refine X3 (Xm2 _) ?_
  simp (maxSteps:=9^7) only[ss,X1,tab,simprocAttr, -List.reduceReplicate,Xil,Xje,List.length_append,Xhf,List.length_map,hlt,hgw,wrC,X5]
  refine⟨by omega,?_⟩
  refine X3 (Xm2 _) ?_
  have e:Xi5 d.sectors++[124]++Xi4 (d.waits.take i)++Xid (d.waits[i]).at'++Xid (((d.waits[i]).data.length:Nat):Int)++(d.waits[i]).data=Xi5 d.sectors++[124]++Xi4 (d.waits.take (i+1)):=by
   rw[← hsn];simp [List.append_assoc]
  simp (maxSteps:=9^7) only[ss,X1,tab,simprocAttr, -List.reduceReplicate,Xil,Xje,List.length_append,Xhf,List.length_map,hlt,hgw,wrC,X5,Ya,e]
  repeat refine And.intro (by omega) ?_
  refine hKC _ ?_
  clear hKC KC
  refine Xn Xj [] ?_
  simp (maxSteps:=9^7) only[ss,X1,tab,simprocAttr, -List.reduceReplicate,Yl (n:=i) 1 1 rfl (by omega)]
  refine⟨i+1,by omega,by omega,?_⟩
  refine X2 ?_ ?_ rfl rfl rfl rfl<;>simp only[X4,sl]
 clear hKC KC
 have hlt:i<d.sectors.length:=by have:=of_decide_eq_true ht;omega
 refine X9 fun KC hKC=>Xe ?_
 have hgs:=Xg Y6 d.sectors i [] hlt
 have hsb:=hd.sb _ (List.getElem_mem hlt)
 have hS2:=hSb i
 have hsn:=Xli d.sectors i hlt
 refine Xqf Xj follows (by kernel_rfl) ?_
 simp (maxSteps:=9^7) only[ss,X1,tab,simprocAttr, -List.reduceReplicate,List.length_map,hlt,hgs,Y6,X5]
 refine X3 (Xm2 _) ?_
 simp (maxSteps:=9^7) only[ss,X1,tab,simprocAttr, -List.reduceReplicate,Xil,Xje,List.length_append,Xhf,List.length_map,hlt,hgs,Y6,X5,Ya,hsn]
 repeat refine And.intro (by omega) ?_
 refine hKC _ ?_
 clear hKC KC
 refine Xn Xj [] ?_
 simp (maxSteps:=9^7) only[ss,X1,tab,simprocAttr, -List.reduceReplicate,Yl (n:=i) 1 1 rfl (by omega)]
 refine⟨i+1,by omega,by omega,?_⟩
 refine X2 ?_ ?_ rfl rfl rfl rfl<;>simp only[X4,sl]
def Xkt (a b:Dsk):Bool:=decide (a.sectors.length=b.sectors.length)&&decide (a.waits.length=b.waits.length)&&(Xn7 a==Xn7 b)
theorem Xjo (a:Dsk):Xkt a a=true:=by simp [Xkt]
theorem Xm4 (a b:Dsk) (ha:Small a) (hb:Small b):Xr Try.prog 14 [Y3p a,Y3p b] [] (bool (Xkt a b)) []:=by
 refine Xc 2 Try.func14 rfl fun n out _ _=> ?_
 simp only[Try.ntmps14,List.length_cons,List.length_nil,List.length_map,List.length_replicate,Xf,Nat.reduceAdd,Nat.reduceSub,List.replicate,List.cons_append,List.nil_append]
 refine X9 fun K hK=>Xn Xj [] ?_
 simp (maxSteps:=9^7) only[ss,X1,tab,simprocAttr, -List.reduceReplicate,Y3p,Xha]
 repeat' (first|(with_reducible refine hK _ ?_;clear hK K)|with_reducible apply And.intro)
 have g1:((a.sectors.length:Int)==(b.sectors.length:Int))=decide (a.sectors.length=b.sectors.length):=by rw[Bool.eq_iff_iff];simp;constructor<;>intro h<;>omega
 have g2:((a.waits.length:Int)==(b.waits.length:Int))=decide (a.waits.length=b.waits.length):=by rw[Bool.eq_iff_iff];simp;constructor<;>intro h<;>omega
 unfold Xkt
 by_cases h1:a.sectors.length=b.sectors.length
 ·have e1:decide (a.sectors.length=b.sectors.length)=true:=decide_eq_true h1
  rw[e1] at g1
  rw[e1,Bool.true_and]
  by_cases h2:a.waits.length=b.waits.length
  ·have e2:decide (a.waits.length=b.waits.length)=true:=decide_eq_true h2
   rw[e2] at g2
   rw[e2,Bool.true_and]
   refine X9 fun K hK=>Xqf Xj follows (by kernel_rfl) ?_
   simp (maxSteps:=9^7) only[ss,X1,tab,simprocAttr, -List.reduceReplicate,List.length_map,g1,g2]
   repeat' (first|(with_reducible refine hK _ ?_;clear hK K)|with_reducible apply And.intro)
   refine X3 (Xn0 a ha) ?_
   simp (maxSteps:=9^7) only[ss,X1,tab,simprocAttr, -List.reduceReplicate]
   refine X3 (Xn0 b hb) ?_
   simp (maxSteps:=9^7) only[ss,X1,tab,simprocAttr, -List.reduceReplicate,Z5]
   repeat' (first|(with_reducible refine hK _ ?_;clear hK K)|with_reducible apply And.intro)
   refine Yd ?_
   exact Qv (.inr rfl) rfl rfl rfl (fun _ _=>rfl) rfl
  ·have e2:decide (a.waits.length=b.waits.length)=false:=decide_eq_false h2
   rw[e2] at g2
   rw[e2,Bool.false_and]
   refine X9 fun K hK=>Xqf Xj follows (by kernel_rfl) ?_
   simp (maxSteps:=9^7) only[ss,X1,tab,simprocAttr, -List.reduceReplicate,List.length_map,g1,g2]
   repeat' (first|(with_reducible refine hK _ ?_;clear hK K)|with_reducible apply And.intro)
   refine Yd ?_
   exact Qv (.inr rfl) rfl rfl rfl (fun _ _=>rfl) rfl
 ·have e1:decide (a.sectors.length=b.sectors.length)=false:=decide_eq_false h1
  rw[e1] at g1
  rw[e1,Bool.false_and,Bool.false_and]
  refine X9 fun K hK=>Xqf Xj follows (by kernel_rfl) ?_
  simp (maxSteps:=9^7) only[ss,X1,tab,simprocAttr, -List.reduceReplicate,List.length_map,g1]
  repeat' (first|(with_reducible refine hK _ ?_;clear hK K)|with_reducible apply And.intro)
  refine Yd ?_
  exact Qv (.inr rfl) rfl rfl rfl (fun _ _=>rfl) rfl
theorem Xl8 (k:Nat) (l:List UInt8) (hl:l.length≤100000000) (h0:0<l.length):Xr Try.prog 57 [bs l] [(k,none)] (.bsl k 0 l.length false) [(k,.box 5 (l.map b8))]:=by
 have hne:Xo l≠[]:=fun h=>by simp [Xo] at h;subst h;simp at h0
 have hfl:(Xo l).flatten=l.map b8:=by
  clear h0 hl hne
  induction l with
  |nil=>rfl
  |cons x xs ih=>exact congrArg (b8 x:: ·) ih
 refine Xbz (fun h=>absurd h hne) ?_
 refine Xc 1 Try.func57 rfl fun n out _ _=> ?_
 simp only[Try.ntmps57,List.length_cons,List.length_nil,List.length_map,List.length_replicate,Xf,Nat.reduceAdd,Nat.reduceSub,List.replicate,List.cons_append,List.nil_append]
 rename_i hneeds hgv
 obtain⟨hk,_⟩:=hneeds
 obtain⟨hkn,_⟩:=hgv
 refine X9 fun K hK=>Xn Xj [] ?_
 simp (maxSteps:=9^7) only[ss,X1,tab,simprocAttr, -List.reduceReplicate]
 repeat' (first|(with_reducible refine hK _ ?_;clear hK K)|with_reducible apply And.intro)
 refine X9 fun KB hKB=> ?_
 refine X9 fun K hK=>Xn Xj [] ?_
 simp (maxSteps:=9^7) only[ss,X1,tab,simprocAttr, -List.reduceReplicate]
 repeat' (first|(with_reducible refine hK _ ?_;clear hK K)|with_reducible apply And.intro)
 refine Uy rfl (Xhj (hKB _ ?_))
 clear hKB KB
 refine X9 fun K hK=>Xn Xj [(1007,none)] ?_
 simp (maxSteps:=9^7) only[ss,X1,tab,simprocAttr, -List.reduceReplicate,X5,show l.length≤140737488355328 by omega,show l.length≤9223372036854775807 by omega,hne,hfl]
 repeat' (first|(with_reducible refine hK _ ?_;clear hK K)|with_reducible apply And.intro)
 refine Yy (Xf9 (i:=0) (m:=l.length) (sz:=1) (e:=5) (cs:=l.map b8) rfl h0) ?_
 simp only[List.map_cons,List.map_nil,AV.bxv,s_0,s_s,reduceCtorEq,if_true,if_false,Nat.reduceEqDiff,reduceIte,and_self]
 refine Yy (Ja (i:=0) (k:=k) rfl (by exact hkn) (by exact hk)) ?_
 simp only[List.map_cons,List.map_nil,Option.map_some,Option.map_none,Res.ren1,AV.ren1,Nat.add_left_cancel_iff,Nat.reduceEqDiff,Nat.one_ne_zero,reduceIte,Xoe,s_0,s_s]
 refine Yd ?_
 exact Qv (.inr rfl) rfl rfl rfl (fun _ _=>rfl) rfl
end Go.Proofs.Ytjgbbjooeibppaa
