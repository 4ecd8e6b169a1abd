/- The layer of abstract values, joined. -/
import Derived.Test.YtjgbbjooeibppaaZD2
import Derived.Test.YtjgbbjooeibppaaZD19
namespace Go.Proofs.Ytjgbbjooeibppaa
set_option linter.unusedSimpArgs false
set_option linter.unusedVariables false
set_option maxHeartbeats 2000000
set_option maxRecDepth 4000
open Go Go.VS Tab
theorem Yd9:kq []=Xhc:=by funext i;simp [kq,Xhc]
theorem Ycm (d:Dsk) (z:Nat) (hm:may d=true) (hz:z<32):Xr Try.prog 101 [Y3p d,i64 (z:Int)] [] (bs ((Y3l Xhc d d.waits.length).getD z [])) []:=by
 have hrow:=Ydk d [] z hm (.inl rfl) (fun x hx=>by simp at hx) hz
 rw[Yd9] at hrow
 refine Xc 1 Try.func101 rfl fun n out _ _=> ?_
 simp only[Try.ntmps101,List.length_cons,List.length_nil,List.length_map,List.length_replicate,Xf,Nat.reduceAdd,Nat.reduceSub,List.replicate,List.cons_append,List.nil_append]
 refine X9 fun K hK=>Xn Xj [] ?_
 simp (maxSteps:=9^7) only[ss,X1,tab,simprocAttr, -List.reduceReplicate,Y3p,Xha]
 repeat' (first|(with_reducible refine hK _ ?_;clear hK K)|with_reducible apply And.intro)
 refine X9 fun K hK=>Xn Xj [] ?_
 simp (maxSteps:=9^7) only[ss,X1,tab,simprocAttr, -List.reduceReplicate]
 repeat' (first|(with_reducible refine hK _ ?_;clear hK K)|with_reducible apply And.intro)
 refine X3 (Xdb hrow ⟨.rfl _,(Py _ _).2 trivial,.rfl _,trivial⟩) ?_
 simp (maxSteps:=9^7) only[ss,X1,tab,simprocAttr, -List.reduceReplicate]
 repeat' (first|(with_reducible refine hK _ ?_;clear hK K)|with_reducible apply And.intro)
 refine Yd ?_
 exact Qv (.inr rfl) rfl rfl rfl (fun _ _=>rfl) rfl
theorem Xn6 (k:Nat) (d:Dsk) (hd:Small d):Xr Try.prog 12 [Y3p d] [(k,none)] (.agg [.sl 1 (d.sectors.map Y6) .sh,.sl 2 (d.waits.map wrC) (.own k)]) [(k,.row 76 2 d.waits.length)]:=by
 have h1:=hd.s
 have h2:=hd.w
 refine Xc 6 Try.func12 rfl fun n out _ _=> ?_
 simp only[Try.ntmps12,List.length_cons,List.length_nil,List.length_map,List.length_replicate,Xf,Nat.reduceAdd,Nat.reduceSub,List.replicate,List.cons_append,List.nil_append]
 rename_i hneeds hgv
 obtain⟨hk,_⟩:=hneeds
 obtain⟨hkn,_⟩:=hgv
 refine X9 fun K hK=>Xn Xj [] ?_
 simp (maxSteps:=9^7) only[ss,X1,tab,simprocAttr, -List.reduceReplicate,Y3p,Xha]
 repeat' (first|(with_reducible refine hK _ ?_;clear hK K)|with_reducible apply And.intro)
 refine X9 fun K hK=>Xn Xj [] ?_
 simp (maxSteps:=9^7) only[ss,X1,tab,simprocAttr, -List.reduceReplicate]
 repeat' (first|(with_reducible refine hK _ ?_;clear hK K)|with_reducible apply And.intro)
 refine Yy (Q9 (i:=3) 44 1 rfl) ?_
 refine Yy (Q9 (i:=4) 76 2 rfl) ?_
 simp only[s_0,s_s]
 refine X9 fun KB hKB=> ?_
 refine X9 fun K hK=>Xn Xj [] ?_
 simp (maxSteps:=9^7) only[ss,X1,tab,simprocAttr, -List.reduceReplicate]
 repeat' (first|(with_reducible refine hK _ ?_;clear hK K)|with_reducible apply And.intro)
 refine Xe ?_
 refine Xz (fun i:Nat=>[(4,i64 (i:Int)),(7,.top),(8,.top),(9,.top),(10,.top),(11,.top),(12,.top),(13,.top),(14,.top),(15,.top),(16,.top),(17,.top),(18,.top),(19,.top),(20,.top),(21,.top),(22,.top),(23,.top),(24,.top)]) (fun i=>[some (.box 43 [.sl 1 (d.sectors.map Y6) .sh,.sl 2 (d.waits.map wrC) .sh]),some (.box 43 [.sl 0 [] .nil,.sl 0 [] .nil]),some (.box 43 [.sl 1 ((d.sectors.take i).map Y6) (.own (n+3)),.sl 0 [] .nil]),some (.row 44 1 i),some (.row 76 2 0),none]) (fun i=>out) (fun i=>i≤d.sectors.length) (fun i=>d.sectors.length - i) 0 (Nat.zero_le _) ?_ fun i hi=> ?_
 ·refine X2 ?_ ?_ (by first|rfl|(simp only[List.take_zero,List.map_nil,List.length_map];rfl)|simp only[List.take_zero,List.map_nil,List.length_map]) rfl rfl rfl<;>simp only[X4,sl,List.take_zero,List.map_nil,List.length_map]
 simp only[X4,s_0,s_s]
 refine X9 fun KC hKC=> ?_
 refine X9 fun K hK=>Xn Xj [] ?_
 simp (maxSteps:=9^7) only[ss,X1,tab,simprocAttr, -List.reduceReplicate,List.take_zero,List.map_nil,List.length_map]
 repeat' (first|(with_reducible refine hK _ ?_;clear hK K)|with_reducible apply And.intro)
 refine Uz rfl (fun ht=>Xhj (hKC _ ?_)) (fun hf=>Qi (id ?_))
 rotate_left
 ·simp only[Qd,Z4,if_true]
  refine hKB _ ?_
  clear hKB KB hKC KC
  have h_ib:i=d.sectors.length:=by have:=of_decide_eq_false hf;omega
  subst h_ib
  rw[List.take_length]
  refine X9 fun KB hKB=> ?_
  refine X9 fun K hK=>Xn Xj [] ?_
  simp (maxSteps:=9^7) only[ss,X1,tab,simprocAttr, -List.reduceReplicate]
  repeat' (first|(with_reducible refine hK _ ?_;clear hK K)|with_reducible apply And.intro)
  refine Xe ?_
  refine Xl (fun m (i:Nat)=>[(1,.ptr (m+0) 0),(2,.ptr (m+1) 0),(3,.ptr (m+2) 0),(5,i64 (i:Int)),(6,.top),(25,.top),(26,.top),(27,.top),(28,.top),(29,.top),(30,.top),(31,.top),(32,.top),(33,.top),(34,.top),(35,.top),(36,.top),(37,.top),(38,.top),(39,.top),(40,.top),(41,.top),(42,.top),(43,.top),(44,.top),(45,.top),(46,.top)]) (fun m i=>[some (.box 43 [.sl 1 (d.sectors.map Y6) .sh,.sl 2 (d.waits.map wrC) .sh]),some (.box 43 [.sl 0 [] .nil,.sl 0 [] .nil]),some (.box 43 [.sl 1 (d.sectors.map Y6) (.own (m+3)),.sl 2 ((d.waits.take i).map wrC) (.own (m+4))]),some (.row 44 1 d.sectors.length),some (.row 76 2 i),none]) (fun i=>out) (fun i=>i≤d.waits.length) (fun i=>d.waits.length - i) 0 (Nat.zero_le _) ?_ fun m i hm hi=> ?_
  ·refine X2 ?_ ?_ (by first|rfl|(simp only[List.take_zero,List.map_nil,List.length_map];rfl)|simp only[List.take_zero,List.map_nil,List.length_map]) rfl rfl rfl<;>simp only[X4,sl,List.take_zero,List.map_nil,List.length_map]
  simp only[X4,s_0,s_s]
  refine X9 fun KC hKC=> ?_
  refine X9 fun K hK=>Xn Xj [] ?_
  simp (maxSteps:=9^7) only[ss,X1,tab,simprocAttr, -List.reduceReplicate,List.take_zero,List.map_nil,List.length_map,Xi hm]
  repeat' (first|(with_reducible refine hK _ ?_;clear hK K)|with_reducible apply And.intro)
  refine Uz rfl (fun ht=>Xhj (hKC _ ?_)) (fun hf=>Qi (id ?_))
  rotate_left
  ·simp only[Qd,Z4,if_true]
   refine hKB _ ?_
   clear hKB KB hKC KC
   have h_ib:i=d.waits.length:=by have:=of_decide_eq_false hf;omega
   subst h_ib
   rw[List.take_length]
   refine X9 fun K hK=>Xn Xj [] ?_
   simp (maxSteps:=9^7) only[ss,X1,tab,simprocAttr, -List.reduceReplicate,Xi hm]
   repeat' (first|(with_reducible refine hK _ ?_;clear hK K)|with_reducible apply And.intro)
   refine Yy (Ja (i:=4) (k:=k) rfl (by exact hkn) (by exact hk)) ?_
   simp only[List.map_cons,List.map_nil,Option.map_some,Option.map_none,Res.ren1,AV.ren1,Nat.add_left_cancel_iff,Nat.reduceEqDiff,Nat.one_ne_zero,reduceIte,Xoe,s_0,s_s]
   refine Yd ?_
   exact Xu (.inr rfl) rfl rfl rfl (fun _ _=>rfl) ok43 (k:=m+1) (off:=0) rfl (Xb _ (by simp)) (X6 _ hm 1) rfl (by simp only[X4,sl])
  clear hKC KC
  have hlt:i<d.waits.length:=by have:=of_decide_eq_true ht;omega
  refine X9 fun KC hKC=>Xe ?_
  have hgw:=Xg wrC d.waits i [] hlt
  have hwb:=hd.wb _ (List.getElem_mem hlt)
  refine X9 fun K hK=>Xn Xj [] ?_
  simp (maxSteps:=9^7) only[ss,X1,tab,simprocAttr, -List.reduceReplicate,Xi hm,List.length_map,hlt,hgw,wrC]
  repeat' (first|(with_reducible refine hK _ ?_;clear hK K)|with_reducible apply And.intro)
  refine X9 fun K hK=>Xn Xj [] ?_
  simp (maxSteps:=9^7) only[ss,X1,tab,simprocAttr, -List.reduceReplicate,Xi hm,X5,show(d.waits[i]).data.length≤140737488355328 by omega,show(d.waits[i]).data.length≤9223372036854775807 by omega]
  repeat' (first|(with_reducible refine hK _ ?_;clear hK K)|with_reducible apply And.intro)
  have lit:∀(σ:AState) (K:AV→List (Nat×Res)→Prop),X1 tab σ K none 41 1 [(0,.agg [i64 (d.waits[i]).at',bs (d.waits[i]).data])]=K (.sl 2 [wrC d.waits[i]] .full) []:=fun σ K=>Yk (T:=tab) (ti:=ti41) (te:=ti76) rfl rfl rfl (by decide) (by decide) rfl rfl
  refine Xn Xj [] ?_
  simp (maxSteps:=9^7) only[ss,tab,simprocAttr, -List.reduceReplicate,Xi hm,lit,List.length_map,List.length_take,Nat.min_eq_left hi,show i+1≤9223372036854775807 by omega,Xua wrC d.waits i hlt]
  repeat refine And.intro (by omega) ?_
  refine hKC _ ?_
  clear hKC KC
  refine Xn Xj [] ?_
  simp (maxSteps:=9^7) only[ss,X1,tab,simprocAttr, -List.reduceReplicate,Yl (n:=i) 1 1 rfl (by omega)]
  refine⟨i+1,by omega,by omega,?_⟩
  refine Xx [true,true,true,true,true,false] (fun n_=> ?_) (fun n_=> ?_)<;>simp only[X4,sm]
 clear hKC KC
 have hlt:i<d.sectors.length:=by have:=of_decide_eq_true ht;omega
 refine X9 fun KC hKC=>Xe ?_
 have hgs:=Xg Y6 d.sectors i [] hlt
 have hsb:=hd.sb _ (List.getElem_mem hlt)
 have lit:∀(σ:AState) (K:AV→List (Nat×Res)→Prop),X1 tab σ K none 40 1 [(0,.sl 1 (Xo d.sectors[i]) .sh)]=K (.sl 1 [Y6 d.sectors[i]] .full) []:=fun σ K=>Yk (T:=tab) (ti:=ti40) (te:=ti44) rfl rfl rfl (by decide) (by decide) rfl rfl
 refine Ny Xj [] [[],[2],[],[0],[],[],[],[],[],[3],[],[2]] [[],[],[],[],[],[],[],[],[],[3],[],[2]] follows (by kernel_rfl) (by decide) (by decide) (by kernel_rfl) ?_
 simp (maxSteps:=9^7) only[ss,tab,simprocAttr, -List.reduceReplicate,List.length_map,hlt,hgs,Y6,X5,show(d.sectors[i]).length≤140737488355328 by omega,show(d.sectors[i]).length≤9223372036854775807 by omega,lit,List.length_take,Nat.min_eq_left hi,show i+1≤9223372036854775807 by omega]
 repeat refine And.intro (by omega) ?_
 refine hKC _ ?_
 clear hKC KC
 have hsn:=Xua Y6 d.sectors i hlt
 simp only[Y6] at hsn⊢
 rw[hsn]
 refine Xn Xj [] ?_
 simp (maxSteps:=9^7) only[ss,X1,tab,simprocAttr, -List.reduceReplicate,Yl (n:=i) 1 1 rfl (by omega)]
 refine⟨i+1,by omega,by omega,?_⟩
 refine X2 ?_ ?_ rfl rfl rfl rfl<;>simp only[X4,sl]
theorem Ycp (d:Dsk) (at':Int) (b:List UInt8) (hd:Small d) (hb:b.length≤1000000):Xr Try.prog 99 [Y3p d,i64 at',bs b] [] (Y3p (Xjh d at' b)) []:=by
 have h2:=hd.w
 refine Xc 4 Try.func99 rfl fun n out _ _=> ?_
 simp only[Try.ntmps99,List.length_cons,List.length_nil,List.length_map,List.length_replicate,Xf,Nat.reduceAdd,Nat.reduceSub,List.replicate,List.cons_append,List.nil_append]
 refine X9 fun K hK=>Xn Xj [] ?_
 simp (maxSteps:=9^7) only[ss,X1,tab,simprocAttr, -List.reduceReplicate,Y3p,Xha]
 repeat' (first|(with_reducible refine hK _ ?_;clear hK K)|with_reducible apply And.intro)
 refine X9 fun K hK=>Xn Xj [] ?_
 simp (maxSteps:=9^7) only[ss,X1,tab,simprocAttr, -List.reduceReplicate]
 repeat' (first|(with_reducible refine hK _ ?_;clear hK K)|with_reducible apply And.intro)
 refine Sb (Xn6 (n+3) d hd) (X6 _ (Nat.le_refl _) 3) (Xb _ (by simp)) (by simp) ?_
 simp (maxSteps:=9^7) only[ss,X1,tab,simprocAttr, -List.reduceReplicate]
 repeat' (first|(with_reducible refine hK _ ?_;clear hK K)|with_reducible apply And.intro)
 have lit:∀(σ:AState) (K:AV→List (Nat×Res)→Prop),X1 tab σ K none 41 1 [(0,.agg [i64 at',bs b])]=K (.sl 2 [wrC ⟨at',b⟩] .full) []:=fun σ K=>Yk (T:=tab) (ti:=ti41) (te:=ti76) rfl rfl rfl (by decide) (by decide) rfl rfl
 refine X9 fun K hK=>Ny Xj [] [[],[2],[],[],[],[],[],[3],[],[2]] [[],[],[],[],[],[],[],[3],[],[2]] follows (by kernel_rfl) (by decide) (by decide) (by kernel_rfl) ?_
 simp (maxSteps:=9^7) only[ss,tab,simprocAttr, -List.reduceReplicate,X5,show b.length≤140737488355328 by omega,show b.length≤9223372036854775807 by omega,lit,List.length_map,show d.waits.length+1≤9223372036854775807 by omega]
 repeat' (first|(with_reducible refine hK _ ?_;clear hK K)|with_reducible apply And.intro)
 ·omega
 refine X9 fun K hK=>Xn Xj [] ?_
 simp (maxSteps:=9^7) only[ss,X1,tab,simprocAttr, -List.reduceReplicate]
 repeat' (first|(with_reducible refine hK _ ?_;clear hK K)|with_reducible apply And.intro)
 refine Yd ?_
 exact Xu (.inr rfl) rfl rfl rfl (fun _ _=>rfl) ok43 (k:=n+1) (off:=0) rfl (Xb _ (by simp)) (X6 _ (Nat.le_refl _) 1) rfl (by simp only[Y3p,Xha,Xjh,List.map_append,List.map_cons,List.map_nil,X4,sl])
end Go.Proofs.Ytjgbbjooeibppaa
