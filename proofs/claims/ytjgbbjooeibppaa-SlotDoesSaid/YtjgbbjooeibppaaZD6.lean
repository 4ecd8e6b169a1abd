/- The layer of abstract values, joined. -/
import Derived.Test.YtjgbbjooeibppaaZD2
import Derived.Test.YtjgbbjooeibppaaZD5
import Derived.WalkKit
import Derived.Lib.Walk
import Derived.Lib.SliceRun
import Derived.Lib.AppendZerosOnto
namespace Go.Proofs.Ytjgbbjooeibppaa
set_option linter.unusedVariables false
set_option linter.unusedSimpArgs false
open Go Go.VS Tab Go.RowKit Go.Lib
set_option maxHeartbeats 2000000
set_option maxRecDepth 100000
theorem Xjf (n:Nat) (w:World) (h0:0<n) (hbig:n*24≤140737488355328) (i0:TypeInfo) (z:Value) (hi0:Try.prog.info? 44=some i0) (hz0:i0.zero=some z) (hs0:0<i0.size) (hb0:i0.bytes=24):
  Calls Try.prog 103 #[.slice none 0 0,.int .i64 n] w fun e w'=>
   e= .returned (.slice (some ⟨w.heap.size,0,none⟩) 0 (grownCap w n 0 44))∧
   w'=w.drew.alloc (.cells (#[]++Builtin.zeroCells z.cells n++Builtin.zeroCells z.cells (grownCap w n 0 44 - n)) 44):=by
 have h1:¬((n:Int)<0):=by omega
 have h3:wrap64 ((n:Int) - 0)=(n:Int):=by unfold wrap64;omega
 have h4:(n:Int)>0:=by omega
 have hrz:∀ty,(Builtin.append_ #[40,3] ty #[.slice none 0 0,.int .i64 (n:Int)]).run Try.prog w=
   .ok (.slice (some ⟨w.heap.size,0,none⟩) n (grownCap w n 0 44)) (w.drew.alloc (.cells (#[]++Builtin.zeroCells z.cells n++Builtin.zeroCells z.cells (grownCap w n 0 44 - n)) 44)):=fun ty=>by
  have h:=Lib.run_append_grow_zeros w 40 3 ty 44 i0 z .i64 .i64 Try.underlying40 Try.underlying3 hi0 hz0 none 0 0 [] (run_firstCells_none w.drew i0.size 0 0 0) n h0 hs0 (by omega) (by omega)
   (by rw[hb0];omega) (growslice_fits (by omega) (by rw[hb0];omega))
  rw[Nat.zero_add] at h
  exact h
 have hGn:n≤grownCap w n 0 44:=VS.Vu w _ _ _
 have hG63:grownCap w n 0 44≤9223372036854775807:=by
  have:=grownCap_le_maxLen w n 0 44 (by unfold maxLen;omega)
  unfold maxLen at this
  omega
 generalize grownCap w n 0 44=G at hrz hGn hG63⊢
 go_enter Try.func103,Try.ntmps103
 go_wp2_with (at_builtin;refine Lib.wpList_append_run _ rfl _ _ _ _ rfl _ _ rfl rfl _ _ (hrz _) ?_)
 all_goals (go_ret;exact⟨rfl,rfl⟩)
theorem Xkv (k n:Nat) (hbig:n*24≤140737488355328):
  Xr Try.prog 103 [.sl 0 [] .nil,i64 (n:Int)] [(k,none)] (.sl 1 [] (.own k)) [(k,.row 44 1 0)]:=by
 by_cases h0:n=0
 ·subst h0
  refine Xc 0 Try.func103 rfl fun n out _ _=> ?_
  simp only[Try.ntmps103,List.length_cons,List.length_nil,List.length_map,List.length_replicate,Xf,Nat.reduceAdd,Nat.reduceSub,List.replicate,List.cons_append,List.nil_append]
  rename_i hneeds hgv
  obtain⟨hk,_⟩:=hneeds
  obtain⟨hkn,_⟩:=hgv
  refine Yy (X3x (k:=k) 44 1 (by rw[X7 hkn];trivial) (by rw[X8 hkn];exact hk)) ?_
  rw[X79 hkn]
  refine X9 fun K hK=>Xn Xj [] ?_
  simp (maxSteps:=9^7) only[ss,X1,tab,simprocAttr, -List.reduceReplicate]
  (refine hK _ ?_;clear hK K)
  refine X9 fun KA hKA=> ?_
  refine X9 fun K hK=>Xn Xj [] ?_
  simp (maxSteps:=9^7) only[ss,X1,tab,simprocAttr, -List.reduceReplicate,nc]
  (refine hK _ ?_;clear hK K)
  refine Uy rfl (Xhj (hKA _ ?_))
  clear hKA KA
  refine X9 fun KA hKA=> ?_
  refine X9 fun K hK=>Xn Xj [] ?_
  simp (maxSteps:=9^7) only[ss,X1,tab,simprocAttr, -List.reduceReplicate,nc,Int.sub_zero,wrap_i64 (x:=0) (by decide) (by decide)]
  (refine hK _ ?_;clear hK K)
  refine X9 fun K hK=>Xn Xj [] ?_
  simp (maxSteps:=9^7) only[ss,X1,tab,simprocAttr, -List.reduceReplicate,Int.lt_irrefl,decide_false]
  (refine hK _ ?_;clear hK K)
  refine Uy rfl (Xhj (hKA _ ?_))
  clear hKA KA
  refine X9 fun K hK=>Xn Xj [] ?_
  simp (maxSteps:=9^7) only[ss,X1,tab,simprocAttr, -List.reduceReplicate]
  (refine hK _ ?_;clear hK K)
  refine Yd ?_
  exact Xv (.inr rfl) rfl rfl rfl (fun _ _=>rfl) (.nil _ _ _ (by intro h;cases h)) rfl
 ·intro M N vs hI hR hn hN hu
  obtain⟨hl,hr⟩:=hR
  obtain⟨v0,v1,rfl⟩:∃v0 v1,vs= #[v0,v1]:=by
   match vs,hl with
   |⟨[a,b]⟩,_=>exact⟨a,b,rfl⟩
  have r0:=hr 0 _ _ rfl rfl
  have r1:=hr 1 _ _ rfl rfl
  obtain rfl:v0= .slice none 0 0:=by
   cases r0 with
   |nil _ _ a h1 h2=>rw[h2 rfl]
   |slice _ _ _ a cap hs hcap hsz hst hc hmd=>exact hmd.elim
  have e1:=Yw r1
  subst e1
  obtain⟨i0,z,hi0,hi1,hi2,hi3,hi4⟩:=ok44.info
  refine(Xjf n M.w (by omega) hbig i0 z hi0 hi3 (by rw[hi1];decide) hi2).mono fun e w' hw=> ?_
  obtain⟨rfl,rfl⟩:=hw
  have hcap:=VS.Vu M.w n 0 44
  generalize grownCap M.w n 0 44=cap at hcap⊢
  have e0:=Ext.withW (M:=M) (w':=M.w.drew) rfl
  have hI0:Inv (M.withW M.w.drew):=hI.withW rfl rfl rfl rfl
  have hk:Xoz (M.withW M.w.drew) k 44 1 0:= .inl hn.1
  have hz1:z.cells.size=1:=by
   have:=ok44.len
   rw[← hi4] at this
   simpa using this
  have hzs:∀m,(Builtin.zeroCells z.cells m).size=m*1:=fun m=>by simp [Builtin.zeroCells,hz1]
  have hzl:∀v,v∈z.cells.toList→leaf v:=fun v hv=>by
   rw[hi4] at hv
   exact Uw (List.all_eq_true.1 ok44.leafs v hv)
  refine⟨_,rfl,(M.withW M.w.drew).moveRow k 44 1 (#[]++Builtin.zeroCells z.cells n++Builtin.zeroCells z.cells (cap - n)) 0 cap,rfl,e0.trans (Ext.moveRow hI0 hk _ _),hI0.moveRow hk (by simp [hzs];omega) (Nat.zero_le _) (fun i v h=> ?_),fun j _=>rfl,?_⟩
  ·rw[Array.getElem?_append] at h
   split at h
   ·rw[Array.empty_append] at h;exact Qk hzl (by rw[hz1];decide) _ _ _ h
   ·exact Qk hzl (by rw[hz1];decide) _ _ _ h
  ·have hβ:((M.withW M.w.drew).moveRow k 44 1 (#[]++Builtin.zeroCells z.cells n++Builtin.zeroCells z.cells (cap - n)) 0 cap).β k=M.w.heap.size:=by simp [Mem.moveRow,Mem.withW]
   exact .slice 1 [] (.own k) ⟨M.w.heap.size,0,none⟩ cap rfl (Nat.zero_le _) (fun row h=>by simp at h) (fun o ho=>by simp at ho) (fun i j row c v h=>by simp at h)
    ⟨44,0,by simp [Mem.moveRow,Xw],Nat.le_refl _,fun _=> .inr ⟨rfl,hβ.symm,by simp [Mem.moveRow]⟩⟩
theorem Xk1 (k:Nat) (a b:List (List AV)) (m0 m1 m2:Md) (hb:a.length+b.length≤1000000):
  Xr Try.prog 83 [.sl 1 [[.sl 1 a m1],[.sl 1 b m2]] m0] [(k,none)] (.sl 1 (a++b) (.own k)) [(k,.row 44 1 (a.length+b.length))]:=by
 refine Xc 0 Try.func83 rfl fun n out _ _=> ?_
 simp only[Try.ntmps83,List.length_cons,List.length_nil,List.length_map,List.length_replicate,Xf,Nat.reduceAdd,Nat.reduceSub,List.replicate,List.cons_append,List.nil_append]
 rename_i hneeds hg
 obtain⟨hk,_⟩:=hneeds
 obtain⟨hkn,_⟩:=hg
 obtain⟨els,hels⟩:∃els,els=[[AV.sl 1 a m1],[AV.sl 1 b m2]]:=⟨_,rfl⟩
 rw[← hels]
 have hl2:els.length=2:=by rw[hels];rfl
 obtain⟨cat,hcat⟩:∃cat:Nat→List (List AV),cat=fun c=>(([a,b]:List (List (List AV))).take c).flatten:=⟨_,rfl⟩
 have elem:∀c,c<2→∃l md,els.getD c []=[.sl 1 l md]∧cat (c+1)=cat c++l:=fun c hc=>by
  rw[hels,hcat]
  match c,hc with
  |0,_=>exact⟨a,m1,rfl,by simp⟩
  |1,_=>exact⟨b,m2,rfl,by simp⟩
 have cat0:cat 0=[]:=by rw[hcat];rfl
 have cat2:cat 2=a++b:=by rw[hcat];simp
 have catl:∀c,c≤2→(cat c).length≤a.length+b.length:=fun c hc=>by
  rw[hcat]
  match c,hc with
  |0,_=>simp
  |1,_=>simp
  |2,_=>simp
 refine X9 fun K hK=>Xn Xj [] ?_
 simp (maxSteps:=9^7) only[ss,X1,tab,simprocAttr, -List.reduceReplicate]
 (refine hK _ ?_;clear hK K)
 refine X9 fun K hK=>Xn Xj [] ?_
 simp (maxSteps:=9^7) only[ss,X1,tab,simprocAttr, -List.reduceReplicate]
 (refine hK _ ?_;clear hK K)
 refine X9 fun KB hKB=> ?_
 refine X9 fun K hK=>Xn Xj [] ?_
 simp (maxSteps:=9^7) only[ss,X1,tab,simprocAttr, -List.reduceReplicate,hl2]
 (refine hK _ ?_;clear hK K)
 refine Xe ?_
 refine Xz (fun c:Nat=>[(11,i64 (c:Int)),(3,i64 (((cat c).length:Nat):Int)),(5,.top),(12,.top),(13,.top),(14,.top),(15,.top),(16,.top),(17,.top),(18,.top),(19,.top),(20,.top),(21,.top),(22,.top)]) (fun c=>[]) (fun c=>out) (fun c=>c≤2) (fun c=>2 - c) 0 (Nat.zero_le _) ?_ fun c hc=> ?_
 ·refine X2 ?_ ?_ (by first|rfl|(simp only[cat0,List.length_nil];rfl)|simp only[cat0,List.length_nil]) rfl rfl rfl<;>simp only[X4,sl,cat0,List.length_nil]
 simp only[X4,s_0,s_s]
 refine X9 fun K hK=>Xn Xj [] ?_
 simp (maxSteps:=9^7) only[ss,X1,tab,simprocAttr, -List.reduceReplicate,cat0,List.length_nil]
 (refine hK _ ?_;clear hK K)
 refine X9 fun KC hKC=> ?_
 refine Uz rfl (fun ht=>Xhj (hKC _ ?_)) (fun hf=>Qi (id ?_))
 rotate_left
 ·simp only[Qd,Z4,if_true]
  refine hKB _ ?_
  clear hKB KB hKC KC
  have hc2:c=2:=by have:=of_decide_eq_false hf;omega
  subst hc2
  rw[cat2]
  have hlab:(a++b).length=a.length+b.length:=List.length_append
  rw[hlab]
  refine X9 fun K hK=>Xn Xj [] ?_
  simp (maxSteps:=9^7) only[ss,X1,tab,simprocAttr, -List.reduceReplicate]
  skip
  refine Sb (Xkv k _ (by omega)) (by rw[X8 hkn];exact hk) (by rw[X7 hkn];trivial) (by simp) ?_
  simp (maxSteps:=9^7) only[ss,X1,tab,simprocAttr, -List.reduceReplicate,X8 hkn,X7 hkn,Cz hkn]
  (refine hK _ ?_;clear hK K)
  refine X9 fun KB hKB=> ?_
  refine X9 fun K hK=>Xn Xj [] ?_
  simp (maxSteps:=9^7) only[ss,X1,tab,simprocAttr, -List.reduceReplicate,hl2]
  (refine hK _ ?_;clear hK K)
  refine Xe ?_
  refine Xz (fun c:Nat=>[(27,i64 (c:Int)),(6,.sl 1 (cat c) (.own k)),(8,.top),(28,.top),(29,.top),(30,.top),(31,.top),(32,.top),(33,.top),(34,.top)]) (fun c=>[]) (fun c=>Xw out k (.row 44 1 (cat c).length)) (fun c=>c≤2) (fun c=>2 - c) 0 (Nat.zero_le _) ?_ fun c hc=> ?_
  ·refine X2 ?_ ?_ (by first|rfl|(simp only[cat0,List.length_nil];rfl)|simp only[cat0,List.length_nil]) rfl rfl rfl<;>simp only[X4,sl,cat0,List.length_nil]
  simp only[X4,s_0,s_s]
  refine X9 fun K hK=>Xn Xj [] ?_
  simp (maxSteps:=9^7) only[ss,X1,tab,simprocAttr, -List.reduceReplicate,cat0,List.length_nil]
  (refine hK _ ?_;clear hK K)
  refine X9 fun KC hKC=> ?_
  refine Uz rfl (fun ht=>Xhj (hKC _ ?_)) (fun hf=>Qi (id ?_))
  rotate_left
  ·simp only[Qd,Z4,if_true]
   refine hKB _ ?_
   clear hKB KB hKC KC
   have hc2:c=2:=by have:=of_decide_eq_false hf;omega
   subst hc2
   rw[cat2,hlab]
   refine X9 fun K hK=>Xn Xj [] ?_
   simp (maxSteps:=9^7) only[ss,X1,tab,simprocAttr, -List.reduceReplicate]
   (refine hK _ ?_;clear hK K)
   refine Yd ?_
   exact Qv (.inr rfl) rfl rfl rfl (fun _ _=>rfl) rfl
  clear hKC KC
  have hc2:c<2:=by have:=of_decide_eq_true ht;omega
  have hc3:(c:Int)<2:=by omega
  obtain⟨l,md,hel,hct⟩:=elem c hc2
  have hcl:=catl (c+1) (by omega)
  have hcl2:(cat c).length+l.length=(cat (c+1)).length:=by rw[hct,List.length_append]
  have e3:(cat (c+1)).length≤140737488355328:=by omega
  have e4:(cat (c+1)).length≤9223372036854775807:=by omega
  refine X9 fun KC hKC=>Xe ?_
  refine X9 fun K hK=>Xn Xj [] ?_
  simp (maxSteps:=9^7) only[ss,X1,tab,simprocAttr, -List.reduceReplicate,hl2,hel,hc2,hc3,nc]
  (refine hK _ ?_;clear hK K)
  refine Xn Xj [] ?_
  simp (maxSteps:=9^7) only[ss,X1,tab,simprocAttr, -List.reduceReplicate,hcl2,e3,e4,X8 hkn,X7 hkn,Cz hkn,Xt,Jp]
  repeat refine And.intro (by omega) ?_
  refine hKC _ ?_
  clear hKC KC
  refine Xn Xj [] ?_
  simp (maxSteps:=9^7) only[ss,X1,tab,simprocAttr, -List.reduceReplicate,Yl (n:=c) 1 1 rfl (by omega)]
  refine⟨c+1,by omega,by omega,?_⟩
  rw[hct]
  refine X2 ?_ ?_ rfl rfl rfl rfl<;>simp only[X4,sl]
 clear hKC KC
 have hc2:c<2:=by have:=of_decide_eq_true ht;omega
 have hc3:(c:Int)<2:=by omega
 obtain⟨l,md,hel,hct⟩:=elem c hc2
 have hcl:=catl (c+1) (by omega)
 have hcl2:(cat (c+1)).length=(cat c).length+l.length:=by rw[hct,List.length_append]
 have q1:IntKind.i64.wrap (((cat c).length:Int)+(l.length:Int))=(((cat (c+1)).length:Nat):Int):=by rw[wrap_i64]<;>omega
 have q2:decide ((((cat (c+1)).length:Nat):Int)<0)=false:=decide_eq_false (by omega)
 refine X9 fun KC hKC=>Xe ?_
 refine X9 fun K hK=>Xn Xj [] ?_
 simp (maxSteps:=9^7) only[ss,X1,tab,simprocAttr, -List.reduceReplicate,hl2,hel,hc2,hc3,nc]
 (refine hK _ ?_;clear hK K)
 refine X9 fun K hK=>Xn Xj [] ?_
 simp (maxSteps:=9^7) only[ss,X1,tab,simprocAttr, -List.reduceReplicate,q1]
 (refine hK _ ?_;clear hK K)
 refine X9 fun K hK=>Xn Xj [] ?_
 simp (maxSteps:=9^7) only[ss,X1,tab,simprocAttr, -List.reduceReplicate,q2]
 (refine hK _ ?_;clear hK K)
 refine Uy rfl (Xhj (id ?_))
 simp only[Z4,Qd]
 refine hKC _ ?_
 clear hKC KC
 refine Xn Xj [] ?_
 simp (maxSteps:=9^7) only[ss,X1,tab,simprocAttr, -List.reduceReplicate,Yl (n:=c) 1 1 rfl (by omega)]
 refine⟨c+1,by omega,by omega,?_⟩
 refine X2 ?_ ?_ rfl rfl rfl rfl<;>simp only[X4,sl]
theorem Xb8 (n:Nat) (w:World) (h0:0<n) (hbig:n*1≤140737488355328) (i0:TypeInfo) (z:Value) (hi0:Try.prog.info? 5=some i0) (hz0:i0.zero=some z) (hs0:0<i0.size) (hb0:i0.bytes=1):
  Calls Try.prog 108 #[.slice none 0 0,.int .i64 n] w fun e w'=>
   e= .returned (.slice (some ⟨w.heap.size,0,none⟩) 0 (grownCap w n 0 5))∧
   w'=w.drew.alloc (.cells (#[]++Builtin.zeroCells z.cells n++Builtin.zeroCells z.cells (grownCap w n 0 5 - n)) 5):=by
 have h1:¬((n:Int)<0):=by omega
 have h3:wrap64 ((n:Int) - 0)=(n:Int):=by unfold wrap64;omega
 have h4:(n:Int)>0:=by omega
 have hrz:∀ty,(Builtin.append_ #[44,3] ty #[.slice none 0 0,.int .i64 (n:Int)]).run Try.prog w=
   .ok (.slice (some ⟨w.heap.size,0,none⟩) n (grownCap w n 0 5)) (w.drew.alloc (.cells (#[]++Builtin.zeroCells z.cells n++Builtin.zeroCells z.cells (grownCap w n 0 5 - n)) 5)):=fun ty=>by
  have h:=Lib.run_append_grow_zeros w 44 3 ty 5 i0 z .i64 .i64 Try.underlying44 Try.underlying3 hi0 hz0 none 0 0 [] (run_firstCells_none w.drew i0.size 0 0 0) n h0 hs0 (by omega) (by omega)
   (by rw[hb0];omega) (growslice_fits (by omega) (by rw[hb0];omega))
  rw[Nat.zero_add] at h
  exact h
 have hGn:n≤grownCap w n 0 5:=VS.Vu w _ _ _
 have hG63:grownCap w n 0 5≤9223372036854775807:=by
  have:=grownCap_le_maxLen w n 0 5 (by unfold maxLen;omega)
  unfold maxLen at this
  omega
 generalize grownCap w n 0 5=G at hrz hGn hG63⊢
 go_enter Try.func108,Try.ntmps108
 go_wp2_with (at_builtin;refine Lib.wpList_append_run _ rfl _ _ _ _ rfl _ _ rfl rfl _ _ (hrz _) ?_)
 all_goals (go_ret;exact⟨rfl,rfl⟩)
theorem Xbs (k n:Nat) (hbig:n*1≤140737488355328):
  Xr Try.prog 108 [.sl 0 [] .nil,i64 (n:Int)] [(k,none)] (.sl 1 [] (.own k)) [(k,.row 5 1 0)]:=by
 by_cases h0:n=0
 ·subst h0
  refine Xc 0 Try.func108 rfl fun n out _ _=> ?_
  simp only[Try.ntmps108,List.length_cons,List.length_nil,List.length_map,List.length_replicate,Xf,Nat.reduceAdd,Nat.reduceSub,List.replicate,List.cons_append,List.nil_append]
  rename_i hneeds hgv
  obtain⟨hk,_⟩:=hneeds
  obtain⟨hkn,_⟩:=hgv
  refine Yy (X3x (k:=k) 5 1 (by rw[X7 hkn];trivial) (by rw[X8 hkn];exact hk)) ?_
  rw[X79 hkn]
  refine X9 fun K hK=>Xn Xj [] ?_
  simp (maxSteps:=9^7) only[ss,X1,tab,simprocAttr, -List.reduceReplicate]
  (refine hK _ ?_;clear hK K)
  refine X9 fun KA hKA=> ?_
  refine X9 fun K hK=>Xn Xj [] ?_
  simp (maxSteps:=9^7) only[ss,X1,tab,simprocAttr, -List.reduceReplicate,nc]
  (refine hK _ ?_;clear hK K)
  refine Uy rfl (Xhj (hKA _ ?_))
  clear hKA KA
  refine X9 fun KA hKA=> ?_
  refine X9 fun K hK=>Xn Xj [] ?_
  simp (maxSteps:=9^7) only[ss,X1,tab,simprocAttr, -List.reduceReplicate,nc,Int.sub_zero,wrap_i64 (x:=0) (by decide) (by decide)]
  (refine hK _ ?_;clear hK K)
  refine X9 fun K hK=>Xn Xj [] ?_
  simp (maxSteps:=9^7) only[ss,X1,tab,simprocAttr, -List.reduceReplicate,Int.lt_irrefl,decide_false]
  (refine hK _ ?_;clear hK K)
  refine Uy rfl (Xhj (hKA _ ?_))
  clear hKA KA
  refine X9 fun K hK=>Xn Xj [] ?_
  simp (maxSteps:=9^7) only[ss,X1,tab,simprocAttr, -List.reduceReplicate]
  (refine hK _ ?_;clear hK K)
  refine Yd ?_
  exact Xv (.inr rfl) rfl rfl rfl (fun _ _=>rfl) (.nil _ _ _ (by intro h;cases h)) rfl
 ·intro M N vs hI hR hn hN hu
  obtain⟨hl,hr⟩:=hR
  obtain⟨v0,v1,rfl⟩:∃v0 v1,vs= #[v0,v1]:=by
   match vs,hl with
   |⟨[a,b]⟩,_=>exact⟨a,b,rfl⟩
  have r0:=hr 0 _ _ rfl rfl
  have r1:=hr 1 _ _ rfl rfl
  obtain rfl:v0= .slice none 0 0:=by
   cases r0 with
   |nil _ _ a h1 h2=>rw[h2 rfl]
   |slice _ _ _ a cap hs hcap hsz hst hc hmd=>exact hmd.elim
  have e1:=Yw r1
  subst e1
  obtain⟨i0,z,hi0,hi1,hi2,hi3,hi4⟩:=ok5.info
  refine(Xb8 n M.w (by omega) hbig i0 z hi0 hi3 (by rw[hi1];decide) hi2).mono fun e w' hw=> ?_
  obtain⟨rfl,rfl⟩:=hw
  have hcap:=VS.Vu M.w n 0 5
  generalize grownCap M.w n 0 5=cap at hcap⊢
  have e0:=Ext.withW (M:=M) (w':=M.w.drew) rfl
  have hI0:Inv (M.withW M.w.drew):=hI.withW rfl rfl rfl rfl
  have hk:Xoz (M.withW M.w.drew) k 5 1 0:= .inl hn.1
  have hz1:z.cells.size=1:=by
   have:=ok5.len
   rw[← hi4] at this
   simpa using this
  have hzs:∀m,(Builtin.zeroCells z.cells m).size=m*1:=fun m=>by simp [Builtin.zeroCells,hz1]
  have hzl:∀v,v∈z.cells.toList→leaf v:=fun v hv=>by
   rw[hi4] at hv
   exact Uw (List.all_eq_true.1 ok5.leafs v hv)
  refine⟨_,rfl,(M.withW M.w.drew).moveRow k 5 1 (#[]++Builtin.zeroCells z.cells n++Builtin.zeroCells z.cells (cap - n)) 0 cap,rfl,e0.trans (Ext.moveRow hI0 hk _ _),hI0.moveRow hk (by simp [hzs];omega) (Nat.zero_le _) (fun i v h=> ?_),fun j _=>rfl,?_⟩
  ·rw[Array.getElem?_append] at h
   split at h
   ·rw[Array.empty_append] at h;exact Qk hzl (by rw[hz1];decide) _ _ _ h
   ·exact Qk hzl (by rw[hz1];decide) _ _ _ h
  ·have hβ:((M.withW M.w.drew).moveRow k 5 1 (#[]++Builtin.zeroCells z.cells n++Builtin.zeroCells z.cells (cap - n)) 0 cap).β k=M.w.heap.size:=by simp [Mem.moveRow,Mem.withW]
   exact .slice 1 [] (.own k) ⟨M.w.heap.size,0,none⟩ cap rfl (Nat.zero_le _) (fun row h=>by simp at h) (fun o ho=>by simp at ho) (fun i j row c v h=>by simp at h)
    ⟨5,0,by simp [Mem.moveRow,Xw],Nat.le_refl _,fun _=> .inr ⟨rfl,hβ.symm,by simp [Mem.moveRow]⟩⟩
theorem Xbg (k:Nat) (a b:List (List AV)) (m0 m1 m2:Md) (hb:a.length+b.length≤1000000):
  Xr Try.prog 94 [.sl 1 [[.sl 1 a m1],[.sl 1 b m2]] m0] [(k,none)] (.sl 1 (a++b) (.own k)) [(k,.row 5 1 (a.length+b.length))]:=by
 refine Xc 0 Try.func94 rfl fun n out _ _=> ?_
 simp only[Try.ntmps94,List.length_cons,List.length_nil,List.length_map,List.length_replicate,Xf,Nat.reduceAdd,Nat.reduceSub,List.replicate,List.cons_append,List.nil_append]
 rename_i hneeds hg
 obtain⟨hk,_⟩:=hneeds
 obtain⟨hkn,_⟩:=hg
 obtain⟨els,hels⟩:∃els,els=[[AV.sl 1 a m1],[AV.sl 1 b m2]]:=⟨_,rfl⟩
 rw[← hels]
 have hl2:els.length=2:=by rw[hels];rfl
 obtain⟨cat,hcat⟩:∃cat:Nat→List (List AV),cat=fun c=>(([a,b]:List (List (List AV))).take c).flatten:=⟨_,rfl⟩
 have elem:∀c,c<2→∃l md,els.getD c []=[.sl 1 l md]∧cat (c+1)=cat c++l:=fun c hc=>by
  rw[hels,hcat]
  match c,hc with
  |0,_=>exact⟨a,m1,rfl,by simp⟩
  |1,_=>exact⟨b,m2,rfl,by simp⟩
 have cat0:cat 0=[]:=by rw[hcat];rfl
 have cat2:cat 2=a++b:=by rw[hcat];simp
 have catl:∀c,c≤2→(cat c).length≤a.length+b.length:=fun c hc=>by
  rw[hcat]
  match c,hc with
  |0,_=>simp
  |1,_=>simp
  |2,_=>simp
 refine X9 fun K hK=>Xn Xj [] ?_
 simp (maxSteps:=9^7) only[ss,X1,tab,simprocAttr, -List.reduceReplicate]
 (refine hK _ ?_;clear hK K)
 refine X9 fun K hK=>Xn Xj [] ?_
 simp (maxSteps:=9^7) only[ss,X1,tab,simprocAttr, -List.reduceReplicate]
 (refine hK _ ?_;clear hK K)
 refine X9 fun KB hKB=> ?_
 refine X9 fun K hK=>Xn Xj [] ?_
 simp (maxSteps:=9^7) only[ss,X1,tab,simprocAttr, -List.reduceReplicate,hl2]
 (refine hK _ ?_;clear hK K)
 refine Xe ?_
 refine Xz (fun c:Nat=>[(11,i64 (c:Int)),(3,i64 (((cat c).length:Nat):Int)),(5,.top),(12,.top),(13,.top),(14,.top),(15,.top),(16,.top),(17,.top),(18,.top),(19,.top),(20,.top),(21,.top),(22,.top)]) (fun c=>[]) (fun c=>out) (fun c=>c≤2) (fun c=>2 - c) 0 (Nat.zero_le _) ?_ fun c hc=> ?_
 ·refine X2 ?_ ?_ (by first|rfl|(simp only[cat0,List.length_nil];rfl)|simp only[cat0,List.length_nil]) rfl rfl rfl<;>simp only[X4,sl,cat0,List.length_nil]
 simp only[X4,s_0,s_s]
 refine X9 fun K hK=>Xn Xj [] ?_
 simp (maxSteps:=9^7) only[ss,X1,tab,simprocAttr, -List.reduceReplicate,cat0,List.length_nil]
 (refine hK _ ?_;clear hK K)
 refine X9 fun KC hKC=> ?_
 refine Uz rfl (fun ht=>Xhj (hKC _ ?_)) (fun hf=>Qi (id ?_))
 rotate_left
 ·simp only[Qd,Z4,if_true]
  refine hKB _ ?_
  clear hKB KB hKC KC
  have hc2:c=2:=by have:=of_decide_eq_false hf;omega
  subst hc2
  rw[cat2]
  have hlab:(a++b).length=a.length+b.length:=List.length_append
  rw[hlab]
  refine X9 fun K hK=>Xn Xj [] ?_
  simp (maxSteps:=9^7) only[ss,X1,tab,simprocAttr, -List.reduceReplicate]
  skip
  refine Sb (Xbs k _ (by omega)) (by rw[X8 hkn];exact hk) (by rw[X7 hkn];trivial) (by simp) ?_
  simp (maxSteps:=9^7) only[ss,X1,tab,simprocAttr, -List.reduceReplicate,X8 hkn,X7 hkn,Cz hkn]
  (refine hK _ ?_;clear hK K)
  refine X9 fun KB hKB=> ?_
  refine X9 fun K hK=>Xn Xj [] ?_
  simp (maxSteps:=9^7) only[ss,X1,tab,simprocAttr, -List.reduceReplicate,hl2]
  (refine hK _ ?_;clear hK K)
  refine Xe ?_
  refine Xz (fun c:Nat=>[(27,i64 (c:Int)),(6,.sl 1 (cat c) (.own k)),(8,.top),(28,.top),(29,.top),(30,.top),(31,.top),(32,.top),(33,.top),(34,.top)]) (fun c=>[]) (fun c=>Xw out k (.row 5 1 (cat c).length)) (fun c=>c≤2) (fun c=>2 - c) 0 (Nat.zero_le _) ?_ fun c hc=> ?_
  ·refine X2 ?_ ?_ (by first|rfl|(simp only[cat0,List.length_nil];rfl)|simp only[cat0,List.length_nil]) rfl rfl rfl<;>simp only[X4,sl,cat0,List.length_nil]
  simp only[X4,s_0,s_s]
  refine X9 fun K hK=>Xn Xj [] ?_
  simp (maxSteps:=9^7) only[ss,X1,tab,simprocAttr, -List.reduceReplicate,cat0,List.length_nil]
  (refine hK _ ?_;clear hK K)
  refine X9 fun KC hKC=> ?_
  refine Uz rfl (fun ht=>Xhj (hKC _ ?_)) (fun hf=>Qi (id ?_))
  rotate_left
  ·simp only[Qd,Z4,if_true]
   refine hKB _ ?_
   clear hKB KB hKC KC
   have hc2:c=2:=by have:=of_decide_eq_false hf;omega
   subst hc2
   rw[cat2,hlab]
   refine X9 fun K hK=>Xn Xj [] ?_
   simp (maxSteps:=9^7) only[ss,X1,tab,simprocAttr, -List.reduceReplicate]
   (refine hK _ ?_;clear hK K)
   refine Yd ?_
   exact Qv (.inr rfl) rfl rfl rfl (fun _ _=>rfl) rfl
  clear hKC KC
  have hc2:c<2:=by have:=of_decide_eq_true ht;omega
  have hc3:(c:Int)<2:=by omega
  obtain⟨l,md,hel,hct⟩:=elem c hc2
  have hcl:=catl (c+1) (by omega)
  have hcl2:(cat c).length+l.length=(cat (c+1)).length:=by rw[hct,List.length_append]
  have e3:(cat (c+1)).length≤140737488355328:=by omega
  have e4:(cat (c+1)).length≤9223372036854775807:=by omega
  refine X9 fun KC hKC=>Xe ?_
  refine X9 fun K hK=>Xn Xj [] ?_
  simp (maxSteps:=9^7) only[ss,X1,tab,simprocAttr, -List.reduceReplicate,hl2,hel,hc2,hc3,nc]
  (refine hK _ ?_;clear hK K)
  refine Xn Xj [] ?_
  simp (maxSteps:=9^7) only[ss,X1,tab,simprocAttr, -List.reduceReplicate,hcl2,e3,e4,X8 hkn,X7 hkn,Cz hkn,Xt,Jp]
  repeat refine And.intro (by omega) ?_
  refine hKC _ ?_
  clear hKC KC
  refine Xn Xj [] ?_
  simp (maxSteps:=9^7) only[ss,X1,tab,simprocAttr, -List.reduceReplicate,Yl (n:=c) 1 1 rfl (by omega)]
  refine⟨c+1,by omega,by omega,?_⟩
  rw[hct]
  refine X2 ?_ ?_ rfl rfl rfl rfl<;>simp only[X4,sl]
 clear hKC KC
 have hc2:c<2:=by have:=of_decide_eq_true ht;omega
 have hc3:(c:Int)<2:=by omega
 obtain⟨l,md,hel,hct⟩:=elem c hc2
 have hcl:=catl (c+1) (by omega)
 have hcl2:(cat (c+1)).length=(cat c).length+l.length:=by rw[hct,List.length_append]
 have q1:IntKind.i64.wrap (((cat c).length:Int)+(l.length:Int))=(((cat (c+1)).length:Nat):Int):=by rw[wrap_i64]<;>omega
 have q2:decide ((((cat (c+1)).length:Nat):Int)<0)=false:=decide_eq_false (by omega)
 refine X9 fun KC hKC=>Xe ?_
 refine X9 fun K hK=>Xn Xj [] ?_
 simp (maxSteps:=9^7) only[ss,X1,tab,simprocAttr, -List.reduceReplicate,hl2,hel,hc2,hc3,nc]
 (refine hK _ ?_;clear hK K)
 refine X9 fun K hK=>Xn Xj [] ?_
 simp (maxSteps:=9^7) only[ss,X1,tab,simprocAttr, -List.reduceReplicate,q1]
 (refine hK _ ?_;clear hK K)
 refine X9 fun K hK=>Xn Xj [] ?_
 simp (maxSteps:=9^7) only[ss,X1,tab,simprocAttr, -List.reduceReplicate,q2]
 (refine hK _ ?_;clear hK K)
 refine Uy rfl (Xhj (id ?_))
 simp only[Z4,Qd]
 refine hKC _ ?_
 clear hKC KC
 refine Xn Xj [] ?_
 simp (maxSteps:=9^7) only[ss,X1,tab,simprocAttr, -List.reduceReplicate,Yl (n:=c) 1 1 rfl (by omega)]
 refine⟨c+1,by omega,by omega,?_⟩
 refine X2 ?_ ?_ rfl rfl rfl rfl<;>simp only[X4,sl]
end Go.Proofs.Ytjgbbjooeibppaa
