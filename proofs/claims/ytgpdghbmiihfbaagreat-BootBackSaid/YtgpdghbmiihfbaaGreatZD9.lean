/- The layer of abstract values, joined. -/
import Derived.Test.YtgpdghbmiihfbaaGreatZP5
import Derived.Test.YtgpdghbmiihfbaaGreatZD5
import Derived.WalkKit
import Derived.Lib.Walk
import Derived.Lib.SliceRun
import Derived.Lib.AppendZerosOnto
namespace Go.Proofs.YtgpdghbmiihfbaaGreat
set_option linter.all false
set_option maxHeartbeats 2000000
set_option maxRecDepth 100000
open Go Go.VS Tab Go.RowKit Go.Lib
theorem Xjf (n:Nat) (w:World) (h0:0<n) (hbig:n*24<=140737488355328) (i0:TypeInfo) (z:Value) (hi0:Tryz.prog.info? 22=some i0) (hz0:i0.zero=some z) (hs0:0<i0.size) (hb0:i0.bytes=24):
  Calls Tryz.prog 133 #[.slice none 0 0,.int .i64 n] w fun e w'=>
   e= .returned (.slice (some ⟨w.heap.size,0,none⟩) 0 (grownCap w n 0 22))∧
   w'=w.drew.alloc (.cells (#[]++Builtin.zeroCells z.cells n++Builtin.zeroCells z.cells (grownCap w n 0 22 - n)) 22):=by
 have h1:¬((n:Int)<0):=by omega
 have h3:wrap64 ((n:Int) - 0)=(n:Int):=by unfold wrap64;omega
 have h4:(n:Int)>0:=by omega
 have hrz:∀ty,(Builtin.append_ #[36,3] ty #[.slice none 0 0,.int .i64 (n:Int)]).run Tryz.prog w=
   .ok (.slice (some ⟨w.heap.size,0,none⟩) n (grownCap w n 0 22)) (w.drew.alloc (.cells (#[]++Builtin.zeroCells z.cells n++Builtin.zeroCells z.cells (grownCap w n 0 22 - n)) 22)):=fun ty=>by
  have h:=Lib.run_append_grow_zeros w 36 3 ty 22 i0 z .i64 .i64 Tryz.underlying36 Tryz.underlying3 hi0 hz0 none 0 0 [] (run_firstCells_none w.drew i0.size 0 0 0) n h0 hs0 (by omega) (by omega)
   (by rw[hb0];omega) (growslice_fits (by omega) (by rw[hb0];omega))
  rw[Nat.zero_add] at h;exact h
 have hGn:n<=grownCap w n 0 22:=VS.Vu w _ _ _;have hG63:grownCap w n 0 22<=9223372036854775807:=by
  have:=grownCap_le_maxLen w n 0 22 (by unfold maxLen;omega);unfold maxLen at this;omega
 generalize grownCap w n 0 22=G at hrz hGn hG63⊢
 go_enter Tryz.func133,Tryz.ntmps133
 go_wp2_with (at_builtin;refine Lib.wpList_append_run _ rfl _ _ _ _ rfl _ _ rfl rfl _ _ (hrz _) ?_)
 all_goals (go_ret;exact⟨rfl,rfl⟩)
theorem Xkv (k n:Nat) (hbig:n*24<=140737488355328):
  Xr Tryz.prog 133 [.sl 0 [] .nil,i64 (n:Int)] [(k,none)] (.sl 1 [] (.own k)) [(k,.row 22 1 0)]:=by
 by_cases h0:n=0
 ·subst h0;refine Xc 0 Tryz.func133 rfl fun n out _ _=> ?_;simp only[sn,Tryz.ntmps133,simprocAttr];rename_i hneeds hgv;obtain⟨hk,_⟩:=hneeds;obtain⟨hkn,_⟩:=hgv;refine Yy (X3x (k:=k) 22 1 (by rw[X7 hkn];trivial) (by rw[X8 hkn];exact hk)) ?_;rw[X79 hkn];refine Vy fun K hK=> ?_;simp only[zA,simprocAttr]
  (refine hK _ ?_;clear hK K)
  refine Vk fun KA hKA=> ?_;refine Vy fun K hK=> ?_;simp only[zA,simprocAttr]
  (refine hK _ ?_;clear hK K)
  refine Uy rfl (Xhj (hKA _ ?_));clear hKA KA;refine Vk fun KA hKA=> ?_;refine Vy fun K hK=> ?_;simp only[zA,simprocAttr,nc,Int.sub_zero,wrap_i64 (x:=0) (by decide) (by decide)]
  (refine hK _ ?_;clear hK K)
  refine Vy fun K hK=> ?_;simp only[zA,simprocAttr,Int.lt_irrefl]
  (refine hK _ ?_;clear hK K)
  refine Uy rfl (Xhj (hKA _ ?_));clear hKA KA;refine Vy fun K hK=> ?_;simp only[zA,simprocAttr]
  (refine hK _ ?_;clear hK K)
  apply Vz;exact Xv (.inr rfl) rfl rfl rfl (fun _ _=>rfl) (.nil _ _ _ (by intro h;cases h)) rfl
 ·intro M N vs hI hR hn hN hu;obtain⟨hl,hr⟩:=hR;obtain⟨v0,v1,rfl⟩:∃v0 v1,vs= #[v0,v1]:=by
   match vs,hl with
   |⟨[a,b]⟩,_=>exact⟨a,b,rfl⟩
  have r0:=hr 0 _ _ rfl rfl;have r1:=hr 1 _ _ rfl rfl;obtain rfl:v0= .slice none 0 0:=by
   cases r0 with
   |nil _ _ a h1 h2=>rw[h2 rfl]
   |slice _ _ _ a cap hs hcap hsz hst hc hmd=>exact hmd.elim
  have e1:=Yw r1;subst e1;obtain⟨i0,z,hi0,hi1,hi2,hi3,hi4⟩:=ok22.info;refine(Xjf n M.w (by omega) hbig i0 z hi0 hi3 (by rw[hi1];decide) hi2).mono fun e w' hw=> ?_;obtain⟨rfl,rfl⟩:=hw;have hcap:=VS.Vu M.w n 0 22;generalize grownCap M.w n 0 22=cap at hcap⊢;have e0:=Ext.withW (M:=M) (w':=M.w.drew) rfl;have hI0:Inv (M.withW M.w.drew):=hI.withW rfl rfl rfl rfl;have hk:Xoz (M.withW M.w.drew) k 22 1 0:= .inl hn.1;have hz1:z.cells.size=1:=by
   have:=ok22.len;rw[<- hi4] at this;simpa using this
  have hzs:∀m,(Builtin.zeroCells z.cells m).size=m*1:=fun m=>by simp [Builtin.zeroCells,hz1]
  have hzl:∀v,v∈z.cells.toList->leaf v:=fun v hv=>by
   rw[hi4] at hv;exact Uw (bc.1 ok22.leafs v hv)
  refine⟨_,rfl,(M.withW M.w.drew).moveRow k 22 1 (#[]++Builtin.zeroCells z.cells n++Builtin.zeroCells z.cells (cap - n)) 0 cap,rfl,e0.trans (Ext.moveRow hI0 hk _ _),hI0.moveRow hk (by simp [hzs];omega) (ba _) (fun i v h=> ?_),fun j _=>rfl,?_⟩
  ·rw[ja] at h;split at h
   ·rw[jo] at h;exact Qk hzl (by rw[hz1];decide) _ _ _ h
   ·exact Qk hzl (by rw[hz1];decide) _ _ _ h
  ·have hβ:((M.withW M.w.drew).moveRow k 22 1 (#[]++Builtin.zeroCells z.cells n++Builtin.zeroCells z.cells (cap - n)) 0 cap).β k=M.w.heap.size:=by simp [Mem.moveRow,Mem.withW]
   exact .slice 1 [] (.own k) ⟨M.w.heap.size,0,none⟩ cap rfl (ba _) (fun row h=>by simp at h) (fun o ho=>by simp at ho) (fun i j row c v h=>by simp at h)
    ⟨22,0,by simp [Mem.moveRow,Xw],Nat.le_refl _,fun _=> .inr ⟨rfl,hβ.symm,by simp [Mem.moveRow]⟩⟩
theorem Xk1 (k:Nat) (a b:List (List AV)) (m0 m1 m2:Md) (hb:a.length+b.length<=1000000):
  Xr Tryz.prog 69 [.sl 1 [[.sl 1 a m1],[.sl 1 b m2]] m0] [(k,none)] (.sl 1 (a++b) (.own k)) [(k,.row 22 1 (a.length+b.length))]:=by
 refine Xc 0 Tryz.func69 rfl fun n out _ _=> ?_;simp only[sn,Tryz.ntmps69,simprocAttr];rename_i hneeds hg;obtain⟨hk,_⟩:=hneeds;obtain⟨hkn,_⟩:=hg;obtain⟨els,hels⟩:∃els,els=[[AV.sl 1 a m1],[AV.sl 1 b m2]]:=⟨_,rfl⟩
 rw[<- hels];have hl2:els.length=2:=by rw[hels];rfl
 obtain⟨cat,hcat⟩:∃cat:Nat->List (List AV),cat=fun c=>(([a,b]:List (List (List AV))).take c).flatten:=⟨_,rfl⟩
 have elem:∀c,c<2->∃l md,els.getD c []=[.sl 1 l md]∧cat (c+1)=cat c++l:=fun c hc=>by
  rw[hels,hcat]
  match c,hc with
  |0,_=>exact⟨a,m1,rfl,by simp⟩
  |1,_=>exact⟨b,m2,rfl,by simp⟩
 have cat0:cat 0=[]:=by rw[hcat];rfl
 have cat2:cat 2=a++b:=by rw[hcat];simp
 have catl:∀c,c<=2->(cat c).length<=a.length+b.length:=fun c hc=>by
  rw[hcat]
  match c,hc with
  |0,_=>simp
  |1,_=>simp
  |2,_=>simp
 refine Vy fun K hK=> ?_;simp only[zA,simprocAttr]
 (refine hK _ ?_;clear hK K)
 refine Vy fun K hK=> ?_;simp only[zA,simprocAttr]
 (refine hK _ ?_;clear hK K)
 refine Vk fun KB hKB=> ?_;refine Vy fun K hK=> ?_;simp only[zA,simprocAttr,hl2]
 (refine hK _ ?_;clear hK K)
 apply V5;refine Xwm (2) (fun c=>tp [5] (tr 12 11 [(11,i64 (c:Int)),(3,i64 (((cat c).length:Nat):Int))])) (fun c=>[]) ?_ fun c hc=> ?_
 ·refine X2 ?_ ?_ (by first|rfl|(simp only[cat0,List.length_nil];rfl)|simp only[cat0,List.length_nil]) rfl rfl rfl<;>simp only[sL,cat0,List.length_nil]
 simp only[pt];refine Vy fun K hK=> ?_;simp only[zA,simprocAttr]
 (refine hK _ ?_;clear hK K)
 refine Vk fun KC hKC=> ?_;refine Uz rfl (fun ht=>Xhj (hKC _ ?_)) (fun hf=>Qi (id ?_));rotate_left
 ·simp only[Qd,Z4,if_true];refine hKB _ ?_;clear hKB KB hKC KC;have hc2:c=2:=by have:=bh hf;omega
  subst hc2;rw[cat2];have hlab:(a++b).length=a.length+b.length:=ac;rw[hlab];refine Vy fun K hK=> ?_;simp only[zA,simprocAttr]
  skip
  refine Sb (Xkv k _ (by omega)) (by rw[X8 hkn];exact hk) (by rw[X7 hkn];trivial) (by simp) ?_;simp only[zA,simprocAttr,Cz hkn]
  (refine hK _ ?_;clear hK K)
  refine Vk fun KB hKB=> ?_;refine Vy fun K hK=> ?_;simp only[zA,simprocAttr,hl2]
  (refine hK _ ?_;clear hK K)
  apply V5;refine Xz (fun c:Nat=>tp [8] (tr 28 7 [(27,i64 (c:Int)),(6,.sl 1 (cat c) (.own k))])) (fun c=>[]) (fun c=>Xw out k (.row 22 1 (cat c).length)) (fun c=>c<=2) (fun c=>2 - c) 0 (ba _) ?_ fun c hc=> ?_
  ·refine X2 ?_ ?_ (by first|rfl|(simp only[cat0,List.length_nil];rfl)|simp only[cat0,List.length_nil]) rfl rfl rfl<;>simp only[sL,cat0]
  simp only[pt];refine Vy fun K hK=> ?_;simp only[zA,simprocAttr]
  (refine hK _ ?_;clear hK K)
  refine Vk fun KC hKC=> ?_;refine Uz rfl (fun ht=>Xhj (hKC _ ?_)) (fun hf=>Qi (id ?_));rotate_left
  ·simp only[Qd,Z4,if_true];refine hKB _ ?_;clear hKB KB hKC KC;have hc2:c=2:=by have:=bh hf;omega
   subst hc2;rw[cat2,hlab];refine Vy fun K hK=> ?_;simp only[zA,simprocAttr]
   (refine hK _ ?_;clear hK K)
   apply Vz;exact Qv (.inr rfl) rfl rfl rfl (fun _ _=>rfl) rfl
  clear hKC KC;have hc2:c<2:=by have:=au ht;omega
  have hc3:(c:Int)<2:=by omega
  obtain⟨l,md,hel,hct⟩:=elem c hc2;have hcl:=catl (c+1) (by omega);have hcl2:(cat c).length+l.length=(cat (c+1)).length:=by rw[hct,ac]
  have e3:(cat (c+1)).length<=140737488355328:=by omega
  have e4:(cat (c+1)).length<=9223372036854775807:=by omega
  refine Vk fun KC hKC=>Xe ?_;refine Vy fun K hK=> ?_;simp only[zA,simprocAttr,hl2,hel,hc2,hc3]
  (refine hK _ ?_;clear hK K)
  refine Xn Xj [] ?_;simp only[zA,simprocAttr,hcl2,e4,X8 hkn,X7 hkn,Cz hkn,Xt,Jp]
  repeat refine aa (by omega) ?_
  refine hKC _ ?_;clear hKC KC;refine Xn Xj [] ?_;simp only[zA,simprocAttr,Yl (n:=c) 1 1 rfl (by omega)];refine⟨c+1,by omega,by omega,?_⟩;rw[hct];refine La rfl ?_ ?_<;>simp only[sL]
 clear hKC KC;have hc2:c<2:=by have:=au ht;omega
 have hc3:(c:Int)<2:=by omega
 obtain⟨l,md,hel,hct⟩:=elem c hc2;have hcl:=catl (c+1) (by omega);have hcl2:(cat (c+1)).length=(cat c).length+l.length:=by rw[hct,ac]
 have q1:IntKind.i64.wrap (((cat c).length:Int)+(l.length:Int))=(((cat (c+1)).length:Nat):Int):=by rw[wrap_i64]<;>omega
 have q2:decide ((((cat (c+1)).length:Nat):Int)<0)=false:=aq (by omega);refine Vk fun KC hKC=>Xe ?_;refine Vy fun K hK=> ?_;simp only[zA,simprocAttr,hl2,hel,hc2,hc3]
 (refine hK _ ?_;clear hK K)
 refine Vy fun K hK=> ?_;simp only[zA,simprocAttr,q1]
 (refine hK _ ?_;clear hK K)
 refine Vy fun K hK=> ?_;simp only[zA,simprocAttr,q2]
 (refine hK _ ?_;clear hK K)
 refine Uy rfl (Xhj (id ?_));simp only[Z4,Qd];refine hKC _ ?_;clear hKC KC;refine Xn Xj [] ?_;simp only[zA,simprocAttr,Yl (n:=c) 1 1 rfl (by omega)];refine⟨c+1,by omega,by omega,?_⟩;refine La rfl ?_ ?_<;>simp only[sL]
theorem Xb8 (n:Nat) (w:World) (h0:0<n) (hbig:n*1<=140737488355328) (i0:TypeInfo) (z:Value) (hi0:Tryz.prog.info? 5=some i0) (hz0:i0.zero=some z) (hs0:0<i0.size) (hb0:i0.bytes=1):
  Calls Tryz.prog 209 #[.slice none 0 0,.int .i64 n] w fun e w'=>
   e= .returned (.slice (some ⟨w.heap.size,0,none⟩) 0 (grownCap w n 0 5))∧
   w'=w.drew.alloc (.cells (#[]++Builtin.zeroCells z.cells n++Builtin.zeroCells z.cells (grownCap w n 0 5 - n)) 5):=by
 have h1:¬((n:Int)<0):=by omega
 have h3:wrap64 ((n:Int) - 0)=(n:Int):=by unfold wrap64;omega
 have h4:(n:Int)>0:=by omega
 have hrz:∀ty,(Builtin.append_ #[22,3] ty #[.slice none 0 0,.int .i64 (n:Int)]).run Tryz.prog w=
   .ok (.slice (some ⟨w.heap.size,0,none⟩) n (grownCap w n 0 5)) (w.drew.alloc (.cells (#[]++Builtin.zeroCells z.cells n++Builtin.zeroCells z.cells (grownCap w n 0 5 - n)) 5)):=fun ty=>by
  have h:=Lib.run_append_grow_zeros w 22 3 ty 5 i0 z .i64 .i64 Tryz.underlying22 Tryz.underlying3 hi0 hz0 none 0 0 [] (run_firstCells_none w.drew i0.size 0 0 0) n h0 hs0 (by omega) (by omega)
   (by rw[hb0];omega) (growslice_fits (by omega) (by rw[hb0];omega))
  rw[Nat.zero_add] at h;exact h
 have hGn:n<=grownCap w n 0 5:=VS.Vu w _ _ _;have hG63:grownCap w n 0 5<=9223372036854775807:=by
  have:=grownCap_le_maxLen w n 0 5 (by unfold maxLen;omega);unfold maxLen at this;omega
 generalize grownCap w n 0 5=G at hrz hGn hG63⊢
 go_enter Tryz.func209,Tryz.ntmps209
 go_wp2_with (at_builtin;refine Lib.wpList_append_run _ rfl _ _ _ _ rfl _ _ rfl rfl _ _ (hrz _) ?_)
 all_goals (go_ret;exact⟨rfl,rfl⟩)
theorem Xbs (k n:Nat) (hbig:n*1<=140737488355328):
  Xr Tryz.prog 209 [.sl 0 [] .nil,i64 (n:Int)] [(k,none)] (.sl 1 [] (.own k)) [(k,.row 5 1 0)]:=by
 by_cases h0:n=0
 ·subst h0;refine Xc 0 Tryz.func209 rfl fun n out _ _=> ?_;simp only[sn,Tryz.ntmps209,simprocAttr];rename_i hneeds hgv;obtain⟨hk,_⟩:=hneeds;obtain⟨hkn,_⟩:=hgv;refine Yy (X3x (k:=k) 5 1 (by rw[X7 hkn];trivial) (by rw[X8 hkn];exact hk)) ?_;rw[X79 hkn];refine Vy fun K hK=> ?_;simp only[zA,simprocAttr]
  (refine hK _ ?_;clear hK K)
  refine Vk fun KA hKA=> ?_;refine Vy fun K hK=> ?_;simp only[zA,simprocAttr]
  (refine hK _ ?_;clear hK K)
  refine Uy rfl (Xhj (hKA _ ?_));clear hKA KA;refine Vk fun KA hKA=> ?_;refine Vy fun K hK=> ?_;simp only[zA,simprocAttr,nc,Int.sub_zero,wrap_i64 (x:=0) (by decide) (by decide)]
  (refine hK _ ?_;clear hK K)
  refine Vy fun K hK=> ?_;simp only[zA,simprocAttr,Int.lt_irrefl]
  (refine hK _ ?_;clear hK K)
  refine Uy rfl (Xhj (hKA _ ?_));clear hKA KA;refine Vy fun K hK=> ?_;simp only[zA,simprocAttr]
  (refine hK _ ?_;clear hK K)
  apply Vz;exact Xv (.inr rfl) rfl rfl rfl (fun _ _=>rfl) (.nil _ _ _ (by intro h;cases h)) rfl
 ·intro M N vs hI hR hn hN hu;obtain⟨hl,hr⟩:=hR;obtain⟨v0,v1,rfl⟩:∃v0 v1,vs= #[v0,v1]:=by
   match vs,hl with
   |⟨[a,b]⟩,_=>exact⟨a,b,rfl⟩
  have r0:=hr 0 _ _ rfl rfl;have r1:=hr 1 _ _ rfl rfl;obtain rfl:v0= .slice none 0 0:=by
   cases r0 with
   |nil _ _ a h1 h2=>rw[h2 rfl]
   |slice _ _ _ a cap hs hcap hsz hst hc hmd=>exact hmd.elim
  have e1:=Yw r1;subst e1;obtain⟨i0,z,hi0,hi1,hi2,hi3,hi4⟩:=ok5.info;refine(Xb8 n M.w (by omega) hbig i0 z hi0 hi3 (by rw[hi1];decide) hi2).mono fun e w' hw=> ?_;obtain⟨rfl,rfl⟩:=hw;have hcap:=VS.Vu M.w n 0 5;generalize grownCap M.w n 0 5=cap at hcap⊢;have e0:=Ext.withW (M:=M) (w':=M.w.drew) rfl;have hI0:Inv (M.withW M.w.drew):=hI.withW rfl rfl rfl rfl;have hk:Xoz (M.withW M.w.drew) k 5 1 0:= .inl hn.1;have hz1:z.cells.size=1:=by
   have:=ok5.len;rw[<- hi4] at this;simpa using this
  have hzs:∀m,(Builtin.zeroCells z.cells m).size=m*1:=fun m=>by simp [Builtin.zeroCells,hz1]
  have hzl:∀v,v∈z.cells.toList->leaf v:=fun v hv=>by
   rw[hi4] at hv;exact Uw (bc.1 ok5.leafs v hv)
  refine⟨_,rfl,(M.withW M.w.drew).moveRow k 5 1 (#[]++Builtin.zeroCells z.cells n++Builtin.zeroCells z.cells (cap - n)) 0 cap,rfl,e0.trans (Ext.moveRow hI0 hk _ _),hI0.moveRow hk (by simp [hzs];omega) (ba _) (fun i v h=> ?_),fun j _=>rfl,?_⟩
  ·rw[ja] at h;split at h
   ·rw[jo] at h;exact Qk hzl (by rw[hz1];decide) _ _ _ h
   ·exact Qk hzl (by rw[hz1];decide) _ _ _ h
  ·have hβ:((M.withW M.w.drew).moveRow k 5 1 (#[]++Builtin.zeroCells z.cells n++Builtin.zeroCells z.cells (cap - n)) 0 cap).β k=M.w.heap.size:=by simp [Mem.moveRow,Mem.withW]
   exact .slice 1 [] (.own k) ⟨M.w.heap.size,0,none⟩ cap rfl (ba _) (fun row h=>by simp at h) (fun o ho=>by simp at ho) (fun i j row c v h=>by simp at h)
    ⟨5,0,by simp [Mem.moveRow,Xw],Nat.le_refl _,fun _=> .inr ⟨rfl,hβ.symm,by simp [Mem.moveRow]⟩⟩
theorem Xbg (k:Nat) (a b:List (List AV)) (m0 m1 m2:Md) (hb:a.length+b.length<=1000000):
  Xr Tryz.prog 142 [.sl 1 [[.sl 1 a m1],[.sl 1 b m2]] m0] [(k,none)] (.sl 1 (a++b) (.own k)) [(k,.row 5 1 (a.length+b.length))]:=by
 refine Xc 0 Tryz.func142 rfl fun n out _ _=> ?_;simp only[sn,Tryz.ntmps142,simprocAttr];rename_i hneeds hg;obtain⟨hk,_⟩:=hneeds;obtain⟨hkn,_⟩:=hg;obtain⟨els,hels⟩:∃els,els=[[AV.sl 1 a m1],[AV.sl 1 b m2]]:=⟨_,rfl⟩
 rw[<- hels];have hl2:els.length=2:=by rw[hels];rfl
 obtain⟨cat,hcat⟩:∃cat:Nat->List (List AV),cat=fun c=>(([a,b]:List (List (List AV))).take c).flatten:=⟨_,rfl⟩
 have elem:∀c,c<2->∃l md,els.getD c []=[.sl 1 l md]∧cat (c+1)=cat c++l:=fun c hc=>by
  rw[hels,hcat]
  match c,hc with
  |0,_=>exact⟨a,m1,rfl,by simp⟩
  |1,_=>exact⟨b,m2,rfl,by simp⟩
 have cat0:cat 0=[]:=by rw[hcat];rfl
 have cat2:cat 2=a++b:=by rw[hcat];simp
 have catl:∀c,c<=2->(cat c).length<=a.length+b.length:=fun c hc=>by
  rw[hcat]
  match c,hc with
  |0,_=>simp
  |1,_=>simp
  |2,_=>simp
 refine Vy fun K hK=> ?_;simp only[zA,simprocAttr]
 (refine hK _ ?_;clear hK K)
 refine Vy fun K hK=> ?_;simp only[zA,simprocAttr]
 (refine hK _ ?_;clear hK K)
 refine Vk fun KB hKB=> ?_;refine Vy fun K hK=> ?_;simp only[zA,simprocAttr,hl2]
 (refine hK _ ?_;clear hK K)
 apply V5;refine Xwm (2) (fun c=>tp [5] (tr 12 11 [(11,i64 (c:Int)),(3,i64 (((cat c).length:Nat):Int))])) (fun c=>[]) ?_ fun c hc=> ?_
 ·refine X2 ?_ ?_ (by first|rfl|(simp only[cat0,List.length_nil];rfl)|simp only[cat0,List.length_nil]) rfl rfl rfl<;>simp only[sL,cat0,List.length_nil]
 simp only[pt];refine Vy fun K hK=> ?_;simp only[zA,simprocAttr]
 (refine hK _ ?_;clear hK K)
 refine Vk fun KC hKC=> ?_;refine Uz rfl (fun ht=>Xhj (hKC _ ?_)) (fun hf=>Qi (id ?_));rotate_left
 ·simp only[Qd,Z4,if_true];refine hKB _ ?_;clear hKB KB hKC KC;have hc2:c=2:=by have:=bh hf;omega
  subst hc2;rw[cat2];have hlab:(a++b).length=a.length+b.length:=ac;rw[hlab];refine Vy fun K hK=> ?_;simp only[zA,simprocAttr]
  skip
  refine Sb (Xbs k _ (by omega)) (by rw[X8 hkn];exact hk) (by rw[X7 hkn];trivial) (by simp) ?_;simp only[zA,simprocAttr,Cz hkn]
  (refine hK _ ?_;clear hK K)
  refine Vk fun KB hKB=> ?_;refine Vy fun K hK=> ?_;simp only[zA,simprocAttr,hl2]
  (refine hK _ ?_;clear hK K)
  apply V5;refine Xz (fun c:Nat=>tp [8] (tr 28 7 [(27,i64 (c:Int)),(6,.sl 1 (cat c) (.own k))])) (fun c=>[]) (fun c=>Xw out k (.row 5 1 (cat c).length)) (fun c=>c<=2) (fun c=>2 - c) 0 (ba _) ?_ fun c hc=> ?_
  ·refine X2 ?_ ?_ (by first|rfl|(simp only[cat0,List.length_nil];rfl)|simp only[cat0,List.length_nil]) rfl rfl rfl<;>simp only[sL,cat0]
  simp only[pt];refine Vy fun K hK=> ?_;simp only[zA,simprocAttr]
  (refine hK _ ?_;clear hK K)
  refine Vk fun KC hKC=> ?_;refine Uz rfl (fun ht=>Xhj (hKC _ ?_)) (fun hf=>Qi (id ?_));rotate_left
  ·simp only[Qd,Z4,if_true];refine hKB _ ?_;clear hKB KB hKC KC;have hc2:c=2:=by have:=bh hf;omega
   subst hc2;rw[cat2,hlab];refine Vy fun K hK=> ?_;simp only[zA,simprocAttr]
   (refine hK _ ?_;clear hK K)
   apply Vz;exact Qv (.inr rfl) rfl rfl rfl (fun _ _=>rfl) rfl
  clear hKC KC;have hc2:c<2:=by have:=au ht;omega
  have hc3:(c:Int)<2:=by omega
  obtain⟨l,md,hel,hct⟩:=elem c hc2;have hcl:=catl (c+1) (by omega);have hcl2:(cat c).length+l.length=(cat (c+1)).length:=by rw[hct,ac]
  have e3:(cat (c+1)).length<=140737488355328:=by omega
  have e4:(cat (c+1)).length<=9223372036854775807:=by omega
  refine Vk fun KC hKC=>Xe ?_;refine Vy fun K hK=> ?_;simp only[zA,simprocAttr,hl2,hel,hc2,hc3]
  (refine hK _ ?_;clear hK K)
  refine Xn Xj [] ?_;simp only[zA,simprocAttr,hcl2,e3,e4,X8 hkn,X7 hkn,Cz hkn,Xt,Jp]
  repeat refine aa (by omega) ?_
  refine hKC _ ?_;clear hKC KC;refine Xn Xj [] ?_;simp only[zA,simprocAttr,Yl (n:=c) 1 1 rfl (by omega)];refine⟨c+1,by omega,by omega,?_⟩;rw[hct];refine La rfl ?_ ?_<;>simp only[sL]
 clear hKC KC;have hc2:c<2:=by have:=au ht;omega
 have hc3:(c:Int)<2:=by omega
 obtain⟨l,md,hel,hct⟩:=elem c hc2;have hcl:=catl (c+1) (by omega);have hcl2:(cat (c+1)).length=(cat c).length+l.length:=by rw[hct,ac]
 have q1:IntKind.i64.wrap (((cat c).length:Int)+(l.length:Int))=(((cat (c+1)).length:Nat):Int):=by rw[wrap_i64]<;>omega
 have q2:decide ((((cat (c+1)).length:Nat):Int)<0)=false:=aq (by omega);refine Vk fun KC hKC=>Xe ?_;refine Vy fun K hK=> ?_;simp only[zA,simprocAttr,hl2,hel,hc2,hc3]
 (refine hK _ ?_;clear hK K)
 refine Vy fun K hK=> ?_;simp only[zA,simprocAttr,q1]
 (refine hK _ ?_;clear hK K)
 refine Vy fun K hK=> ?_;simp only[zA,simprocAttr,q2]
 (refine hK _ ?_;clear hK K)
 refine Uy rfl (Xhj (id ?_));simp only[Z4,Qd];refine hKC _ ?_;clear hKC KC;refine Xn Xj [] ?_;simp only[zA,simprocAttr,Yl (n:=c) 1 1 rfl (by omega)];refine⟨c+1,by omega,by omega,?_⟩;refine La rfl ?_ ?_<;>simp only[sL]
end Go.Proofs.YtgpdghbmiihfbaaGreat
namespace Go.Proofs.YtgpdghbmiihfbaaGreat
set_option linter.all false
set_option maxHeartbeats 1000000
set_option maxRecDepth 4000
open Go Go.VS Tab
theorem Xht (a m:Int):Xr Tryz.prog 76 [i64 a,i64 m] [] (bool (decide (0<=a)&&decide (a<m))) []:=by
 refine Xc 0 Tryz.func76 rfl fun n out _ _=> ?_;simp only[sn,Tryz.ntmps76,simprocAttr];refine Vy fun K hK=> ?_;simp only[zA,simprocAttr]
 (refine hK _ ?_;clear hK K)
 by_cases h:0<=a
 ·have e:decide (a>=0)=true:=ay h;refine Vy fun K hK=> ?_;simp only[zA,simprocAttr,e]
  (refine hK _ ?_;clear hK K)
  rw[show decide (0<=a)=true from e,cy];apply Vz;exact Qv (.inr rfl) rfl rfl rfl (fun _ _=>rfl) rfl
 ·have e:decide (a>=0)=false:=aq h;refine Vy fun K hK=> ?_;simp only[zA,simprocAttr,e]
  (refine hK _ ?_;clear hK K)
  rw[show decide (0<=a)=false from e,dh];apply Vz;exact Qv (.inr rfl) rfl rfl rfl (fun _ _=>rfl) rfl
theorem Xml (w:Wr):Xr Tryz.prog 67 [wrA w] [] (i64 w.at') []:=by
 refine Xc 1 Tryz.func67 rfl fun n out _ _=> ?_;simp only[sn,Tryz.ntmps67,simprocAttr];refine Vy fun K hK=> ?_;simp only[zA,simprocAttr,wrA,wrC]
 (refine hK _ ?_;clear hK K)
 refine Vy fun K hK=> ?_;simp only[zA,simprocAttr]
 (refine hK _ ?_;clear hK K)
 apply Vz;exact Qv (.inr rfl) rfl rfl rfl (fun _ _=>rfl) rfl
theorem Xmm (w:Wr):Xr Tryz.prog 68 [wrA w] [] (bs w.data) []:=by
 refine Xc 1 Tryz.func68 rfl fun n out _ _=> ?_;simp only[sn,Tryz.ntmps68,simprocAttr];refine Vy fun K hK=> ?_;simp only[zA,simprocAttr,wrA,wrC]
 (refine hK _ ?_;clear hK K)
 refine Vy fun K hK=> ?_;simp only[zA,simprocAttr]
 (refine hK _ ?_;clear hK K)
 apply Vz;exact Qv (.inr rfl) rfl rfl rfl (fun _ _=>rfl) rfl
theorem Xmn (l:List UInt8):Xr Tryz.prog 72 [bs l] [] (bool ((l.length:Int) !=128)) []:=by
 refine Xc 0 Tryz.func72 rfl fun n out _ _=> ?_;simp only[sn,Tryz.ntmps72,simprocAttr];refine Vy fun K hK=> ?_;simp only[zA,simprocAttr]
 (refine hK _ ?_;clear hK K)
 refine Vy fun K hK=> ?_;simp only[zA,simprocAttr,X5]
 (refine hK _ ?_;clear hK K)
 apply Vz;exact Qv (.inr rfl) rfl rfl rfl (fun _ _=>rfl) rfl
theorem Xmo (a:Int):Xr Tryz.prog 75 [i64 a] [] (bool (!(decide (0<=a)&&decide (a<32)))) []:=by
 refine Xc 0 Tryz.func75 rfl fun n out _ _=> ?_;simp only[sn,Tryz.ntmps75,simprocAttr];refine Vy fun K hK=> ?_;simp only[zA,simprocAttr]
 (refine hK _ ?_;clear hK K)
 refine Vy fun K hK=> ?_;simp only[zA,simprocAttr]
 skip
 refine X3 (Xht a 32) ?_;simp only[zA,simprocAttr]
 (refine hK _ ?_;clear hK K)
 apply Vz;exact Qv (.inr rfl) rfl rfl rfl (fun _ _=>rfl) rfl
def Xo1 (w:Wr):Bool:=decide (0<=w.at')&&decide (w.at'<32)&&decide (w.data.length=128)
def may (d:Dsk):Bool:=decide (d.sectors.length=32)&&decide (d.waits.length<=256)&&d.sectors.all (fun b=>decide (b.length=128))&&d.waits.all Xo1
theorem Xho (d:Dsk):may d=true↔d.sectors.length=32∧d.waits.length<=256∧(∀b,b∈d.sectors->b.length=128)∧∀w,w∈d.waits->0<=w.at'∧w.at'<32∧w.data.length=128:=by
 simp [may,Xo1,and_assoc]
theorem Xjg (d:Dsk) (h1:d.sectors.length<=1000) (h2:d.waits.length<=1000):Xr Tryz.prog 30 [Y3p d] [] (i64 (if may d then 0 else 8)) []:=by
 refine Xc 5 Tryz.func30 rfl fun n out _ _=> ?_;simp only[sn,Tryz.ntmps30,simprocAttr];refine Vy fun K hK=> ?_;simp only[zA,simprocAttr,Y3p,Xha]
 (refine hK _ ?_;clear hK K)
 refine Vy fun K hK=> ?_;simp only[zA,simprocAttr]
 (refine hK _ ?_;clear hK K)
 refine Vy fun K hK=> ?_;simp only[zA,simprocAttr]
 (refine hK _ ?_;clear hK K)
 have lit:∀(σ:AState) (K:AV->List (Nat×Res)->Prop) (m1 m2:Md) (x y:List (List AV)),X1 tab σ K none 192 2 [(0,.sl 1 x m1),(1,.sl 1 y m2)]=K (.sl 1 [[.sl 1 x m1],[.sl 1 y m2]] .full) []:=fun σ K m1 m2 x y=>
  Te (T:=tab) (ti:=ti192) (te:=ti36) rfl rfl rfl rfl rfl rfl
 refine Vk fun K hK=>Ny Xj [] [[],[0],[],[0],[],[1],[],[2],[]] [[],[],[],[],[],[1],[],[2],[]] follows (by kernel_rfl) (by decide) (by decide) (by kernel_rfl) ?_;simp only[zB,simprocAttr]
 skip
 refine Sb (Xm6 (n+1) d.waits _ [] (fun w=>bs w.data) (fun w=>secC w.data) (hb0 _ (by decide) (by decide)) (by omega) (fun _=>rfl) (fun _=>rfl) fun w _=>Xmm w) (X6 _ (Nat.le_refl _) 1) (Xb _ (by simp)) (by simp) ?_;simp only[zB,simprocAttr,lit];refine Sb (Xk1 (n+2) (d.sectors.map secC) (d.waits.map fun w=>secC w.data) _ _ _ (by simp;omega)) (X6 _ (Nat.le_refl _) 2) (Xb _ (by simp)) (by simp) ?_;simp only[zA,simprocAttr]
 (refine hK _ ?_;clear hK K)
 have e1:d.sectors.map secC++d.waits.map (fun w=>secC w.data)=(d.sectors++d.waits.map Wr.data).map secC:=by simp
 rw[e1];obtain⟨odd,hodd⟩:∃odd,odd=(d.sectors++d.waits.map Wr.data).any fun l=>(l.length:Int) !=128:=⟨_,rfl⟩
 refine Vy fun K hK=> ?_;simp only[zA,simprocAttr]
 skip
 refine X3 (Xdb (Xig secC bs (d.sectors++d.waits.map Wr.data) _ [] (fun l=>(l.length:Int) !=128) (hb0 _ (by decide) (by decide)) (by simp;omega) X0b fun l _=>Xmn l) ⟨.sh _ _ _,.rfl _,trivial⟩) ?_;simp only[zA,simprocAttr]
 (refine hK _ ?_;clear hK K)
 rw[<- hodd];obtain⟨away,haway⟩:∃away,away=(d.waits.map Wr.at').any fun a=> !(decide (0<=a)&&decide (a<32)):=⟨_,rfl⟩
 refine Vy fun K hK=> ?_;simp only[zB,simprocAttr]
 skip
 refine Sb (Xm7 (n+3) d.waits _ [] (fun w=>i64 w.at') (fun w=>Ym w.at') (hb0 _ (by decide) (by decide)) (by omega) (fun _=>rfl) (fun _=>rfl) fun w _=>Xml w) (X6 _ (Nat.le_refl _) 3) (Xb _ (by simp)) (by simp) ?_;simp only[zA,simprocAttr];have e2:d.waits.map (fun w=>Ym w.at')=(d.waits.map Wr.at').map Ym:=by simp
 rw[e2];refine X3 (Xdb (Xhl Ym i64 (d.waits.map Wr.at') _ [] (fun a=> !(decide (0<=a)&&decide (a<32))) (hb0 _ (by decide) (by decide)) (by simp;omega) Xj7 fun a _=>Xmo a) ⟨.sh _ _ _,.rfl _,trivial⟩) ?_;simp only[zA,simprocAttr]
 (refine hK _ ?_;clear hK K)
 rw[<- haway];have key:may d=(!odd&& !away&&decide (d.sectors.length=32)&&decide (d.waits.length<=256)):=by
  rw[bp,Xho,hodd,haway];simp only[ag,dv,gq,am,el,dj];constructor
  ·rintro⟨q1,q2,q3,q4⟩;refine⟨⟨⟨fun x hx=> ?_,fun x hx=> ?_⟩,q1⟩,q2⟩
   ·rcases hx with hx|⟨w,hw,rfl⟩
    ·rw[q3 x hx];decide
    ·rw[(q4 w hw).2.2];decide
   ·obtain⟨w,hw,rfl⟩:=hx;have:=q4 w hw;simp [this.1,this.2.1]
  ·rintro⟨⟨⟨q1,q2⟩,q3⟩,q4⟩;have q5:∀x:List UInt8,¬((x.length:Int) !=128)=true->x.length=128:=fun x h=>by
    simp at h;omega
   refine⟨q3,q4,fun b hb=>q5 b (q1 b (.inl hb)),fun w hw=> ?_⟩;have h1:=q5 _ (q1 w.data (.inr ⟨w,hw,rfl⟩));have h2:=q2 w.at' ⟨w,hw,rfl⟩;have h3:0<=w.at'∧w.at'<32:=by simpa using h2
   exact⟨h3.1,h3.2,h1⟩
 rw[key];cases odd with
 |true=>
  refine Vk fun KB hKB=> ?_;refine Vy fun K hK=> ?_;simp only[zA,simprocAttr]
  (refine hK _ ?_;clear hK K)
  refine Wm rfl ?_;refine Vy fun K hK=> ?_;simp only[zA,simprocAttr]
  (refine hK _ ?_;clear hK K)
  apply Vz;exact Qv (.inr rfl) rfl rfl rfl (fun _ _=>rfl) rfl
 |false=>
  cases away with
  |true=>
   refine Vk fun KB hKB=> ?_;refine Vy fun K hK=> ?_;simp only[zA,simprocAttr]
   (refine hK _ ?_;clear hK K)
   refine Wm rfl ?_;refine Vy fun K hK=> ?_;simp only[zA,simprocAttr]
   (refine hK _ ?_;clear hK K)
   apply Vz;exact Qv (.inr rfl) rfl rfl rfl (fun _ _=>rfl) rfl
  |false=>
   refine id ?_;by_cases h32:d.sectors.length=32
   ·have g:((d.sectors.length:Int) !=32)=false:=by simp;omega
    by_cases h256:d.waits.length<=256
    ·have g':decide ((d.waits.length:Int)>256)=false:=aq (by omega);refine Vk fun KB hKB=> ?_;refine Vy fun K hK=> ?_;simp only[zA,simprocAttr,g,g']
     (refine hK _ ?_;clear hK K)
     refine Uy rfl (Xhj (hKB _ ?_));refine Vy fun K hK=> ?_;simp only[zA,simprocAttr]
     (refine hK _ ?_;clear hK K)
     apply Vz;simp only[h32,h256,il,ef,cy,im,if_true];exact Qv (.inr rfl) rfl rfl rfl (fun _ _=>rfl) rfl
    ·have g':decide ((d.waits.length:Int)>256)=true:=ay (by omega);refine Vk fun KB hKB=> ?_;refine Vy fun K hK=> ?_;simp only[zA,simprocAttr,g,g']
     (refine hK _ ?_;clear hK K)
     refine Wm rfl ?_;refine Vy fun K hK=> ?_;simp only[zA,simprocAttr]
     (refine hK _ ?_;clear hK K)
     apply Vz;simp only[h32,h256,il,ef,cy,im,dx,if_false,bf,fy];exact Qv (.inr rfl) rfl rfl rfl (fun _ _=>rfl) rfl
   ·have g:((d.sectors.length:Int) !=32)=true:=by simp;omega
    refine Vk fun KB hKB=> ?_;refine Vy fun K hK=> ?_;simp only[zA,simprocAttr,g]
    (refine hK _ ?_;clear hK K)
    refine Wm rfl ?_;refine Vy fun K hK=> ?_;simp only[zA,simprocAttr]
    (refine hK _ ?_;clear hK K)
    apply Vz;simp only[h32,il,ef,cy,im,dx,if_false,bf,dh];exact Qv (.inr rfl) rfl rfl rfl (fun _ _=>rfl) rfl
theorem Xiw (d:Dsk) (b:Bool) (h1:d.sectors.length<=1000) (h2:d.waits.length<=1000):Xr Tryz.prog 111 [Y3p d,bool b] [] (i64 (if may d then(if b then 0 else 2) else 8)) []:=by
 refine Xc 1 Tryz.func111 rfl fun n out _ _=> ?_;simp only[sn,Tryz.ntmps111,simprocAttr];refine Vy fun K hK=> ?_;simp only[zA,simprocAttr,Y3p,Xha]
 (refine hK _ ?_;clear hK K)
 refine Vy fun K hK=> ?_;simp only[zA,simprocAttr]
 skip
 refine X3 (Xjg d h1 h2) ?_;simp only[zA,simprocAttr]
 (refine hK _ ?_;clear hK K)
 cases hm:may d with
 |true=>
  cases b with
  |true=>
   refine Vk fun KB hKB=> ?_;refine Vy fun K hK=> ?_;simp only[zA,simprocAttr]
   (refine hK _ ?_;clear hK K)
   refine Uy rfl (Xhj (hKB _ ?_));refine Vy fun K hK=> ?_;simp only[zA,simprocAttr]
   (refine hK _ ?_;clear hK K)
   apply Vz;exact Qv (.inr rfl) rfl rfl rfl (fun _ _=>rfl) rfl
  |false=>
   refine Vk fun KB hKB=> ?_;refine Vy fun K hK=> ?_;simp only[zA,simprocAttr]
   (refine hK _ ?_;clear hK K)
   refine Wm rfl ?_;refine Vy fun K hK=> ?_;simp only[zA,simprocAttr]
   (refine hK _ ?_;clear hK K)
   apply Vz;exact Qv (.inr rfl) rfl rfl rfl (fun _ _=>rfl) rfl
 |false=>
  refine Vk fun KB hKB=> ?_;refine Vy fun K hK=> ?_;simp only[zA,simprocAttr]
  (refine hK _ ?_;clear hK K)
  refine Uy rfl (Xhj (hKB _ ?_));refine Vy fun K hK=> ?_;simp only[zA,simprocAttr]
  (refine hK _ ?_;clear hK K)
  apply Vz;exact Qv (.inr rfl) rfl rfl rfl (fun _ _=>rfl) rfl
theorem Xkw (w:Wr) (h:w.data.length<=100000000):Xr Tryz.prog 94 [wrA w] [] (wrA w) []:=by
 refine Xc 2 Tryz.func94 rfl fun n out _ _=> ?_;simp only[sn,Tryz.ntmps94,simprocAttr];refine Vy fun K hK=> ?_;simp only[zA,simprocAttr,wrA,wrC]
 (refine hK _ ?_;clear hK K)
 refine Vy fun K hK=> ?_;simp only[zA,simprocAttr]
 skip
 refine X3 (Xds w.data h) ?_;simp only[zA,simprocAttr]
 (refine hK _ ?_;clear hK K)
 refine Vy fun K hK=> ?_;simp only[zA,simprocAttr]
 (refine hK _ ?_;clear hK K)
 apply Vz;exact X1b (.inr rfl) rfl rfl rfl (fun _ _=>rfl) ok76 (k:=n+1) (off:=0) rfl (Xb _ (by simp)) (X6 _ (Nat.le_refl _) 1) rfl
structure Small (d:Dsk):Prop where
 s:d.sectors.length<=1000
 w:d.waits.length<=1000
 sb:∀b,b∈d.sectors->b.length<=1000000
 wb:∀w,w∈d.waits->w.data.length<=1000000
theorem c_twin (k:Nat) (d:Dsk) (hd:Small d):Xr Tryz.prog 40 [Y3p d] [(k,none)] (.agg [.sl 1 (d.sectors.map secC) .sh,.sl 2 (d.waits.map wrC) (.own k)]) [(k,.row 76 2 d.waits.length)]:=by
 refine Xc 4 Tryz.func40 rfl fun n out _ _=> ?_;simp only[sn,Tryz.ntmps40,simprocAttr];rename_i hneeds hgv;obtain⟨hk,_⟩:=hneeds;obtain⟨hkn,_⟩:=hgv;refine Vy fun K hK=> ?_;simp only[zA,simprocAttr,Y3p,Xha]
 (refine hK _ ?_;clear hK K)
 refine Vk fun K hK=>Ny Xj [] [[],[0],[2],[],[0],[3],[],[1]] [[],[],[2],[],[],[3],[],[1]] follows (by kernel_rfl) (by decide) (by decide) (by kernel_rfl) ?_;simp only[zA,simprocAttr]
 skip
 refine Sb (Xl9 (n+2) d.sectors _ [] bs secC (hb0 _ (by decide) (by decide)) (by have:=hd.s;omega) (fun _=>rfl) (fun _=>rfl) fun l hl=>Xds l (by have:=hd.sb l hl;omega)) (X6 _ (Nat.le_refl _) 2) (Xb _ (by simp)) (by simp) ?_;simp only[zA,simprocAttr];refine Sb (Xkc (n+3) d.waits _ [] wrA wrC (hb0 _ (by decide) (by decide)) (by have:=hd.w;omega) (fun _=>rfl) (fun _=>rfl) fun w hw=>Xkw w (by have:=hd.wb w hw;omega)) (X6 _ (Nat.le_refl _) 3) (Xb _ (by simp)) (by simp) ?_;simp only[zA,simprocAttr]
 (refine hK _ ?_;clear hK K)
 refine Yy (Ja (i:=3) (k:=k) rfl (by exact hkn) (by exact hk)) ?_;simp only[bg,ad,Option.map_some,Res.ren1,AV.ren1,Nat.add_left_cancel_iff,Nat.reduceEqDiff,reduceIte,Xoe,s_0,s_s];apply Vz;exact Xu (.inr rfl) rfl rfl rfl (fun _ _=>rfl) ok39 (k:=n+1) (off:=0) rfl (Xb _ (by simp)) (X6 _ (Nat.le_refl _) 1) rfl (by simp only[sL])
def Xhm:Dsk:=⟨[],[]⟩
def Xjh (d:Dsk) (at':Int) (b:List UInt8):Dsk:=⟨d.sectors,d.waits++[⟨at',b⟩]⟩
def Xbb (d:Dsk) (at':Int) (b:List UInt8):Int:=if may d then(if decide (0<=at')&&decide (at'<32) then(if b.length=128 then(if d.waits.length=256 then 9 else 0) else 3) else 2) else 8
def Xhr (d:Dsk) (at':Int) (b:List UInt8):Dsk:=if Xbb d at' b=0 then Xjh d at' b else Xhm
theorem Xdu (d:Dsk) (at':Int) (b:List UInt8) (hd:Small d) (hb:b.length<=1000000):Xr Tryz.prog 82 [Y3p d,i64 at',bs b] [] (.tup [Y3p (Xhr d at' b),i64 (Xbb d at' b)]) []:=by
 refine Xc 3 Tryz.func82 rfl fun n out _ _=> ?_;simp only[sn,Tryz.ntmps82,simprocAttr];refine Vy fun K hK=> ?_;simp only[zA,simprocAttr,Y3p,Xha]
 (refine hK _ ?_;clear hK K)
 obtain⟨a,ha⟩:∃a,a=(if may d then(if decide (0<=at')&&decide (at'<32) then(0:Int) else 2) else 8):=⟨_,rfl⟩
 refine Vk fun KB hKB=> ?_;refine Vk fun K hK=>Ny Xj [] [[0],[],[],[],[]] [[],[],[],[],[]] follows (by kernel_rfl) (by decide) (by decide) (by kernel_rfl) ?_;simp only[zA,simprocAttr]
 skip
 refine X3 (Xht at' 32) ?_;simp only[zA,simprocAttr];refine X3 (Xiw d _ hd.s hd.w) ?_;simp only[zA,simprocAttr]
 (refine hK _ ?_;clear hK K)
 rw[<- ha];have full:∀e:Int,e≠0->Xbb d at' b=e->AV.le (.tup [.agg [.sl 0 [] .nil,.sl 0 [] .nil],i64 e]) (.tup [Y3p (Xhr d at' b),i64 (Xbb d at' b)]):=fun e h h'=>by
  have h2:Xhr d at' b=Xhm:=by unfold Xhr;rw[h',if_neg h]
  rw[h2,h'];simp only[Y3p,Xha,Xhm,ad,sL]
 by_cases h0:a≠0
 ·have e0:(a !=0)=true:=by simpa using h0
  have e1:Xbb d at' b=a:=by
   rw[ha] at h0⊢;unfold Xbb;cases hm:may d<;>cases hat:(decide (0<=at')&&decide (at'<32))<;>rw[hm,hat] at h0<;>simp at h0⊢
  refine Vy fun K hK=> ?_;simp only[zA,simprocAttr,e0]
  (refine hK _ ?_;clear hK K)
  refine Wm rfl (Yd ?_);refine Xp (.inr rfl) rfl rfl rfl (fun _ _=>rfl) ok39 (k:=n+1) (off:=0) rfl (Xb _ (by simp)) (X6 _ (Nat.le_refl _) 1) rfl rfl (full a h0 e1)
 have h0':a=0:=by omega
 have hm:may d=true:=by
  cases hm:may d with
  |true=>rfl
  |false=>rw[hm] at ha;simp at ha;omega
 have hat:(decide (0<=at')&&decide (at'<32))=true:=by
  cases hat:(decide (0<=at')&&decide (at'<32)) with
  |true=>rfl
  |false=>rw[hm,hat] at ha;simp at ha;omega
 subst h0';refine Vy fun K hK=> ?_;simp only[zA,simprocAttr]
 (refine hK _ ?_;clear hK K)
 refine Uy rfl (Xhj (hKB _ ?_));clear hKB KB;by_cases hb:b.length≠128
 ·have g:((b.length:Int) !=128)=true:=by simp;omega
  refine Vk fun KB hKB=> ?_;refine Vy fun K hK=> ?_;simp only[zA,simprocAttr,X5,g]
  (refine hK _ ?_;clear hK K)
  refine Wm rfl ?_;refine Vy fun K hK=> ?_;simp only[zA,simprocAttr]
  (refine hK _ ?_;clear hK K)
  apply Vz;refine Xp (.inr rfl) rfl rfl rfl (fun _ _=>rfl) ok39 (k:=n+1) (off:=0) rfl (Xb _ (by simp)) (X6 _ (Nat.le_refl _) 1) rfl rfl (full 3 (by decide) (by simp only[Xbb,hm,hat,if_true,hb,if_false]))
 have hb':b.length=128:=by omega
 have g:((b.length:Int) !=128)=false:=by simp;omega
 refine Vk fun KB hKB=> ?_;refine Vy fun K hK=> ?_;simp only[zA,simprocAttr,X5,g]
 (refine hK _ ?_;clear hK K)
 refine Uy rfl (Xhj (hKB _ ?_));clear hKB KB;by_cases hw:d.waits.length=256
 ·have g:((d.waits.length:Int)==256)=true:=by simp;omega
  refine Vk fun KB hKB=> ?_;refine Vy fun K hK=> ?_;simp only[zA,simprocAttr,g]
  (refine hK _ ?_;clear hK K)
  refine Wm rfl ?_;refine Vy fun K hK=> ?_;simp only[zA,simprocAttr]
  (refine hK _ ?_;clear hK K)
  apply Vz;refine Xp (.inr rfl) rfl rfl rfl (fun _ _=>rfl) ok39 (k:=n+1) (off:=0) rfl (Xb _ (by simp)) (X6 _ (Nat.le_refl _) 1) rfl rfl (full 9 (by decide) (by simp only[Xbb,hm,hat,if_true,hb',hw]))
 have g:((d.waits.length:Int)==256)=false:=by simp;omega
 refine Vk fun KB hKB=> ?_;refine Vy fun K hK=> ?_;simp only[zA,simprocAttr,g]
 (refine hK _ ?_;clear hK K)
 refine Uy rfl (Xhj (hKB _ ?_));clear hKB KB;have e0:Xbb d at' b=0:=by simp only[Xbb,hm,hat,if_true,hb',hw,if_false]
 have e1:Xhr d at' b=Xjh d at' b:=by unfold Xhr;rw[e0,if_pos rfl]
 rw[e0,e1];refine Vy fun K hK=> ?_;simp only[zA,simprocAttr]
 skip
 refine Sb (c_twin (n+2) d hd) (X6 _ (Nat.le_refl _) 2) (Xb _ (by simp)) (by simp) ?_;simp only[zA,simprocAttr]
 (refine hK _ ?_;clear hK K)
 have lit:∀(σ:AState) (K:AV->List (Nat×Res)->Prop),X1 tab σ K none 37 1 [(0,wrA ⟨at',b⟩)]=K (.sl 2 [wrC ⟨at',b⟩] .full) []:=fun σ K=>Yk (T:=tab) (ti:=ti37) (te:=ti76) rfl rfl rfl (by decide) (by decide) rfl rfl;refine Vk fun K hK=>Ny Xj [] [[],[1],[],[],[],[],[],[2],[],[1]] [[],[],[],[],[],[],[],[2],[],[1]] follows (by kernel_rfl) (by decide) (by decide) (by kernel_rfl) ?_;simp only[zB,simprocAttr]
 skip
 refine X3 (Xkw ⟨at',b⟩ (by show b.length<= _;omega)) ?_;simp only[zB,simprocAttr,lit,show d.waits.length+1<=9223372036854775807 by have:=hd.w;omega];refine⟨by have:=hd.w;omega,?_⟩
 (refine hK _ ?_;clear hK K)
 apply Vz;refine Xp (.inr rfl) rfl rfl rfl (fun _ _=>rfl) ok39 (k:=n+1) (off:=0) rfl (Xb _ (by simp)) (X6 _ (Nat.le_refl _) 1) rfl rfl ?_;simp only[Y3p,Xha,Xjh,cu,bg,ad,sL]
theorem Xk2 (x:Int):Xr Tryz.prog 84 [i64 x] [] (i64 128) []:=by
 refine Xc 0 Tryz.func84 rfl fun n out _ _=> ?_;simp only[sn,Tryz.ntmps84,simprocAttr];refine Vy fun K hK=> ?_;simp only[zA,simprocAttr]
 (refine hK _ ?_;clear hK K)
 refine Vy fun K hK=> ?_;simp only[zA,simprocAttr]
 (refine hK _ ?_;clear hK K)
 apply Vz;exact Qv (.inr rfl) rfl rfl rfl (fun _ _=>rfl) rfl
def laid (b X7t:List UInt8):List UInt8:=X7t++b.drop X7t.length
theorem Xn1 (b X7t:List UInt8) (md:Md) (h:X7t.length<=b.length) (hb:b.length<=1000000):Xr Tryz.prog 145 [bs b,.sl 1 (Xo X7t) md] [] (bs (laid b X7t)) []:=by
 refine Xc 0 Tryz.func145 rfl fun n out _ _=> ?_;simp only[sn,Tryz.ntmps145,simprocAttr];refine Vy fun K hK=> ?_;simp only[zA,simprocAttr]
 (refine hK _ ?_;clear hK K)
 refine Vy fun K hK=> ?_;simp only[zA,simprocAttr,X5]
 (refine hK _ ?_;clear hK K)
 have e1:X7t.length+(b.length - X7t.length)=b.length:=by omega
 refine Vy2 (by kernel_rfl) fun K hK=> ?_;simp only[zA,simprocAttr,P6,Nh,X5,ba,Nat.le_refl,Q1,Q2,h,bu,aj,Nat.min_self,e1,show b.length<=140737488355328 by omega,show b.length<=9223372036854775807 by omega,Nat.sub_zero,ie,bm]
 (refine hK _ ?_;clear hK K)
 have e2:List.take (b.length - X7t.length) (List.drop X7t.length b)=b.drop X7t.length:=bo (by simp);rw[e2,L6];apply Vz;exact Xv (.inr rfl) rfl rfl rfl (fun _ _=>rfl) (.sh _ _ _) rfl
theorem Xla (d:Dsk) (fid:FuncId) (caps:List AV):Xr Tryz.prog 144 [Y3p d,.fn (.func fid) caps] [] (.fn (.func 211) [.ref (Xha d),.ref [.fn (.func fid) caps]]) []:=by
 refine Xc 2 Tryz.func144 rfl fun n out _ _=> ?_;simp only[sn,Tryz.ntmps144,simprocAttr];refine Vy fun K hK=> ?_;simp only[zA,simprocAttr,Y3p,Xha]
 (refine hK _ ?_;clear hK K)
 refine Yy (Xa9 (i:=0) 1 (e:=39) (cs:=Xha d) rfl (by simp)) ?_;simp only[bg,ad,AV.frz,Xcu,Xcv,Nat.add_left_cancel_iff,reduceIte,Nat.reduceEqDiff,s_0,s_s,dn];refine Yy (Xa9 (i:=1) 1 (e:=136) (cs:=[.fn (.func fid) caps]) rfl (by simp)) ?_;simp only[bg,ad,AV.frz,Xcu,Xcv,Nat.add_left_cancel_iff,reduceIte,Nat.reduceEqDiff,s_0,s_s,dn];refine Vy fun K hK=> ?_;simp only[zA,simprocAttr]
 (refine hK _ ?_;clear hK K)
 apply Vz;exact Qv (.inr rfl) rfl rfl rfl (fun _ _=>rfl) rfl
theorem Xkg (l kl kh:Nat) (hne:kl≠kh) (P0:Res) (hP:P0≠ .dead) (B:Nat->Res) (hB:∀i,B i≠ .dead) (d:Dsk) (hw:d.waits.length<=1000) (fid:FuncId) (caps:List AV) (kp:Nat->Nat) (hb:Xd Tryz.prog fid=True)
  (hk:∀i (hi:i<d.waits.length),kp i<=(d.waits[i]).data.length∧Xr Tryz.prog fid (i64 (i:Int)::caps) [] (i64 ((kp i:Nat):Int)) [])
  (hy:∀i (hi:i<d.waits.length),X6t Tryz.prog l [i64 (d.waits[i]).at',bs ((d.waits[i]).data.take (kp i))] [(kl,some P0),(kh,some (B i))] (.val (.bool true)) [(kh,B (i+1))]):
  Xr Tryz.prog 211 [.fn (.yield l) [],.ref (Xha d),.ref [.fn (.func fid) caps]] [(kl,some P0),(kh,some (B 0))] (.tup []) [(kh,B d.waits.length)]:=by
 refine Kz 1 Tryz.func211 rfl fun n out _ _ _=> ?_;simp only[sn,Tryz.ntmps211,simprocAttr];rename_i hneeds hg hz;obtain⟨hkl,hkh,_⟩:=hneeds;obtain⟨hkn,_⟩:=hg;have hkln:kl<n:=by
  rcases Nat.lt_or_ge kl n with h|h
  ·exact h
  ·rw[hz kl h] at hkl;cases hkl
 refine Vy fun K hK=> ?_;simp only[zA,simprocAttr,Xha]
 (refine hK _ ?_;clear hK K)
 apply V5;refine Xl (fun m (i:Nat)=>tp [4,5] (tr 10 16 [(9,i64 (i:Int))])) (fun m i=>[none]) (fun i=>Xw out kh (B i)) (fun i=>i<=d.waits.length) (fun i=>d.waits.length - i) 0 (ba _) ?_ fun m i hm hi=> ?_
 ·refine X2 ?_ ?_ (by first|rfl|(simp only[Qb hkh];rfl)|simp only[Qb hkh]) rfl rfl rfl<;>simp only[sL]
 simp only[pt];refine Vy fun K hK=> ?_;simp only[zA,simprocAttr]
 (refine hK _ ?_;clear hK K)
 refine Vk fun KC hKC=> ?_;refine Uz rfl (fun ht=>Xhj (hKC _ ?_)) (fun hf=>Qi (id ?_));rotate_left
 ·simp only[Qd,Z4,if_true];have h_ib:i=d.waits.length:=by have:=bh hf;omega
  subst h_ib;exact Xy (.inl rfl) rfl rfl rfl (fun _ _=>rfl)
 clear hKC KC;have hlt:i<d.waits.length:=by have:=au ht;omega
 refine Vk fun KC hKC=>Xe ?_;refine Vy fun K hK=> ?_;simp only[zA,simprocAttr,Xi hm,hlt,Xg wrC d.waits i [] hlt,wrC]
 (refine hK _ ?_;clear hK K)
 obtain⟨hk1,hk2⟩:=hk i hlt;refine Vk fun K hK=>Xc0 Xj [] 9 [2,4,5] follows (by kernel_rfl) (by kernel_rfl) ?_;simp only[zA,simprocAttr,Xi hm,hb]
 skip
 refine X3 hk2 ?_;simp only[zA,simprocAttr,P6,Nh,X5,ba,hk1,Q2,Nat.sub_zero,ie];refine X6i (hy i hlt) ⟨?_,?_,trivial⟩ ⟨?_,trivial⟩ ?_ ?_
 ·rw[X8 hkln,Zp _ _ hne];exact hkl
 ·rw[X8 hkn];exact Xt _ _ _
 ·rw[X7 hkn];trivial
 ·intro x hx;simp only[bq,bv,or_false] at hx;rcases hx with rfl|rfl
  ·exact⟨by rw[X7 hkln];trivial,by simpa using hP⟩
  ·exact⟨by rw[X7 hkn];trivial,by simpa using hB i⟩
 simp only[zA,simprocAttr,Cz hkn,Jp]
 (refine hK _ ?_;clear hK K)
 refine Uy rfl (Xhj ?_);simp only[Qd,Z4]
 repeat refine aa (by omega) ?_
 refine hKC _ ?_;clear hKC KC;refine Xn Xj [] ?_;simp only[zA,simprocAttr,Yl (n:=i) 1 1 rfl (by omega)];refine⟨i+1,by omega,by omega,?_⟩;refine Xx [false] ?_ ?_<;>intro n_<;>simp only[sM]
theorem Xlb (l:List (List UInt8)):l.flatMap secC=l.map bs:=by
 induction l with
 |nil=>rfl
 |cons x l ih=>rw[dp,ih];rfl
theorem Xkh (l:List (List UInt8)):Yh 1 l.length (l.map bs)=l.map secC:=by
 induction l with
 |nil=>rfl
 |cons x l ih=>simp only[List.length_cons,bg,Yh,List.take_succ_cons,List.take_zero,fp,dn,ih];rfl
def lay (s:List (List UInt8)) (w:Wr) (m:Nat):List (List UInt8):=s.set w.at'.toNat (laid (s.getD w.at'.toNat []) (w.data.take m))
def Y3l (kp:Nat->Nat) (d:Dsk):Nat->List (List UInt8)
 |0=>d.sectors
 |i+1=>if h:i<d.waits.length then lay (Y3l kp d i) d.waits[i] (kp i) else Y3l kp d i
theorem Xh8 (kp:Nat->Nat) (d:Dsk):∀i,(Y3l kp d i).length=d.sectors.length
 |0=>rfl
 |i+1=>by
  rw[Y3l];split
  ·rw[lay,List.length_set];exact Xh8 kp d i
  ·exact Xh8 kp d i
theorem Xhb {kp:Nat->Nat} {d:Dsk} (hd:may d=true) (hk:∀i,i<d.waits.length->kp i<=128):∀i,∀b,b∈Y3l kp d i->b.length=128
 |0=>((Xho d).1 hd).2.2.1
 |i+1=>by
  intro b hb;rw[Y3l] at hb;split at hb
  ·rename_i h;have hw:=((Xho d).1 hd).2.2.2 _ (ak h);rw[lay] at hb;rcases List.mem_or_eq_of_mem_set hb with hb|hb
   ·exact Xhb hd hk i b hb
   ·have hl:=Xh8 kp d i;have h32:=((Xho d).1 hd).1;have hlt:(d.waits[i]).at'.toNat<(Y3l kp d i).length:=by omega
    have hg:(Y3l kp d i).getD (d.waits[i]).at'.toNat []=(Y3l kp d i)[(d.waits[i]).at'.toNat]:=by simp [ah,hlt]
    have h1:=Xhb hd hk i _ (ak hlt);have:=hk i h;rw[hb,hg,laid,ac,bu,aj,h1];omega
  ·exact Xhb hd hk i b hb
def Xhe (kp:Nat->Nat) (d:Dsk):Dsk:=⟨Y3l kp d d.waits.length,[]⟩
theorem Xkx (d:Dsk) (fid:FuncId) (caps:List AV) (kp:Nat->Nat) (hd:may d=true) (hb:Xd Tryz.prog fid=True)
  (hk:∀i,i<d.waits.length->kp i<=128∧Xr Tryz.prog fid (i64 (i:Int)::caps) [] (i64 ((kp i:Nat):Int)) []):
  Xr Tryz.prog 83 [Y3p d,.fn (.func fid) caps] [] (Y3p (Xhe kp d)) []:=by
 obtain⟨hd1,hd2,hd3,hd4⟩:=(Xho d).1 hd;refine Ph 7 Tryz.func83 rfl fun n out _ _=> ?_;simp only[sn,Tryz.ntmps83,simprocAttr];refine V4 fun K hK=>AWp.zero (Xn Xj [] ?_);simp only[zA,simprocAttr,Y3p,Xha]
 (refine hK _ ?_;clear hK K)
 refine V4 fun K hK=>AWp.zero (Xn Xj [] ?_);simp only[zA,simprocAttr]
 skip
 refine Sb (Xkf (n+2) d.sectors _ [] bs secC (hb0 _ (by decide) (by decide)) (by omega) (by omega) (fun _=>rfl) (fun _=>rfl) fun l hl=>Xds l (by have:=hd3 l hl;omega)) (X6 _ (Nat.le_refl _) 2) (Xb _ (by simp)) (by simp) ?_;simp only[zA,simprocAttr]
 (refine hK _ ?_;clear hK K)
 refine Jl (Zi (i:=3) (t:=5) (e:=36) (cs:=[.bsl (n+2) 0 d.sectors.length false]) 1 (.ref [.bsl (n+2) 0 d.sectors.length false]) rfl rfl (Fz.ptr 0)) ?_;simp only[s_0,s_s];refine V4 fun KB hKB=> ?_;refine V4 fun K hK=>AWp.zero (Xn Xj [] ?_);simp only[zA,simprocAttr]
 skip
 refine X3 (Xla d fid caps) ?_;simp only[zA,simprocAttr]
 (refine hK _ ?_;clear hK K)
 rw[Xlb];refine Fp (Fq (r:= .tup []) (gf:=211) (caps:=[.ref (Xha d),.ref [.fn (.func fid) caps]]) 4 5 Tryz.func211 (by kernel_rfl) (by kernel_rfl) rfl (by decide) rfl rfl ?_);intro D lp rec F hF h1 h2 h3 h4 h5;refine⟨_,_,Xkg lp (n+5) (n+2) (by omega) (.pin lp (.loop rec) F) (by simp) (fun i=> .box 22 ((Y3l kp d i).map bs)) (by simp) d (by omega) fid caps kp hb (fun i hi=> ?_) (fun i hi=>Y4c (fr:=F) (fr1:=(((F.set 14 (i64 (d.waits[i]).at')).set 15 (bs ((d.waits[i]).data.take (kp i)))).set 6 (i64 (d.waits[i]).at')).set 7 (bs ((d.waits[i]).data.take (kp i)))) (ps:=[14,15]) 0 h1 h2 h3 h4 h5 rfl (by simp) (by simp) ?_ ?_),?_,?_,?_,?_,?_⟩
 ·have hw:=hd4 _ (ak hi);exact⟨by have:=(hk i hi).1;omega,(hk i hi).2⟩
 ·intro n' out';subst hF;simp only[List.zip_cons_cons,List.zip_nil_left,iw,setAll,s_0,s_s];refine Vy fun K hK=> ?_;simp only[zA,simprocAttr]
  (refine hK _ ?_;clear hK K)
  refine Xn Xj [] ?_;simp only[zA,simprocAttr]
 ·intro n' out' hh hg;obtain⟨hkk,_⟩:=hh;obtain⟨hkn,_⟩:=hg;obtain⟨w1,w2,w3⟩:=hd4 _ (ak hi);have hsl:=Xh8 kp d i;have hrow:=Xhb hd (fun i hi=>(hk i hi).1) i;obtain⟨z,hz⟩:∃z:Nat,(d.waits[i]).at'=(z:Int):=⟨(d.waits[i]).at'.toNat,by omega⟩
  have hz32:z<32:=by omega
  have hz3:(z:Int)<(d.sectors.length:Int):=by omega
  have hzl:z<(Y3l kp d i).length:=by omega
  have hg1:(Y3l kp d i).getD z []=(Y3l kp d i)[z]:=by simp [ah,hzl]
  have hrl:((Y3l kp d i).getD z []).length=128:=by rw[hg1];exact hrow _ (ak hzl)
  have hkp:=(hk i hi).1;apply V5;subst hF;simp only[List.replicate,s_0,s_s];refine Xc0 Xj [] 9 [0,2,5] follows (by kernel_rfl) (by kernel_rfl) ?_;simp only[zA,simprocAttr,X8 hkn,X7 hkn,hkk,hz,hz3,X0z 1 bs (Y3l kp d i) z [] hzl];refine X3 (Xn1 _ _ .sh (by rw[hrl,aj];omega) (by omega)) ?_;have hst:Yf ((Y3l kp d i).map bs) z [bs (laid ((Y3l kp d i).getD z []) ((d.waits[i]).data.take (kp i)))]=(Y3l kp d (i+1)).map bs:=by
   rw[F7 bs _ _ _ hzl,Y3l,dif_pos hi,lay,hz];rfl
  have hml:((Y3l kp d i).map bs).length=(Y3l kp d i).length:=by simp
  simp only[zA,simprocAttr,X8 hkn,X7 hkn,Xdy hkn,hkk,hz3,show z+1<=(Y3l kp d i).length by omega,hst];exact fun _ _=>rfl
 ·subst hF;simp only[holds,s_0,s_s,X2a,List.getElem?_cons_zero,List.getElem?_cons_succ,Option.join_some,and_true,true_and];rfl
 ·exact⟨Xb _ (by simp),trivial⟩
 ·intro x hx;simp only[bq,bv,or_false] at hx;rcases hx with rfl|rfl
  ·exact Xb _ (by simp)
  ·exact Xb _ (by simp)
 ·intro x hx;simp only[bq,bv,or_false] at hx;subst hx
  show n+2≠n+5
  omega
 simp only[Qd,Z4,s_0,s_s,Xeb];refine hKB _ ?_;clear hKB KB;refine AWp.zero ?_;have hcl:((Y3l kp d d.waits.length).map bs).length=d.sectors.length:=by rw[af,Xh8]
 refine Yy (Zi (i:=2) (t:=5) (e:=22) (cs:=(Y3l kp d d.waits.length).map bs) 1 (.ref [.sl 1 ((Y3l kp d d.waits.length).map secC) .sh]) rfl rfl (Fz.ref _ _ rfl fun i c c' hc hc'=> ?_)) ?_
 ·match i with
  |0=>
   simp only[List.getElem?_cons_zero,ax] at hc hc';subst hc;subst hc';have:=Fz.bsl (k:=n+2) (sz:=1) (cs:=(Y3l kp d d.waits.length).map bs) 0 d.sectors.length false ⟨by omega,by omega⟩;rw[dn,<- Xh8 kp d d.waits.length,Xkh] at this;rw[<- Xh8 kp d d.waits.length];exact this
  |i+1=>simp at hc
 simp only[s_0,s_s];refine Vy fun K hK=> ?_;simp only[zA,simprocAttr]
 skip
 refine Sb (Xl9 (n+6) (Y3l kp d d.waits.length) _ [] bs secC (hb0 _ (by decide) (by decide)) (by rw[Xh8];omega) (fun _=>rfl) (fun _=>rfl) fun l hl=>Xds l (by rw[Xhb hd (fun i hi=>(hk i hi).1) _ l hl];omega)) (X6 _ (Nat.le_refl _) 6) (Xb _ (by simp)) (by simp) ?_;simp only[zA,simprocAttr]
 (refine hK _ ?_;clear hK K)
 apply Vz;exact⟨4,D,rfl,rfl,Xu (.inr rfl) rfl rfl rfl (fun _ _=>rfl) ok39 (k:=n+1) (off:=0) rfl (Xb _ (by simp)) (X6 _ (Nat.le_refl _) 1) rfl (by simp only[Y3p,Xha,Xhe,ad,sL])⟩
end Go.Proofs.YtgpdghbmiihfbaaGreat
