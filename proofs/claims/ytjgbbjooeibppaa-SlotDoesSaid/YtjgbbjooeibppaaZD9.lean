/- The layer of abstract values, joined. -/
import Derived.Test.YtjgbbjooeibppaaZD2
import Derived.Test.YtjgbbjooeibppaaZD7
namespace Go.Proofs.Ytjgbbjooeibppaa
set_option linter.unusedSimpArgs false
set_option linter.unusedVariables false
set_option maxHeartbeats 1000000
set_option maxRecDepth 4000
open Go Go.VS Tab
structure Small (d:Dsk):Prop where
 s:d.sectors.length≤1000
 w:d.waits.length≤1000
 sb:∀b,b∈d.sectors→b.length≤1000000
 wb:∀w,w∈d.waits→w.data.length≤1000000
theorem Xnq (k:Nat) (d:Dsk) (hd:Small d):Xr Try.prog 16 [Y3p d] [(k,none)] (.agg [.sl 1 (d.sectors.map Y6) .sh,.sl 2 (d.waits.map wrC) (.own k)]) [(k,.row 76 2 d.waits.length)]:=by
 refine Xc 4 Try.func16 rfl fun n out _ _=> ?_
 simp only[Try.ntmps16,List.length_cons,List.length_nil,List.length_map,List.length_replicate,Xf,Nat.reduceAdd,Nat.reduceSub,List.replicate,List.cons_append,List.nil_append]
 rename_i hneeds hgv
 obtain⟨hk,_⟩:=hneeds
 obtain⟨hkn,_⟩:=hgv
 refine X9 fun K hK=>Xn Xj [] ?_
 simp (maxSteps:=9^7) only[ss,X1,tab,simprocAttr, -List.reduceReplicate,Y3p,Xha]
 (refine hK _ ?_;clear hK K)
 refine X9 fun K hK=>Ny Xj [] [[],[0],[2],[],[0],[3],[],[1]] [[],[],[2],[],[],[3],[],[1]] follows (by kernel_rfl) (by decide) (by decide) (by kernel_rfl) ?_
 simp (maxSteps:=9^7) only[ss,X1,tab,simprocAttr, -List.reduceReplicate]
 skip
 refine Sb (Xl9 (n+2) d.sectors _ [] bs Y6 (hb0 _ (by decide) (by decide)) (by have:=hd.s;omega) (fun _=>rfl) (fun _=>rfl) fun l hl=>Xds l (by have:=hd.sb l hl;omega)) (X6 _ (Nat.le_refl _) 2) (Xb _ (by simp)) (by simp) ?_
 simp (maxSteps:=9^7) only[ss,X1,tab,simprocAttr, -List.reduceReplicate]
 refine Sb (Xkc (n+3) d.waits _ [] wrA wrC (hb0 _ (by decide) (by decide)) (by have:=hd.w;omega) (fun _=>rfl) (fun _=>rfl) fun w hw=>Xkw w (by have:=hd.wb w hw;omega)) (X6 _ (Nat.le_refl _) 3) (Xb _ (by simp)) (by simp) ?_
 simp (maxSteps:=9^7) only[ss,X1,tab,simprocAttr, -List.reduceReplicate]
 (refine hK _ ?_;clear hK K)
 refine Yy (Ja (i:=3) (k:=k) rfl (by exact hkn) (by exact hk)) ?_
 simp only[List.map_cons,List.map_nil,Option.map_some,Option.map_none,Res.ren1,AV.ren1,Nat.add_left_cancel_iff,Nat.reduceEqDiff,Nat.one_ne_zero,reduceIte,Xoe,s_0,s_s]
 refine Yd ?_
 exact Xu (.inr rfl) rfl rfl rfl (fun _ _=>rfl) ok43 (k:=n+1) (off:=0) rfl (Xb _ (by simp)) (X6 _ (Nat.le_refl _) 1) rfl (by simp only[X4,sl])
def Xhm:Dsk:=⟨[],[]⟩
def Xjh (d:Dsk) (at':Int) (b:List UInt8):Dsk:=⟨d.sectors,d.waits++[⟨at',b⟩]⟩
def Xbb (d:Dsk) (at':Int) (b:List UInt8):Int:=if may d then(if decide (0≤at')&&decide (at'<32) then(if b.length=128 then(if d.waits.length=256 then 9 else 0) else 3) else 2) else 8
def Xhr (d:Dsk) (at':Int) (b:List UInt8):Dsk:=if Xbb d at' b=0 then Xjh d at' b else Xhm
theorem Xdu (d:Dsk) (at':Int) (b:List UInt8) (hd:Small d) (hb:b.length≤1000000):Xr Try.prog 17 [Y3p d,i64 at',bs b] [] (.tup [Y3p (Xhr d at' b),i64 (Xbb d at' b)]) []:=by
 refine Xc 3 Try.func17 rfl fun n out _ _=> ?_
 simp only[Try.ntmps17,List.length_cons,List.length_nil,List.length_map,List.length_replicate,Xf,Nat.reduceAdd,Nat.reduceSub,List.replicate,List.cons_append,List.nil_append]
 refine X9 fun K hK=>Xn Xj [] ?_
 simp (maxSteps:=9^7) only[ss,X1,tab,simprocAttr, -List.reduceReplicate,Y3p,Xha]
 (refine hK _ ?_;clear hK K)
 obtain⟨a,ha⟩:∃a,a=(if may d then(if decide (0≤at')&&decide (at'<32) then(0:Int) else 2) else 8):=⟨_,rfl⟩
 refine X9 fun KB hKB=> ?_
 refine X9 fun K hK=>Ny Xj [] [[0],[],[],[],[]] [[],[],[],[],[]] follows (by kernel_rfl) (by decide) (by decide) (by kernel_rfl) ?_
 simp (maxSteps:=9^7) only[ss,X1,tab,simprocAttr, -List.reduceReplicate]
 skip
 refine X3 (Xht at' 32) ?_
 simp (maxSteps:=9^7) only[ss,X1,tab,simprocAttr, -List.reduceReplicate]
 refine X3 (Xiw d _ hd.s hd.w) ?_
 simp (maxSteps:=9^7) only[ss,X1,tab,simprocAttr, -List.reduceReplicate]
 (refine hK _ ?_;clear hK K)
 rw[← ha]
 have full:∀e:Int,e≠0→Xbb d at' b=e→AV.le (.tup [.agg [.sl 0 [] .nil,.sl 0 [] .nil],i64 e]) (.tup [Y3p (Xhr d at' b),i64 (Xbb d at' b)]):=fun e h h'=>by
  have h2:Xhr d at' b=Xhm:=by unfold Xhr;rw[h',if_neg h]
  rw[h2,h']
  simp only[Y3p,Xha,Xhm,List.map_nil,X4,sl]
 by_cases h0:a≠0
 ·have e0:(a !=0)=true:=by simpa using h0
  have e1:Xbb d at' b=a:=by
   rw[ha] at h0⊢
   unfold Xbb
   cases hm:may d<;>cases hat:(decide (0≤at')&&decide (at'<32))<;>rw[hm,hat] at h0<;>simp at h0⊢
  refine X9 fun K hK=>Xn Xj [] ?_
  simp (maxSteps:=9^7) only[ss,X1,tab,simprocAttr, -List.reduceReplicate,e0]
  (refine hK _ ?_;clear hK K)
  refine Wm rfl (Yd ?_)
  refine Xp (.inr rfl) rfl rfl rfl (fun _ _=>rfl) ok43 (k:=n+1) (off:=0) rfl (Xb _ (by simp)) (X6 _ (Nat.le_refl _) 1) rfl rfl (full a h0 e1)
 have h0':a=0:=by omega
 have hm:may d=true:=by
  cases hm:may d with
  |true=>rfl
  |false=>rw[hm] at ha;simp at ha;omega
 have hat:(decide (0≤at')&&decide (at'<32))=true:=by
  cases hat:(decide (0≤at')&&decide (at'<32)) with
  |true=>rfl
  |false=>rw[hm,hat] at ha;simp at ha;omega
 subst h0'
 refine X9 fun K hK=>Xn Xj [] ?_
 simp (maxSteps:=9^7) only[ss,X1,tab,simprocAttr, -List.reduceReplicate]
 (refine hK _ ?_;clear hK K)
 refine Uy rfl (Xhj (hKB _ ?_))
 clear hKB KB
 by_cases hb:b.length≠128
 ·have g:((b.length:Int) !=128)=true:=by simp;omega
  refine X9 fun KB hKB=> ?_
  refine X9 fun K hK=>Xn Xj [] ?_
  simp (maxSteps:=9^7) only[ss,X1,tab,simprocAttr, -List.reduceReplicate,X5,g]
  (refine hK _ ?_;clear hK K)
  refine Wm rfl ?_
  refine X9 fun K hK=>Xn Xj [] ?_
  simp (maxSteps:=9^7) only[ss,X1,tab,simprocAttr, -List.reduceReplicate]
  (refine hK _ ?_;clear hK K)
  refine Yd ?_
  refine Xp (.inr rfl) rfl rfl rfl (fun _ _=>rfl) ok43 (k:=n+1) (off:=0) rfl (Xb _ (by simp)) (X6 _ (Nat.le_refl _) 1) rfl rfl (full 3 (by decide) (by simp only[Xbb,hm,hat,if_true,hb,if_false]))
 have hb':b.length=128:=by omega
 have g:((b.length:Int) !=128)=false:=by simp;omega
 refine X9 fun KB hKB=> ?_
 refine X9 fun K hK=>Xn Xj [] ?_
 simp (maxSteps:=9^7) only[ss,X1,tab,simprocAttr, -List.reduceReplicate,X5,g]
 (refine hK _ ?_;clear hK K)
 refine Uy rfl (Xhj (hKB _ ?_))
 clear hKB KB
 by_cases hw:d.waits.length=256
 ·have g:((d.waits.length:Int)==256)=true:=by simp;omega
  refine X9 fun KB hKB=> ?_
  refine X9 fun K hK=>Xn Xj [] ?_
  simp (maxSteps:=9^7) only[ss,X1,tab,simprocAttr, -List.reduceReplicate,List.length_map,g]
  (refine hK _ ?_;clear hK K)
  refine Wm rfl ?_
  refine X9 fun K hK=>Xn Xj [] ?_
  simp (maxSteps:=9^7) only[ss,X1,tab,simprocAttr, -List.reduceReplicate]
  (refine hK _ ?_;clear hK K)
  refine Yd ?_
  refine Xp (.inr rfl) rfl rfl rfl (fun _ _=>rfl) ok43 (k:=n+1) (off:=0) rfl (Xb _ (by simp)) (X6 _ (Nat.le_refl _) 1) rfl rfl (full 9 (by decide) (by simp only[Xbb,hm,hat,if_true,hb',hw]))
 have g:((d.waits.length:Int)==256)=false:=by simp;omega
 refine X9 fun KB hKB=> ?_
 refine X9 fun K hK=>Xn Xj [] ?_
 simp (maxSteps:=9^7) only[ss,X1,tab,simprocAttr, -List.reduceReplicate,List.length_map,g]
 (refine hK _ ?_;clear hK K)
 refine Uy rfl (Xhj (hKB _ ?_))
 clear hKB KB
 have e0:Xbb d at' b=0:=by simp only[Xbb,hm,hat,if_true,hb',hw,if_false]
 have e1:Xhr d at' b=Xjh d at' b:=by unfold Xhr;rw[e0,if_pos rfl]
 rw[e0,e1]
 refine X9 fun K hK=>Xn Xj [] ?_
 simp (maxSteps:=9^7) only[ss,X1,tab,simprocAttr, -List.reduceReplicate]
 skip
 refine Sb (Xnq (n+2) d hd) (X6 _ (Nat.le_refl _) 2) (Xb _ (by simp)) (by simp) ?_
 simp (maxSteps:=9^7) only[ss,X1,tab,simprocAttr, -List.reduceReplicate]
 (refine hK _ ?_;clear hK K)
 have lit:∀(σ:AState) (K:AV→List (Nat×Res)→Prop),X1 tab σ K none 41 1 [(0,wrA ⟨at',b⟩)]=K (.sl 2 [wrC ⟨at',b⟩] .full) []:=fun σ K=>Yk (T:=tab) (ti:=ti41) (te:=ti76) rfl rfl rfl (by decide) (by decide) rfl rfl
 refine X9 fun K hK=>Ny Xj [] [[],[1],[],[],[],[],[],[2],[],[1]] [[],[],[],[],[],[],[],[2],[],[1]] follows (by kernel_rfl) (by decide) (by decide) (by kernel_rfl) ?_
 simp (maxSteps:=9^7) only[ss,tab,simprocAttr, -List.reduceReplicate]
 skip
 refine X3 (Xkw ⟨at',b⟩ (by show b.length≤ _;omega)) ?_
 simp (maxSteps:=9^7) only[ss,tab,simprocAttr, -List.reduceReplicate,lit,List.length_map,show d.waits.length+1≤140737488355328 by have:=hd.w;omega,show d.waits.length+1≤9223372036854775807 by have:=hd.w;omega]
 refine⟨by have:=hd.w;omega,?_⟩
 (refine hK _ ?_;clear hK K)
 refine Yd ?_
 refine Xp (.inr rfl) rfl rfl rfl (fun _ _=>rfl) ok43 (k:=n+1) (off:=0) rfl (Xb _ (by simp)) (X6 _ (Nat.le_refl _) 1) rfl rfl ?_
 simp only[Y3p,Xha,Xjh,List.map_append,List.map_cons,List.map_nil,X4,sl]
theorem Xk2 (x:Int):Xr Try.prog 64 [i64 x] [] (i64 128) []:=by
 refine Xc 0 Try.func64 rfl fun n out _ _=> ?_
 simp only[Try.ntmps64,List.length_cons,List.length_nil,List.length_map,List.length_replicate,Xf,Nat.reduceAdd,Nat.reduceSub,List.replicate,List.cons_append,List.nil_append]
 refine X9 fun K hK=>Xn Xj [] ?_
 simp (maxSteps:=9^7) only[ss,X1,tab,simprocAttr, -List.reduceReplicate]
 (refine hK _ ?_;clear hK K)
 refine X9 fun K hK=>Xn Xj [] ?_
 simp (maxSteps:=9^7) only[ss,X1,tab,simprocAttr, -List.reduceReplicate]
 (refine hK _ ?_;clear hK K)
 refine Yd ?_
 exact Qv (.inr rfl) rfl rfl rfl (fun _ _=>rfl) rfl
def laid (b X7t:List UInt8):List UInt8:=X7t++b.drop X7t.length
theorem Xn1 (b X7t:List UInt8) (md:Md) (h:X7t.length≤b.length) (hb:b.length≤1000000):Xr Try.prog 90 [bs b,.sl 1 (Xo X7t) md] [] (bs (laid b X7t)) []:=by
 refine Xc 0 Try.func90 rfl fun n out _ _=> ?_
 simp only[Try.ntmps90,List.length_cons,List.length_nil,List.length_map,List.length_replicate,Xf,Nat.reduceAdd,Nat.reduceSub,List.replicate,List.cons_append,List.nil_append]
 refine X9 fun K hK=>Xn Xj [] ?_
 simp (maxSteps:=9^7) only[ss,X1,tab,simprocAttr, -List.reduceReplicate]
 (refine hK _ ?_;clear hK K)
 refine X9 fun K hK=>Xn Xj [] ?_
 simp (maxSteps:=9^7) only[ss,X1,tab,simprocAttr, -List.reduceReplicate,X5]
 (refine hK _ ?_;clear hK K)
 have e1:X7t.length+(b.length - X7t.length)=b.length:=by omega
 refine X9 fun K hK=>Xqf Xj follows (by kernel_rfl) ?_
 simp (maxSteps:=9^7) only[ss,X1,tab,simprocAttr, -List.reduceReplicate,P6,Nh,X5,Nat.zero_le,Nat.le_refl,Q1,Q2,h,List.length_drop,List.length_take,Nat.min_self,e1,show b.length≤140737488355328 by omega,show b.length≤9223372036854775807 by omega,Nat.sub_zero,Nat.min_eq_left,Int.toNat_natCast,Int.natCast_nonneg,List.take_length]
 (refine hK _ ?_;clear hK K)
 have e2:List.take (b.length - X7t.length) (List.drop X7t.length b)=b.drop X7t.length:=List.take_of_length_le (by simp)
 rw[e2,L6]
 refine Yd ?_
 exact Xv (.inr rfl) rfl rfl rfl (fun _ _=>rfl) (.sh _ _ _) rfl
theorem Xla (d:Dsk) (fid:FuncId) (caps:List AV):Xr Try.prog 89 [Y3p d,.fn (.func fid) caps] [] (.fn (.func 105) [.ref (Xha d),.ref [.fn (.func fid) caps]]) []:=by
 refine Xc 2 Try.func89 rfl fun n out _ _=> ?_
 simp only[Try.ntmps89,List.length_cons,List.length_nil,List.length_map,List.length_replicate,Xf,Nat.reduceAdd,Nat.reduceSub,List.replicate,List.cons_append,List.nil_append]
 refine X9 fun K hK=>Xn Xj [] ?_
 simp (maxSteps:=9^7) only[ss,X1,tab,simprocAttr, -List.reduceReplicate,Y3p,Xha]
 (refine hK _ ?_;clear hK K)
 refine Yy (Xa9 (i:=0) 1 (e:=43) (cs:=Xha d) rfl (by simp)) ?_
 simp only[List.map_cons,List.map_nil,AV.frz,Xcu,Xcv,Nat.add_left_cancel_iff,reduceIte,Nat.reduceEqDiff,s_0,s_s,List.drop_zero]
 refine Yy (Xa9 (i:=1) 1 (e:=115) (cs:=[.fn (.func fid) caps]) rfl (by simp)) ?_
 simp only[List.map_cons,List.map_nil,AV.frz,Xcu,Xcv,Nat.add_left_cancel_iff,reduceIte,Nat.reduceEqDiff,s_0,s_s,List.drop_zero]
 refine X9 fun K hK=>Xn Xj [] ?_
 simp (maxSteps:=9^7) only[ss,X1,tab,simprocAttr, -List.reduceReplicate]
 (refine hK _ ?_;clear hK K)
 refine Yd ?_
 exact Qv (.inr rfl) rfl rfl rfl (fun _ _=>rfl) rfl
theorem Xkg (l kl kh:Nat) (hne:kl≠kh) (P0:Res) (hP:P0≠ .dead) (B:Nat→Res) (hB:∀i,B i≠ .dead) (d:Dsk) (hw:d.waits.length≤1000) (fid:FuncId) (caps:List AV) (kp:Nat→Nat) (hb:Xd Try.prog fid=True)
  (hk:∀i (hi:i<d.waits.length),kp i≤(d.waits[i]).data.length∧Xr Try.prog fid (i64 (i:Int)::caps) [] (i64 ((kp i:Nat):Int)) [])
  (hy:∀i (hi:i<d.waits.length),X6t Try.prog l [i64 (d.waits[i]).at',bs ((d.waits[i]).data.take (kp i))] [(kl,some P0),(kh,some (B i))] (.val (.bool true)) [(kh,B (i+1))]):
  Xr Try.prog 105 [.fn (.yield l) [],.ref (Xha d),.ref [.fn (.func fid) caps]] [(kl,some P0),(kh,some (B 0))] (.tup []) [(kh,B d.waits.length)]:=by
 refine Kz 1 Try.func105 rfl fun n out _ _ _=> ?_
 simp only[Try.ntmps105,List.length_cons,List.length_nil,List.length_map,List.length_replicate,Xf,Nat.reduceAdd,Nat.reduceSub,List.replicate,List.cons_append,List.nil_append]
 rename_i hneeds hg hz
 obtain⟨hkl,hkh,_⟩:=hneeds
 obtain⟨hkn,_⟩:=hg
 have hkln:kl<n:=by
  rcases Nat.lt_or_ge kl n with h|h
  ·exact h
  ·rw[hz kl h] at hkl;cases hkl
 refine X9 fun K hK=>Xn Xj [] ?_
 simp (maxSteps:=9^7) only[ss,X1,tab,simprocAttr, -List.reduceReplicate,Xha,List.length_map]
 (refine hK _ ?_;clear hK K)
 refine Xe ?_
 refine Xl (fun m (i:Nat)=>[(9,i64 (i:Int)),(4,.top),(5,.top),(10,.top),(11,.top),(12,.top),(13,.top),(14,.top),(15,.top),(16,.top),(17,.top),(18,.top),(19,.top),(20,.top),(21,.top),(22,.top),(23,.top),(24,.top),(25,.top)]) (fun m i=>[none]) (fun i=>Xw out kh (B i)) (fun i=>i≤d.waits.length) (fun i=>d.waits.length - i) 0 (Nat.zero_le _) ?_ fun m i hm hi=> ?_
 ·refine X2 ?_ ?_ (by first|rfl|(simp only[Qb hkh];rfl)|simp only[Qb hkh]) rfl rfl rfl<;>simp only[X4,sl,Qb hkh]
 simp only[X4,s_0,s_s]
 refine X9 fun K hK=>Xn Xj [] ?_
 simp (maxSteps:=9^7) only[ss,X1,tab,simprocAttr, -List.reduceReplicate,Qb hkh]
 (refine hK _ ?_;clear hK K)
 refine X9 fun KC hKC=> ?_
 refine Uz rfl (fun ht=>Xhj (hKC _ ?_)) (fun hf=>Qi (id ?_))
 rotate_left
 ·simp only[Qd,Z4,if_true]
  have h_ib:i=d.waits.length:=by have:=of_decide_eq_false hf;omega
  subst h_ib
  exact Xy (.inl rfl) rfl rfl rfl (fun _ _=>rfl)
 clear hKC KC
 have hlt:i<d.waits.length:=by have:=of_decide_eq_true ht;omega
 refine X9 fun KC hKC=>Xe ?_
 refine X9 fun K hK=>Xn Xj [] ?_
 simp (maxSteps:=9^7) only[ss,X1,tab,simprocAttr, -List.reduceReplicate,Xi hm,hlt,List.length_map,Xg wrC d.waits i [] hlt,wrC]
 (refine hK _ ?_;clear hK K)
 obtain⟨hk1,hk2⟩:=hk i hlt
 refine X9 fun K hK=>Xc0 Xj [] 9 [2,4,5] follows (by kernel_rfl) (by kernel_rfl) ?_
 simp (maxSteps:=9^7) only[ss,X1,tab,simprocAttr, -List.reduceReplicate,Xi hm,hb,X5]
 skip
 refine X3 hk2 ?_
 simp (maxSteps:=9^7) only[ss,X1,tab,simprocAttr, -List.reduceReplicate,Xi hm,P6,Nh,X5,Nat.zero_le,hk1,Q2,Nat.sub_zero,Int.toNat_natCast,Int.natCast_nonneg,Nat.beq_refl,X49]
 refine X6i (hy i hlt) ⟨?_,?_,trivial⟩ ⟨?_,trivial⟩ ?_ ?_
 ·rw[X8 hkln,Zp _ _ hne];exact hkl
 ·rw[X8 hkn];exact Xt _ _ _
 ·rw[X7 hkn];trivial
 ·intro x hx
  simp only[List.mem_cons,List.not_mem_nil,or_false] at hx
  rcases hx with rfl|rfl
  ·exact⟨by rw[X7 hkln];trivial,by simpa using hP⟩
  ·exact⟨by rw[X7 hkn];trivial,by simpa using hB i⟩
 simp (maxSteps:=9^7) only[ss,X1,tab,simprocAttr, -List.reduceReplicate,Xi hm,Cz hkn,Jp,Bool.not_true]
 (refine hK _ ?_;clear hK K)
 refine Uy rfl (Xhj ?_)
 simp only[Qd,Z4]
 repeat refine And.intro (by omega) ?_
 refine hKC _ ?_
 clear hKC KC
 refine Xn Xj [] ?_
 simp (maxSteps:=9^7) only[ss,X1,tab,simprocAttr, -List.reduceReplicate,Xi hm,Yl (n:=i) 1 1 rfl (by omega)]
 refine⟨i+1,by omega,by omega,?_⟩
 refine Xx [false] (fun n_=> ?_) (fun n_=> ?_)<;>simp only[X4,sm]
theorem Xlb (l:List (List UInt8)):l.flatMap Y6=l.map bs:=by
 induction l with
 |nil=>rfl
 |cons x l ih=>rw[List.flatMap_cons,ih];rfl
theorem Xkh (l:List (List UInt8)):Yh 1 l.length (l.map bs)=l.map Y6:=by
 induction l with
 |nil=>rfl
 |cons x l ih=>simp only[List.length_cons,List.map_cons,Yh,List.take_succ_cons,List.take_zero,List.drop_succ_cons,List.drop_zero,ih];rfl
def lay (s:List (List UInt8)) (w:Wr) (m:Nat):List (List UInt8):=s.set w.at'.toNat (laid (s.getD w.at'.toNat []) (w.data.take m))
def Y3l (kp:Nat→Nat) (d:Dsk):Nat→List (List UInt8)
 |0=>d.sectors
 |i+1=>if h:i<d.waits.length then lay (Y3l kp d i) d.waits[i] (kp i) else Y3l kp d i
theorem Xh8 (kp:Nat→Nat) (d:Dsk):∀i,(Y3l kp d i).length=d.sectors.length
 |0=>rfl
 |i+1=>by
  rw[Y3l]
  split
  ·rw[lay,List.length_set];exact Xh8 kp d i
  ·exact Xh8 kp d i
theorem Xhb {kp:Nat→Nat} {d:Dsk} (hd:may d=true) (hk:∀i,i<d.waits.length→kp i≤128):∀i,∀b,b∈Y3l kp d i→b.length=128
 |0=>((Xho d).1 hd).2.2.1
 |i+1=>by
  intro b hb
  rw[Y3l] at hb
  split at hb
  ·rename_i h
   have hw:=((Xho d).1 hd).2.2.2 _ (List.getElem_mem h)
   rw[lay] at hb
   rcases List.mem_or_eq_of_mem_set hb with hb|hb
   ·exact Xhb hd hk i b hb
   ·have hl:=Xh8 kp d i
    have h32:=((Xho d).1 hd).1
    have hlt:(d.waits[i]).at'.toNat<(Y3l kp d i).length:=by omega
    have hg:(Y3l kp d i).getD (d.waits[i]).at'.toNat []=(Y3l kp d i)[(d.waits[i]).at'.toNat]:=by simp [List.getD_eq_getElem?_getD,hlt]
    have h1:=Xhb hd hk i _ (List.getElem_mem hlt)
    have:=hk i h
    rw[hb,hg,laid,List.length_append,List.length_drop,List.length_take,h1];omega
  ·exact Xhb hd hk i b hb
def Xhe (kp:Nat→Nat) (d:Dsk):Dsk:=⟨Y3l kp d d.waits.length,[]⟩
theorem Xkx (d:Dsk) (fid:FuncId) (caps:List AV) (kp:Nat→Nat) (hd:may d=true) (hb:Xd Try.prog fid=True)
  (hk:∀i,i<d.waits.length→kp i≤128∧Xr Try.prog fid (i64 (i:Int)::caps) [] (i64 ((kp i:Nat):Int)) []):
  Xr Try.prog 63 [Y3p d,.fn (.func fid) caps] [] (Y3p (Xhe kp d)) []:=by
 obtain⟨hd1,hd2,hd3,hd4⟩:=(Xho d).1 hd
 refine Ph 7 Try.func63 rfl fun n out _ _=> ?_
 simp only[Try.ntmps63,List.length_cons,List.length_nil,List.length_map,List.length_replicate,Xf,Nat.reduceAdd,Nat.reduceSub,List.replicate,List.cons_append,List.nil_append]
 refine V4 fun K hK=>AWp.zero (Xn Xj [] ?_)
 simp (maxSteps:=9^7) only[ss,X1,tab,simprocAttr, -List.reduceReplicate,Y3p,Xha]
 (refine hK _ ?_;clear hK K)
 refine V4 fun K hK=>AWp.zero (Xn Xj [] ?_)
 simp (maxSteps:=9^7) only[ss,X1,tab,simprocAttr, -List.reduceReplicate]
 skip
 refine Sb (Xkf (n+2) d.sectors _ [] bs Y6 (hb0 _ (by decide) (by decide)) (by omega) (by omega) (fun _=>rfl) (fun _=>rfl) fun l hl=>Xds l (by have:=hd3 l hl;omega)) (X6 _ (Nat.le_refl _) 2) (Xb _ (by simp)) (by simp) ?_
 simp (maxSteps:=9^7) only[ss,X1,tab,simprocAttr, -List.reduceReplicate]
 (refine hK _ ?_;clear hK K)
 refine Jl (Zi (i:=3) (t:=5) (e:=40) (cs:=[.bsl (n+2) 0 d.sectors.length false]) 1 (.ref [.bsl (n+2) 0 d.sectors.length false]) rfl rfl (Fz.ptr 0)) ?_
 simp only[s_0,s_s]
 refine V4 fun KB hKB=> ?_
 refine V4 fun K hK=>AWp.zero (Xn Xj [] ?_)
 simp (maxSteps:=9^7) only[ss,X1,tab,simprocAttr, -List.reduceReplicate]
 skip
 refine X3 (Xla d fid caps) ?_
 simp (maxSteps:=9^7) only[ss,X1,tab,simprocAttr, -List.reduceReplicate]
 (refine hK _ ?_;clear hK K)
 rw[Xlb]
 refine Fp (Fq (r:= .tup []) (gf:=105) (caps:=[.ref (Xha d),.ref [.fn (.func fid) caps]]) 4 5 Try.func105 (by kernel_rfl) (by kernel_rfl) rfl (by decide) rfl rfl ?_)
 intro D lp rec F hF h1 h2 h3 h4 h5
 refine⟨_,_,Xkg lp (n+5) (n+2) (by omega) (.pin lp (.loop rec) F) (by simp) (fun i=> .box 44 ((Y3l kp d i).map bs)) (by simp) d (by omega) fid caps kp hb (fun i hi=> ?_) (fun i hi=>Y4c (fr:=F) (fr1:=(((F.set 14 (i64 (d.waits[i]).at')).set 15 (bs ((d.waits[i]).data.take (kp i)))).set 6 (i64 (d.waits[i]).at')).set 7 (bs ((d.waits[i]).data.take (kp i)))) (ps:=[14,15]) 0 h1 h2 h3 h4 h5 rfl (by simp) (by simp) ?_ ?_),?_,?_,?_,?_,?_⟩
 ·have hw:=hd4 _ (List.getElem_mem hi)
  exact⟨by have:=(hk i hi).1;omega,(hk i hi).2⟩
 ·intro n' out'
  subst hF
  simp only[List.zip_cons_cons,List.zip_nil_left,List.zip_nil_right,setAll,s_0,s_s]
  refine X9 fun K hK=>Xn Xj [] ?_
  simp (maxSteps:=9^7) only[ss,X1,tab,simprocAttr, -List.reduceReplicate]
  (refine hK _ ?_;clear hK K)
  refine Xn Xj [] ?_
  simp (maxSteps:=9^7) only[ss,X1,tab,simprocAttr, -List.reduceReplicate]
 ·intro n' out' hh hg
  obtain⟨hkk,_⟩:=hh
  obtain⟨hkn,_⟩:=hg
  obtain⟨w1,w2,w3⟩:=hd4 _ (List.getElem_mem hi)
  have hsl:=Xh8 kp d i
  have hrow:=Xhb hd (fun i hi=>(hk i hi).1) i
  obtain⟨z,hz⟩:∃z:Nat,(d.waits[i]).at'=(z:Int):=⟨(d.waits[i]).at'.toNat,by omega⟩
  have hz32:z<32:=by omega
  have hz3:(z:Int)<(d.sectors.length:Int):=by omega
  have hzl:z<(Y3l kp d i).length:=by omega
  have hg1:(Y3l kp d i).getD z []=(Y3l kp d i)[z]:=by simp [List.getD_eq_getElem?_getD,hzl]
  have hrl:((Y3l kp d i).getD z []).length=128:=by rw[hg1];exact hrow _ (List.getElem_mem hzl)
  have hkp:=(hk i hi).1
  refine Xe ?_
  subst hF
  simp only[List.replicate,s_0,s_s]
  refine Xc0 Xj [] 9 [0,2,5] follows (by kernel_rfl) (by kernel_rfl) ?_
  simp (maxSteps:=9^7) only[ss,X1,tab,simprocAttr, -List.reduceReplicate,X8 hkn,X7 hkn,hkk,hz,hz3,X0z 1 bs (Y3l kp d i) z [] hzl]
  refine X3 (Xn1 _ _ .sh (by rw[hrl,List.length_take];omega) (by omega)) ?_
  have hst:Yf ((Y3l kp d i).map bs) z [bs (laid ((Y3l kp d i).getD z []) ((d.waits[i]).data.take (kp i)))]=(Y3l kp d (i+1)).map bs:=by
   rw[F7 bs _ _ _ hzl,Y3l,dif_pos hi,lay,hz];rfl
  have hml:((Y3l kp d i).map bs).length=(Y3l kp d i).length:=by simp
  simp (maxSteps:=9^7) only[ss,X1,tab,simprocAttr, -List.reduceReplicate,X8 hkn,X7 hkn,Xdy hkn,hkk,hz3,List.length_map,show z+1≤(Y3l kp d i).length by omega,hst]
  exact fun _ _=>rfl
 ·subst hF
  simp only[holds,s_0,s_s,X2a,List.getElem?_cons_zero,List.getElem?_cons_succ,Option.join_some,and_true,true_and]
  rfl
 ·exact⟨Xb _ (by simp),trivial⟩
 ·intro x hx
  simp only[List.mem_cons,List.not_mem_nil,or_false] at hx
  rcases hx with rfl|rfl
  ·exact Xb _ (by simp)
  ·exact Xb _ (by simp)
 ·intro x hx
  simp only[List.mem_cons,List.not_mem_nil,or_false] at hx
  subst hx
  show n+2≠n+5
  omega
 simp only[Qd,Z4,s_0,s_s,Xeb]
 refine hKB _ ?_
 clear hKB KB
 refine AWp.zero ?_
 have hcl:((Y3l kp d d.waits.length).map bs).length=d.sectors.length:=by rw[List.length_map,Xh8]
 refine Yy (Zi (i:=2) (t:=5) (e:=44) (cs:=(Y3l kp d d.waits.length).map bs) 1 (.ref [.sl 1 ((Y3l kp d d.waits.length).map Y6) .sh]) rfl rfl (Fz.ref _ _ rfl fun i c c' hc hc'=> ?_)) ?_
 ·match i with
  |0=>
   simp only[List.getElem?_cons_zero,Option.some.injEq] at hc hc'
   subst hc;subst hc'
   have:=Fz.bsl (k:=n+2) (sz:=1) (cs:=(Y3l kp d d.waits.length).map bs) 0 d.sectors.length false ⟨by omega,by omega⟩
   rw[List.drop_zero,← Xh8 kp d d.waits.length,Xkh] at this
   rw[← Xh8 kp d d.waits.length];exact this
  |i+1=>simp at hc
 simp only[s_0,s_s]
 refine X9 fun K hK=>Xn Xj [] ?_
 simp (maxSteps:=9^7) only[ss,X1,tab,simprocAttr, -List.reduceReplicate]
 skip
 refine Sb (Xl9 (n+6) (Y3l kp d d.waits.length) _ [] bs Y6 (hb0 _ (by decide) (by decide)) (by rw[Xh8];omega) (fun _=>rfl) (fun _=>rfl) fun l hl=>Xds l (by rw[Xhb hd (fun i hi=>(hk i hi).1) _ l hl];omega)) (X6 _ (Nat.le_refl _) 6) (Xb _ (by simp)) (by simp) ?_
 simp (maxSteps:=9^7) only[ss,X1,tab,simprocAttr, -List.reduceReplicate]
 (refine hK _ ?_;clear hK K)
 refine Yd ?_
 exact⟨4,D,rfl,rfl,Xu (.inr rfl) rfl rfl rfl (fun _ _=>rfl) ok43 (k:=n+1) (off:=0) rfl (Xb _ (by simp)) (X6 _ (Nat.le_refl _) 1) rfl (by simp only[Y3p,Xha,Xhe,List.map_nil,X4,sl])⟩
end Go.Proofs.Ytjgbbjooeibppaa
