/- The layer of abstract values, joined. -/
import Derived.Test.YtjgbbjooeibppaaZD2
import Derived.Test.YtjgbbjooeibppaaZD9
namespace Go.Proofs.Ytjgbbjooeibppaa
set_option linter.unusedSimpArgs false
set_option linter.unusedVariables false
set_option maxHeartbeats 2000000
set_option maxRecDepth 4000
open Go Go.VS Tab
def Xhc:Nat→Nat:=fun _=>128
def Xau (d:Dsk) (at':Int):Int:=if may d then(if decide (0≤at')&&decide (at'<32) then 0 else 2) else 8
def Xkr (d:Dsk) (at':Int):List UInt8:=if Xau d at'=0 then(Y3l Xhc d d.waits.length).getD at'.toNat [] else[]
theorem Xju {d:Dsk} {at':Int}:Xau d at'=0↔may d=true∧0≤at'∧at'<32:=by
 unfold Xau
 cases may d<;>simp
theorem Xea (d:Dsk) (at':Int) (h1:d.sectors.length≤1000) (h2:d.waits.length≤1000):Xr Try.prog 21 [Y3p d,i64 at'] [] (.tup [bs (Xkr d at'),i64 (Xau d at')]) []:=by
 refine Xc 1 Try.func21 rfl fun n out _ _=> ?_
 simp only[Try.ntmps21,List.length_cons,List.length_nil,List.length_map,List.length_replicate,Xf,Nat.reduceAdd,Nat.reduceSub,List.replicate,List.cons_append,List.nil_append]
 refine X9 fun K hK=>Xn Xj [] ?_
 simp (maxSteps:=9^7) only[ss,X1,tab,simprocAttr, -List.reduceReplicate,Y3p,Xha]
 (refine hK _ ?_;clear hK K)
 refine X9 fun KB hKB=> ?_
 refine X9 fun K hK=>Ny Xj [] [[0],[],[],[],[]] [[],[],[],[],[]] follows (by kernel_rfl) (by decide) (by decide) (by kernel_rfl) ?_
 simp (maxSteps:=9^7) only[ss,X1,tab,simprocAttr, -List.reduceReplicate]
 skip
 refine X3 (Xht at' 32) ?_
 simp (maxSteps:=9^7) only[ss,X1,tab,simprocAttr, -List.reduceReplicate]
 refine X3 (Xiw d _ h1 h2) ?_
 simp (maxSteps:=9^7) only[ss,X1,tab,simprocAttr, -List.reduceReplicate]
 (refine hK _ ?_;clear hK K)
 by_cases h0:Xau d at'≠0
 ·have e0:(Xau d at' !=0)=true:=by simpa using h0
  have e1:Xkr d at'=[]:=by unfold Xkr;rw[if_neg h0]
  unfold Xau at e0
  refine X9 fun K hK=>Xn Xj [] ?_
  simp (maxSteps:=9^7) only[ss,X1,tab,simprocAttr, -List.reduceReplicate,e0]
  (refine hK _ ?_;clear hK K)
  refine Wm rfl ?_
  refine X9 fun K hK=>Xn Xj [] ?_
  simp (maxSteps:=9^7) only[ss,X1,tab,simprocAttr, -List.reduceReplicate]
  (refine hK _ ?_;clear hK K)
  refine Yd ?_
  rw[e1]
  exact Za (.inr rfl) rfl rfl rfl (fun _ _=>rfl) rfl rfl ((Py _ _).2 trivial) (.rfl _)
 have h0':Xau d at'=0:=by omega
 have e1:Xkr d at'=(Y3l Xhc d d.waits.length).getD at'.toNat []:=by unfold Xkr;rw[if_pos h0']
 obtain⟨hm,ha1,ha2⟩:=Xju.1 h0'
 have h0'':=h0'
 unfold Xau at h0''
 refine X9 fun K hK=>Xn Xj [] ?_
 simp (maxSteps:=9^7) only[ss,X1,tab,simprocAttr, -List.reduceReplicate,h0'']
 (refine hK _ ?_;clear hK K)
 refine Uy rfl (Xhj (hKB _ ?_))
 clear hKB KB
 have hl:=Xh8 Xhc d d.waits.length
 have h32:=((Xho d).1 hm).1
 obtain⟨z,hz⟩:∃z:Nat,at'=(z:Int):=⟨at'.toNat,by omega⟩
 subst hz
 have hz32:z<(Y3l Xhc d d.waits.length).length:=by omega
 have hg:(Y3l Xhc d d.waits.length).getD z []=(Y3l Xhc d d.waits.length)[z]:=by simp [List.getD_eq_getElem?_getD,hz32]
 refine X9 fun K hK=>Xn Xj [] ?_
 simp (maxSteps:=9^7) only[ss,X1,tab,simprocAttr, -List.reduceReplicate]
 skip
 refine X3 (Xkx d _ [] Xhc hm (hb0 _ (by decide) (by decide)) fun i hi=>⟨Nat.le_refl _,Xk2 _⟩) ?_
 simp (maxSteps:=9^7) only[ss,X1,tab,simprocAttr, -List.reduceReplicate,Xhe,Y3p,Xha,hz32,List.length_map,Xg Y6 (Y3l Xhc d d.waits.length) z [] hz32,Y6]
 (refine hK _ ?_;clear hK K)
 refine Yd ?_
 rw[e1,h0',Int.toNat_natCast,hg]
 exact Za (.inr rfl) rfl rfl rfl (fun _ _=>rfl) rfl rfl (.rfl _) (.rfl _)
def Xiu:List Nat→Nat→Nat
 |[],s=>s
 |x::l,s=>if s≤200000 then Xiu l (s+x) else s
theorem Xks:∀(l:List Nat) (s:Nat),s≤Xiu l s
 |[],s=>Nat.le_refl _
 |x::l,s=>by
  rw[Xiu];split
  ·have:=Xks l (s+x);omega
  ·exact Nat.le_refl _
theorem Xjv:∀(l:List Nat) (s:Nat),Xiu l s≤200000→∀x,x∈l→x≤200000
 |[],_,_,x,hx=>by simp at hx
 |y::l,s,h,x,hx=>by
  rw[Xiu] at h
  split at h
  ·rcases List.mem_cons.1 hx with rfl|hx
   ·have:=Xks l (s+x);omega
   ·exact Xjv l _ h x hx
  ·omega
theorem Xl5 (l:List Nat) {s:Nat} (h:¬s≤200000):Xiu l s=s:=by
 cases l with
 |nil=>rfl
 |cons x l=>rw[Xiu,if_neg h]
def Xjd (d:Dsk):Bool:=decide (Xiu (d.waits.map fun w=>w.data.length) (Xiu (d.sectors.map List.length) (d.sectors.length+d.waits.length))>200000)||decide (d.sectors.length+d.waits.length>600)
theorem X0a {d:Dsk} (h:Xjd d=false):Small d∧d.sectors.length+d.waits.length≤600:=by
 simp only[Xjd,Bool.or_eq_false_iff,decide_eq_false_iff_not,Nat.not_lt] at h
 obtain⟨h1,h2⟩:=h
 have h3:=Nat.le_trans (Xks _ _) h1
 exact⟨⟨by omega,by omega,fun b hb=>by have:=Xjv _ _ h3 b.length (List.mem_map.2 ⟨b,hb,rfl⟩);omega,fun w hw=>by have:=Xjv _ _ h1 w.data.length (List.mem_map.2 ⟨w,hw,rfl⟩);omega⟩,by omega⟩
def acc (l:List Nat) (s i:Nat):Nat:=s+(l.take i).sum
theorem Xjw (l:List Nat) (s i:Nat) (h:i<l.length):acc l s (i+1)=acc l s i+l[i]:=by
 rw[acc,acc,List.take_succ_eq_append_getElem h,List.sum_append];simp;omega
theorem Xk9 {l:List Nat} {s i:Nat} (h:i<l.length) (hn:acc l s i≤200000) (hq:Xiu l s=Xiu (l.drop i) (acc l s i)):Xiu l s=Xiu (l.drop (i+1)) (acc l s (i+1)):=by
 rw[hq,List.drop_eq_getElem_cons h,Xiu,if_pos hn,Xjw l s i h]
theorem Xl6:∀(l:List Nat) (s:Nat),s≤281474976910656→(∀x,x∈l→x≤140737488351232)→Xiu l s≤281474976910656
 |[],s,h,_=>h
 |x::l,s,h,hx=>by
  rw[Xiu]
  split
  ·exact Xl6 l _ (by have:=hx x (by simp);omega) fun y hy=>hx y (by simp [hy])
  ·exact h
def Xiv:Nat:=140737488351232
theorem Xn5 (d:Dsk) (h1:d.sectors.length≤Xiv) (h2:d.waits.length≤Xiv) (h3:∀b,b∈d.sectors→b.length≤Xiv) (h4:∀w,w∈d.waits→w.data.length≤Xiv):Xr Try.prog 11 [Y3p d] [] (bool (Xjd d)) []:=by
 unfold Xiv at*
 refine Xc 1 Try.func11 rfl fun n out _ _=> ?_
 simp only[Try.ntmps11,List.length_cons,List.length_nil,List.length_map,List.length_replicate,Xf,Nat.reduceAdd,Nat.reduceSub,List.replicate,List.cons_append,List.nil_append]
 obtain⟨sle,hsl⟩:∃sle,sle=d.sectors.map List.length:=⟨_,rfl⟩
 obtain⟨wl,hwl⟩:∃wl,wl=d.waits.map fun w=>w.data.length:=⟨_,rfl⟩
 have hsn:sle.length=d.sectors.length:=by rw[hsl,List.length_map]
 have hwn:wl.length=d.waits.length:=by rw[hwl,List.length_map]
 obtain⟨s0,hs0⟩:∃s0,s0=d.sectors.length+d.waits.length:=⟨_,rfl⟩
 refine X9 fun K hK=>Xn Xj [] ?_
 simp (maxSteps:=9^7) only[ss,X1,tab,simprocAttr, -List.reduceReplicate,Y3p,Xha]
 (refine hK _ ?_;clear hK K)
 refine X9 fun K hK=>Xn Xj [] ?_
 simp (maxSteps:=9^7) only[ss,X1,tab,simprocAttr, -List.reduceReplicate,List.length_map,Yl (n:=d.sectors.length) (d.waits.length:Int) d.waits.length rfl (by omega)]
 (refine hK _ ?_;clear hK K)
 rw[← hs0]
 refine X9 fun KB hKB=> ?_
 refine X9 fun K hK=>Xn Xj [] ?_
 simp (maxSteps:=9^7) only[ss,X1,tab,simprocAttr, -List.reduceReplicate]
 (refine hK _ ?_;clear hK K)
 refine Xsh ([(3,i64 ((Xiu sle s0:Nat):Int)),(4,.top),(13,.top),(14,.top),(15,.top),(16,.top),(17,.top),(18,.top),(19,.top),(20,.top),(21,.top),(22,.top),(23,.top),(24,.top),(25,.top),(26,.top),(27,.top),(28,.top),(29,.top),(30,.top),(31,.top)]) [some (.box 43 [.sl 1 (d.sectors.map Y6) .sh,.sl 2 (d.waits.map wrC) .sh])] out (id ?_) (Xz (fun i:Nat=>([(3,i64 ((acc sle s0 i:Nat):Int)),(4,i64 (i:Int)),(13,.top),(14,.top),(15,.top),(16,.top),(17,.top),(18,.top),(19,.top),(20,.top),(21,.top),(22,.top),(23,.top),(24,.top),(25,.top),(26,.top),(27,.top),(28,.top),(29,.top),(30,.top),(31,.top)])) (fun i=>[some (.box 43 [.sl 1 (d.sectors.map Y6) .sh,.sl 2 (d.waits.map wrC) .sh])]) (fun i=>out) (fun i=>i≤d.sectors.length∧Xiu sle s0=Xiu (sle.drop i) (acc sle s0 i)) (fun i=>d.sectors.length - i) 0 ⟨Nat.zero_le _,?_⟩ ?_ fun i hi=> ?_)
 rotate_left
 ·rw[List.drop_zero,acc,List.take_zero];rfl
 ·refine X2 ?_ ?_ rfl rfl rfl rfl<;>simp only[X4,sl,Xha,acc,List.take_zero,List.sum_nil,Nat.add_zero]
 ·obtain⟨hi,hq⟩:=hi
  simp only[X4,s_0,s_s]
  refine X9 fun KC hKC=> ?_
  by_cases hlt:i<d.sectors.length
  ·have hg:∀h,sle[i]'h=(d.sectors[i]).length:=fun h=>by simp [hsl]
   have e1:decide ((i:Int)<(d.sectors.length:Int))=true:=decide_eq_true (by omega)
   by_cases hn:acc sle s0 i≤200000
   ·have e2:decide (((acc sle s0 i:Nat):Int)≤200000)=true:=decide_eq_true (by omega)
    have hb:=h3 _ (List.getElem_mem hlt)
    refine X9 fun K hK=>Xn Xj [] ?_
    simp (maxSteps:=9^7) only[ss,X1,tab,simprocAttr, -List.reduceReplicate,Xha,List.length_map,hlt,e2]
    (refine hK _ ?_;clear hK K)
    refine Wm rfl (Xhj (hKC _ ?_))
    clear hKC KC
    refine X9 fun KC hKC=>Xe ?_
    refine Xn Xj [] ?_
    simp (maxSteps:=9^7) only[ss,X1,tab,simprocAttr, -List.reduceReplicate,hlt,List.length_map,Xg Y6 d.sectors i [] hlt,Y6,X5,hg,Yl (n:=acc sle s0 i) ((d.sectors[i]).length:Int) (d.sectors[i]).length rfl (by omega)]
    refine hKC _ ?_
    clear hKC KC
    refine Xn Xj [] ?_
    simp (maxSteps:=9^7) only[ss,X1,tab,simprocAttr, -List.reduceReplicate,Yl (n:=i) 1 1 rfl (by omega)]
    refine⟨i+1,⟨by omega,Xk9 (by omega) hn hq⟩,by omega,?_⟩
    rw[Xjw sle s0 i (by omega),hg]
    refine X2 ?_ ?_ rfl rfl rfl rfl<;>simp only[X4,sl]
   ·have e2:decide (((acc sle s0 i:Nat):Int)≤200000)=false:=decide_eq_false (by omega)
    refine X9 fun K hK=>Xn Xj [] ?_
    simp (maxSteps:=9^7) only[ss,X1,tab,simprocAttr, -List.reduceReplicate,Xha,List.length_map,hlt,e2]
    (refine hK _ ?_;clear hK K)
    refine Uy rfl (Qi ?_)
    rw[hq,Xl5 _ hn]
    simp only[Qd,Z4,if_true]
    refine .inl ⟨by trivial,?_⟩
    refine X2 ?_ ?_ rfl rfl rfl rfl<;>simp only[X4,sl]
  ·have hil:i=d.sectors.length:=by omega
   refine X9 fun K hK=>Xn Xj [] ?_
   simp (maxSteps:=9^7) only[ss,X1,tab,simprocAttr, -List.reduceReplicate,Xha,List.length_map,hlt]
   (refine hK _ ?_;clear hK K)
   refine Uy rfl (Qi ?_)
   rw[hq,List.drop_of_length_le (by omega),Xiu]
   simp only[Qd,Z4,if_true]
   refine .inl ⟨by trivial,?_⟩
   refine X2 ?_ ?_ rfl rfl rfl rfl<;>simp only[X4,sl]
 refine hKB _ ?_
 clear hKB KB
 simp only[X4,s_0,s_s]
 obtain⟨s1,hs1⟩:∃s1,s1=Xiu sle s0:=⟨_,rfl⟩
 rw[← hs1]
 have hb1:s1≤281474976910656:=by
  rw[hs1]
  refine Xl6 sle s0 (by omega) fun x hx=> ?_
  rw[hsl] at hx
  obtain⟨b,hb,rfl⟩:=List.mem_map.1 hx
  exact h3 b hb
 refine X9 fun KB hKB=> ?_
 refine X9 fun K hK=>Xn Xj [] ?_
 simp (maxSteps:=9^7) only[ss,X1,tab,simprocAttr, -List.reduceReplicate]
 (refine hK _ ?_;clear hK K)
 refine Xsh ([(3,i64 ((Xiu wl s1:Nat):Int)),(5,.top),(32,.top),(33,.top),(34,.top),(35,.top),(36,.top),(37,.top),(38,.top),(39,.top),(40,.top),(41,.top),(42,.top),(43,.top),(44,.top),(45,.top),(46,.top),(47,.top),(48,.top),(49,.top),(50,.top),(51,.top)]) [some (.box 43 [.sl 1 (d.sectors.map Y6) .sh,.sl 2 (d.waits.map wrC) .sh])] out (id ?_) (Xz (fun i:Nat=>([(3,i64 ((acc wl s1 i:Nat):Int)),(5,i64 (i:Int)),(32,.top),(33,.top),(34,.top),(35,.top),(36,.top),(37,.top),(38,.top),(39,.top),(40,.top),(41,.top),(42,.top),(43,.top),(44,.top),(45,.top),(46,.top),(47,.top),(48,.top),(49,.top),(50,.top),(51,.top)])) (fun i=>[some (.box 43 [.sl 1 (d.sectors.map Y6) .sh,.sl 2 (d.waits.map wrC) .sh])]) (fun i=>out) (fun i=>i≤d.waits.length∧Xiu wl s1=Xiu (wl.drop i) (acc wl s1 i)) (fun i=>d.waits.length - i) 0 ⟨Nat.zero_le _,?_⟩ ?_ fun i hi=> ?_)
 rotate_left
 ·rw[List.drop_zero,acc,List.take_zero];rfl
 ·refine X2 ?_ ?_ rfl rfl rfl rfl<;>simp only[X4,sl,acc,List.take_zero,List.sum_nil,Nat.add_zero]
 ·obtain⟨hi,hq⟩:=hi
  simp only[X4,s_0,s_s]
  refine X9 fun KC hKC=> ?_
  by_cases hlt:i<d.waits.length
  ·have hg:∀h,wl[i]'h=(d.waits[i]).data.length:=fun h=>by simp [hwl]
   by_cases hn:acc wl s1 i≤200000
   ·have e2:decide (((acc wl s1 i:Nat):Int)≤200000)=true:=decide_eq_true (by omega)
    have hb:=h4 _ (List.getElem_mem hlt)
    refine X9 fun K hK=>Xn Xj [] ?_
    simp (maxSteps:=9^7) only[ss,X1,tab,simprocAttr, -List.reduceReplicate,List.length_map,hlt,e2]
    (refine hK _ ?_;clear hK K)
    refine Wm rfl (Xhj (hKC _ ?_))
    clear hKC KC
    refine X9 fun KC hKC=>Xe ?_
    refine Xn Xj [] ?_
    simp (maxSteps:=9^7) only[ss,X1,tab,simprocAttr, -List.reduceReplicate,hlt,List.length_map,Xg wrC d.waits i [] hlt,wrC,X5,Yl (n:=acc wl s1 i) ((d.waits[i]).data.length:Int) (d.waits[i]).data.length rfl (by omega)]
    refine hKC _ ?_
    clear hKC KC
    refine Xn Xj [] ?_
    simp (maxSteps:=9^7) only[ss,X1,tab,simprocAttr, -List.reduceReplicate,Yl (n:=i) 1 1 rfl (by omega)]
    refine⟨i+1,⟨by omega,Xk9 (by omega) hn hq⟩,by omega,?_⟩
    rw[Xjw wl s1 i (by omega),hg]
    refine X2 ?_ ?_ rfl rfl rfl rfl<;>simp only[X4,sl]
   ·have e2:decide (((acc wl s1 i:Nat):Int)≤200000)=false:=decide_eq_false (by omega)
    refine X9 fun K hK=>Xn Xj [] ?_
    simp (maxSteps:=9^7) only[ss,X1,tab,simprocAttr, -List.reduceReplicate,List.length_map,hlt,e2]
    (refine hK _ ?_;clear hK K)
    refine Uy rfl (Qi ?_)
    rw[hq,Xl5 _ hn]
    simp only[Qd,Z4,if_true]
    refine .inl ⟨by trivial,?_⟩
    refine X2 ?_ ?_ rfl rfl rfl rfl<;>simp only[X4,sl]
  ·have hil:i=d.waits.length:=by omega
   refine X9 fun K hK=>Xn Xj [] ?_
   simp (maxSteps:=9^7) only[ss,X1,tab,simprocAttr, -List.reduceReplicate,List.length_map,hlt]
   (refine hK _ ?_;clear hK K)
   refine Uy rfl (Qi ?_)
   rw[hq,List.drop_of_length_le (by omega),Xiu]
   simp only[Qd,Z4,if_true]
   refine .inl ⟨by trivial,?_⟩
   refine X2 ?_ ?_ rfl rfl rfl rfl<;>simp only[X4,sl]
 refine hKB _ ?_
 clear hKB KB
 simp only[X4,s_0,s_s]
 have hgr:Xjd d=(decide (((Xiu wl s1:Nat):Int)>200000)||decide (((d.sectors.length+d.waits.length:Nat):Int)>600)):=by
  rw[Xjd,← hsl,← hwl,← hs0,← hs1,hs0]
  congr 1
  ·exact decide_eq_decide.2 (by omega)
  ·exact decide_eq_decide.2 (by omega)
 rw[hgr]
 cases hc:decide (((Xiu wl s1:Nat):Int)>200000) with
 |true=>
  refine X9 fun K hK=>Xn Xj [] ?_
  simp (maxSteps:=9^7) only[ss,X1,tab,simprocAttr, -List.reduceReplicate,hc]
  (refine hK _ ?_;clear hK K)
  refine Yd ?_
  exact Qv (.inr rfl) rfl rfl rfl (fun _ _=>rfl) rfl
 |false=>
  refine X9 fun K hK=>Xn Xj [] ?_
  simp (maxSteps:=9^7) only[ss,X1,tab,simprocAttr, -List.reduceReplicate,hc,List.length_map,Yl (n:=d.sectors.length) (d.waits.length:Int) d.waits.length rfl (by omega)]
  (refine hK _ ?_;clear hK K)
  refine Yd ?_
  exact Qv (.inr rfl) rfl rfl rfl (fun _ _=>rfl) rfl
end Go.Proofs.Ytjgbbjooeibppaa
