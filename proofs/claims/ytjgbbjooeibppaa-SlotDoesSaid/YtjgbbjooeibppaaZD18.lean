/- The layer of abstract values, joined. -/
import Derived.Test.YtjgbbjooeibppaaZD2
import Derived.Test.YtjgbbjooeibppaaZE4
namespace Go.Proofs.Ytjgbbjooeibppaa
set_option linter.unusedVariables false
set_option linter.unusedSimpArgs false
open Go Go.VS Tab
set_option maxHeartbeats 2000000
set_option maxRecDepth 4000
theorem Y4 (a m:Int):Xr Try.prog 96 [i64 a,i64 m] [] (bool (decide (0≤a)&&decide (a<m))) []:=by
 refine Xc 0 Try.func96 rfl fun n out _ _=> ?_
 simp only[Try.ntmps96,List.length_cons,List.length_nil,List.length_map,List.length_replicate,Xf,Nat.reduceAdd,Nat.reduceSub,List.replicate,List.cons_append,List.nil_append]
 refine X9 fun K hK=>Xn Xj [] ?_
 simp (maxSteps:=9^7) only[ss,X1,tab,simprocAttr, -List.reduceReplicate]
 repeat' (first|(with_reducible refine hK _ ?_;clear hK K)|with_reducible apply And.intro)
 by_cases h:0≤a
 ·have e:decide (a≥0)=true:=decide_eq_true h
  refine X9 fun K hK=>Xn Xj [] ?_
  simp (maxSteps:=9^7) only[ss,X1,tab,simprocAttr, -List.reduceReplicate,e]
  repeat' (first|(with_reducible refine hK _ ?_;clear hK K)|with_reducible apply And.intro)
  rw[show decide (0≤a)=true from e,Bool.true_and]
  refine Yd ?_
  exact Qv (.inr rfl) rfl rfl rfl (fun _ _=>rfl) rfl
 ·have e:decide (a≥0)=false:=decide_eq_false h
  refine X9 fun K hK=>Xn Xj [] ?_
  simp (maxSteps:=9^7) only[ss,X1,tab,simprocAttr, -List.reduceReplicate,e]
  repeat' (first|(with_reducible refine hK _ ?_;clear hK K)|with_reducible apply And.intro)
  rw[show decide (0≤a)=false from e,Bool.false_and]
  refine Yd ?_
  exact Qv (.inr rfl) rfl rfl rfl (fun _ _=>rfl) rfl
def am {α:Type} (b:Bool) (p:α→Bool) (l:List α) (i:Nat):Bool:=b&&(l.take i).all p
theorem C1 {α:Type} {b:Bool} {p:α→Bool} {l:List α} {i:Nat} (h:i<l.length) (ha:am b p l i=true):am b p l (i+1)=p l[i]:=by
 unfold am at*
 rw[Bool.and_eq_true] at ha
 rw[List.take_succ_eq_append_getElem h,List.all_append,ha.1,ha.2];simp
theorem St {α:Type} {b:Bool} {p:α→Bool} {l:List α} {i:Nat} (h:i=l.length∨am b p l i=false):am b p l i=(b&&l.all p):=by
 rcases h with rfl|h
 ·rw[am,List.take_length]
 ·rw[h]
  unfold am at h
  cases b with
  |false=>rfl
  |true=>
   rw[Bool.true_and] at h⊢
   have h2:¬(l.take i).all p=true:=by rw[h];decide
   symm
   rw[Bool.eq_false_iff]
   intro h3
   exact h2 (List.all_eq_true.2 fun x hx=>List.all_eq_true.1 h3 x (List.mem_of_mem_take hx))
theorem X5w (d:Dsk) (h1:d.sectors.length≤1000) (h2:d.waits.length≤1000):Xr Try.prog 69 [Y3p d] [] (bool (may d)) []:=by
 refine Xc 1 Try.func69 rfl fun n out _ _=> ?_
 simp only[Try.ntmps69,List.length_cons,List.length_nil,List.length_map,List.length_replicate,Xf,Nat.reduceAdd,Nat.reduceSub,List.replicate,List.cons_append,List.nil_append]
 refine X9 fun K hK=>Xn Xj [] ?_
 simp (maxSteps:=9^7) only[ss,X1,tab,simprocAttr, -List.reduceReplicate,Y3p,Xha]
 repeat' (first|(with_reducible refine hK _ ?_;clear hK K)|with_reducible apply And.intro)
 obtain⟨b0,hb0⟩:∃b0,b0=(decide (d.sectors.length=32)&&decide (d.waits.length≤256)):=⟨_,rfl⟩
 obtain⟨p1,hp1⟩:∃p1:List UInt8→Bool,p1=fun b=>decide (b.length=128):=⟨_,rfl⟩
 have key:may d=(b0&&d.sectors.all p1&&d.waits.all Xo1):=by
  rw[hb0,hp1];rfl
 have g32:((d.sectors.length:Int)==32)=decide (d.sectors.length=32):=by
  rw[Bool.eq_iff_iff];simp;omega
 rw[key]
 obtain⟨box,hbox⟩:∃box,box=some (Res.box 43 [.sl 1 (d.sectors.map Y6) .sh,.sl 2 (d.waits.map wrC) .sh]):=⟨_,rfl⟩
 refine Qf [(3,bool b0),(6,.top),(7,.top),(8,.top),(9,.top),(10,.top),(11,.top),(12,.top),(13,.top),(14,.top),(15,.top)] [some (.box 43 [.sl 1 (d.sectors.map Y6) .sh,.sl 2 (d.waits.map wrC) .sh])] out (id ?_) ?_
 rotate_left
 ·rw[hb0]
  by_cases h32:d.sectors.length=32
  ·have e:decide (d.sectors.length=32)=true:=decide_eq_true h32
   have e3:decide ((d.waits.length:Int)≤256)=decide (d.waits.length≤256):=decide_eq_decide.2 (by omega)
   rw[e,Bool.true_and]
   refine Xn Xj [] ?_
   simp (maxSteps:=9^7) only[ss,X1,tab,simprocAttr, -List.reduceReplicate,List.length_map,g32,e,e3]
   refine .inl ?_
   refine X2 ?_ ?_ rfl rfl rfl rfl<;>simp only[X4,sl]
  ·have e:decide (d.sectors.length=32)=false:=decide_eq_false h32
   rw[e,Bool.false_and]
   refine Xn Xj [] ?_
   simp (maxSteps:=9^7) only[ss,X1,tab,simprocAttr, -List.reduceReplicate,List.length_map,g32,e]
   refine .inl ?_
   refine X2 ?_ ?_ rfl rfl rfl rfl<;>simp only[X4,sl]
 simp only[X4,s_0,s_s]
 refine X9 fun KB hKB=> ?_
 refine X9 fun K hK=>Xn Xj [] ?_
 simp (maxSteps:=9^7) only[ss,X1,tab,simprocAttr, -List.reduceReplicate]
 repeat' (first|(with_reducible refine hK _ ?_;clear hK K)|with_reducible apply And.intro)
 refine Xsh ([(3,bool (b0&&d.sectors.all p1)),(4,.top),(16,.top),(17,.top),(18,.top),(19,.top),(20,.top),(21,.top),(22,.top),(23,.top),(24,.top),(25,.top),(26,.top),(27,.top),(28,.top),(29,.top),(30,.top),(31,.top),(32,.top)]) [some (.box 43 [.sl 1 (d.sectors.map Y6) .sh,.sl 2 (d.waits.map wrC) .sh])] out (id ?_) (Xz (fun i:Nat=>([(3,bool (am b0 p1 d.sectors i)),(4,i64 (i:Int)),(16,.top),(17,.top),(18,.top),(19,.top),(20,.top),(21,.top),(22,.top),(23,.top),(24,.top),(25,.top),(26,.top),(27,.top),(28,.top),(29,.top),(30,.top),(31,.top),(32,.top)])) (fun i=>[some (.box 43 [.sl 1 (d.sectors.map Y6) .sh,.sl 2 (d.waits.map wrC) .sh])]) (fun i=>out) (fun i=>i≤d.sectors.length∧True) (fun i=>d.sectors.length - i) 0 ⟨Nat.zero_le _,?_⟩ ?_ fun i hi=> ?_)
 rotate_left
 ·trivial
 ·refine X2 ?_ ?_ rfl rfl rfl rfl<;>simp only[X4,sl,am,List.take_zero,List.all_nil,Bool.and_true]
 ·obtain⟨hi,hq⟩:=hi
  simp only[X4,s_0,s_s]
  refine X9 fun KC hKC=> ?_
  by_cases hlt:i<d.sectors.length
  ·cases ha:am b0 p1 d.sectors i with
   |true=>
    have e5:(((d.sectors[i]).length:Int)==128)=am b0 p1 d.sectors (i+1):=by
     rw[C1 hlt ha,hp1,Bool.eq_iff_iff];simp;omega
    refine X9 fun K hK=>Xn Xj [] ?_
    simp (maxSteps:=9^7) only[ss,X1,tab,simprocAttr, -List.reduceReplicate,List.length_map,hlt]
    repeat' (first|(with_reducible refine hK _ ?_;clear hK K)|with_reducible apply And.intro)
    refine Wm rfl (Xhj (hKC _ ?_))
    clear hKC KC
    refine X9 fun KC hKC=>Xe ?_
    refine Xn Xj [] ?_
    simp (maxSteps:=9^7) only[ss,X1,tab,simprocAttr, -List.reduceReplicate,hlt,List.length_map,Xg Y6 d.sectors i [] hlt,Y6,X5,e5]
    refine hKC _ ?_
    clear hKC KC
    refine Xn Xj [] ?_
    simp (maxSteps:=9^7) only[ss,X1,tab,simprocAttr, -List.reduceReplicate,Yl (n:=i) 1 1 rfl (by omega)]
    refine⟨i+1,by omega,by omega,?_⟩
    refine X2 ?_ ?_ rfl rfl rfl rfl<;>simp only[X4,sl]
   |false=>
    refine X9 fun K hK=>Xn Xj [] ?_
    simp (maxSteps:=9^7) only[ss,X1,tab,simprocAttr, -List.reduceReplicate,List.length_map,hlt]
    repeat' (first|(with_reducible refine hK _ ?_;clear hK K)|with_reducible apply And.intro)
    refine Uy rfl (Qi ?_)
    have e6:=St (b:=b0) (p:=p1) (l:=d.sectors) (i:=i) (.inr ha)
    rw[← e6,ha]
    simp only[Qd,Z4,if_true]
    refine .inl ⟨by trivial,?_⟩
    refine X2 ?_ ?_ rfl rfl rfl rfl<;>simp only[X4,sl]
  ·have e6:=St (b:=b0) (p:=p1) (l:=d.sectors) (i:=i) (.inl (by omega))
   rw[e6]
   refine X9 fun K hK=>Xn Xj [] ?_
   simp (maxSteps:=9^7) only[ss,X1,tab,simprocAttr, -List.reduceReplicate,List.length_map,hlt]
   repeat' (first|(with_reducible refine hK _ ?_;clear hK K)|with_reducible apply And.intro)
   refine Uy rfl (Qi ?_)
   simp only[Qd,Z4,if_true]
   refine .inl ⟨by trivial,?_⟩
   refine X2 ?_ ?_ rfl rfl rfl rfl<;>simp only[X4,sl]
 refine hKB _ ?_
 clear hKB KB
 simp only[X4,s_0,s_s]
 obtain⟨b1,hb1⟩:∃b1,b1=(b0&&d.sectors.all p1):=⟨_,rfl⟩
 rw[← hb1]
 refine X9 fun KB hKB=> ?_
 refine X9 fun K hK=>Xn Xj [] ?_
 simp (maxSteps:=9^7) only[ss,X1,tab,simprocAttr, -List.reduceReplicate]
 repeat' (first|(with_reducible refine hK _ ?_;clear hK K)|with_reducible apply And.intro)
 refine Xsh ([(3,bool (b1&&d.waits.all Xo1)),(5,.top),(33,.top),(34,.top),(35,.top),(36,.top),(37,.top),(38,.top),(39,.top),(40,.top),(41,.top),(42,.top),(43,.top),(44,.top),(45,.top),(46,.top),(47,.top),(48,.top),(49,.top),(50,.top),(51,.top),(52,.top),(53,.top),(54,.top),(55,.top),(56,.top),(57,.top),(58,.top),(59,.top)]) [some (.box 43 [.sl 1 (d.sectors.map Y6) .sh,.sl 2 (d.waits.map wrC) .sh])] out (id ?_) (Xz (fun i:Nat=>([(3,bool (am b1 Xo1 d.waits i)),(5,i64 (i:Int)),(33,.top),(34,.top),(35,.top),(36,.top),(37,.top),(38,.top),(39,.top),(40,.top),(41,.top),(42,.top),(43,.top),(44,.top),(45,.top),(46,.top),(47,.top),(48,.top),(49,.top),(50,.top),(51,.top),(52,.top),(53,.top),(54,.top),(55,.top),(56,.top),(57,.top),(58,.top),(59,.top)])) (fun i=>[some (.box 43 [.sl 1 (d.sectors.map Y6) .sh,.sl 2 (d.waits.map wrC) .sh])]) (fun i=>out) (fun i=>i≤d.waits.length∧True) (fun i=>d.waits.length - i) 0 ⟨Nat.zero_le _,?_⟩ ?_ fun i hi=> ?_)
 rotate_left
 ·trivial
 ·refine X2 ?_ ?_ rfl rfl rfl rfl<;>simp only[X4,sl,am,List.take_zero,List.all_nil,Bool.and_true]
 ·obtain⟨hi,hq⟩:=hi
  simp only[X4,s_0,s_s]
  refine X9 fun KC hKC=> ?_
  by_cases hlt:i<d.waits.length
  ·cases ha:am b1 Xo1 d.waits i with
   |true=>
    have e5:(((d.waits[i]).data.length:Int)==128)=decide ((d.waits[i]).data.length=128):=by
     rw[Bool.eq_iff_iff];simp;omega
    have e6:=C1 (b:=b1) (p:=Xo1) hlt ha
    refine X9 fun K hK=>Xn Xj [] ?_
    simp (maxSteps:=9^7) only[ss,X1,tab,simprocAttr, -List.reduceReplicate,List.length_map,hlt]
    repeat' (first|(with_reducible refine hK _ ?_;clear hK K)|with_reducible apply And.intro)
    refine Wm rfl (Xhj (hKC _ ?_))
    clear hKC KC
    refine X9 fun KC hKC=>Xe ?_
    have hgw:=Xg wrC d.waits i [] hlt
    refine Xn Xj [] ?_
    simp (maxSteps:=9^7) only[ss,X1,tab,simprocAttr, -List.reduceReplicate,hlt,List.length_map,hgw,wrC]
    refine X3 (Y4 _ 32) ?_
    cases hn:(decide (0≤(d.waits[i]).at')&&decide ((d.waits[i]).at'<32)) with
    |true=>
     have e7:decide ((d.waits[i]).data.length=128)=am b1 Xo1 d.waits (i+1):=by rw[e6,Xo1,hn,Bool.true_and]
     simp (maxSteps:=9^7) only[ss,X1,tab,simprocAttr, -List.reduceReplicate,hlt,List.length_map,hgw,wrC,X5,e5,e7]
     refine hKC _ ?_
     clear hKC KC
     refine Xn Xj [] ?_
     simp (maxSteps:=9^7) only[ss,X1,tab,simprocAttr, -List.reduceReplicate,Yl (n:=i) 1 1 rfl (by omega)]
     refine⟨i+1,by omega,by omega,?_⟩
     refine X2 ?_ ?_ rfl rfl rfl rfl<;>simp only[X4,sl]
    |false=>
     have e7:am b1 Xo1 d.waits (i+1)=false:=by rw[e6,Xo1,hn,Bool.false_and]
     simp (maxSteps:=9^7) only[ss,X1,tab,simprocAttr, -List.reduceReplicate]
     refine hKC _ ?_
     clear hKC KC
     refine Xn Xj [] ?_
     simp (maxSteps:=9^7) only[ss,X1,tab,simprocAttr, -List.reduceReplicate,Yl (n:=i) 1 1 rfl (by omega)]
     refine⟨i+1,by omega,by omega,?_⟩
     rw[e7]
     refine X2 ?_ ?_ rfl rfl rfl rfl<;>simp only[X4,sl]
   |false=>
    refine X9 fun K hK=>Xn Xj [] ?_
    simp (maxSteps:=9^7) only[ss,X1,tab,simprocAttr, -List.reduceReplicate,List.length_map,hlt]
    repeat' (first|(with_reducible refine hK _ ?_;clear hK K)|with_reducible apply And.intro)
    refine Uy rfl (Qi ?_)
    have e6:=St (b:=b1) (p:=Xo1) (l:=d.waits) (i:=i) (.inr ha)
    rw[← e6,ha]
    simp only[Qd,Z4,if_true]
    refine .inl ⟨by trivial,?_⟩
    refine X2 ?_ ?_ rfl rfl rfl rfl<;>simp only[X4,sl]
  ·have e6:=St (b:=b1) (p:=Xo1) (l:=d.waits) (i:=i) (.inl (by omega))
   rw[e6]
   refine X9 fun K hK=>Xn Xj [] ?_
   simp (maxSteps:=9^7) only[ss,X1,tab,simprocAttr, -List.reduceReplicate,List.length_map,hlt]
   repeat' (first|(with_reducible refine hK _ ?_;clear hK K)|with_reducible apply And.intro)
   refine Uy rfl (Qi ?_)
   simp only[Qd,Z4,if_true]
   refine .inl ⟨by trivial,?_⟩
   refine X2 ?_ ?_ rfl rfl rfl rfl<;>simp only[X4,sl]
 refine hKB _ ?_
 clear hKB KB
 simp only[X4,s_0,s_s]
 refine X9 fun K hK=>Xn Xj [] ?_
 simp (maxSteps:=9^7) only[ss,X1,tab,simprocAttr, -List.reduceReplicate]
 repeat' (first|(with_reducible refine hK _ ?_;clear hK K)|with_reducible apply And.intro)
 refine Yd ?_
 exact Qv (.inr rfl) rfl rfl rfl (fun _ _=>rfl) rfl
end Go.Proofs.Ytjgbbjooeibppaa
