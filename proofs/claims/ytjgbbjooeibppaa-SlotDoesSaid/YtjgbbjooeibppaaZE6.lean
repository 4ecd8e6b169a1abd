/- The layer of abstract values, joined. -/
import Derived.Test.YtjgbbjooeibppaaZD2
import Derived.Test.YtjgbbjooeibppaaZE4
namespace Go.Proofs.Ytjgbbjooeibppaa
set_option linter.unusedSimpArgs false
set_option linter.unusedVariables false
set_option maxHeartbeats 4000000
set_option maxRecDepth 4000
open Go Go.VS Tab
theorem Xdt (els:List (List AV)) (md:Md) (w:Int) (hw:1≤w):
  Xr Try.prog 95 [.sl 1 els md,i64 w] [] (.fn (.func 109) [.ref [.sl 1 els md],.ref [i64 w]]) []:=by
 refine Xc 2 Try.func95 rfl fun n out _ _=> ?_
 simp only[Try.ntmps95,List.length_cons,List.length_nil,List.length_map,List.length_replicate,Xf,Nat.reduceAdd,Nat.reduceSub,List.replicate,List.cons_append,List.nil_append]
 refine X9 fun K hK=>Xn Xj [] ?_
 simp (maxSteps:=9^7) only[ss,X1,tab,simprocAttr, -List.reduceReplicate]
 (refine hK _ ?_;clear hK K)
 refine Yy (Xa9 (i:=0) 1 (e:=44) (cs:=[.sl 1 els md]) rfl (by simp)) ?_
 simp only[List.map_cons,List.map_nil,AV.frz,Xcu,Xcv,Nat.add_left_cancel_iff,reduceIte,Nat.reduceEqDiff,s_0,s_s,List.drop_zero]
 refine Yy (Xa9 (i:=1) 1 (e:=3) (cs:=[i64 w]) rfl (by simp)) ?_
 simp only[List.map_cons,List.map_nil,AV.frz,Xcu,Xcv,Nat.add_left_cancel_iff,reduceIte,Nat.reduceEqDiff,s_0,s_s,List.drop_zero]
 have hw1:decide (w<1)=false:=decide_eq_false (by omega)
 repeat' (first|(with_reducible first|refine Vk fun K hK=> ?_|refine V0 ?_|refine Vs ?_)|((with_reducible refine gE ?_);simp (maxSteps:=9^7) only[ss,X1,tab,simprocAttr, -List.reduceReplicate,hw1])|((with_reducible refine Vz ?_);refine Vo rfl rfl rfl (fun _ _=>rfl) ?_<;>first|rfl|skip)|(refine hK _ ?_;clear hK K)|refine Vf rfl ?_)
def X7t (b:List UInt8) (w i:Nat):List UInt8:=(b.drop (w*i)).take w
theorem Ya5 (s:Nat→Option Res) {a b:Nat} (h:a≠b) (r q r' q':Res):Xw (Xw (Xw (Xw s a r) b q) a r') b q'=Xw (Xw s a r') b q':=by
 funext j;unfold Xw
 by_cases h1:j=b
 ·simp [h1]
 ·by_cases h2:j=a
  ·simp [h2]
  ·simp [h1,h2]
theorem Xd4 (l kl ka kb:Nat) (na:kl≠ka) (nb:kl≠kb) (nab:ka≠kb) (P0:Res) (hP:P0≠ .dead) (A B:Nat→Res) (hA:∀i,A i≠ .dead) (hB:∀i,B i≠ .dead) (b:List UInt8) (md:Md) (hb:b.length≤1000000) (w cnt:Nat) (hw1:1≤w) (hw2:w≤1000000)
  (hcnt:b.length≤w*cnt) (hcnt2:∀i,i<cnt→w*i<b.length)
  (hy:∀i,i<cnt→X6t Try.prog l [.sl 1 (Xo (X7t b w i)) .full] [(kl,some P0),(ka,some (A i)),(kb,some (B i))] (.val (.bool true)) [(ka,A (i+1)),(kb,B (i+1))]):
  Xr Try.prog 109 [.fn (.yield l) [],.ref [.sl 1 (Xo b) md],.ref [i64 (w:Int)]] [(kl,some P0),(ka,some (A 0)),(kb,some (B 0))] (.tup []) [(ka,A cnt),(kb,B cnt)]:=by
 refine Kz 0 Try.func109 rfl fun n out _ _ _=> ?_
 simp only[Try.ntmps109,List.length_cons,List.length_nil,List.length_map,List.length_replicate,Xf,Nat.reduceAdd,Nat.reduceSub,List.replicate,List.cons_append,List.nil_append]
 rename_i hneeds hg hz
 obtain⟨hkl,hka,hkb,_⟩:=hneeds
 obtain⟨hkan,hkbn,_⟩:=hg
 have hkln:kl<n:=by
  rcases Nat.lt_or_ge kl n with h|h
  ·exact h
  ·rw[hz kl h] at hkl;cases hkl
 have h00:Xw (Xw out ka (A 0)) kb (B 0)=out:=by rw[Qb hka,Qb hkb]
 refine X9 fun K hK=>Xn Xj [] ?_
 simp (maxSteps:=9^7) only[ss,X1,tab,simprocAttr, -List.reduceReplicate]
 (refine hK _ ?_;clear hK K)
 refine Xe ?_
 refine Xl (fun m (c:Nat)=>[(4,i64 ((w*c:Nat):Int)),(5,.top),(6,.top),(7,.top),(8,.top),(9,.top),(10,.top),(11,.top),(12,.top),(13,.top),(14,.top),(15,.top),(16,.top),(17,.top),(18,.top),(19,.top),(20,.top),(21,.top),(22,.top),(23,.top),(24,.top),(25,.top),(26,.top),(27,.top),(28,.top),(29,.top),(30,.top)]) (fun m c=>[]) (fun c=>Xw (Xw out ka (A c)) kb (B c)) (fun c=>c≤cnt) (fun c=>cnt - c) 0 (Nat.zero_le _) ?_ fun m c hm hc=> ?_
 ·refine X2 ?_ ?_ (by first|rfl|(simp only[h00,Nat.mul_zero,Int.natCast_zero];rfl)|simp only[h00,Nat.mul_zero,Int.natCast_zero]) rfl rfl rfl<;>simp only[X4,sl,h00,Nat.mul_zero,Int.natCast_zero]
 simp only[X4,s_0,s_s]
 by_cases hcc:c<cnt
 ·have h1:=hcnt2 c hcc
  have h1':((w*c:Nat):Int)<(b.length:Int):=by omega
  obtain⟨q,hq⟩:∃q,q=min w (b.length - w*c):=⟨_,rfl⟩
  have e1:(List.take (b.length - w*c) (List.drop (w*c) b)).length=b.length - w*c:=by simp
  have e2:(if b.length - w*c<w then((b.length - w*c:Nat):Int) else(w:Int))=(q:Int):=by rw[hq];split<;>omega
  have e3:(b.drop (w*c)).take q=X7t b w c:=by
   rw[hq,X7t]
   apply List.ext_getElem?
   intro i
   simp only[List.getElem?_take,List.getElem?_drop]
   by_cases h:i<min w (b.length - w*c)
   ·rw[if_pos h,if_pos (by omega)]
   ·rw[if_neg h]
    split
    ·rw[List.getElem?_eq_none (by omega)]
    ·rfl
  have e4:w*c≤w*c+q:=by omega
  have e5:w*c+q≤b.length:=by omega
  repeat' (first|(with_reducible first|refine Vk fun K hK=> ?_|refine V0 ?_|refine Vb ?_|refine Vs ?_|refine Vq (by kernel_rfl) ?_)|((with_reducible refine gE ?_);simp (maxSteps:=9^7) only[ss,X1,tab,simprocAttr, -List.reduceReplicate,X5,h1',P6,Nh,Nat.le_of_lt h1,e1,e2,Yl (n:=w*c) (q:Int) q rfl (by omega),e4,e5,Nat.add_sub_cancel_left,Q1,Q2,e3])|(refine hK _ ?_;clear hK K)|refine Vt rfl ?_)
  refine X6i (hy c hcc) ⟨?_,?_,?_,trivial⟩ ⟨?_,?_,trivial⟩ ?_ ?_
  ·rw[X8 hkln,Zp _ _ nb,Zp _ _ na];exact hkl
  ·rw[X8 hkan,Zp _ _ nab];exact Xt _ _ _
  ·rw[X8 hkbn];exact Xt _ _ _
  ·rw[X7 hkan];trivial
  ·rw[X7 hkbn];trivial
  ·intro x hx
   simp only[List.mem_cons,List.not_mem_nil,or_false] at hx
   rcases hx with rfl|rfl|rfl
   ·exact⟨by rw[X7 hkln];trivial,by simpa using hP⟩
   ·exact⟨by rw[X7 hkan];trivial,by simpa using hA c⟩
   ·exact⟨by rw[X7 hkbn];trivial,by simpa using hB c⟩
  have e6:IntKind.i64.wrap (((w*c:Nat):Int)+(w:Int))=((w*(c+1):Nat):Int):=by rw[Nat.mul_succ,wrap_i64]<;>omega
  simp (maxSteps:=9^7) only[ss,X1,tab,simprocAttr, -List.reduceReplicate,Xa hkan,Xa hkbn,Ya5 out nab]
  (refine hK _ ?_;clear hK K)
  repeat' (first|(with_reducible first|refine V0 ?_|refine Vs ?_)|((with_reducible refine gE ?_);simp (maxSteps:=9^7) only[ss,X1,tab,simprocAttr, -List.reduceReplicate,Bool.not_true,e6])|(refine hK _ ?_;clear hK K)|refine Vf rfl ?_)
  refine⟨c+1,by omega,by omega,?_⟩
  refine Xx [] (fun n_=> ?_) (fun n_=> ?_)<;>simp only[X4,sm]
 ·obtain rfl:c=cnt:=by omega
  have h1':¬((w*c:Nat):Int)<(b.length:Int):=by omega
  repeat' (first|(with_reducible first|refine Vk fun K hK=> ?_|refine V0 ?_)|((with_reducible refine gE ?_);simp (maxSteps:=9^7) only[ss,X1,tab,simprocAttr, -List.reduceReplicate,X5,h1'])|((with_reducible refine Vx ?_);simp only[sb,reduceIte,Nat.reduceEqDiff])|(refine hK _ ?_;clear hK K)|refine Vf rfl ?_|clear hK K)
  exact Xy (.inl rfl) rfl rfl rfl (fun _ _=>rfl)
theorem Ybn (w:BitVec 32):Xr Try.prog 115 [w32 w] [] (w32 (Yar w)) []:=by
 obtain⟨a,ha⟩:∃a:BitVec 32,a=w&&&1:=⟨_,rfl⟩
 have h1:Zr .and .u32 (w.toNat:Int) 1=some (.int .u32 (a.toNat:Int)):=by rw[ha];exact Xbk w 1
 have h2:Zr .shr .u32 (w.toNat:Int) 1=some (.int .u32 ((w>>>1).toNat:Int)):=Xcr w (by decide)
 have h3:Zr .xor .u32 ((w>>>1).toNat:Int) 3988292384=some (.int .u32 (((w>>>1) ^^^ 0xedb88320).toNat:Int)):=Xac (w>>>1) 0xedb88320
 unfold Yar
 by_cases h:w&&&1=1
 ·rw[if_pos h]
  have h4:((a.toNat:Int)==1)=true:=by rw[ha,h];rfl
  refine Xc 0 Try.func115 rfl fun n out _ _=> ?_
  simp only[Try.ntmps115,List.length_cons,List.length_nil,List.length_map,List.length_replicate,Xf,Nat.reduceAdd,Nat.reduceSub,List.replicate,List.cons_append,List.nil_append]
  repeat' (first|(with_reducible first|refine Vk fun K hK=> ?_|refine V0 ?_)|((with_reducible refine gE ?_);simp (maxSteps:=9^7) only[ss,X1,tab,simprocAttr, -List.reduceReplicate,h1,h2,h3,h4])|((with_reducible refine Vz ?_);refine Vo rfl rfl rfl (fun _ _=>rfl) ?_<;>first|rfl|skip)|(refine hK _ ?_;clear hK K)|refine Vt rfl ?_)
 ·rw[if_neg h]
  have h4:((a.toNat:Int)==1)=false:=by
   rw[beq_eq_false_iff_ne,ha]
   exact fun e=>h (BitVec.eq_of_toNat_eq (by have e:(1:BitVec 32).toNat=1:=rfl;omega))
  refine Xc 0 Try.func115 rfl fun n out _ _=> ?_
  simp only[Try.ntmps115,List.length_cons,List.length_nil,List.length_map,List.length_replicate,Xf,Nat.reduceAdd,Nat.reduceSub,List.replicate,List.cons_append,List.nil_append]
  repeat' (first|(with_reducible first|refine Vk fun K hK=> ?_|refine V0 ?_|refine Vs ?_)|((with_reducible refine gE ?_);simp (maxSteps:=9^7) only[ss,X1,tab,simprocAttr, -List.reduceReplicate,h1,h2,h3,h4])|((with_reducible refine Vz ?_);refine Vo rfl rfl rfl (fun _ _=>rfl) ?_<;>first|rfl|skip)|(refine hK _ ?_;clear hK K)|refine Vf rfl ?_)
def Y75 (i:Nat):List (BitVec 32):=(List.range i).map Yas++List.replicate (256 - i) 0
theorem Y7q {i:Nat} (h:i≤256):(Y75 i).length=256:=by
 unfold Y75
 simp only[List.length_append,List.length_map,List.length_range,List.length_replicate];omega
theorem Y8u {i:Nat} (h:i<256):(Y75 i).set i (Yas i)=Y75 (i+1):=by
 unfold Y75
 rw[List.set_append_right _ _ (by simp),List.length_map,List.length_range,Nat.sub_self,show 256 - i=(256 - (i+1))+1 by omega,List.replicate_succ,List.set_cons_zero,List.range_succ,List.map_append,List.append_assoc]
 rfl
theorem Ya6 {k:Nat} (h:k<256):(Y75 256).getD k 0=Yas k:=by
 unfold Y75
 simp [List.getD_eq_getElem?_getD,h]
theorem Y8v:(Y75 0).map w32=List.replicate 256 (.val (.int .u32 0)):=by
 unfold Y75
 simp [w0]
theorem Yay:Xr Try.prog 112 [] [] (.agg ((Y75 256).map w32)) []:=by
 refine Xc 2 Try.func112 rfl fun n out _ _=> ?_
 simp only[Try.ntmps112,List.length_cons,List.length_nil,List.length_map,List.length_replicate,Xf,Nat.reduceAdd,Nat.reduceSub,List.replicate,List.cons_append,List.nil_append]
 repeat' (first|(with_reducible first|refine Vk fun K hK=> ?_|refine V0 ?_)|((with_reducible refine gE ?_);simp (maxSteps:=9^7) only[ss,X1,tab,simprocAttr, -List.reduceReplicate])|(refine hK _ ?_;clear hK K))
 refine Xe ?_
 refine Xz (fun i:Nat=>[(5,i64 (i:Int)),(3,.top),(4,.top),(6,.top),(7,.top),(8,.top),(9,.top),(10,.top),(11,.top),(12,.top),(13,.top),(14,.top),(15,.top),(16,.top),(17,.top),(18,.top),(19,.top)]) (fun i=>[some (.box 162 (List.replicate 256 (.val (.int .u32 0)))),some (.box 162 ((Y75 i).map w32))]) (fun i=>out) (fun i=>i≤256) (fun i=>256 - i) 0 (Nat.zero_le _) ?_ fun i hi=> ?_
 ·refine X2 ?_ ?_ (by first|rfl|(simp only[Y8v];rfl)|simp only[Y8v]) rfl rfl rfl<;>simp only[X4,sl,Y8v]
 simp only[X4,s_0,s_s]
 have hw:=Yl (n:=i) 1 1 rfl (by omega)
 have hl:=Y7q hi
 by_cases hlt:i<256
 ·have hc:IntKind.u32.wrap (i:Int)=((BitVec.ofNat 32 i).toNat:Int):=by rw[Xar,BitVec.toNat_ofNat];omega
  have hlt':(i:Int)<256:=by omega
  have hs:=F7 w32 (Y75 i) i (Yas i) (by omega)
  rw[Y8u hlt] at hs
  repeat' (first|(with_reducible first|refine Vk fun K hK=> ?_|refine V0 ?_|refine Vb ?_|refine Vs ?_)|((with_reducible refine gE ?_);simp (maxSteps:=9^7) only[ss,X1,tab,simprocAttr, -List.reduceReplicate,List.length_map,hlt',hl,hs,hw,hc])|(refine hK _ ?_;clear hK K)|refine Vt rfl ?_)
  refine Xe ?_
  refine Xz (fun j:Nat=>[(5,i64 (i:Int)),(3,i64 (i:Int)),(4,w32 (Y4p (BitVec.ofNat 32 i) j)),(10,i64 (j:Int)),(11,.top),(12,.top),(13,.top),(14,.top),(15,.top)]) (fun j=>[some (.box 162 (List.replicate 256 (.val (.int .u32 0)))),some (.box 162 ((Y75 i).map w32))]) (fun j=>out) (fun j=>j≤8) (fun j=>8 - j) 0 (Nat.zero_le _) ?_ fun j hj=> ?_
  ·refine X2 ?_ ?_ (by first|rfl|(simp only[Y4p];rfl)|simp only[Y4p]) rfl rfl rfl<;>simp only[X4,sl,Y4p]
  simp only[X4,s_0,s_s]
  have hwj:=Yl (n:=j) 1 1 rfl (by omega)
  by_cases hj8:j<8
  ·have hj8':(j:Int)<8:=by omega
   have cs:=Ybn (Y4p (BitVec.ofNat 32 i) j)
   repeat' (first|(with_reducible first|refine Vk fun K hK=> ?_|refine V0 ?_|refine Vr ?_|refine Vs ?_)|((with_reducible first|refine gE ?_|refine gR ?_);simp (maxSteps:=9^7) only[ss,X1,tab,simprocAttr, -List.reduceReplicate,hj8',hwj])|(refine X3 (cs) ?_)|(refine hK _ ?_;clear hK K)|refine Vt rfl ?_|clear hK K)
   refine⟨j+1,by omega,by omega,?_⟩
   refine X2 ?_ ?_ rfl rfl rfl rfl<;>simp only[X4,sl,hj8',decide_true,Y4p]
  ·obtain rfl:j=8:=by omega
   have ht:Y4p (BitVec.ofNat 32 i) 8=Yas i:=rfl
   rw[ht]
   repeat' (first|(with_reducible first|refine Vk fun K hK=> ?_|refine V0 ?_|apply And.intro)|((with_reducible refine gE ?_);simp (maxSteps:=9^7) only[ss,X1,tab,simprocAttr, -List.reduceReplicate,hlt',List.length_map,hl,hs,hw])|((with_reducible refine Vx ?_);simp only[sb,reduceIte,Nat.reduceEqDiff])|(refine hK _ ?_;clear hK K)|refine Vf rfl ?_|clear hK K)
   ·omega
   refine⟨i+1,by omega,by omega,?_⟩
   refine X2 ?_ ?_ rfl rfl rfl rfl<;>simp only[X4,sl,hlt',decide_true]
 ·obtain rfl:i=256:=by omega
  repeat' (first|(with_reducible first|refine Vk fun K hK=> ?_|refine V0 ?_)|((with_reducible refine gE ?_);simp (maxSteps:=9^7) only[ss,X1,tab,simprocAttr, -List.reduceReplicate,List.length_map,hl,X0,E6])|((with_reducible refine Vz ?_);(first|refine Xu (.inr rfl) rfl rfl rfl (fun _ _=>rfl) ok162 (k:=n+0) (off:=0) rfl (Xb _ (by simp)) (X6 _ (Nat.le_refl _) 0) rfl ?_|refine Xu (.inr rfl) rfl rfl rfl (fun _ _=>rfl) ok162 (k:=m+0) (off:=0) rfl (Xb _ (by simp)) (X6 _ hm 0) rfl ?_)<;>first|rfl|exact AV.le.rfl _|(simp only[X4,sl,ti162,List.map_nil,List.length_map,hl,X0,E6];done)|rfl|skip)|((with_reducible refine Vx ?_);simp only[sb,reduceIte,Nat.reduceEqDiff])|(refine hK _ ?_;clear hK K)|refine Vf rfl ?_|clear hK K)
theorem Ybo (s:BitVec 32) (l:List UInt8) (md:Md) (hl:l.length≤1000000):Xr Try.prog 107 [w32 s,.sl 1 (Xo l) md] [] (w32 (~~~ Y9k (~~~ s) l l.length)) []:=by
 have ht:=Y7q (Nat.le_refl 256)
 refine Xc 1 Try.func107 rfl fun n out _ _=> ?_
 simp only[Try.ntmps107,List.length_cons,List.length_nil,List.length_map,List.length_replicate,Xf,Nat.reduceAdd,Nat.reduceSub,List.replicate,List.cons_append,List.nil_append]
 repeat' (first|(with_reducible first|refine Vk fun K hK=> ?_|refine V0 ?_)|((with_reducible first|refine gE ?_|refine gR ?_);simp (maxSteps:=9^7) only[ss,X1,tab,simprocAttr, -List.reduceReplicate,Xdw,X5,X0,List.length_map,ht,E6])|(refine X3 (Yay) ?_)|(refine hK _ ?_;clear hK K))
 refine Xe ?_
 refine Xz (fun i:Nat=>[(6,w32 (Y9k (~~~ s) l i)),(14,i64 (i:Int)),(8,.top),(15,.top),(16,.top),(17,.top),(18,.top),(19,.top),(20,.top),(21,.top),(22,.top),(23,.top),(24,.top),(25,.top),(26,.top),(27,.top)]) (fun i=>[some (.box 162 ((Y75 256).map w32))]) (fun i=>out) (fun i=>i≤l.length) (fun i=>l.length - i) 0 (Nat.zero_le _) ?_ fun i hi=> ?_
 ·refine X2 ?_ ?_ (by first|rfl|(simp only[Y9k,Xdw];rfl)|simp only[Y9k,Xdw]) rfl rfl rfl<;>simp only[X4,sl,Y9k,Xdw]
 simp only[X4,s_0,s_s]
 have hw:=Yl (n:=i) 1 1 rfl (by omega)
 by_cases hlt:i<l.length
 ·have gi:=Xqt l i hlt
  obtain⟨W,hW⟩:∃W,W=Y9k (~~~ s) l i:=⟨_,rfl⟩
  have hS:Y9k (~~~ s) l (i+1)=(W>>>8) ^^^ Yas (UInt8.ofNat W.toNat ^^^ l.getD i 0).toNat:=by rw[hW];rfl
  rw[← hW]
  have h1:Zr .shr .u32 (W.toNat:Int) 8=some (.int .u32 ((W>>>8).toNat:Int)):=Xcr W (by decide)
  have hx:(UInt8.ofNat W.toNat ^^^ l.getD i 0).toNat<256:=UInt8.toNat_lt _
  have hx':((UInt8.ofNat W.toNat ^^^ l.getD i 0).toNat:Int)<256:=by omega
  have hp:=X0z 1 w32 (Y75 256) (UInt8.ofNat W.toNat ^^^ l.getD i 0).toNat 0 (by omega)
  rw[Ya6 hx] at hp
  repeat' (first|(with_reducible first|refine Vk fun K hK=> ?_|refine V0 ?_|refine Vb ?_|refine Vs ?_)|((with_reducible refine gE ?_);simp (maxSteps:=9^7) only[ss,X1,tab,simprocAttr, -List.reduceReplicate,X5,hlt,gi,h1,Y7y,Xc6,List.length_map,ht,hx,hx',hp,Xac,hw])|(refine hK _ ?_;clear hK K)|refine Vt rfl ?_|clear hK K)
  rw[← hS]
  refine⟨i+1,by omega,by omega,?_⟩
  refine X2 ?_ ?_ rfl rfl rfl rfl<;>simp only[X4,sl,X5,hlt,decide_true]
 ·obtain rfl:i=l.length:=by omega
  repeat' (first|(with_reducible first|refine Vk fun K hK=> ?_|refine V0 ?_)|((with_reducible refine gE ?_);simp (maxSteps:=9^7) only[ss,X1,tab,simprocAttr, -List.reduceReplicate,X5,hlt,Xdw])|((with_reducible refine Vz ?_);refine Vo rfl rfl rfl (fun _ _=>rfl) ?_<;>first|rfl|skip)|((with_reducible refine Vx ?_);simp only[sb,reduceIte,Nat.reduceEqDiff])|(refine hK _ ?_;clear hK K)|refine Vf rfl ?_|clear hK K)
theorem Yc0 (l:List UInt8) (md:Md) (hl:l.length≤1000000):Xr Try.prog 93 [.sl 1 (Xo l) md] [] (w32 (Ybj l)) []:=by
 have c:=Ybo 0 l md hl
 rw[w0] at c
 refine Xc 0 Try.func93 rfl fun n out _ _=> ?_
 simp only[Try.ntmps93,List.length_cons,List.length_nil,List.length_map,List.length_replicate,Xf,Nat.reduceAdd,Nat.reduceSub,List.replicate,List.cons_append,List.nil_append]
 repeat' (first|(with_reducible first|refine Vk fun K hK=> ?_|refine V0 ?_)|((with_reducible first|refine gE ?_|refine gR ?_);simp (maxSteps:=9^7) only[ss,X1,tab,simprocAttr, -List.reduceReplicate])|((with_reducible refine Vz ?_);refine Vo rfl rfl rfl (fun _ _=>rfl) ?_<;>first|rfl|skip)|(refine X3 (c) ?_)|(refine hK _ ?_;clear hK K))
end Go.Proofs.Ytjgbbjooeibppaa
