/- The layer of abstract values, joined. -/
import Derived.Test.YtjgbbjooeibppaaZD2
import Derived.Test.YtjgbbjooeibppaaZI0
import Derived.Test.YtjgbbjooeibppaaZE6
namespace Go.Proofs.Ytjgbbjooeibppaa
set_option linter.unusedVariables false
set_option linter.unusedSimpArgs false
open Go Go.VS Tab
set_option maxHeartbeats 4000000
set_option maxRecDepth 4000
theorem A4 (w:BitVec 32):Zr .quo .u32 (w.toNat:Int) 2=some (.int .u32 ((w>>>1).toNat:Int)):=by
 have h:(w.toNat:Int).tdiv 2=((w.toNat / 2:Nat):Int):=rfl
 have hw:=w.isLt
 rw[X7l _ _ (by decide),h,BitVec.toNat_ushiftRight,Nat.shiftRight_eq_div_pow,Xar]
 congr 2
 omega
theorem Ycs (w:BitVec 32):Xr Try.prog 116 [w32 w] [] (w32 (Yar w)) []:=by
 have h1:=A4 w
 have h2:Zr .rem .u32 (w.toNat:Int) 2=some (.int .u32 ((w.toNat % 2:Nat):Int)):=by rw[X5a _ _ (by decide)];rfl
 have h3:Zr .xor .u32 ((w>>>1).toNat:Int) 3988292384=some (.int .u32 (((w>>>1) ^^^ 0xedb88320).toNat:Int)):=Xac (w>>>1) 0xedb88320
 have h5:(w&&&1).toNat=w.toNat % 2:=by rw[BitVec.toNat_and];exact Nat.and_one_is_mod _
 unfold Yar
 by_cases h:w&&&1=1
 ·rw[if_pos h]
  have h4:(((w.toNat % 2:Nat):Int)==1)=true:=by rw[← h5,h];rfl
  refine Xc 0 Try.func116 rfl fun n out _ _=> ?_
  simp only[Try.ntmps116,List.length_cons,List.length_nil,List.length_map,List.length_replicate,Xf,Nat.reduceAdd,Nat.reduceSub,List.replicate,List.cons_append,List.nil_append]
  repeat' (first|(with_reducible first|refine Vk fun K hK=> ?_|refine V0 ?_|refine Vs ?_|apply And.intro)|((with_reducible first|refine gE ?_|refine gR ?_);simp (maxSteps:=9^7) only[ss,X1,tab,simprocAttr, -List.reduceReplicate,h1,h2,h3,h4])|exact Vn|((with_reducible refine Vz ?_);refine Vo rfl rfl rfl (fun _ _=>rfl) ?_<;>first|rfl|skip)|(refine hK _ ?_;clear hK K)|refine Vt rfl ?_|refine Vf rfl ?_|refine Vi rfl (fun hg=> ?_) (fun hg=> ?_)|clear hK K)
 ·rw[if_neg h]
  have h4:(((w.toNat % 2:Nat):Int)==1)=false:=by
   rw[beq_eq_false_iff_ne,← h5]
   exact fun e=>h (BitVec.eq_of_toNat_eq (by have e:(1:BitVec 32).toNat=1:=rfl;omega))
  refine Xc 0 Try.func116 rfl fun n out _ _=> ?_
  simp only[Try.ntmps116,List.length_cons,List.length_nil,List.length_map,List.length_replicate,Xf,Nat.reduceAdd,Nat.reduceSub,List.replicate,List.cons_append,List.nil_append]
  repeat' (first|(with_reducible first|refine Vk fun K hK=> ?_|refine V0 ?_|refine Vs ?_|apply And.intro)|((with_reducible first|refine gE ?_|refine gR ?_);simp (maxSteps:=9^7) only[ss,X1,tab,simprocAttr, -List.reduceReplicate,h1,h2,h3,h4])|exact Vn|((with_reducible refine Vz ?_);refine Vo rfl rfl rfl (fun _ _=>rfl) ?_<;>first|rfl|skip)|(refine hK _ ?_;clear hK K)|refine Vt rfl ?_|refine Vf rfl ?_|refine Vi rfl (fun hg=> ?_) (fun hg=> ?_)|clear hK K)
theorem T0 (s:BitVec 32):IntKind.u32.wrap (4294967295 - (s.toNat:Int))=((~~~ s).toNat:Int):=by
 have:=s.isLt
 rw[BitVec.toNat_not,show(4294967295:Int) - (s.toNat:Int)=((4294967295 - s.toNat:Nat):Int) by omega,Xar]
 omega
theorem Yct (s:BitVec 32) (l:List UInt8) (md:Md) (hl:l.length≤1000000):Xr Try.prog 113 [w32 s,.sl 1 (Xo l) md] [] (w32 (~~~ Y9k (~~~ s) l l.length)) []:=by
 refine Xc 0 Try.func113 rfl fun n out _ _=> ?_
 simp only[Try.ntmps113,List.length_cons,List.length_nil,List.length_map,List.length_replicate,Xf,Nat.reduceAdd,Nat.reduceSub,List.replicate,List.cons_append,List.nil_append]
 repeat' (first|(with_reducible first|refine Vk fun K hK=> ?_|refine V0 ?_|refine Vb ?_|refine Vc ?_|refine Vr ?_|refine Vs ?_|apply And.intro)|((with_reducible first|refine gE ?_|refine gR ?_);simp (maxSteps:=9^7) only[ss,X1,tab,simprocAttr, -List.reduceReplicate,T0])|exact Vn|((with_reducible refine Vz ?_);refine Vo rfl rfl rfl (fun _ _=>rfl) ?_<;>first|rfl|skip)|((with_reducible refine Vx ?_);simp only[sb,reduceIte,Nat.reduceEqDiff])|(refine hK _ ?_;clear hK K)|refine Vt rfl ?_|refine Vf rfl ?_|refine Vi rfl (fun hg=> ?_) (fun hg=> ?_)|clear hK K)
 refine Xe ?_
 refine Xz (fun i:Nat=>[(5,w32 (Y9k (~~~ s) l i)),(6,i64 (i:Int)),(7,.top),(10,.top),(11,.top),(12,.top),(13,.top),(14,.top),(15,.top),(16,.top),(17,.top),(18,.top),(19,.top),(20,.top),(21,.top),(22,.top),(23,.top),(24,.top),(25,.top),(26,.top),(27,.top),(28,.top)]) (fun i=>[]) (fun i=>out) (fun i=>i≤l.length) (fun i=>l.length - i) 0 (Nat.zero_le _) ?_ fun i hi=> ?_
 ·refine X2 ?_ ?_ (by first|rfl|(simp only[Y9k];rfl)|simp only[Y9k]) rfl rfl rfl<;>simp only[X4,sl,Y9k]
 simp only[X4,s_0,s_s]
 have hw:=Yl (n:=i) 1 1 rfl (by omega)
 by_cases hlt:i<l.length
 ·have gi:=Xqt l i hlt
  obtain⟨W,hW⟩:∃W,W=Y9k (~~~ s) l i:=⟨_,rfl⟩
  obtain⟨x,hx⟩:∃x,x=l.getD i 0:=⟨_,rfl⟩
  have hS:Y9k (~~~ s) l (i+1)=Y4p (W ^^^ BitVec.ofNat 32 x.toNat) 8:=by rw[D0,hW,hx];rfl
  rw[← hW]
  rw[← hx] at gi
  obtain⟨X,hX⟩:∃X,X=W ^^^ BitVec.ofNat 32 x.toNat:=⟨_,rfl⟩
  have hx2:Zr .xor .u32 (W.toNat:Int) ((BitVec.ofNat 32 x.toNat).toNat:Int)=some (.int .u32 (X.toNat:Int)):=by rw[hX];exact Xac _ _
  rw[← hX] at hS
  repeat' (first|(with_reducible first|refine Vk fun K hK=> ?_|refine V0 ?_|refine Vb ?_|refine Vc ?_|refine Vr ?_|refine Vs ?_|apply And.intro)|((with_reducible first|refine gE ?_|refine gR ?_);simp (maxSteps:=9^7) only[ss,X1,tab,simprocAttr, -List.reduceReplicate,X5,hlt,gi,Xd9,hx2])|exact Vn|((with_reducible refine Vz ?_);refine Vo rfl rfl rfl (fun _ _=>rfl) ?_<;>first|rfl|skip)|((with_reducible refine Vx ?_);simp only[sb,reduceIte,Nat.reduceEqDiff])|(refine hK _ ?_;clear hK K)|refine Vt rfl ?_|refine Vf rfl ?_|refine Vi rfl (fun hg=> ?_) (fun hg=> ?_)|clear hK K)
  refine Xe ?_
  refine Xz (fun k:Nat=>[(5,w32 (Y4p X k)),(7,i64 (k:Int)),(23,.top),(24,.top),(25,.top),(26,.top),(27,.top),(28,.top)]) (fun k=>[]) (fun k=>out) (fun k=>k≤8) (fun k=>8 - k) 0 (Nat.zero_le _) ?_ fun k hk=> ?_
  ·refine X2 ?_ ?_ (by first|rfl|(simp only[Y4p];rfl)|simp only[Y4p]) rfl rfl rfl<;>simp only[X4,sl,Y4p]
  simp only[X4,s_0,s_s]
  have hwk:=Yl (n:=k) 1 1 rfl (by omega)
  by_cases hk8:k<8
  ·have hk8':(k:Int)<8:=by omega
   have cs:=Ycs (Y4p X k)
   repeat' (first|(with_reducible first|refine Vk fun K hK=> ?_|refine V0 ?_|refine Vb ?_|refine Vc ?_|refine Vr ?_|refine Vs ?_|apply And.intro)|((with_reducible first|refine gE ?_|refine gR ?_);simp (maxSteps:=9^7) only[ss,X1,tab,simprocAttr, -List.reduceReplicate,hk8',hwk])|exact Vn|((with_reducible refine Vz ?_);refine Vo rfl rfl rfl (fun _ _=>rfl) ?_<;>first|rfl|skip)|(refine X3 (cs) ?_)|((with_reducible refine Vx ?_);simp only[sb,reduceIte,Nat.reduceEqDiff])|(refine hK _ ?_;clear hK K)|refine Vt rfl ?_|refine Vf rfl ?_|refine Vi rfl (fun hg=> ?_) (fun hg=> ?_)|clear hK K)
   refine⟨k+1,by omega,by omega,?_⟩
   refine X2 ?_ ?_ rfl rfl rfl rfl<;>simp only[X4,sl,hk8',decide_true,Y4p]
  ·obtain rfl:k=8:=by omega
   rw[← hS]
   repeat' (first|(with_reducible first|refine Vk fun K hK=> ?_|refine V0 ?_|refine Vb ?_|refine Vc ?_|refine Vr ?_|refine Vs ?_|apply And.intro)|((with_reducible first|refine gE ?_|refine gR ?_);simp (maxSteps:=9^7) only[ss,X1,tab,simprocAttr, -List.reduceReplicate,X5,hlt,hw])|exact Vn|((with_reducible refine Vz ?_);refine Vo rfl rfl rfl (fun _ _=>rfl) ?_<;>first|rfl|skip)|((with_reducible refine Vx ?_);simp only[sb,reduceIte,Nat.reduceEqDiff])|(refine hK _ ?_;clear hK K)|refine Vt rfl ?_|refine Vf rfl ?_|refine Vi rfl (fun hg=> ?_) (fun hg=> ?_)|clear hK K)
   refine⟨i+1,by omega,by omega,?_⟩
   refine X2 ?_ ?_ rfl rfl rfl rfl<;>simp only[X4,sl,X5,hlt,decide_true]
 ·obtain rfl:i=l.length:=by omega
  repeat' (first|(with_reducible first|refine Vk fun K hK=> ?_|refine V0 ?_|refine Vb ?_|refine Vc ?_|refine Vr ?_|refine Vs ?_|apply And.intro)|((with_reducible first|refine gE ?_|refine gR ?_);simp (maxSteps:=9^7) only[ss,X1,tab,simprocAttr, -List.reduceReplicate,X5,hlt,T0])|exact Vn|((with_reducible refine Vz ?_);refine Vo rfl rfl rfl (fun _ _=>rfl) ?_<;>first|rfl|skip)|((with_reducible refine Vx ?_);simp only[sb,reduceIte,Nat.reduceEqDiff])|(refine hK _ ?_;clear hK K)|refine Vt rfl ?_|refine Vf rfl ?_|refine Vi rfl (fun hg=> ?_) (fun hg=> ?_)|clear hK K)
theorem Ydl (l:List UInt8) (md:Md) (hl:l.length≤1000000):Xr Try.prog 110 [.sl 1 (Xo l) md] [] (w32 (Ybj l)) []:=by
 have c:=Yct 0 l md hl
 rw[w0] at c
 refine Xc 0 Try.func110 rfl fun n out _ _=> ?_
 simp only[Try.ntmps110,List.length_cons,List.length_nil,List.length_map,List.length_replicate,Xf,Nat.reduceAdd,Nat.reduceSub,List.replicate,List.cons_append,List.nil_append]
 repeat' (first|(with_reducible first|refine Vk fun K hK=> ?_|refine V0 ?_|refine Vs ?_|apply And.intro)|((with_reducible first|refine gE ?_|refine gR ?_);simp (maxSteps:=9^7) only[ss,X1,tab,simprocAttr, -List.reduceReplicate])|exact Vn|((with_reducible refine Vz ?_);refine Vo rfl rfl rfl (fun _ _=>rfl) ?_<;>first|rfl|skip)|(refine X3 (c) ?_)|(refine hK _ ?_;clear hK K)|clear hK K)
theorem Lf (g:BitVec 32):Xr Try.prog 30 [w32 g] [] (i64 (Y3q g:Nat)) []:=by
 have h1:Zr .rem .u32 (g.toNat:Int) 2=some (.int .u32 ((g.toNat % 2:Nat):Int)):=by rw[X5a _ _ (by decide)];rfl
 have h2:IntKind.i64.wrap ((g.toNat % 2:Nat):Int)=((g.toNat % 2:Nat):Int):=by rw[wrap_i64]<;>omega
 have h3:IntKind.i64.wrap (16*((g.toNat % 2:Nat):Int))=(Y3q g:Int):=by
  unfold Y3q
  rw[wrap_i64]<;>omega
 refine Xc 0 Try.func30 rfl fun n out _ _=> ?_
 simp only[Try.ntmps30,List.length_cons,List.length_nil,List.length_map,List.length_replicate,Xf,Nat.reduceAdd,Nat.reduceSub,List.replicate,List.cons_append,List.nil_append]
 repeat' (first|(with_reducible first|refine Vk fun K hK=> ?_|refine V0 ?_|refine Vs ?_|apply And.intro)|((with_reducible first|refine gE ?_|refine gR ?_);simp (maxSteps:=9^7) only[ss,X1,tab,simprocAttr, -List.reduceReplicate,h1,h2,h3])|exact Vn|((with_reducible refine Vz ?_);refine Vo rfl rfl rfl (fun _ _=>rfl) ?_<;>first|rfl|skip)|(refine hK _ ?_;clear hK K)|clear hK K)
theorem X7n (v:Int) (σ:AState) (K:AV→List (Nat×Res)→Prop):X1 tab σ K none 44 1 [(0,.val (.int .u8 v))]=K (.sl 1 [[.val (.int .u8 v)]] .full) []:=Yk (T:=tab) (ti:=ti44) (te:=ti5) rfl rfl rfl (by decide) (by decide) rfl rfl
theorem Lg (k:Nat) (w:BitVec 32) (c:Nat) (hc:c≤8):Xr Try.prog 98 [i64 (w.toNat:Int),i64 (c:Int)] [(k,none)] (.sl 1 (Xo (Y40 w c)) (.own k)) [(k,.row 5 1 c)]:=by
 refine Xc 0 Try.func98 rfl fun n out _ _=> ?_
 simp only[Try.ntmps98,List.length_cons,List.length_nil,List.length_map,List.length_replicate,Xf,Nat.reduceAdd,Nat.reduceSub,List.replicate,List.cons_append,List.nil_append]
 rename_i hneeds hgv
 obtain⟨hk,_⟩:=hneeds
 obtain⟨hkn,_⟩:=hgv
 refine Yy (X3x (k:=k) 5 1 (by rw[X7 hkn];trivial) (by rw[X8 hkn];exact hk)) ?_
 rw[X79 hkn]
 repeat' (first|(with_reducible first|refine Vk fun K hK=> ?_|refine V0 ?_|refine Vb ?_|refine Vc ?_|refine Vr ?_|refine Vs ?_|apply And.intro)|((with_reducible first|refine gE ?_|refine gR ?_);simp (maxSteps:=9^7) only[ss,X1,tab,simprocAttr, -List.reduceReplicate])|exact Vn|((with_reducible refine Vz ?_);refine Vo rfl rfl rfl (fun _ _=>rfl) ?_<;>first|rfl|skip)|((with_reducible refine Vx ?_);simp only[sb,reduceIte,Nat.reduceEqDiff])|(refine hK _ ?_;clear hK K)|refine Vt rfl ?_|refine Vf rfl ?_|refine Vi rfl (fun hg=> ?_) (fun hg=> ?_)|clear hK K)
 refine Xe ?_
 refine Xz (fun i:Nat=>[(0,i64 ((w>>>(8*i)).toNat:Int)),(5,.sl 1 (Xo ((Y40 w c).take i)) (.own k)),(6,i64 (i:Int)),(7,.top),(8,.top),(9,.top),(10,.top),(11,.top),(12,.top),(13,.top),(14,.top),(15,.top),(16,.top),(17,.top),(18,.top),(19,.top)]) (fun i=>[]) (fun i=>Xw out k (.row 5 1 i)) (fun i=>i≤c) (fun i=>c - i) 0 (Nat.zero_le _) ?_ fun i hi=> ?_
 ·refine X2 ?_ ?_ (by first|rfl|(simp only[Nat.mul_zero,BitVec.ushiftRight_zero,List.take_zero,Wb];rfl)|simp only[Nat.mul_zero,BitVec.ushiftRight_zero,List.take_zero,Wb]) rfl rfl rfl<;>simp only[X4,sl,Nat.mul_zero,BitVec.ushiftRight_zero,List.take_zero,Wb]
 simp only[X4,s_0,s_s]
 have hw:=Yl (n:=i) 1 1 rfl (by omega)
 have hpl:=Y3i c w
 by_cases hlt:i<c
 ·have hlt':(i:Int)<(c:Int):=by omega
  obtain⟨v,hv⟩:∃v,v=w>>>(8*i):=⟨_,rfl⟩
  have hv2:w>>>(8*(i+1))=v>>>8:=by rw[hv,← BitVec.shiftRight_add,Nat.mul_succ]
  have hvl:=v.isLt
  have q1:Zr .rem .i64 (v.toNat:Int) 256=some (.int .i64 ((v.toNat % 256:Nat):Int)):=by rw[X5a _ _ (by decide)];rfl
  have q2:IntKind.u8.wrap ((v.toNat % 256:Nat):Int)=((UInt8.ofNat v.toNat).toNat:Int):=by rw[UInt8.toNat_ofNat',Se (by omega) (by omega)]
  have q3:Zr .quo .i64 (v.toNat:Int) 256=some (.int .i64 ((v>>>8).toNat:Int)):=by
   rw[X7l _ _ (by decide),show(v.toNat:Int).tdiv 256=((v.toNat / 256:Nat):Int) from rfl,wrap_i64 (by omega) (by omega),BitVec.toNat_ushiftRight,Nat.shiftRight_eq_div_pow]
  have e1:Xo ((Y40 w c).take i)++[[b8 (UInt8.ofNat v.toNat)]]=Xo ((Y40 w c).take (i+1)):=by
   rw[List.take_succ_eq_append_getElem (by omega),Y7p,← hv];exact Xah _ _
  have tl:((Y40 w c).take i).length=i:=by rw[List.length_take];omega
  have y1:i+1≤140737488355328:=by omega
  have y2:i+1≤9223372036854775807:=by omega
  rw[← hv]
  repeat' (first|(with_reducible first|refine Vk fun K hK=> ?_|refine V0 ?_|refine Vb ?_|refine Vc ?_|refine Vr ?_|refine Vs ?_|apply And.intro)|((with_reducible first|refine gE ?_|refine gR ?_);simp (maxSteps:=9^7) only[ss,tab,simprocAttr, -List.reduceReplicate,X7n,X8 hkn,X7 hkn,Cz hkn,Xt,Jp,hlt',q1,q2,q3,X5,tl,y1,y2,e1,hw])|exact Vn|((with_reducible refine Vz ?_);refine Vo rfl rfl rfl (fun _ _=>rfl) ?_<;>first|rfl|skip)|((with_reducible refine Vx ?_);simp only[sb,reduceIte,Nat.reduceEqDiff])|(refine hK _ ?_;clear hK K)|refine Vt rfl ?_|refine Vf rfl ?_|refine Vi rfl (fun hg=> ?_) (fun hg=> ?_)|clear hK K)
  refine⟨i+1,by omega,by omega,?_⟩
  rw[hv2]
  refine X2 ?_ ?_ rfl rfl rfl rfl<;>simp only[X4,sl,hlt',decide_true]
 ·obtain rfl:i=c:=by omega
  rw[List.take_of_length_le (by omega)]
  repeat' (first|(with_reducible first|refine Vk fun K hK=> ?_|refine V0 ?_|refine Vb ?_|refine Vc ?_|refine Vr ?_|refine Vs ?_|apply And.intro)|((with_reducible first|refine gE ?_|refine gR ?_);simp (maxSteps:=9^7) only[ss,X1,tab,simprocAttr, -List.reduceReplicate,hlt])|exact Vn|((with_reducible refine Vz ?_);refine Vo rfl rfl rfl (fun _ _=>rfl) ?_<;>first|rfl|skip)|((with_reducible refine Vx ?_);simp only[sb,reduceIte,Nat.reduceEqDiff])|(refine hK _ ?_;clear hK K)|refine Vt rfl ?_|refine Vf rfl ?_|refine Vi rfl (fun hg=> ?_) (fun hg=> ?_)|clear hK K)
theorem Ls (l:List UInt8) (md:Md) (hl:l.length≤4) (h0:1≤l.length):Xr Try.prog 102 [.sl 1 (Xo l) md] [] (i64 (Zs l:Nat)) []:=by
 have hs:=X25 (n:=l.length) 1 1 rfl (by omega) (by omega)
 have bd:∀i,Zs (l.drop i)≤4294967296:=fun i=>by
  have h1:=Zl (l.drop i)
  have h2:256 ^ (l.drop i).length≤256 ^ 4:=Nat.pow_le_pow_right (by decide) (by rw[List.length_drop];omega)
  omega
 refine Xc 0 Try.func102 rfl fun n out _ _=> ?_
 simp only[Try.ntmps102,List.length_cons,List.length_nil,List.length_map,List.length_replicate,Xf,Nat.reduceAdd,Nat.reduceSub,List.replicate,List.cons_append,List.nil_append]
 repeat' (first|(with_reducible first|refine Vk fun K hK=> ?_|refine V0 ?_|refine Vb ?_|refine Vc ?_|refine Vr ?_|refine Vs ?_|apply And.intro)|((with_reducible first|refine gE ?_|refine gR ?_);simp (maxSteps:=9^7) only[ss,X1,tab,simprocAttr, -List.reduceReplicate,X5,hs])|exact Vn|((with_reducible refine Vz ?_);refine Vo rfl rfl rfl (fun _ _=>rfl) ?_<;>first|rfl|skip)|((with_reducible refine Vx ?_);simp only[sb,reduceIte,Nat.reduceEqDiff])|(refine hK _ ?_;clear hK K)|refine Vt rfl ?_|refine Vf rfl ?_|refine Vi rfl (fun hg=> ?_) (fun hg=> ?_)|clear hK K)
 refine Xe ?_
 refine Xz (fun i:Nat=>[(3,i64 (Zs (l.drop (l.length - i)):Nat)),(4,i64 (((l.length - i:Nat):Int) - 1)),(8,.top),(9,.top),(10,.top),(11,.top),(12,.top),(13,.top),(14,.top),(15,.top),(16,.top),(17,.top),(18,.top),(19,.top)]) (fun i=>[]) (fun i=>out) (fun i=>i≤l.length) (fun i=>l.length - i) 0 (Nat.zero_le _) ?_ fun i hi=> ?_
 ·refine X2 ?_ ?_ (by first|rfl|(simp only[Nat.sub_zero,List.drop_length,Zs,show((l.length - 1:Nat):Int)=(l.length:Int) - 1 by omega];rfl)|simp only[Nat.sub_zero,List.drop_length,Zs,show((l.length - 1:Nat):Int)=(l.length:Int) - 1 by omega]) rfl rfl rfl<;>simp only[X4,sl,Nat.sub_zero,List.drop_length,Zs,show((l.length - 1:Nat):Int)=(l.length:Int) - 1 by omega]
 simp only[X4,s_0,s_s]
 by_cases hlt:i<l.length
 ·obtain⟨j,hj⟩:∃j,l.length - i=j+1:=⟨l.length - i - 1,by omega⟩
  have hjl:j<l.length:=by omega
  have hj0:(0:Int)≤(j:Int):=by omega
  have gi:=Xqt l j hjl
  have hg:=Dm l hjl
  have ge:l[j]=l.getD j 0:=by simp [List.getD_eq_getElem?_getD,hjl]
  rw[ge] at hg
  have hb:=bd (j+1)
  generalize l.getD j 0=x at gi hg
  have hx:=x.toNat_lt
  have e1:i64 (((l.length - i:Nat):Int) - 1)=i64 (j:Int):=by rw[hj];congr 2;omega
  have e2:l.length - (i+1)=j:=by omega
  rw[e1,hj]
  generalize Zs (l.drop (j+1))=G at*
  have a1:IntKind.i64.wrap (256*(G:Int))=((256*G:Nat):Int):=by rw[wrap_i64]<;>omega
  have a2:IntKind.i64.wrap (x.toNat:Int)=(x.toNat:Int):=by rw[wrap_i64]<;>omega
  have a3:IntKind.i64.wrap (((256*G:Nat):Int)+(x.toNat:Int))=((Zs (l.drop j):Nat):Int):=by rw[hg,wrap_i64]<;>omega
  have a4:IntKind.i64.wrap ((j:Int) - 1)=(j:Int) - 1:=by rw[wrap_i64]<;>omega
  repeat' (first|(with_reducible first|refine Vk fun K hK=> ?_|refine V0 ?_|refine Vb ?_|refine Vc ?_|refine Vr ?_|refine Vs ?_|apply And.intro)|((with_reducible first|refine gE ?_|refine gR ?_);simp (maxSteps:=9^7) only[ss,X1,tab,simprocAttr, -List.reduceReplicate,X5,ge_iff_le,hj0,decide_true,hjl,gi,a1,a2,a3,a4])|exact Vn|((with_reducible refine Vz ?_);refine Vo rfl rfl rfl (fun _ _=>rfl) ?_<;>first|rfl|skip)|((with_reducible refine Vx ?_);simp only[sb,reduceIte,Nat.reduceEqDiff])|(refine hK _ ?_;clear hK K)|refine Vt rfl ?_|refine Vf rfl ?_|refine Vi rfl (fun hg=> ?_) (fun hg=> ?_)|clear hK K)
  refine⟨i+1,by omega,by omega,?_⟩
  rw[e2]
  refine X2 ?_ ?_ rfl rfl rfl rfl<;>simp only[X4,sl,ge_iff_le,hj0,decide_true]
 ·obtain rfl:i=l.length:=by omega
  have e1:i64 (((l.length - l.length:Nat):Int) - 1)=i64 (-1):=by rw[Nat.sub_self];rfl
  have e2:¬(0:Int)≤ -1:=by decide
  rw[e1,Nat.sub_self,List.drop_zero]
  repeat' (first|(with_reducible first|refine Vk fun K hK=> ?_|refine V0 ?_|refine Vb ?_|refine Vc ?_|refine Vr ?_|refine Vs ?_|apply And.intro)|((with_reducible first|refine gE ?_|refine gR ?_);simp (maxSteps:=9^7) only[ss,X1,tab,simprocAttr, -List.reduceReplicate,ge_iff_le,e2,decide_false])|exact Vn|((with_reducible refine Vz ?_);refine Vo rfl rfl rfl (fun _ _=>rfl) ?_<;>first|rfl|skip)|((with_reducible refine Vx ?_);simp only[sb,reduceIte,Nat.reduceEqDiff])|(refine hK _ ?_;clear hK K)|refine Vt rfl ?_|refine Vf rfl ?_|refine Vi rfl (fun hg=> ?_) (fun hg=> ?_)|clear hK K)
end Go.Proofs.Ytjgbbjooeibppaa
