/- The layer of abstract values, joined. -/
import Derived.Test.YtjgbbjooeibppaaZD2
import Derived.Test.YtjgbbjooeibppaaZI2
import Derived.Test.YtjgbbjooeibppaaZE9
import Derived.Test.YtjgbbjooeibppaaZD23
namespace Go.Proofs.Ytjgbbjooeibppaa
set_option linter.unusedVariables false
set_option linter.unusedSimpArgs false
open Go Go.VS Tab
set_option maxHeartbeats 16000000
set_option maxRecDepth 8000
theorem Tf (d:Dsk) (s:Nat) (hm:may d=true) (hs:s=0∨s=16):Xr Try.prog 100 [Y3p d,i64 (s:Int)] [] (Y7l (Y3r d s)) []:=by
 have hS16:=Y7k d s
 have hS128:=Y6o hm hs
 have hSat:=fun i (hi:i<16)=>Yau d s hi
 obtain⟨O,hO⟩:∃O,O=Y3r d s:=⟨_,rfl⟩
 obtain⟨S,hS⟩:∃S,S=Y4q d s:=⟨_,rfl⟩
 unfold Y3r at hO
 rw[← hS] at hO hS16 hS128 hSat
 have hSg:∀i (hi:i<S.length),S[i]=Xkr d ((s+i:Nat):Int):=fun i hi=>by
  rw[← hSat i (by omega)];simp [List.getD_eq_getElem?_getD,hi]
 have cr:∀i (hi:i<S.length),Xr Try.prog 101 [Y3p d,i64 ((s+i:Nat):Int)] [] (bs S[i]) []:=fun i hi=>by
  have c:=Ycm d (s+i) hm (by omega)
  rw[← Y5i hm (by omega),← hSg i hi] at c
  exact c
 rw[show Y3r d s=O from by rw[hO,hS];rfl]
 simp only[Y3p,Xha] at cr
 have h0:0<S.length:=by omega
 have cr0:=cr 0 h0
 rw[Nat.add_zero] at cr0
 have l0:S[0].length=128:=hS128 _ (List.getElem_mem h0)
 have d0:S.getD 0 []=S[0]:=by simp [List.getD_eq_getElem?_getD,h0]
 have g5:=Xqt S[0] 5 (by omega)
 have c2:=Ls (S[0].take 4) .sh (by rw[List.length_take];omega) (by rw[List.length_take];omega)
 have r4:=Dl (l:=S[0].take 4) (by rw[List.length_take];omega)
 unfold Y65 at hO
 rw[d0] at hO
 obtain⟨M,hM⟩:∃M,M=(S[0].getD 5 0).toNat:=⟨_,rfl⟩
 obtain⟨G,hG⟩:∃G,G=Y55 (S[0].take 4):=⟨_,rfl⟩
 rw[← hM,← hG] at hO
 rw[← hG] at r4
 rw[← r4] at c2
 have hGl:=G.isLt
 have c3:=Lf G
 have hM256:M<256:=by rw[hM];exact UInt8.toNat_lt _
 have hc1:IntKind.i64.wrap ((S[0].getD 5 0).toNat:Int)=(M:Int):=by rw[← hM,wrap_i64]<;>omega
 have s4:4≤S[0].length:=by omega
 have none_le:O=none→AV.le (.tup [.agg [.val (.int .u32 0),.sl 0 [] .nil],bool false]) (Y7l O):=fun h=>by
  rw[h]
  simp only[Y7l,rcA,rcC,Option.getD_none,Option.isSome_none,w0,X4,sl]
  exact(Py _ _).2 trivial
 have hbad:(M<1∨16<M∨G=0∨Y3q G≠s)→O=none:=fun h=>by rw[hO,if_pos h]
 by_cases hMb:M<1∨16<M
 ·have hOn:O=none:=hbad (by rcases hMb with h|h;exact .inl h;exact .inr (.inl h))
  by_cases hM1:M<1
  ·have d1:decide ((M:Int)<1)=true:=decide_eq_true (by omega)
   refine Xc 4 Try.func100 rfl fun n out _ _=> ?_
   simp only[Try.ntmps100,List.length_cons,List.length_nil,List.length_map,List.length_replicate,Xf,Nat.reduceAdd,Nat.reduceSub,List.replicate,List.cons_append,List.nil_append]
   repeat' (first|(with_reducible first|refine Vk fun K hK=> ?_|refine V0 ?_|refine Vb ?_|refine Vc ?_|refine Vr ?_|refine Vs ?_|apply And.intro|refine Vq (by kernel_rfl) ?_)|((with_reducible first|refine gE ?_|refine gR ?_);simp (maxSteps:=9^7) only[ss,X1,tab,simprocAttr, -List.reduceReplicate,Y3p,Xha,X5,l0,g5,hc1,d1])|exact Vn|((with_reducible refine Vz ?_);(first|refine Xp (.inr rfl) rfl rfl rfl (fun _ _=>rfl) ok60 (k:=n+1) (off:=0) rfl (Xb _ (by simp)) (X6 _ (Nat.le_refl _) 1) rfl rfl ?_|refine Xp (.inr rfl) rfl rfl rfl (fun _ _=>rfl) ok60 (k:=m+1) (off:=0) rfl (Xb _ (by simp)) (X6 _ hm 1) rfl rfl ?_)<;>first|rfl|exact AV.le.rfl _|(simp only[X4,sl,ti60,List.map_nil,Y3p,Xha,X5,l0,g5,hc1,d1];done)|rfl|skip)|(refine X3 (cr0) ?_)|((with_reducible refine Vg (fun hg=> ?_) (fun hg=> ?_))<;>(try simp only[nb] at hg)<;>simp (maxSteps:=9^7) only[ss,X1,tab,simprocAttr, -List.reduceReplicate,hg,Y3p,Xha,X5,l0,g5,hc1,d1])|((with_reducible refine Vx ?_);simp only[sb,reduceIte,Nat.reduceEqDiff])|(refine hK _ ?_;clear hK K)|refine Vt rfl ?_|refine Vf rfl ?_|refine Vi rfl (fun hg=> ?_) (fun hg=> ?_)|clear hK K)
   exact none_le hOn
  ·have d1:decide ((M:Int)<1)=false:=decide_eq_false (by omega)
   have d2:decide ((M:Int)>16)=true:=decide_eq_true (by omega)
   refine Xc 4 Try.func100 rfl fun n out _ _=> ?_
   simp only[Try.ntmps100,List.length_cons,List.length_nil,List.length_map,List.length_replicate,Xf,Nat.reduceAdd,Nat.reduceSub,List.replicate,List.cons_append,List.nil_append]
   repeat' (first|(with_reducible first|refine Vk fun K hK=> ?_|refine V0 ?_|refine Vb ?_|refine Vc ?_|refine Vr ?_|refine Vs ?_|apply And.intro|refine Vq (by kernel_rfl) ?_)|((with_reducible first|refine gE ?_|refine gR ?_);simp (maxSteps:=9^7) only[ss,X1,tab,simprocAttr, -List.reduceReplicate,Y3p,Xha,X5,l0,g5,hc1,d1,d2])|exact Vn|((with_reducible refine Vz ?_);(first|refine Xp (.inr rfl) rfl rfl rfl (fun _ _=>rfl) ok60 (k:=n+1) (off:=0) rfl (Xb _ (by simp)) (X6 _ (Nat.le_refl _) 1) rfl rfl ?_|refine Xp (.inr rfl) rfl rfl rfl (fun _ _=>rfl) ok60 (k:=m+1) (off:=0) rfl (Xb _ (by simp)) (X6 _ hm 1) rfl rfl ?_)<;>first|rfl|exact AV.le.rfl _|(simp only[X4,sl,ti60,List.map_nil,Y3p,Xha,X5,l0,g5,hc1,d1,d2];done)|rfl|skip)|(refine X3 (cr0) ?_)|((with_reducible refine Vg (fun hg=> ?_) (fun hg=> ?_))<;>(try simp only[nb] at hg)<;>simp (maxSteps:=9^7) only[ss,X1,tab,simprocAttr, -List.reduceReplicate,hg,Y3p,Xha,X5,l0,g5,hc1,d1,d2])|((with_reducible refine Vx ?_);simp only[sb,reduceIte,Nat.reduceEqDiff])|(refine hK _ ?_;clear hK K)|refine Vt rfl ?_|refine Vf rfl ?_|refine Vi rfl (fun hg=> ?_) (fun hg=> ?_)|clear hK K)
   exact none_le hOn
 have hM1:1≤M:=by omega
 have hM16:M≤16:=by omega
 have d1:decide ((M:Int)<1)=false:=decide_eq_false (by omega)
 have d2:decide ((M:Int)>16)=false:=decide_eq_false (by omega)
 have hal:∀i,i≤M→(Y9l S i).length=118*i:=fun i hi=>Y5f hS128 (by omega)
 refine Xc 4 Try.func100 rfl fun n out _ _=> ?_
 simp only[Try.ntmps100,List.length_cons,List.length_nil,List.length_map,List.length_replicate,Xf,Nat.reduceAdd,Nat.reduceSub,List.replicate,List.cons_append,List.nil_append]
 repeat' (first|(with_reducible first|refine Vk fun K hK=> ?_|refine V0 ?_|refine Vb ?_|refine Vc ?_|refine Vr ?_|refine Vs ?_|apply And.intro|refine Vq (by kernel_rfl) ?_)|((with_reducible first|refine gE ?_|refine gR ?_);simp (maxSteps:=9^7) only[ss,X1,tab,simprocAttr, -List.reduceReplicate,Y3p,Xha,X5,l0,g5,hc1,d1,d2])|exact Vn|((with_reducible refine Vz ?_);(first|refine Xp (.inr rfl) rfl rfl rfl (fun _ _=>rfl) ok60 (k:=n+1) (off:=0) rfl (Xb _ (by simp)) (X6 _ (Nat.le_refl _) 1) rfl rfl ?_|refine Xp (.inr rfl) rfl rfl rfl (fun _ _=>rfl) ok60 (k:=m+1) (off:=0) rfl (Xb _ (by simp)) (X6 _ hm 1) rfl rfl ?_)<;>first|rfl|exact AV.le.rfl _|(simp only[X4,sl,ti60,List.map_nil,Y3p,Xha,X5,l0,g5,hc1,d1,d2];done)|rfl|skip)|(refine X3 (cr0) ?_)|((with_reducible refine Vg (fun hg=> ?_) (fun hg=> ?_))<;>(try simp only[nb] at hg)<;>simp (maxSteps:=9^7) only[ss,X1,tab,simprocAttr, -List.reduceReplicate,hg,Y3p,Xha,X5,l0,g5,hc1,d1,d2])|((with_reducible refine Vx ?_);simp only[sb,reduceIte,Nat.reduceEqDiff])|(refine hK _ ?_;clear hK K)|refine Vt rfl ?_|refine Vf rfl ?_|refine Vi rfl (fun hg=> ?_) (fun hg=> ?_)|clear hK K)
 refine Yy (Q9 (i:=3) 5 1 rfl) ?_
 simp only[s_0,s_s]
 refine Xe ?_
 refine Xz (fun i:Nat=>[(8,.sl 1 (Xo (Y9l S i)) (.own (n+3))),(9,i64 (i:Int)),(10,.top),(29,.top),(30,.top),(31,.top),(32,.top),(33,.top),(34,.top),(35,.top),(36,.top),(37,.top),(38,.top),(39,.top),(40,.top),(41,.top),(42,.top)]) (fun i=>[some (.box 43 (Xha d)),some (.box 60 [.val (.int .u32 0),.sl 0 [] .nil]),none,some (.row 5 1 (118*i))]) (fun i=>out) (fun i=>i≤M) (fun i=>M - i) 0 (Nat.zero_le _) ?_ fun i hi=> ?_
 ·refine X2 ?_ ?_ (by first|rfl|(simp only[Xha,Y8l,Wb,Nat.mul_zero];rfl)|simp only[Xha,Y8l,Wb,Nat.mul_zero]) rfl rfl rfl<;>simp only[X4,sl,Xha,Y8l,Wb,Nat.mul_zero]
 simp only[X4,s_0,s_s]
 have hw:=Yl (n:=i) 1 1 rfl (by omega)
 by_cases hlt:i<M
 ·have hlt':(i:Int)<(M:Int):=by omega
  have hiS:i<S.length:=by omega
  have c1:=cr i hiS
  have hws:=Yl (n:=s) (i:Int) i rfl (by omega)
  have li:S[i].length=128:=hS128 _ (List.getElem_mem (by omega))
  have hali:=hal i (by omega)
  have lS:(List.take 118 (List.drop 6 S[i])).length=118:=by rw[List.length_take,List.length_drop];omega
  have y1:118*i+118≤140737488355328:=by omega
  have y2:118*i+118≤9223372036854775807:=by omega
  have sn:Xo (Y9l S i)++Xo ((S[i].drop 6).take 118)=Xo (Y9l S (i+1)):=by
   rw[L6,← Y8m S (by omega)]
  repeat' (first|(with_reducible first|refine Vk fun K hK=> ?_|refine V0 ?_|refine Vb ?_|refine Vc ?_|refine Vr ?_|refine Vs ?_|apply And.intro|refine Vq (by kernel_rfl) ?_)|((with_reducible first|refine gE ?_|refine gR ?_);simp (maxSteps:=9^7) only[ss,X1,tab,simprocAttr, -List.reduceReplicate,Xha,hlt',hws,X5,li,lS,P6,Nh,Q2,Q1,Int.reduceToNat,Nat.reduceSub,hali,y1,y2,sn,hw])|exact Vn|((with_reducible refine Vz ?_);(first|refine Xp (.inr rfl) rfl rfl rfl (fun _ _=>rfl) ok60 (k:=n+1) (off:=0) rfl (Xb _ (by simp)) (X6 _ (Nat.le_refl _) 1) rfl rfl ?_|refine Xp (.inr rfl) rfl rfl rfl (fun _ _=>rfl) ok60 (k:=m+1) (off:=0) rfl (Xb _ (by simp)) (X6 _ hm 1) rfl rfl ?_)<;>first|rfl|exact AV.le.rfl _|(simp only[X4,sl,ti60,List.map_nil,Xha,hlt',hws,X5,li,lS,P6,Nh,Q2,Q1,Int.reduceToNat,Nat.reduceSub,hali,y1,y2,sn,hw];done)|rfl|skip)|(refine X3 (c1) ?_)|((with_reducible refine Vg (fun hg=> ?_) (fun hg=> ?_))<;>(try simp only[nb] at hg)<;>simp (maxSteps:=9^7) only[ss,X1,tab,simprocAttr, -List.reduceReplicate,hg,Xha,hlt',hws,X5,li,lS,P6,Nh,Q2,Q1,Int.reduceToNat,Nat.reduceSub,hali,y1,y2,sn,hw])|((with_reducible refine Vx ?_);simp only[sb,reduceIte,Nat.reduceEqDiff])|(refine hK _ ?_;clear hK K)|refine Vt rfl ?_|refine Vf rfl ?_|refine Vi rfl (fun hg=> ?_) (fun hg=> ?_)|clear hK K)
  refine⟨i+1,by omega,by omega,?_⟩
  refine X2 ?_ ?_ rfl rfl rfl rfl<;>simp only[X4,sl,Xha,hlt',decide_true,Nat.mul_succ]
 ·obtain rfl:i=M:=by omega
  have hlt':¬(i:Int)<(i:Int):=by omega
  have hA:=hal i (Nat.le_refl _)
  obtain⟨A,hAA⟩:∃A,A=Y9l S i:=⟨_,rfl⟩
  obtain⟨sz,hsz⟩:∃sz,sz=(Y55 ((A.drop 4).take 2)).toNat:=⟨_,rfl⟩
  have hO':O=if G=0∨Y3q G≠s then none else if A.length - 6<sz then none else if Y3v ⟨G,(A.drop 6).take sz⟩=S.take i then some ⟨G,(A.drop 6).take sz⟩ else none:=by
   rw[hO,hsz,hAA]
   by_cases hg:G=0∨Y3q G≠s
   ·rw[if_pos (.inr (.inr hg)),if_pos hg]
   ·rw[if_neg (by rintro(h|h|h);omega;omega;exact hg h),if_neg hg];rfl
  clear hO
  rw[← hAA] at hA⊢
  have hl2:((A.drop 4).take 2).length=2:=by rw[List.length_take,List.length_drop];omega
  have c4:=fun md=>Ls ((A.drop 4).take 2) md (by omega) (by omega)
  rw[← Yda hl2,← hsz] at c4
  have hsz32:sz<4294967296:=by rw[hsz];exact BitVec.isLt _
  have hsub:=X25 (n:=A.length) 6 6 rfl (by omega) (by omega)
  have b1:4≤A.length:=by omega
  have b2:6≤A.length:=by omega
  by_cases hbig:A.length - 6<sz
  ·have hOn:O=none:=by
    rw[hO',if_pos hbig]
    by_cases hg:G=0∨Y3q G≠s
    ·rw[if_pos hg]
    ·rw[if_neg hg]
   have hgt:decide ((sz:Int)>((A.length - 6:Nat):Int))=true:=decide_eq_true (by omega)
   repeat' (first|(with_reducible first|refine Vk fun K hK=> ?_|refine V0 ?_|refine Vb ?_|refine Vc ?_|refine Vr ?_|refine Vs ?_|apply And.intro|refine Vq (by kernel_rfl) ?_)|((with_reducible first|refine gE ?_|refine gR ?_);simp (maxSteps:=9^7) only[ss,X1,tab,simprocAttr, -List.reduceReplicate,Xha,hlt',X5,Q2,Q1,P6,Nh,Int.reduceToNat,Nat.reduceSub,hsub,hgt,hbig,decide_true,decide_false,b1,b2,s4])|exact Vn|((with_reducible refine Vz ?_);(first|refine Xp (.inr rfl) rfl rfl rfl (fun _ _=>rfl) ok60 (k:=n+1) (off:=0) rfl (Xb _ (by simp)) (X6 _ (Nat.le_refl _) 1) rfl rfl ?_|refine Xp (.inr rfl) rfl rfl rfl (fun _ _=>rfl) ok60 (k:=m+1) (off:=0) rfl (Xb _ (by simp)) (X6 _ hm 1) rfl rfl ?_)<;>first|rfl|exact AV.le.rfl _|(simp only[X4,sl,ti60,List.map_nil,Xha,hlt',X5,Q2,Q1,P6,Nh,Int.reduceToNat,Nat.reduceSub,hsub,hgt,hbig,decide_true,decide_false,b1,b2,s4];done)|rfl|skip)|(refine X3 (c4 _) ?_)|((with_reducible refine Vg (fun hg=> ?_) (fun hg=> ?_))<;>(try simp only[nb] at hg)<;>simp (maxSteps:=9^7) only[ss,X1,tab,simprocAttr, -List.reduceReplicate,hg,Xha,hlt',X5,Q2,Q1,P6,Nh,Int.reduceToNat,Nat.reduceSub,hsub,hgt,hbig,decide_true,decide_false,b1,b2,s4])|((with_reducible refine Vx ?_);simp only[sb,reduceIte,Nat.reduceEqDiff])|(refine hK _ ?_;clear hK K)|refine Vt rfl ?_|refine Vf rfl ?_|refine Vi rfl (fun hg=> ?_) (fun hg=> ?_)|clear hK K)
   exact none_le hOn
  ·have hgt:decide ((sz:Int)>((A.length - 6:Nat):Int))=false:=decide_eq_false (by omega)
   rw[if_neg hbig] at hO'
   have hadd:IntKind.i64.wrap (6+(sz:Int))=((6+sz:Nat):Int):=by rw[wrap_i64]<;>omega
   obtain⟨T,hT⟩:∃T,T=(A.drop 6).take sz:=⟨_,rfl⟩
   have hTl:T.length≤1882:=by rw[hT,List.length_take,List.length_drop];omega
   have hTb:T.length≤140737488355328:=by omega
   have hTc:T.length≤9223372036854775807:=by omega
   rw[← hT] at hO'
   have hG32:IntKind.u32.wrap (G.toNat:Int)=(G.toNat:Int):=by rw[Xar];omega
   have e6:6+sz≤A.length:=by omega
   have e7:6≤6+sz:=by omega
   have l4:(S[0].take 4).length=4:=by rw[List.length_take];omega
   have ex:=hT
   by_cases hG0:G=0
   ·have hg:=(Y57 G).trans (decide_eq_true hG0)
    have hOn:O=none:=by rw[hO',if_pos (.inl hG0)]
    repeat' (first|(with_reducible first|refine Vk fun K hK=> ?_|refine V0 ?_|refine Vb ?_|refine Vc ?_|refine Vr ?_|refine Vs ?_|apply And.intro|refine Vd 14 [] [[],[],[],[],[],[],[],[],[],[],[2],[2]] [[],[],[],[],[],[],[],[],[],[],[2],[2]] (by kernel_rfl) (by decide) (by decide) (by kernel_rfl) ?_|refine Vq (by kernel_rfl) ?_)|((with_reducible first|refine gE ?_|refine gR ?_|refine gD ?_|refine gF ?_);simp (maxSteps:=9^7) only[ss,X1,tab,simprocAttr, -List.reduceReplicate,Xha,hlt',X5,l0,Q2,Q1,P6,Nh,Int.reduceToNat,Nat.reduceSub,Nat.sub_zero,hsub,hgt,hbig,decide_true,decide_false,b1,b2,s4,hG32,hadd,e6,e7,Nat.add_sub_cancel_left,← hT,hTb,hTc,hg])|exact Vn|((with_reducible refine Vz ?_);(first|refine Xp (.inr rfl) rfl rfl rfl (fun _ _=>rfl) ok60 (k:=n+1) (off:=0) rfl (Xb _ (by simp)) (X6 _ (Nat.le_refl _) 1) rfl rfl ?_|refine Xp (.inr rfl) rfl rfl rfl (fun _ _=>rfl) ok60 (k:=m+1) (off:=0) rfl (Xb _ (by simp)) (X6 _ hm 1) rfl rfl ?_)<;>first|rfl|exact AV.le.rfl _|(simp only[X4,sl,ti60,List.map_nil,Xha,hlt',X5,l0,Q2,Q1,P6,Nh,Int.reduceToNat,Nat.reduceSub,Nat.sub_zero,hsub,hgt,hbig,decide_true,decide_false,b1,b2,s4,hG32,hadd,e6,e7,Nat.add_sub_cancel_left,← hT,hTb,hTc,hg];done)|rfl|skip)|(refine X3 (c4 _) ?_)|(refine X3 (c2) ?_)|((with_reducible refine Vg (fun hg=> ?_) (fun hg=> ?_))<;>(try simp only[nb] at hg)<;>simp (maxSteps:=9^7) only[ss,X1,tab,simprocAttr, -List.reduceReplicate,hg,Xha,hlt',X5,l0,Q2,Q1,P6,Nh,Int.reduceToNat,Nat.reduceSub,Nat.sub_zero,hsub,hgt,hbig,decide_true,decide_false,b1,b2,s4,hG32,hadd,e6,e7,Nat.add_sub_cancel_left,← hT,hTb,hTc])|((with_reducible refine Vx ?_);simp only[sb,reduceIte,Nat.reduceEqDiff])|(refine hK _ ?_;clear hK K)|refine Vt rfl ?_|refine Vf rfl ?_|refine Vi rfl (fun hg=> ?_) (fun hg=> ?_)|clear hK K)
    all_goals exact none_le hOn
   have hg:=(Y57 G).trans (decide_eq_false hG0)
   by_cases hGs:Y3q G≠s
   ·have hns:((Y3q G:Int) !=(s:Int))=true:=by simp;omega
    have hOn:O=none:=by rw[hO',if_pos (.inr hGs)]
    repeat' (first|(with_reducible first|refine Vk fun K hK=> ?_|refine V0 ?_|refine Vb ?_|refine Vc ?_|refine Vr ?_|refine Vs ?_|apply And.intro|refine Vd 14 [] [[],[],[],[],[],[],[],[],[],[],[2],[2]] [[],[],[],[],[],[],[],[],[],[],[2],[2]] (by kernel_rfl) (by decide) (by decide) (by kernel_rfl) ?_|refine Vq (by kernel_rfl) ?_)|((with_reducible first|refine gE ?_|refine gR ?_|refine gD ?_|refine gF ?_);simp (maxSteps:=9^7) only[ss,X1,tab,simprocAttr, -List.reduceReplicate,Xha,hlt',X5,l0,Q2,Q1,P6,Nh,Int.reduceToNat,Nat.reduceSub,Nat.sub_zero,hsub,hgt,hbig,decide_true,decide_false,b1,b2,s4,hG32,hadd,e6,e7,Nat.add_sub_cancel_left,← hT,hTb,hTc,hg,hns])|exact Vn|((with_reducible refine Vz ?_);(first|refine Xp (.inr rfl) rfl rfl rfl (fun _ _=>rfl) ok60 (k:=n+1) (off:=0) rfl (Xb _ (by simp)) (X6 _ (Nat.le_refl _) 1) rfl rfl ?_|refine Xp (.inr rfl) rfl rfl rfl (fun _ _=>rfl) ok60 (k:=m+1) (off:=0) rfl (Xb _ (by simp)) (X6 _ hm 1) rfl rfl ?_)<;>first|rfl|exact AV.le.rfl _|(simp only[X4,sl,ti60,List.map_nil,Xha,hlt',X5,l0,Q2,Q1,P6,Nh,Int.reduceToNat,Nat.reduceSub,Nat.sub_zero,hsub,hgt,hbig,decide_true,decide_false,b1,b2,s4,hG32,hadd,e6,e7,Nat.add_sub_cancel_left,← hT,hTb,hTc,hg,hns];done)|rfl|skip)|(refine X3 (c4 _) ?_)|(refine X3 (c2) ?_)|(refine X3 (c3) ?_)|((with_reducible refine Vg (fun hg=> ?_) (fun hg=> ?_))<;>(try simp only[nb] at hg)<;>simp (maxSteps:=9^7) only[ss,X1,tab,simprocAttr, -List.reduceReplicate,hg,Xha,hlt',X5,l0,Q2,Q1,P6,Nh,Int.reduceToNat,Nat.reduceSub,Nat.sub_zero,hsub,hgt,hbig,decide_true,decide_false,b1,b2,s4,hG32,hadd,e6,e7,Nat.add_sub_cancel_left,← hT,hTb,hTc,hns])|((with_reducible refine Vx ?_);simp only[sb,reduceIte,Nat.reduceEqDiff])|(refine hK _ ?_;clear hK K)|refine Vt rfl ?_|refine Vf rfl ?_|refine Vi rfl (fun hg=> ?_) (fun hg=> ?_)|clear hK K)
    all_goals exact none_le hOn
   have hns:((Y3q G:Int) !=(s:Int))=false:=by
    have:Y3q G=s:=by simpa using hGs
    simp;omega
   rw[if_neg (by rintro(h|h);exact hG0 h;exact hGs h)] at hO'
   obtain⟨R,hR⟩:∃R:Rc,R=⟨G,T⟩:=⟨_,rfl⟩
   rw[← hR] at hO'
   have hRl:(Y3v R).length=Y3n R:=Y3t R
   have key:Y3v R=S.take i↔Y3n R=i∧∀k (hk:k<S.length),k<i→Xgh R k=S[k]:=by
    constructor
    ·intro h
     have hl:=congrArg List.length h
     rw[hRl,List.length_take] at hl
     refine⟨by omega,fun k hk hki=> ?_⟩
     rw[← Y5v R (by omega),h]
     simp [List.getD_eq_getElem?_getD,hki,hk]
    ·rintro⟨h1,h2⟩
     refine List.ext_getElem (by rw[hRl,List.length_take];omega) fun k h3 h4=> ?_
     rw[List.getElem_take,← h2 k (by omega) (by omega),← Y5v R (by omega)]
     simp [List.getD_eq_getElem?_getD,h3]
   have hRt:R.text=T:=by rw[hR]
   have hRm:=Y48 (r:=R) (by rw[hRt];exact hTl)
   have c5:=Wl R (by rw[hRt];exact hTl)
   have hcR:rcA R= .agg [w32 G,bs T]:=by rw[hR];rfl
   rw[hcR] at c5
   by_cases hMN:Y3n R≠i
   ·have hOn:O=none:=by rw[hO',if_neg fun h=>hMN (key.1 h).1]
    have hmn:((Y3n R:Int) !=(i:Int))=true:=by simp;omega
    repeat' (first|(with_reducible first|refine Vk fun K hK=> ?_|refine V0 ?_|refine Vb ?_|refine Vc ?_|refine Vr ?_|refine Vs ?_|apply And.intro|refine Vd 14 [] [[],[],[],[],[],[],[],[],[],[],[2],[2]] [[],[],[],[],[],[],[],[],[],[],[2],[2]] (by kernel_rfl) (by decide) (by decide) (by kernel_rfl) ?_|refine Vq (by kernel_rfl) ?_)|((with_reducible first|refine gE ?_|refine gR ?_|refine gD ?_|refine gF ?_);simp (maxSteps:=9^7) only[ss,X1,tab,simprocAttr, -List.reduceReplicate,Xha,hlt',X5,l0,Q2,Q1,P6,Nh,Int.reduceToNat,Nat.reduceSub,Nat.sub_zero,hsub,hgt,hbig,decide_true,decide_false,b1,b2,s4,hG32,hadd,e6,e7,Nat.add_sub_cancel_left,← hT,hTb,hTc,hg,hns,List.length_map,hRl,hmn])|exact Vn|((with_reducible refine Vz ?_);(first|refine Xp (.inr rfl) rfl rfl rfl (fun _ _=>rfl) ok60 (k:=n+1) (off:=0) rfl (Xb _ (by simp)) (X6 _ (Nat.le_refl _) 1) rfl rfl ?_|refine Xp (.inr rfl) rfl rfl rfl (fun _ _=>rfl) ok60 (k:=m+1) (off:=0) rfl (Xb _ (by simp)) (X6 _ hm 1) rfl rfl ?_)<;>first|rfl|exact AV.le.rfl _|(simp only[X4,sl,ti60,List.map_nil,Xha,hlt',X5,l0,Q2,Q1,P6,Nh,Int.reduceToNat,Nat.reduceSub,Nat.sub_zero,hsub,hgt,hbig,decide_true,decide_false,b1,b2,s4,hG32,hadd,e6,e7,Nat.add_sub_cancel_left,← hT,hTb,hTc,hg,hns,List.length_map,hRl,hmn];done)|rfl|skip)|(refine X3 (c4 _) ?_)|(refine X3 (c2) ?_)|(refine X3 (c3) ?_)|(refine X3 (c5) ?_)|((with_reducible refine Vg (fun hg=> ?_) (fun hg=> ?_))<;>(try simp only[nb] at hg)<;>simp (maxSteps:=9^7) only[ss,X1,tab,simprocAttr, -List.reduceReplicate,hg,Xha,hlt',X5,l0,Q2,Q1,P6,Nh,Int.reduceToNat,Nat.reduceSub,Nat.sub_zero,hsub,hgt,hbig,decide_true,decide_false,b1,b2,s4,hG32,hadd,e6,e7,Nat.add_sub_cancel_left,← hT,hTb,hTc,hns,List.length_map,hRl,hmn])|((with_reducible refine Vx ?_);simp only[sb,reduceIte,Nat.reduceEqDiff])|(refine hK _ ?_;clear hK K)|refine Vt rfl ?_|refine Vf rfl ?_|refine Vi rfl (fun hg=> ?_) (fun hg=> ?_)|clear hK K)
    all_goals exact none_le hOn
   have hMN:Y3n R=i:=by omega
   have hmn:((Y3n R:Int) !=(i:Int))=false:=by simp;omega
   repeat' (first|(with_reducible first|refine Vk fun K hK=> ?_|refine V0 ?_|refine Vb ?_|refine Vc ?_|refine Vr ?_|refine Vs ?_|apply And.intro|refine Vd 14 [] [[],[],[],[],[],[],[],[],[],[],[2],[2]] [[],[],[],[],[],[],[],[],[],[],[2],[2]] (by kernel_rfl) (by decide) (by decide) (by kernel_rfl) ?_|refine Vq (by kernel_rfl) ?_)|((with_reducible first|refine gE ?_|refine gR ?_|refine gD ?_|refine gF ?_);simp (maxSteps:=9^7) only[ss,X1,tab,simprocAttr, -List.reduceReplicate,Xha,hlt',X5,l0,Q2,Q1,P6,Nh,Int.reduceToNat,Nat.reduceSub,Nat.sub_zero,hsub,hgt,hbig,decide_true,decide_false,b1,b2,s4,hG32,hadd,e6,e7,Nat.add_sub_cancel_left,← hT,hTb,hTc,hg,hns,List.length_map,hRl,hmn])|exact Vn|((with_reducible refine Vz ?_);(first|refine Xp (.inr rfl) rfl rfl rfl (fun _ _=>rfl) ok60 (k:=n+1) (off:=0) rfl (Xb _ (by simp)) (X6 _ (Nat.le_refl _) 1) rfl rfl ?_|refine Xp (.inr rfl) rfl rfl rfl (fun _ _=>rfl) ok60 (k:=m+1) (off:=0) rfl (Xb _ (by simp)) (X6 _ hm 1) rfl rfl ?_)<;>first|rfl|exact AV.le.rfl _|(simp only[X4,sl,ti60,List.map_nil,Xha,hlt',X5,l0,Q2,Q1,P6,Nh,Int.reduceToNat,Nat.reduceSub,Nat.sub_zero,hsub,hgt,hbig,decide_true,decide_false,b1,b2,s4,hG32,hadd,e6,e7,Nat.add_sub_cancel_left,← hT,hTb,hTc,hg,hns,List.length_map,hRl,hmn];done)|rfl|skip)|(refine X3 (c4 _) ?_)|(refine X3 (c2) ?_)|(refine X3 (c3) ?_)|(refine X3 (c5) ?_)|((with_reducible refine Vg (fun hg=> ?_) (fun hg=> ?_))<;>(try simp only[nb] at hg)<;>simp (maxSteps:=9^7) only[ss,X1,tab,simprocAttr, -List.reduceReplicate,hg,Xha,hlt',X5,l0,Q2,Q1,P6,Nh,Int.reduceToNat,Nat.reduceSub,Nat.sub_zero,hsub,hgt,hbig,decide_true,decide_false,b1,b2,s4,hG32,hadd,e6,e7,Nat.add_sub_cancel_left,← hT,hTb,hTc,hns,List.length_map,hRl,hmn])|((with_reducible refine Vx ?_);simp only[sb,reduceIte,Nat.reduceEqDiff])|(refine hK _ ?_;clear hK K)|refine Vt rfl ?_|refine Vf rfl ?_|refine Vi rfl (fun hg=> ?_) (fun hg=> ?_)|clear hK K)
   refine Xe ?_
   refine Xz (fun j:Nat=>[(14,i64 (j:Int)),(5,.top),(80,.top),(81,.top),(82,.top),(83,.top),(84,.top),(85,.top),(86,.top),(87,.top),(88,.top),(89,.top),(90,.top),(91,.top),(92,.top),(93,.top),(94,.top),(95,.top),(96,.top),(97,.top)]) (fun j=>[some (.box 43 (Xha d)),some (.box 60 [.val (.int .u32 0),.sl 0 [] .nil]),some (.box 60 [w32 G,bs T]),some (.row 5 1 (118*i))]) (fun j=>out) (fun j=>j≤i∧(∀k (hk:k<S.length),k<j→Xgh R k=S[k])) (fun j=>i - j) 0 ⟨Nat.zero_le _,by intros;omega⟩ ?_ fun j hj=> ?_
   ·refine X2 ?_ ?_ (by first|rfl|(simp only[Xha];rfl)|simp only[Xha]) rfl rfl rfl<;>simp only[X4,sl,Xha]
   obtain⟨hj,hq⟩:=hj
   simp only[X4,s_0,s_s]
   have hw2:=Yl (n:=j) 1 1 rfl (by omega)
   by_cases hjt:j<i
   ·have hjt':(j:Int)<(i:Int):=by omega
    have hjS:j<S.length:=by omega
    have cj:=cr j hjS
    have hws:=Yl (n:=s) (j:Int) j rfl (by omega)
    have gi:=Xg Y6 (Y3v R) j [] (by omega)
    have gs:(Y3v R)[j]'(by omega)=Xgh R j:=by
     rw[← Y5v R (by omega)];simp [List.getD_eq_getElem?_getD,hRl,hMN,hjt]
    rw[gs] at gi
    have hjR:j<Y3n R:=by omega
    by_cases he:Xgh R j=S[j]
    ·have hb:(Xgh R j==S[j])=true:=beq_iff_eq.2 he
     repeat' (first|(with_reducible first|refine Vk fun K hK=> ?_|refine V0 ?_|refine Vb ?_|refine Vc ?_|refine Vr ?_|refine Vs ?_|apply And.intro|refine Vd 23 [] [[],[],[],[],[],[0],[],[],[],[],[],[]] [[],[],[],[],[],[],[],[],[],[],[],[]] (by kernel_rfl) (by decide) (by decide) (by kernel_rfl) ?_|refine Vq (by kernel_rfl) ?_)|((with_reducible first|refine gE ?_|refine gR ?_|refine gD ?_|refine gF ?_);simp (maxSteps:=9^7) only[ss,X1,tab,simprocAttr, -List.reduceReplicate,Xha,hjt',hws,List.length_map,hRl,hjR,gi,Y6,Ya,Z5,hb,Bool.not_true,hw2])|exact Vn|((with_reducible refine Vz ?_);(first|refine Xp (.inr rfl) rfl rfl rfl (fun _ _=>rfl) ok60 (k:=n+1) (off:=0) rfl (Xb _ (by simp)) (X6 _ (Nat.le_refl _) 1) rfl rfl ?_|refine Xp (.inr rfl) rfl rfl rfl (fun _ _=>rfl) ok60 (k:=m+1) (off:=0) rfl (Xb _ (by simp)) (X6 _ hm 1) rfl rfl ?_)<;>first|rfl|exact AV.le.rfl _|(simp only[X4,sl,ti60,List.map_nil,Xha,hjt',hws,List.length_map,hRl,hjR,gi,Y6,Ya,Z5,hb,Bool.not_true,hw2];done)|rfl|skip)|(refine X3 (cj) ?_)|((with_reducible refine Vg (fun hg=> ?_) (fun hg=> ?_))<;>(try simp only[nb] at hg)<;>simp (maxSteps:=9^7) only[ss,X1,tab,simprocAttr, -List.reduceReplicate,hg,Xha,hjt',hws,List.length_map,hRl,hjR,gi,Y6,Ya,Z5,hb,Bool.not_true,hw2])|((with_reducible refine Vx ?_);simp only[sb,reduceIte,Nat.reduceEqDiff])|(refine hK _ ?_;clear hK K)|refine Vt rfl ?_|refine Vf rfl ?_|refine Vi rfl (fun hg=> ?_) (fun hg=> ?_)|clear hK K)
     refine⟨j+1,⟨by omega,fun k hk hkj=> ?_⟩,by omega,?_⟩
     ·by_cases e:k=j
      ·subst e;exact he
      ·exact hq k hk (by omega)
     refine X2 ?_ ?_ rfl rfl rfl rfl<;>simp only[X4,sl,Xha,hjt',decide_true]
    ·have hb:(Xgh R j==S[j])=false:=beq_eq_false_iff_ne.2 he
     have hOn:O=none:=by rw[hO',if_neg fun h=>he ((key.1 h).2 j hjS hjt)]
     repeat' (first|(with_reducible first|refine Vk fun K hK=> ?_|refine V0 ?_|refine Vb ?_|refine Vc ?_|refine Vr ?_|refine Vs ?_|apply And.intro|refine Vd 23 [] [[],[],[],[],[],[0],[],[],[],[],[],[]] [[],[],[],[],[],[],[],[],[],[],[],[]] (by kernel_rfl) (by decide) (by decide) (by kernel_rfl) ?_|refine Vq (by kernel_rfl) ?_)|((with_reducible first|refine gE ?_|refine gR ?_|refine gD ?_|refine gF ?_);simp (maxSteps:=9^7) only[ss,X1,tab,simprocAttr, -List.reduceReplicate,Xha,hjt',hws,List.length_map,hRl,hjR,gi,Y6,Ya,Z5,hb,Bool.not_false,hw2])|exact Vn|((with_reducible refine Vz ?_);(first|refine Xp (.inr rfl) rfl rfl rfl (fun _ _=>rfl) ok60 (k:=n+1) (off:=0) rfl (Xb _ (by simp)) (X6 _ (Nat.le_refl _) 1) rfl rfl ?_|refine Xp (.inr rfl) rfl rfl rfl (fun _ _=>rfl) ok60 (k:=m+1) (off:=0) rfl (Xb _ (by simp)) (X6 _ hm 1) rfl rfl ?_)<;>first|rfl|exact AV.le.rfl _|(simp only[X4,sl,ti60,List.map_nil,Xha,hjt',hws,List.length_map,hRl,hjR,gi,Y6,Ya,Z5,hb,Bool.not_false,hw2];done)|rfl|skip)|(refine X3 (cj) ?_)|((with_reducible refine Vg (fun hg=> ?_) (fun hg=> ?_))<;>(try simp only[nb] at hg)<;>simp (maxSteps:=9^7) only[ss,X1,tab,simprocAttr, -List.reduceReplicate,hg,Xha,hjt',hws,List.length_map,hRl,hjR,gi,Y6,Ya,Z5,hb,Bool.not_false,hw2])|((with_reducible refine Vx ?_);simp only[sb,reduceIte,Nat.reduceEqDiff])|(refine hK _ ?_;clear hK K)|refine Vt rfl ?_|refine Vf rfl ?_|refine Vi rfl (fun hg=> ?_) (fun hg=> ?_)|clear hK K)
     all_goals exact none_le hOn
   ·obtain rfl:j=i:=by omega
    have hjt':¬(j:Int)<(j:Int):=by omega
    have hOs:O=some R:=by rw[hO',if_pos (key.2 ⟨hMN,hq⟩)]
    have hwA:Y7l (some R)= .tup [.agg [w32 G,bs T],bool true]:=by rw[hR];rfl
    repeat' (first|(with_reducible first|refine Vk fun K hK=> ?_|refine V0 ?_|refine Vb ?_|refine Vc ?_|refine Vr ?_|refine Vs ?_|apply And.intro|refine Vq (by kernel_rfl) ?_)|((with_reducible first|refine gE ?_|refine gR ?_);simp (maxSteps:=9^7) only[ss,X1,tab,simprocAttr, -List.reduceReplicate,Xha,hjt'])|exact Vn|((with_reducible refine Vz ?_);(first|refine Xp (.inr rfl) rfl rfl rfl (fun _ _=>rfl) ok60 (k:=n+1) (off:=0) rfl (Xb _ (by simp)) (X6 _ (Nat.le_refl _) 1) rfl rfl ?_|refine Xp (.inr rfl) rfl rfl rfl (fun _ _=>rfl) ok60 (k:=m+1) (off:=0) rfl (Xb _ (by simp)) (X6 _ hm 1) rfl rfl ?_)<;>first|rfl|exact AV.le.rfl _|(simp only[X4,sl,ti60,List.map_nil,Xha,hjt'];done)|rfl|skip)|((with_reducible refine Vg (fun hg=> ?_) (fun hg=> ?_))<;>(try simp only[nb] at hg)<;>simp (maxSteps:=9^7) only[ss,X1,tab,simprocAttr, -List.reduceReplicate,hg,Xha,hjt'])|((with_reducible refine Vx ?_);simp only[sb,reduceIte,Nat.reduceEqDiff])|(refine hK _ ?_;clear hK K)|refine Vt rfl ?_|refine Vf rfl ?_|refine Vi rfl (fun hg=> ?_) (fun hg=> ?_)|clear hK K)
    rw[hOs,hwA]
    exact AV.le.rfl _
end Go.Proofs.Ytjgbbjooeibppaa
