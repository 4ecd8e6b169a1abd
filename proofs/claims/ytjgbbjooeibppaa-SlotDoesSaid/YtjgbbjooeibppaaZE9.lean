/- The layer of abstract values, joined. -/
import Derived.Test.YtjgbbjooeibppaaZD2
import Derived.Test.YtjgbbjooeibppaaZE8
namespace Go.Proofs.Ytjgbbjooeibppaa
set_option linter.unusedVariables false
set_option linter.unusedSimpArgs false
open Go Go.VS Tab
set_option maxHeartbeats 16000000
set_option maxRecDepth 8000
theorem Xkz:∀(l m:List (List UInt8)),Fv (fun a b=>a==b) l m=(l==m)
 |[],[]=>rfl
 |x::l,y::m=>by rw[Fv,Xkz l m];rfl
 |[],_:: _=>rfl
 | _:: _,[]=>rfl
def Y9l (S:List (List UInt8)) (i:Nat):List UInt8:=(S.take i).flatMap fun b=>(b.drop 6).take 118
theorem Y8l (S:List (List UInt8)):Y9l S 0=[]:=by unfold Y9l;simp
theorem Y8m (S:List (List UInt8)) {i:Nat} (h:i<S.length):Y9l S (i+1)=Y9l S i++(S[i].drop 6).take 118:=by
 unfold Y9l
 rw[List.take_succ_eq_append_getElem h,List.flatMap_append]
 simp
def Y7l (o:Option Rc):AV:= .tup [rcA (o.getD ⟨0,[]⟩),bool o.isSome]
theorem Y5j (d:Dsk) (s:Nat) (hm:may d=true) (hs:s=0∨s=16):Xr Try.prog 72 [Y3p d,i64 (s:Int)] [] (Y7l (Y3r d s)) []:=by
 have hsm:=Y3x hm
 have cr:=fun i (hi:i<16)=>Xea d ((s+i:Nat):Int) hsm.s hsm.w
 have er:∀i,i<16→Xau d ((s+i:Nat):Int)=0:=fun i hi=>Xju.2 ⟨hm,by omega,by omega⟩
 have hS16:=Y7k d s
 have hS128:=Y6o hm hs
 have hSat:=fun i (hi:i<16)=>Yau d s hi
 obtain⟨O,hO⟩:∃O,O=Y3r d s:=⟨_,rfl⟩
 obtain⟨S,hS⟩:∃S,S=Y4q d s:=⟨_,rfl⟩
 unfold Y3r at hO
 rw[← hS] at hO hS16 hS128 hSat
 have hSg:∀i (hi:i<S.length),S[i]=Xkr d ((s+i:Nat):Int):=fun i hi=>by
  rw[← hSat i (by omega)];simp [List.getD_eq_getElem?_getD,hi]
 rw[show Y3r d s=O from by rw[hO,hS];rfl]
 simp only[Y3p,Xha] at cr
 refine Xc 4 Try.func72 rfl fun n out _ _=> ?_
 simp only[Try.ntmps72,List.length_cons,List.length_nil,List.length_map,List.length_replicate,Xf,Nat.reduceAdd,Nat.reduceSub,List.replicate,List.cons_append,List.nil_append]
 repeat' (first|(with_reducible first|refine Vk fun K hK=> ?_|refine V0 ?_)|((with_reducible refine gE ?_);simp (maxSteps:=9^7) only[ss,X1,tab,simprocAttr, -List.reduceReplicate,Y3p,Xha])|(refine hK _ ?_;clear hK K))
 refine Yy (Q9 (i:=2) 44 1 rfl) ?_
 refine Yy (Q9 (i:=3) 5 1 rfl) ?_
 simp only[s_0,s_s]
 refine Xe ?_
 refine Xz (fun i:Nat=>[(15,i64 (i:Int)),(6,.sl 1 ((S.take i).map Y6) (.own (n+2))),(7,.top),(8,.top),(9,.top),(16,.top),(17,.top),(18,.top),(19,.top),(20,.top),(21,.top),(22,.top),(23,.top),(24,.top),(25,.top),(26,.top),(27,.top),(28,.top),(29,.top),(30,.top)]) (fun i=>[some (.box 43 (Xha d)),some (.box 60 [.val (.int .u32 0),.sl 0 [] .nil]),some (.row 44 1 i),some (.row 5 1 0)]) (fun i=>out) (fun i=>i≤16) (fun i=>16 - i) 0 (Nat.zero_le _) ?_ fun i hi=> ?_
 ·refine X2 ?_ ?_ (by first|rfl|(simp only[Xha,List.take_zero,List.map_nil];rfl)|simp only[Xha,List.take_zero,List.map_nil]) rfl rfl rfl<;>simp only[X4,sl,Xha,List.take_zero,List.map_nil]
 simp only[X4,s_0,s_s]
 have hw:=Yl (n:=i) 1 1 rfl (by omega)
 by_cases hlt:i<16
 ·have hlt':(i:Int)<16:=by omega
  have hws:=Yl (n:=s) (i:Int) i rfl (by omega)
  have c1:=cr i hlt
  rw[er i hlt,← hSg i (by omega)] at c1
  have y1:(i+1)*24≤140737488355328:=by omega
  have y2:i+1≤9223372036854775807:=by omega
  have tl:(S.take i).length=i:=by rw[List.length_take];omega
  have lit:∀(σ:AState) (K:AV→List (Nat×Res)→Prop),X1 tab σ K none 40 1 [(0,bs S[i])]=K (.sl 1 [[bs S[i]]] .full) []:=fun σ K=>Yk (T:=tab) (ti:=ti40) (te:=ti44) rfl rfl rfl (by decide) (by decide) rfl rfl
  have sn:(S.take i).map Y6++[[bs S[i]]]=(S.take (i+1)).map Y6:=by
   rw[List.take_succ_eq_append_getElem (by omega),List.map_append];rfl
  repeat' (first|(with_reducible first|refine Vk fun K hK=> ?_|refine V0 ?_|refine Vb ?_|refine Vs ?_)|((with_reducible first|refine gE ?_|refine gR ?_);simp (maxSteps:=9^7) only[ss,tab,simprocAttr, -List.reduceReplicate,lit,Xha,hlt',hws,List.length_map,tl,y1,y2,hw])|(refine X3 (c1) ?_)|(refine hK _ ?_;clear hK K)|refine Vt rfl ?_|clear hK K)
  rw[sn]
  refine⟨i+1,by omega,by omega,?_⟩
  refine X2 ?_ ?_ rfl rfl rfl rfl<;>simp only[X4,sl,Xha,hlt',decide_true]
 ·obtain rfl:i=16:=by omega
  rw[List.take_of_length_le (by omega)]
  have h0:0<S.length:=by omega
  have g0:=Xg Y6 S 0 [] h0
  have l0:S[0].length=128:=hS128 _ (List.getElem_mem h0)
  have d0:S.getD 0 []=S[0]:=by simp [List.getD_eq_getElem?_getD,h0]
  have g5:=Xqt S[0] 5 (by omega)
  have c2:=Ya2 (S[0].take 4) .sh (by rw[List.length_take];omega)
  unfold Y65 at hO
  rw[d0] at hO
  obtain⟨M,hM⟩:∃M,M=(S[0].getD 5 0).toNat:=⟨_,rfl⟩
  obtain⟨G,hG⟩:∃G,G=Y55 (S[0].take 4):=⟨_,rfl⟩
  rw[← hM,← hG] at hO
  rw[← hG] at c2
  have c3:=Y8s G
  have hM256:M<256:=by rw[hM];exact UInt8.toNat_lt _
  have hc1:IntKind.i64.wrap ((S[0].getD 5 0).toNat:Int)=(M:Int):=by rw[← hM,wrap_i64]<;>omega
  have none_le:O=none→AV.le (.tup [.agg [.val (.int .u32 0),.sl 0 [] .nil],bool false]) (Y7l O):=fun h=>by
   rw[h]
   simp only[Y7l,rcA,rcC,Option.getD_none,Option.isSome_none,w0,X4,sl]
   exact(Py _ _).2 trivial
  have hbad:(M<1∨16<M∨G=0∨Y3q G≠s)→O=none:=fun h=>by rw[hO,if_pos h]
  repeat' (first|(with_reducible first|refine Vk fun K hK=> ?_|refine V0 ?_|refine Vs ?_|apply And.intro)|((with_reducible first|refine gE ?_|refine gR ?_);simp (maxSteps:=9^7) only[ss,X1,tab,simprocAttr, -List.reduceReplicate,Xha,List.length_map,hS16,g0,Y6,X5,l0,g5,hc1,P6,Nh,Q2,Nat.sub_zero,Int.reduceToNat,Y57])|((with_reducible refine Vz ?_);(first|refine Xp (.inr rfl) rfl rfl rfl (fun _ _=>rfl) ok60 (k:=n+1) (off:=0) rfl (Xb _ (by simp)) (X6 _ (Nat.le_refl _) 1) rfl rfl ?_|refine Xp (.inr rfl) rfl rfl rfl (fun _ _=>rfl) ok60 (k:=m+1) (off:=0) rfl (Xb _ (by simp)) (X6 _ hm 1) rfl rfl ?_)<;>first|rfl|exact AV.le.rfl _|(simp only[X4,sl,ti60,List.map_nil,Xha,List.length_map,hS16,g0,Y6,X5,l0,g5,hc1,P6,Nh,Q2,Nat.sub_zero,Int.reduceToNat,Y57];done)|rfl|skip)|(refine X3 (c2) ?_)|(refine X3 (c3) ?_)|((with_reducible refine Vg (fun hg=> ?_) (fun hg=> ?_))<;>(try simp only[nb] at hg)<;>simp (maxSteps:=9^7) only[ss,X1,tab,simprocAttr, -List.reduceReplicate,hg,Xha,List.length_map,hS16,g0,Y6,X5,l0,g5,hc1,P6,Nh,Q2,Nat.sub_zero,Int.reduceToNat,Y57])|((with_reducible refine Vx ?_);simp only[sb,reduceIte,Nat.reduceEqDiff])|(refine hK _ ?_;clear hK K)|refine Vt rfl ?_|refine Vf rfl ?_|refine Vi rfl (fun hg=> ?_) (fun hg=> ?_)|clear hK K)
  ·refine none_le (hbad (.inl ?_))
   have h:decide ((M:Int)<1)=true:=by assumption
   have:=of_decide_eq_true h
   omega
  ·refine none_le (hbad (.inr (.inl ?_)))
   have h:decide ((M:Int)>16)=true:=by assumption
   have:=of_decide_eq_true h
   omega
  ·refine none_le (hbad (.inr (.inr (.inl ?_))))
   have h:decide (G=0)=true:=by assumption
   exact of_decide_eq_true h
  ·refine none_le (hbad (.inr (.inr (.inr ?_))))
   have h:((Y3q G:Int) !=(s:Int))=true:=by assumption
   intro e
   rw[e] at h;simp at h
  ·have h:decide ((M:Int)>16)=false:=by assumption
   have:=of_decide_eq_false h
   omega
  have hM1:1≤M:=by
   have h:decide ((M:Int)<1)=false:=by assumption
   have:=of_decide_eq_false h
   omega
  have hM16:M≤16:=by
   have h:decide ((M:Int)>16)=false:=by assumption
   have:=of_decide_eq_false h
   omega
  have hG0:G≠0:=by
   have h:decide (G=0)=false:=by assumption
   exact of_decide_eq_false h
  have hGs:Y3q G=s:=by
   have h:((Y3q G:Int) !=(s:Int))=false:=by assumption
   simp at h;omega
  rw[if_neg (by simp only[not_or];exact⟨by omega,by omega,hG0,by simpa using hGs⟩)] at hO
  have htl:((S.map Y6).take M).length=M:=by rw[List.length_take,List.length_map];omega
  have hal:∀i,i≤M→(Y9l S i).length=118*i:=fun i hi=>Y5f hS128 (by omega)
  refine Xe ?_
  refine Xz (fun i:Nat=>[(66,i64 (i:Int)),(11,.sl 1 (Xo (Y9l S i)) (.own (n+3))),(13,.top),(67,.top),(68,.top),(69,.top),(70,.top),(71,.top),(72,.top),(73,.top),(74,.top)]) (fun i=>[some (.box 43 (Xha d)),some (.box 60 [w32 G,.sl 0 [] .nil]),some (.row 44 1 16),some (.row 5 1 (118*i))]) (fun i=>out) (fun i=>i≤M) (fun i=>M - i) 0 (Nat.zero_le _) ?_ fun i hi=> ?_
  ·refine X2 ?_ ?_ (by first|rfl|(simp only[Xha,Y8l,Wb,Nat.mul_zero];rfl)|simp only[Xha,Y8l,Wb,Nat.mul_zero]) rfl rfl rfl<;>simp only[X4,sl,Xha,Y8l,Wb,Nat.mul_zero]
  simp only[X4,s_0,s_s]
  have hw:=Yl (n:=i) 1 1 rfl (by omega)
  by_cases hlt:i<M
  ·have hlt':(i:Int)<(M:Int):=by omega
   have gt:((S.map Y6).take M).getD i []=Y6 S[i]:=by
    rw[← List.map_take,Xg Y6 (S.take M) i [] (by rw[List.length_take];omega)];simp
   have li:S[i].length=128:=hS128 _ (List.getElem_mem (by omega))
   have hali:=hal i (by omega)
   have lS:(List.take 118 (List.drop 6 S[i])).length=118:=by rw[List.length_take,List.length_drop];omega
   have y1:118*i+118≤140737488355328:=by omega
   have y2:118*i+118≤9223372036854775807:=by omega
   have sn:Xo (Y9l S i)++Xo ((S[i].drop 6).take 118)=Xo (Y9l S (i+1)):=by
    rw[L6,← Y8m S (by omega)]
   repeat' (first|(with_reducible first|refine Vk fun K hK=> ?_|refine V0 ?_|refine Vb ?_|refine Vs ?_)|((with_reducible refine gE ?_);simp (maxSteps:=9^7) only[ss,X1,tab,simprocAttr, -List.reduceReplicate,Xha,hlt',htl,hlt,gt,Y6,X5,li,lS,P6,Nh,Q2,Q1,Int.reduceToNat,Nat.reduceSub,hali,y1,y2,sn,hw])|(refine hK _ ?_;clear hK K)|refine Vt rfl ?_|clear hK K)
   refine⟨i+1,by omega,by omega,?_⟩
   refine X2 ?_ ?_ rfl rfl rfl rfl<;>simp only[X4,sl,Xha,hlt',htl,hlt,decide_true,Nat.mul_succ]
  ·obtain rfl:i=M:=by omega
   have hlt':¬(i:Int)<(i:Int):=by omega
   have hA:=hal i (Nat.le_refl _)
   obtain⟨A,hAA⟩:∃A,A=Y9l S i:=⟨_,rfl⟩
   have hO':O=if A.length - 6<(Y55 ((A.drop 4).take 2)).toNat then none else if Y3v ⟨G,(A.drop 6).take (Y55 ((A.drop 4).take 2)).toNat⟩=S.take i then some ⟨G,(A.drop 6).take (Y55 ((A.drop 4).take 2)).toNat⟩ else none:=by rw[hO,hAA];rfl
   clear hO
   rw[← hAA] at hA⊢
   have c4:=Ya2 ((A.drop 4).take 2) .sh (by rw[List.length_take];omega)
   obtain⟨sz,hsz⟩:∃sz,sz=(Y55 ((A.drop 4).take 2)).toNat:=⟨_,rfl⟩
   have hsz32:sz<4294967296:=by rw[hsz];exact BitVec.isLt _
   have hc2:IntKind.i64.wrap ((Y55 ((A.drop 4).take 2)).toNat:Int)=(sz:Int):=by rw[← hsz,wrap_i64]<;>omega
   rw[← hsz] at hO'
   have hsub:=X25 (n:=A.length) 6 6 rfl (by omega) (by omega)
   repeat' (first|(with_reducible first|refine Vk fun K hK=> ?_|refine V0 ?_|apply And.intro)|((with_reducible refine gE ?_);simp (maxSteps:=9^7) only[ss,X1,tab,simprocAttr, -List.reduceReplicate,Xha,hlt',htl,X5,Q2,Q1,P6,Nh,Int.reduceToNat,Nat.reduceSub])|((with_reducible refine Vx ?_);simp only[sb,reduceIte,Nat.reduceEqDiff])|(refine hK _ ?_;clear hK K)|refine Vf rfl ?_|clear hK K)
   ·omega
   refine X3 c4 ?_
   simp (maxSteps:=9^7) only[ss,X1,tab,simprocAttr, -List.reduceReplicate,hc2]
   (refine hK _ ?_;clear hK K)
   by_cases hbig:A.length - 6<sz
   ·rw[if_pos hbig] at hO'
    repeat' (first|(with_reducible first|refine Vk fun K hK=> ?_|refine V0 ?_)|((with_reducible refine gE ?_);simp (maxSteps:=9^7) only[ss,X1,tab,simprocAttr, -List.reduceReplicate,X5,hsub,hbig])|((with_reducible refine Vz ?_);(first|refine Xp (.inr rfl) rfl rfl rfl (fun _ _=>rfl) ok60 (k:=n+1) (off:=0) rfl (Xb _ (by simp)) (X6 _ (Nat.le_refl _) 1) rfl rfl ?_|refine Xp (.inr rfl) rfl rfl rfl (fun _ _=>rfl) ok60 (k:=m+1) (off:=0) rfl (Xb _ (by simp)) (X6 _ hm 1) rfl rfl ?_)<;>first|rfl|exact AV.le.rfl _|(simp only[X4,sl,ti60,List.map_nil,X5,hsub,hbig];done)|rfl|skip)|(refine hK _ ?_;clear hK K)|refine Vt rfl ?_|clear hK K)
    exact none_le hO'
   ·rw[if_neg hbig] at hO'
    have hadd:IntKind.i64.wrap (6+(sz:Int))=((6+sz:Nat):Int):=by rw[wrap_i64]<;>omega
    have hTl:((A.drop 6).take sz).length≤1882:=by rw[List.length_take,List.length_drop];omega
    have c5:=Xds ((A.drop 6).take sz) (by omega)
    have c6:=Y6t ⟨G,(A.drop 6).take sz⟩ (by show((A.drop 6).take sz).length≤10000;omega)
    have c7:=Xjz (Y3v ⟨G,(A.drop 6).take sz⟩) (S.take i) 52 [] (fun a b=>a==b) (hb0 _ (by decide) (by decide)) (by rw[Y3t];have:=Y48 (r:=⟨G,(A.drop 6).take sz⟩) hTl;omega) (fun x _ y _=>Xl7 x y)
    rw[Xkz] at c7
    have ht:List.take i (List.map Y6 S)=List.map Y6 (S.take i):=by rw[List.map_take]
    have e6:6+sz≤A.length:=by omega
    have e7:6≤6+sz:=by omega
    obtain⟨T,hT⟩:∃T,T=(A.drop 6).take sz:=⟨_,rfl⟩
    rw[← hT] at c5 c6 c7 hO' hTl
    simp only[rcA,rcC] at c6
    cases hq:(Y3v ⟨G,T⟩==S.take i) with
    |false=>
     rw[hq] at c7
     rw[if_neg (by simpa using hq)] at hO'
     repeat' (first|(with_reducible first|refine Vk fun K hK=> ?_|refine V0 ?_|refine Vs ?_|apply And.intro|refine Vd 22 [] [[1],[],[],[],[],[],[]] [[],[],[],[],[],[],[]] (by kernel_rfl) (by decide) (by decide) (by kernel_rfl) ?_)|((with_reducible first|refine gE ?_|refine gR ?_|refine gD ?_|refine gF ?_);simp (maxSteps:=9^7) only[ss,X1,tab,simprocAttr, -List.reduceReplicate,X5,hsub,hbig,ht,Q2,Q1,P6,Nh,Int.reduceToNat,Nat.add_sub_cancel_left,Nat.sub_zero,hadd,e6,e7,← hT,List.length_map,hS16,Bool.not_false])|((with_reducible refine Vz ?_);(first|refine Xp (.inr rfl) rfl rfl rfl (fun _ _=>rfl) ok60 (k:=n+1) (off:=0) rfl (Xb _ (by simp)) (X6 _ (Nat.le_refl _) 1) rfl rfl ?_|refine Xp (.inr rfl) rfl rfl rfl (fun _ _=>rfl) ok60 (k:=m+1) (off:=0) rfl (Xb _ (by simp)) (X6 _ hm 1) rfl rfl ?_)<;>first|rfl|exact AV.le.rfl _|(simp only[X4,sl,ti60,List.map_nil,X5,hsub,hbig,ht,Q2,Q1,P6,Nh,Int.reduceToNat,Nat.add_sub_cancel_left,Nat.sub_zero,hadd,e6,e7,← hT,List.length_map,hS16,Bool.not_false];done)|rfl|skip)|(refine X3 (c5) ?_)|(refine X3 (c6) ?_)|(refine X3 (c7) ?_)|(refine hK _ ?_;clear hK K)|refine Vt rfl ?_|refine Vf rfl ?_|clear hK K)
     ·omega
     exact none_le hO'
    |true=>
     rw[hq] at c7
     rw[if_pos (by simpa using hq)] at hO'
     repeat' (first|(with_reducible first|refine Vk fun K hK=> ?_|refine V0 ?_|refine Vs ?_|apply And.intro|refine Vd 22 [] [[1],[],[],[],[],[],[]] [[],[],[],[],[],[],[]] (by kernel_rfl) (by decide) (by decide) (by kernel_rfl) ?_)|((with_reducible first|refine gE ?_|refine gR ?_|refine gD ?_|refine gF ?_);simp (maxSteps:=9^7) only[ss,X1,tab,simprocAttr, -List.reduceReplicate,X5,hsub,hbig,ht,Q2,Q1,P6,Nh,Int.reduceToNat,Nat.add_sub_cancel_left,Nat.sub_zero,hadd,e6,e7,← hT,List.length_map,hS16,Bool.not_true])|((with_reducible refine Vz ?_);(first|refine Xp (.inr rfl) rfl rfl rfl (fun _ _=>rfl) ok60 (k:=n+1) (off:=0) rfl (Xb _ (by simp)) (X6 _ (Nat.le_refl _) 1) rfl rfl ?_|refine Xp (.inr rfl) rfl rfl rfl (fun _ _=>rfl) ok60 (k:=m+1) (off:=0) rfl (Xb _ (by simp)) (X6 _ hm 1) rfl rfl ?_)<;>first|rfl|exact AV.le.rfl _|(simp only[X4,sl,ti60,List.map_nil,X5,hsub,hbig,ht,Q2,Q1,P6,Nh,Int.reduceToNat,Nat.add_sub_cancel_left,Nat.sub_zero,hadd,e6,e7,← hT,List.length_map,hS16,Bool.not_true];done)|rfl|skip)|(refine X3 (c5) ?_)|(refine X3 (c6) ?_)|(refine X3 (c7) ?_)|(refine hK _ ?_;clear hK K)|refine Vf rfl ?_|clear hK K)
     ·omega
     rw[hO']
     exact AV.le.rfl _
end Go.Proofs.Ytjgbbjooeibppaa
