/- The layer of abstract values, joined. -/
import Derived.Test.YtjgbbjooeibppaaZD2
import Derived.Test.YtjgbbjooeibppaaZI1
import Derived.Test.YtjgbbjooeibppaaZE7
namespace Go.Proofs.Ytjgbbjooeibppaa
set_option linter.unusedVariables false
set_option linter.unusedSimpArgs false
open Go Go.VS Tab
set_option maxHeartbeats 8000000
set_option maxRecDepth 8000
theorem P1 (g:BitVec 32):IntKind.i64.wrap (g.toNat:Int)=(g.toNat:Int):=by
 have:=g.isLt
 rw[wrap_i64]<;>omega
theorem Ra (r:Rc) (hl:r.text.length≤10000):Xr Try.prog 97 [rcA r] [] (bs (Y4a r)) []:=by
 have htl:(Bm r).length=2+r.text.length:=by unfold Bm;rw[List.length_append,Y3i]
 have hgl:=Y3i 4 r.gen
 have hcl:=Y3i 4 (Ybj (Y40 r.gen 4++Bm r))
 have h2l:=Y3i 2 (BitVec.ofNat 32 r.text.length)
 have h2n:((BitVec.ofNat 32 r.text.length).toNat:Int)=(r.text.length:Int):=by rw[BitVec.toNat_ofNat];omega
 have hg:=P1 r.gen
 have hc:=P1 (Ybj (Y40 r.gen 4++Bm r))
 have e1:Y40 (BitVec.ofNat 32 r.text.length) 2++r.text=Bm r:=rfl
 have e2:Y40 (Ybj (Y40 r.gen 4++Bm r)) 4++Bm r=Y4a r:=rfl
 have y1:2+r.text.length≤140737488355328:=by omega
 have y2:2+r.text.length≤9223372036854775807:=by omega
 have y3:4+(2+r.text.length)≤140737488355328:=by omega
 have y4:4+(2+r.text.length)≤9223372036854775807:=by omega
 have cs:=fun md=>Ydl (Y40 r.gen 4++Bm r) md (by rw[List.length_append];omega)
 refine Xc 4 Try.func97 rfl fun n out _ _=> ?_
 simp only[Try.ntmps97,List.length_cons,List.length_nil,List.length_map,List.length_replicate,Xf,Nat.reduceAdd,Nat.reduceSub,List.replicate,List.cons_append,List.nil_append]
 have c1:=Lg (n+1) (BitVec.ofNat 32 r.text.length) 2 (by decide)
 have c2:=Lg (n+2) r.gen 4 (by decide)
 have c3:=Lg (n+3) (Ybj (Y40 r.gen 4++Bm r)) 4 (by decide)
 rw[h2n] at c1
 repeat' (first|(with_reducible first|refine Vk fun K hK=> ?_|refine V0 ?_|refine Vs ?_|apply And.intro|refine Vd 1 [] [[],[0],[],[1],[],[0],[1],[]] [[],[],[],[1],[],[],[1],[]] (by kernel_rfl) (by decide) (by decide) (by kernel_rfl) ?_|refine Vq (by kernel_rfl) ?_)|((with_reducible first|refine gE ?_|refine gR ?_|refine gD ?_|refine gF ?_);simp (maxSteps:=9^7) only[ss,X1,tab,simprocAttr, -List.reduceReplicate,rcA,rcC,X5,h2l,hgl,hcl,htl,hg,hc,L6,e1,e2,y1,y2,y3,y4])|exact Vn|((with_reducible refine Vz ?_);refine Xv (.inr rfl) rfl rfl rfl (fun _ _=>rfl) ?_ rfl<;>first|rfl|(exact AV.le.rfl _)|(simp only[X4,sl,rcA,rcC,X5,h2l,hgl,hcl,htl,hg,hc,L6,e1,e2,y1,y2,y3,y4];done)|rfl|skip)|(refine Sb c1 (X6 _ (Nat.le_refl _) 1) (Xb _ (by simp)) (by simp) ?_)|(refine Sb c2 (X6 _ (Nat.le_refl _) 2) (Xb _ (by simp)) (by simp) ?_)|(refine Sb c3 (X6 _ (Nat.le_refl _) 3) (Xb _ (by simp)) (by simp) ?_)|(refine X3 (cs _) ?_)|(refine hK _ ?_;clear hK K)|clear hK K)
 all_goals exact .sh _ _ _
theorem Ydb (u v:Int) (σ:AState) (K:AV→List (Nat×Res)→Prop):X1 tab σ K none 44 2 [(0,.val (.int .u8 u)),(1,.val (.int .u8 v))]=K (.sl 1 [[.val (.int .u8 u)],[.val (.int .u8 v)]] .full) []:=Te (T:=tab) (ti:=ti44) (te:=ti5) rfl rfl rfl rfl rfl rfl
theorem Ydc (c:Nat):Yh 1 c (Y7 [Value.int .u8 0] c)=Xo (List.replicate c 0):=by
 have hz:Y7 [Value.int .u8 0] c=(List.replicate c (0:UInt8)).map b8:=by
  simp only[Y7,List.length_cons,List.length_nil,Nat.zero_add,Nat.mod_one,List.map_replicate,List.getD_cons_zero,X70]
  rw[List.map_const',List.length_range];rfl
 rw[hz]
 exact Xa1 _ (List.length_replicate ..)
def Yd5 (r:Rc) (i:Nat):List UInt8:=Y40 r.gen 4++[UInt8.ofNat i,UInt8.ofNat (Y3n r)]
theorem A5 (r:Rc) (i:Nat):(Yd5 r i).length=6:=by unfold Yd5;rw[List.length_append,Y3i];rfl
theorem A6 (r:Rc) {i:Nat} (h:i<Y3n r):Yd5 r i++X7t (Y4a r) 118 i++List.replicate (118 - (X7t (Y4a r) 118 i).length) 0++Y40 r.gen 4=Xgh r i:=by
 have hp:=(Y8w r i).resolve_right (by omega)
 unfold Yd5 Xgh
 rw[hp]
 simp
theorem Wl (r:Rc) (hl:r.text.length≤1882):Xr Try.prog 70 [rcA r] [] (.sl 1 ((Y3v r).map Y6) .sh) []:=by
 have hal:=Y4y r
 have cb:=Ra r (by omega)
 have hmy:=Y48 hl
 have hq:Zr .quo .i64 (((Y4a r).length+118 - 1:Nat):Int) 118=some (.int .i64 ((Y3n r:Nat):Int)):=by
  have e:((((Y4a r).length+118 - 1:Nat):Int)).tdiv 118=((Y3n r:Nat):Int):=rfl
  rw[X7l _ _ (by decide),e,wrap_i64 (by omega) (by omega)]
 have hq2:Zr .quo .i64 (((Y4a r).length+117:Nat):Int) 118=some (.int .i64 ((Y3n r:Nat):Int)):=hq
 have hw1:=Yl (n:=(Y4a r).length) 118 118 rfl (by omega)
 have hw2:=X25 (n:=(Y4a r).length+118) 1 1 rfl (by omega) (by omega)
 have hg:=P1 r.gen
 have hgl:=Y3i 4 r.gen
 simp only[rcA,rcC] at cb
 refine Xc 4 Try.func70 rfl fun n out _ _=> ?_
 simp only[Try.ntmps70,List.length_cons,List.length_nil,List.length_map,List.length_replicate,Xf,Nat.reduceAdd,Nat.reduceSub,List.replicate,List.cons_append,List.nil_append]
 repeat' (first|(with_reducible first|refine Vk fun K hK=> ?_|refine V0 ?_|refine Vb ?_|refine Vc ?_|refine Vr ?_|refine Vs ?_|apply And.intro)|((with_reducible first|refine gE ?_|refine gR ?_);simp (maxSteps:=9^7) only[ss,X1,tab,simprocAttr, -List.reduceReplicate,rcA,rcC,X5,hw1,hw2,hq,hq2])|exact Vn|((with_reducible refine Vz ?_);refine Vo rfl rfl rfl (fun _ _=>rfl) ?_<;>first|rfl|skip)|(refine X3 (cb) ?_)|((with_reducible refine Vx ?_);simp only[sb,reduceIte,Nat.reduceEqDiff])|(refine hK _ ?_;clear hK K)|refine Vt rfl ?_|refine Vf rfl ?_|refine Vi rfl (fun hg=> ?_) (fun hg=> ?_)|clear hK K)
 refine Yy (Q9 (i:=1) 44 1 rfl) ?_
 simp only[s_0,s_s]
 refine Xe ?_
 refine Xl (fun m (i:Nat)=>[(1,.ptr (m+0) 0),(5,.sl 1 (((Y3v r).take i).map Y6) (.own (m+1))),(6,i64 (i:Int)),(7,.top),(8,.top),(16,.top),(17,.top),(18,.top),(19,.top),(20,.top),(21,.top),(22,.top),(23,.top),(24,.top),(25,.top),(26,.top),(27,.top),(28,.top),(29,.top),(30,.top),(31,.top),(32,.top),(33,.top),(34,.top),(35,.top),(36,.top),(37,.top),(38,.top),(39,.top),(40,.top),(41,.top),(42,.top),(43,.top),(44,.top),(45,.top),(46,.top),(47,.top),(48,.top),(49,.top),(50,.top),(51,.top),(52,.top),(53,.top),(54,.top),(55,.top),(56,.top),(57,.top)]) (fun m i=>[some (.box 60 [w32 r.gen,bs r.text]),some (.row 44 1 i),none,none]) (fun i=>out) (fun i=>i≤(Y3n r)) (fun i=>(Y3n r) - i) 0 (Nat.zero_le _) ?_ fun m i hm hi=> ?_
 ·refine X2 ?_ ?_ (by first|rfl|(simp only[List.take_zero,List.map_nil];rfl)|simp only[List.take_zero,List.map_nil]) rfl rfl rfl<;>simp only[X4,sl,List.take_zero,List.map_nil]
 simp only[X4,s_0,s_s]
 have hw:=Yl (n:=i) 1 1 rfl (by omega)
 by_cases hlt:i<Y3n r
 ·have hlt':(i:Int)<(Y3n r:Int):=by omega
  have hml:=Y73 r hlt
  have tl:(((Y3v r).take i).map Y6).length=i:=by rw[List.length_map,List.length_take,Y3t];omega
  have c1:=Lg (m+2) r.gen 4 (by decide)
  have c2:=Lg (m+3) r.gen 4 (by decide)
  have hu1:IntKind.u8.wrap (i:Int)=((UInt8.ofNat i).toNat:Int):=by rw[X1n,UInt8.toNat_ofNat'];omega
  have hu2:IntKind.u8.wrap ((Y3n r:Nat):Int)=((UInt8.ofNat (Y3n r)).toNat:Int):=by rw[X1n,UInt8.toNat_ofNat'];omega
  have hm1:IntKind.i64.wrap (118*(i:Int))=((118*i:Nat):Int):=by rw[wrap_i64]<;>omega
  have hm2:=Yl (n:=118*i) 118 118 rfl (by omega)
  obtain⟨E,hE⟩:∃E,E=min (Y4a r).length (118*i+118):=⟨_,rfl⟩
  have hmin1:(if ((118*i+118:Nat):Int)<((Y4a r).length:Int) then((118*i+118:Nat):Int) else((Y4a r).length:Int))=(E:Int):=by
   split<;>omega
  have hmin2:(if 118*i+118<(Y4a r).length then((118*i+118:Nat):Int) else((Y4a r).length:Int))=(E:Int):=by
   split<;>omega
  have hE1:118*i≤E:=by omega
  have hE2:E≤(Y4a r).length:=by omega
  obtain⟨Q,hQ⟩:∃Q,Q=X7t (Y4a r) 118 i:=⟨_,rfl⟩
  have hpc:((Y4a r).drop (118*i)).take (E - 118*i)=Q:=by
   rw[hQ,hE]
   unfold X7t
   by_cases hc:118*i+118≤(Y4a r).length
   ·rw[Nat.min_eq_right hc,Nat.add_sub_cancel_left]
   ·rw[List.take_of_length_le (by rw[List.length_drop];omega),List.take_of_length_le (by rw[List.length_drop];omega)]
  have hQl:Q.length≤118:=by rw[hQ];unfold X7t;rw[List.length_take];omega
  have hEq:E - 118*i=Q.length:=by rw[← hpc,List.length_take,List.length_drop];omega
  have hsub:IntKind.i64.wrap (118 - (Q.length:Int))=((118 - Q.length:Nat):Int):=by rw[wrap_i64]<;>omega
  have hfin:=A6 r hlt
  rw[← hQ] at hfin
  have hH:=A5 r i
  have e1:Xo (Y40 r.gen 4)++[[b8 (UInt8.ofNat i)],[b8 (UInt8.ofNat (Y3n r))]]=Xo (Yd5 r i):=L6 _ [UInt8.ofNat i,UInt8.ofNat (Y3n r)]
  have z1:6+Q.length≤140737488355328:=by omega
  have z2:6+Q.length≤9223372036854775807:=by omega
  have z3:(6+Q.length)+(118 - Q.length)≤140737488355328:=by omega
  have z4:(6+Q.length)+(118 - Q.length)≤9223372036854775807:=by omega
  have y1:(i+1)*24≤140737488355328:=by omega
  have y2:i+1≤9223372036854775807:=by omega
  have lit2:∀(σ:AState) (K:AV→List (Nat×Res)→Prop) (l:List (List AV)) (md:Md),X1 tab σ K none 40 1 [(0,.sl 1 l md)]=K (.sl 1 [[.sl 1 l md]] .full) []:=fun σ K l md=>Yk (T:=tab) (ti:=ti40) (te:=ti44) rfl rfl rfl (by decide) (by decide) rfl rfl
  have hsn:((Y3v r).take i).map Y6++[Y6 (Xgh r i)]=((Y3v r).take (i+1)).map Y6:=by
   have hi:i<(Y3v r).length:=by rw[Y3t];exact hlt
   have hg2:(Y3v r)[i]=Xgh r i:=by
    rw[← Y5v r hlt];simp [List.getD_eq_getElem?_getD,hi]
   rw[List.take_succ_eq_append_getElem hi,List.map_append,hg2];rfl
  have z5:(6+Q.length)+4≤140737488355328:=by omega
  have z6:(6+Q.length)+4≤9223372036854775807:=by omega
  have z7:(6+Q.length)+(118 - Q.length)+4≤140737488355328:=by omega
  have z8:(6+Q.length)+(118 - Q.length)+4≤9223372036854775807:=by omega
  rcases(show Q.length=118∨Q.length<118 by omega) with hQ8|hQ8
  ·have hc0:(((118 - Q.length:Nat):Int)=0)=True:=eq_true (by omega)
   have hc1:(0<((118 - Q.length:Nat):Int))=False:=eq_false (by omega)
   have hX:Yd5 r i++Q++Y40 r.gen 4=Xgh r i:=by rw[← hfin,hQ8];simp
   repeat' (first|(with_reducible first|refine Vk fun K hK=> ?_|refine V0 ?_|refine Vb ?_|refine Vc ?_|refine Vr ?_|refine Vs ?_|apply And.intro)|((with_reducible first|refine gE ?_|refine gR ?_);simp (maxSteps:=9^7) only[ss,tab,simprocAttr, -List.reduceReplicate,Ydb,lit2,Xi hm,hlt',hg,hu1,hu2,X5,hgl,e1,hm1,hm2,hmin1,hmin2,Q1,Q2,P6,Nh,hE1,hE2,hpc,hH,L6,List.length_append,z1,z2,hsub,hc0,hc1,false_and,true_and,or_false,z5,z6,hX,tl,y1,y2,hw])|exact Vn|((with_reducible refine Vz ?_);refine Vo rfl rfl rfl (fun _ _=>rfl) ?_<;>first|rfl|skip)|(refine Sb c1 (X6 _ hm 2) (Xb _ (by simp)) (by simp) ?_)|(refine Sb c2 (X6 _ hm 3) (Xb _ (by simp)) (by simp) ?_)|((with_reducible refine Vx ?_);simp only[sb,reduceIte,Nat.reduceEqDiff])|(refine hK _ ?_;clear hK K)|refine Vt rfl ?_|refine Vf rfl ?_|refine Vi rfl (fun hg=> ?_) (fun hg=> ?_)|clear hK K)
   refine⟨i+1,by omega,by omega,?_⟩
   refine AState.le.then (Xbm [(5,.sl 1 (((Y3v r).take i).map Y6++[[bs (Xgh r i)]]) (.own (m+1)))] ?_) ?_
   ·simp only[X4,sl]
   simp only[X4,s_0,s_s]
   rw[show((Y3v r).take i).map Y6++[[bs (Xgh r i)]]=((Y3v r).take (i+1)).map Y6 from hsn]
   refine Xx [true,true,false,false] (fun n_=> ?_) (fun n_=> ?_)<;>simp only[X4,sm,hlt',decide_true]
  ·have hc0:(((118 - Q.length:Nat):Int)=0)=False:=eq_false (by omega)
   have hc1:(0<((118 - Q.length:Nat):Int))=True:=eq_true (by omega)
   repeat' (first|(with_reducible first|refine Vk fun K hK=> ?_|refine V0 ?_|refine Vb ?_|refine Vc ?_|refine Vr ?_|refine Vs ?_|apply And.intro)|((with_reducible first|refine gE ?_|refine gR ?_);simp (maxSteps:=9^7) only[ss,tab,simprocAttr, -List.reduceReplicate,Ydb,lit2,Xi hm,hlt',hg,hu1,hu2,X5,hgl,e1,hm1,hm2,hmin1,hmin2,Q1,Q2,P6,Nh,hE1,hE2,hpc,hH,L6,List.length_append,z1,z2,hsub,hc0,hc1,false_and,true_and,false_or,Nat.mul_one,Ydc,List.length_replicate,z3,z4,z7,z8,hfin,tl,y1,y2,hw])|exact Vn|((with_reducible refine Vz ?_);refine Vo rfl rfl rfl (fun _ _=>rfl) ?_<;>first|rfl|skip)|(refine Sb c1 (X6 _ hm 2) (Xb _ (by simp)) (by simp) ?_)|(refine Sb c2 (X6 _ hm 3) (Xb _ (by simp)) (by simp) ?_)|((with_reducible refine Vx ?_);simp only[sb,reduceIte,Nat.reduceEqDiff])|(refine hK _ ?_;clear hK K)|refine Vt rfl ?_|refine Vf rfl ?_|refine Vi rfl (fun hg=> ?_) (fun hg=> ?_)|clear hK K)
   refine⟨i+1,by omega,by omega,?_⟩
   refine AState.le.then (Xbm [(5,.sl 1 (((Y3v r).take i).map Y6++[[bs (Xgh r i)]]) (.own (m+1)))] ?_) ?_
   ·simp only[X4,sl]
   simp only[X4,s_0,s_s]
   rw[show((Y3v r).take i).map Y6++[[bs (Xgh r i)]]=((Y3v r).take (i+1)).map Y6 from hsn]
   refine Xx [true,true,false,false] (fun n_=> ?_) (fun n_=> ?_)<;>simp only[X4,sm,hlt',decide_true]
 ·obtain rfl:i=Y3n r:=by omega
  rw[List.take_of_length_le (by rw[Y3t];exact Nat.le_refl _)]
  repeat' (first|(with_reducible first|refine Vk fun K hK=> ?_|refine V0 ?_|refine Vb ?_|refine Vc ?_|refine Vr ?_|refine Vs ?_|apply And.intro)|((with_reducible first|refine gE ?_|refine gR ?_);simp (maxSteps:=9^7) only[ss,X1,tab,simprocAttr, -List.reduceReplicate,hlt])|exact Vn|((with_reducible refine Vz ?_);refine Xv (.inr rfl) rfl rfl rfl (fun _ _=>rfl) ?_ rfl<;>first|rfl|(exact AV.le.rfl _)|(simp only[X4,sl,hlt];done)|rfl|skip)|((with_reducible refine Vx ?_);simp only[sb,reduceIte,Nat.reduceEqDiff])|(refine hK _ ?_;clear hK K)|refine Vt rfl ?_|refine Vf rfl ?_|refine Vi rfl (fun hg=> ?_) (fun hg=> ?_)|clear hK K)
  all_goals exact .sh _ _ _
end Go.Proofs.Ytjgbbjooeibppaa
