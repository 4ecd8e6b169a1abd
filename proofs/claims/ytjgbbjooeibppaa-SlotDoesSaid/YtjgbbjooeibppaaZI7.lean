/- The layer of abstract values, joined. -/
import Derived.Test.YtjgbbjooeibppaaZD2
import Derived.Test.YtjgbbjooeibppaaZE8
import Derived.Test.YtjgbbjooeibppaaZE9
import Derived.Test.YtjgbbjooeibppaaZVsB
namespace Go.Proofs.Ytjgbbjooeibppaa
set_option linter.unusedVariables false
set_option linter.unusedSimpArgs false
open Go Go.VS Tab
set_option maxHeartbeats 16000000
set_option maxRecDepth 8000
theorem B0 (k:Nat) (r:Rc) (hl:r.text.length≤10000):Xr Try.prog 68 [.agg [w32 r.gen,.bsl k 0 r.text.length false]] [(k,some (.box 5 (r.text.map b8)))] (.sl 1 ((Y3v r).map Y6) .sh) [(k,.box 5 (r.text.map b8))]:=by
 have hal:=Y4y r
 have htl:(Bm r).length=2+r.text.length:=by unfold Bm;rw[List.length_append,Y3i]
 have hgl:=Y3i 4 r.gen
 have hcl:=Y3i 4 (Ybj (Y40 r.gen 4++Bm r))
 have h2l:=Y3i 2 (BitVec.ofNat 32 r.text.length)
 have hconv:IntKind.u32.wrap (r.text.length:Int)=((BitVec.ofNat 32 r.text.length).toNat:Int):=by rw[Xar,BitVec.toNat_ofNat];omega
 refine Ph 8 Try.func68 rfl fun n out _ _=> ?_
 simp only[Try.ntmps68,List.length_cons,List.length_nil,List.length_map,List.length_replicate,Xf,Nat.reduceAdd,Nat.reduceSub,List.replicate,List.cons_append,List.nil_append]
 rename_i hneeds hgv
 obtain⟨hk,_⟩:=hneeds
 obtain⟨hkn,_⟩:=hgv
 refine V4 fun K hK=>AWp.zero (Xn Xj [] ?_)
 simp (maxSteps:=9^7) only[ss,X1,tab,simprocAttr, -List.reduceReplicate]
 repeat' (first|(with_reducible refine hK _ ?_;clear hK K)|with_reducible apply And.intro)
 refine Jl (Zi (i:=0) (t:=1) 1 (.ref [w32 r.gen,.bsl k 0 r.text.length false]) rfl rfl (.ptr 0)) ?_
 simp only[s_0,s_s]
 refine Jl (Q9 (i:=6) 44 1 rfl) ?_
 simp only[s_0,s_s]
 refine V4 fun K hK=>AWp.zero (Xn Xj [] ?_)
 simp (maxSteps:=9^7) only[ss,X1,tab,simprocAttr, -List.reduceReplicate]
 repeat' (first|(with_reducible refine hK _ ?_;clear hK K)|with_reducible apply And.intro)
 refine X3 (Xe3 r.gen 4 (by decide) (by decide)) ?_
 simp (maxSteps:=9^7) only[ss,X1,tab,simprocAttr, -List.reduceReplicate]
 repeat' (first|(with_reducible refine hK _ ?_;clear hK K)|with_reducible apply And.intro)
 refine Jl (Zi (i:=2) (t:=3) 1 (.ref [.sl 1 (Xo (Y40 r.gen 4)) .full]) rfl rfl (.ptr 0)) ?_
 simp only[s_0,s_s]
 refine V4 fun K hK=>AWp.zero (Xqf Xj follows (by kernel_rfl) ?_)
 simp (maxSteps:=9^7) only[ss,X1,tab,simprocAttr, -List.reduceReplicate,X5,hconv]
 refine X3 (Xe3 (BitVec.ofNat 32 r.text.length) 2 (by decide) (by decide)) ?_
 have hch:Yh 1 r.text.length (r.text.map b8)=Xo r.text:=Xa1 _ rfl
 have y1:2+r.text.length≤140737488355328:=by omega
 have y2:2+r.text.length≤9223372036854775807:=by omega
 simp (maxSteps:=9^7) only[ss,X1,tab,simprocAttr, -List.reduceReplicate,X8 hkn,X7 hkn,hk,X5,h2l,List.length_map,List.drop_zero,hch,y1,y2,Nat.zero_add,Nat.mul_one,Nat.le_refl,L6,show Y40 (BitVec.ofNat 32 r.text.length) 2++r.text=Bm r from rfl]
 repeat' (first|(with_reducible refine hK _ ?_;clear hK K)|with_reducible apply And.intro)
 have lit:∀(σ:AState) (K:AV→List (Nat×Res)→Prop),X1 tab σ K none 40 2 [(0,.sl 1 (Xo (Y40 r.gen 4)) .full),(1,.sl 1 (Xo (Bm r)) .sh)]=K (.sl 1 [[.sl 1 (Xo (Y40 r.gen 4)) .full],[.sl 1 (Xo (Bm r)) .sh]] .full) []:=fun σ K=>Te (T:=tab) (ti:=ti40) (te:=ti44) rfl rfl rfl rfl rfl rfl
 refine V4 fun K hK=>AWp.zero (Xn Xj [] ?_)
 simp (maxSteps:=9^7) only[ss,tab,simprocAttr, -List.reduceReplicate,lit]
 repeat' (first|(with_reducible refine hK _ ?_;clear hK K)|with_reducible apply And.intro)
 refine Sb (Xbg (n+7) (Xo (Y40 r.gen 4)) (Xo (Bm r)) .full .full .sh (by rw[X5,X5];omega)) (X6 _ (Nat.le_refl _) 7) (Xb _ (by simp)) (by simp) ?_
 rw[L6]
 simp (maxSteps:=9^7) only[ss,X1,tab,simprocAttr, -List.reduceReplicate]
 repeat' (first|(with_reducible refine hK _ ?_;clear hK K)|with_reducible apply And.intro)
 refine X3 (Yc0 (Y40 r.gen 4++Bm r) _ (by rw[List.length_append];omega)) ?_
 simp (maxSteps:=9^7) only[ss,X1,tab,simprocAttr, -List.reduceReplicate]
 repeat' (first|(with_reducible refine hK _ ?_;clear hK K)|with_reducible apply And.intro)
 refine X3 (Xe3 (Ybj (Y40 r.gen 4++Bm r)) 4 (by decide) (by decide)) ?_
 have hne:(Xo (Bm r)).isEmpty=false:=by
  cases h:Bm r with
  |nil=>rw[h] at htl;simp at htl;omega
  |cons x l=>rfl
 simp (maxSteps:=9^7) only[ss,X1,tab,simprocAttr, -List.reduceReplicate,X5,hcl,htl,hne,L6,show Y40 (Ybj (Y40 r.gen 4++Bm r)) 4++Bm r=Y4a r from rfl]
 repeat' (first|(with_reducible refine hK _ ?_;clear hK K)|with_reducible apply And.intro)
 ·omega
 ·omega
 have hq:Zr .quo .i64 (((Y4a r).length+118 - 1:Nat):Int) 118=some (.int .i64 ((Y3n r:Nat):Int)):=by
  have e:((((Y4a r).length+118 - 1:Nat):Int)).tdiv 118=((Y3n r:Nat):Int):=rfl
  have hm:Y3n r≤100:=by unfold Y3n;omega
  rw[X7l _ _ (by decide),e,wrap_i64 (by omega) (by omega)]
 have hq2:Zr .quo .i64 (((Y4a r).length+117:Nat):Int) 118=some (.int .i64 ((Y3n r:Nat):Int)):=hq
 have hw1:=Yl (n:=(Y4a r).length) 118 118 rfl (by omega)
 have hw2:=X25 (n:=(Y4a r).length+118) 1 1 rfl (by omega) (by omega)
 refine V4 fun K hK=>AWp.zero (Xn Xj [] ?_)
 simp (maxSteps:=9^7) only[ss,X1,tab,simprocAttr, -List.reduceReplicate,X5,hw1,hw2,hq,hq2]
 repeat' (first|(with_reducible refine hK _ ?_;clear hK K)|with_reducible apply And.intro)
 refine Jl (Zi (i:=3) (t:=6) 1 (.ref [i64 (Y3n r:Nat)]) rfl rfl (.ptr 0)) ?_
 simp only[s_0,s_s]
 refine V4 fun KB hKB=> ?_
 refine V4 fun K hK=>AWp.zero (Xn Xj [] ?_)
 simp (maxSteps:=9^7) only[ss,X1,tab,simprocAttr, -List.reduceReplicate]
 repeat' (first|(with_reducible refine hK _ ?_;clear hK K)|with_reducible apply And.intro)
 refine X3 (Xdt (Xo (Y4a r)) _ 118 (by decide)) ?_
 simp (maxSteps:=9^7) only[ss,X1,tab,simprocAttr, -List.reduceReplicate]
 repeat' (first|(with_reducible refine hK _ ?_;clear hK K)|with_reducible apply And.intro)
 refine Ej [] [some .dead,some (.box 40 [.sl 1 [] (.own (n+6))]),some .dead,some .dead,none,none,some (.row 44 1 0),some (.row 5 1 ((Y40 r.gen 4).length+(2+r.text.length)))] ?_ ?_
 ·refine X2 ?_ ?_ rfl rfl rfl rfl<;>simp only[X4,sl]
 simp only[X4,s_0,s_s]
 refine Fp (Fq (r:= .tup []) (gf:=109) (caps:=[.ref [.sl 1 (Xo (Y4a r)) .sh],.ref [i64 118]]) 4 5 Try.func109 (by kernel_rfl) (by kernel_rfl) rfl (by decide) rfl rfl ?_)
 intro D lp rec F hF h1 h2 h3 h4 h5
 refine⟨_,_,Xd4 lp (n+5) (n+1) (n+6) (by omega) (by omega) (by omega) (.pin lp (.loop rec) F) (by simp) (fun i=> .box 40 [.sl 1 (((List.range i).map (Xgh r)).map Y6) (.own (n+6))]) (fun i=> .row 44 1 i) (by simp) (by simp) (Y4a r) .sh (by omega) 118 (Y3n r) (by decide) (by decide) (Y5u r) (fun i h=>Y73 r h)
  (fun i hi=>Y4c (fr:=F) (fr1:=(F.set 35 (.sl 1 (Xo (X7t (Y4a r) 118 i)) .full)).set 7 (.sl 1 (Xo (X7t (Y4a r) 118 i)) .full)) (ps:=[35]) 1 h1 h2 h3 h4 h5 rfl (by simp) (by simp) ?_ ?_),?_,?_,?_,?_,?_⟩
 ·intro n' out'
  subst hF
  simp only[List.zip_cons_cons,List.zip_nil_left,List.zip_nil_right,setAll,s_0,s_s]
  refine Xn Xj [] ?_
  simp (maxSteps:=9^7) only[ss,X1,tab,simprocAttr, -List.reduceReplicate]
 ·intro n' out' hh hg
  obtain⟨hka,hkb,_⟩:=hh
  obtain⟨hkan,hkbn,_⟩:=hg
  have hoN:[n+1,n+6].Nodup:=by simp
  have hoL:∀k,k∈[n+1,n+6]→k<n':=fun k hk=>by
   simp only[List.mem_cons,List.not_mem_nil,or_false] at hk
   rcases hk with rfl|rfl
   ·exact hkan
   ·exact hkbn
  refine Xe ?_
  subst hF
  simp only[List.replicate,s_0,s_s]
  refine X9 fun K hK=>Xn Xj [] ?_
  simp (maxSteps:=9^7) only[ss,X1,tab,simprocAttr, -List.reduceReplicate]
  repeat' (first|(with_reducible refine hK _ ?_;clear hK K)|with_reducible apply And.intro)
  have t4:List.take 128 (Y40 r.gen 4)=Y40 r.gen 4:=List.take_of_length_le (by rw[hgl];decide)
  have hk1:=Ya7 r
  have hk2:=Y7r r i
  have hk3:=Y6a r hi
  have hpl:(X7t (Y4a r) 118 i).length≤118:=by unfold X7t;rw[List.length_take];omega
  have hm100:Y3n r≤100:=by unfold Y3n;omega
  refine X9 fun K hK=>Ny Xj [] [[],[],[0]] [[],[],[0]] follows (by kernel_rfl) (by decide) (by decide) (by kernel_rfl) ?_
  simp (maxSteps:=9^7) only[ss,X1,tab,simprocAttr, -List.reduceReplicate,P6,Nh,X5,hgl,List.length_replicate,Nat.reduceSub,Int.reduceToNat,Q2,Xa7,t4,Y76 r]
  repeat' (first|(with_reducible refine hK _ ?_;clear hK K)|with_reducible apply And.intro)
  all_goals try decide
  have hc1:IntKind.u8.wrap (i:Int)=((UInt8.ofNat i).toNat:Int):=by rw[X1n,UInt8.toNat_ofNat'];omega
  have hc2:IntKind.u8.wrap ((Y3n r:Nat):Int)=((UInt8.ofNat (Y3n r)).toNat:Int):=by rw[X1n,UInt8.toNat_ofNat'];omega
  have hs1:=F7 b8 (Yaz r) 4 (UInt8.ofNat i) (by omega)
  have hs2:=F7 b8 ((Yaz r).set 4 (UInt8.ofNat i)) 5 (UInt8.ofNat (Y3n r)) (by rw[List.length_set];omega)
  rw[Ya8] at hs2
  refine X9 fun K hK=>Xik Xj [] [n+1,n+6] [[100],[],[],[],[],[],[0],[],[0]] [[],[],[],[],[],[],[0],[],[0]] hoN hoL follows (by kernel_rfl) (by decide) (by decide) (by kernel_rfl) ?_
  simp (maxSteps:=9^7) only[ss,X1,tab,simprocAttr, -List.reduceReplicate,so,X8 hkan,X7 hkan,hka,List.length_map,List.length_range,hc1,hc2,hs1,hs2,hk1,List.length_set,Int.reduceToNat]
  repeat' (first|(with_reducible refine hK _ ?_;clear hK K)|with_reducible apply And.intro)
  all_goals try decide
  have hs3:=Y77 r hi
  have hs4:=Y78 r hi
  have tp:List.take 122 (X7t (Y4a r) 118 i)=X7t (Y4a r) 118 i:=List.take_of_length_le (by omega)
  have t4':List.take 4 (Y40 r.gen 4)=Y40 r.gen 4:=List.take_of_length_le (by rw[hgl];decide)
  refine X9 fun K hK=>Xn Xj [] ?_
  simp (maxSteps:=9^7) only[ss,X1,tab,simprocAttr, -List.reduceReplicate,P6,Nh,X5,hgl,List.length_map,hk2,Nat.reduceSub,Int.reduceToNat,Q2,Xa7,tp,hs3,Nat.min_eq_left (Nat.le_trans hpl (by decide:118≤122))]
  repeat' (first|(with_reducible refine hK _ ?_;clear hK K)|with_reducible apply And.intro)
  all_goals try omega
  refine X9 fun K hK=>Ny Xj [] [[],[],[0]] [[],[],[0]] follows (by kernel_rfl) (by decide) (by decide) (by kernel_rfl) ?_
  simp (maxSteps:=9^7) only[ss,X1,tab,simprocAttr, -List.reduceReplicate,P6,Nh,X5,hgl,List.length_map,hk3,Nat.reduceSub,Int.reduceToNat,Q2,Xa7,t4',hs4]
  repeat' (first|(with_reducible refine hK _ ?_;clear hK K)|with_reducible apply And.intro)
  all_goals try decide
  have lit2:∀(σ:AState) (K:AV→List (Nat×Res)→Prop) (k o l:Nat) (fl:Bool),X1 tab σ K none 40 1 [(0,.bsl k o l fl)]=K (.sl 1 [[.bsl k o l fl]] .full) []:=fun σ K k o l fl=>Yk (T:=tab) (ti:=ti40) (te:=ti44) rfl rfl rfl (by decide) (by decide) rfl rfl
  have hne:(n+6=n+1)=False:=eq_false (by omega)
  have y1:(i+1)*24≤140737488355328:=by omega
  have y2:i+1≤9223372036854775807:=by omega
  have hk6:∀q,Xw out' (n+6) q (n+1)=some (.box 40 [.sl 1 (((List.range i).map (Xgh r)).map Y6) (.own (n+6))]):=fun q=>by
   rw[Zp _ _ (by omega)];exact hka
  refine Y9i ?_
  refine Xik Xj [] [n+1,n+6] [[100],[],[],[101],[100]] [[],[],[],[101],[100]] hoN hoL follows (by kernel_rfl) (by decide) (by decide) (by kernel_rfl) ?_
  simp (maxSteps:=9^7) only[ss,tab,simprocAttr, -List.reduceReplicate,so,X8 hkan,X7 hkan,hka,X8 hkbn,X7 hkbn,hkb,Xa hkan,Xa hkbn,List.length_map,List.length_range,hne,lit2,y1,y2,P6,Nh,hk6,X0,Nat.sub_zero]
  refine⟨_,Y72 (i:=0) (k:=n+1) 1 [] (lo1:=[some (.box 147 ((Xgh r i).map b8))]) rfl (Xt _ _ _) (Xjc _) ?_ (Ya9 (b:=[bs (Xgh r i)]) ⟨?_,trivial⟩),rfl,fun k hk=> ?_⟩
  ·simp only[Xmh,Xmy,Xlz,true_and,and_true]
  ·have h:=Fz.bsl (k:=n'+0) (sz:=1) (cs:=(Xgh r i).map b8) 0 128 false ⟨by decide,by rw[List.length_map,Y4z r hi];decide⟩
   rw[List.drop_zero,Xa1 _ (Y4z r hi)] at h
   exact h
  ·show Xw (Xw (Xw out' (n+6) _) (n+1) _) (n+1) _ k= _
   rw[Jp,List.range_succ,List.map_append,List.map_append]
   simp only[Zc,Wz,Xw]
   by_cases q1:k=n+1
   ·have q2:¬k=n+6:=by omega
    rw[if_pos q1,if_neg q2,if_pos q1];rfl
   ·by_cases q2:k=n+6
    ·rw[if_neg q1,if_pos q2,if_pos q2]
    ·rw[if_neg q1,if_neg q2,if_neg q2,if_neg q1]
 ·subst hF
  simp only[holds,s_0,s_s,X2a,List.getElem?_cons_zero,List.getElem?_cons_succ,Option.join_some,and_true,true_and,List.range_zero,List.map_nil]
 ·exact⟨Xb _ (by simp),Xb _ (by simp),trivial⟩
 ·intro x hx
  simp only[List.mem_cons,List.not_mem_nil,or_false] at hx
  rcases hx with rfl|rfl|rfl
  ·exact Xb _ (by simp)
  ·exact Xb _ (by simp)
  ·exact Xb _ (by simp)
 ·intro x hx
  simp only[List.mem_cons,List.not_mem_nil,or_false] at hx
  rcases hx with rfl|rfl
  ·show n+1≠n+5
   omega
  ·show n+6≠n+5
   omega
 simp only[Qd,Z4,s_0,s_s,Ybp]
 refine hKB _ ?_
 clear hKB KB
 refine AWp.zero ?_
 refine X9 fun K hK=>Xn Xj [] ?_
 simp (maxSteps:=9^7) only[ss,X1,tab,simprocAttr, -List.reduceReplicate,X0]
 repeat' (first|(with_reducible refine hK _ ?_;clear hK K)|with_reducible apply And.intro)
 refine Yd ?_
 exact⟨4,D,rfl,rfl,Xu (.inr rfl) rfl rfl rfl (fun j _=>by rw[Zc,Qb hk,Wz]) ok40 (k:=n+1) (off:=0) rfl (Xb _ (by simp)) (X6 _ (Nat.le_refl _) 1) rfl (.sh _ _ _)⟩
theorem S1 (k:Nat) (d:Dsk) (s:Nat) (hm:may d=true) (hs:s=0∨s=16) (x:Rc) (hx:Y3r d s=some x) (hx0:x.text≠[]):Xr Try.prog 72 [Y3p d,i64 (s:Int)] [(k,none)] (.tup [.agg [w32 x.gen,.bsl k 0 x.text.length false],bool true]) [(k,.box 5 (x.text.map b8))]:=by
 have hsm:=Y3x hm
 have cr:=fun i (hi:i<16)=>Xea d ((s+i:Nat):Int) hsm.s hsm.w
 have er:∀i,i<16→Xau d ((s+i:Nat):Int)=0:=fun i hi=>Xju.2 ⟨hm,by omega,by omega⟩
 have hS16:=Y7k d s
 have hS128:=Y6o hm hs
 have hSat:=fun i (hi:i<16)=>Yau d s hi
 obtain⟨O,hO⟩:∃O,O=Y3r d s:=⟨_,rfl⟩
 obtain⟨S,hS⟩:∃S,S=Y4q d s:=⟨_,rfl⟩
 unfold Y3r at hO
 rw[← hS] at hO hS16 hS128 hSat
 have hSg:∀i (hi:i<S.length),S[i]=Xkr d ((s+i:Nat):Int):=fun i hi=>by
  rw[← hSat i (by omega)];simp [List.getD_eq_getElem?_getD,hi]
 have hOx:O=some x:=by rw[← hx,hO,hS];rfl
 simp only[Y3p,Xha] at cr
 refine Xc 4 Try.func72 rfl fun n out _ _=> ?_
 simp only[Try.ntmps72,List.length_cons,List.length_nil,List.length_map,List.length_replicate,Xf,Nat.reduceAdd,Nat.reduceSub,List.replicate,List.cons_append,List.nil_append]
 rename_i hneeds hgv
 obtain⟨hk,_⟩:=hneeds
 obtain⟨hkn,_⟩:=hgv
 repeat' (first|(with_reducible first|refine Vk fun K hK=> ?_|refine V0 ?_|refine Vb ?_|refine Vc ?_|refine Vr ?_|refine Vs ?_|apply And.intro|refine Vq (by kernel_rfl) ?_)|((with_reducible first|refine gE ?_|refine gR ?_);simp (maxSteps:=9^7) only[ss,X1,tab,simprocAttr, -List.reduceReplicate,Y3p,Xha])|exact Vn|((with_reducible refine Vz ?_);(first|refine Xp (.inr rfl) rfl rfl rfl (fun _ _=>rfl) ok60 (k:=n+1) (off:=0) rfl (Xb _ (by simp)) (X6 _ (Nat.le_refl _) 1) rfl rfl ?_|refine Xp (.inr rfl) rfl rfl rfl (fun _ _=>rfl) ok60 (k:=m+1) (off:=0) rfl (Xb _ (by simp)) (X6 _ hm 1) rfl rfl ?_)<;>first|rfl|exact AV.le.rfl _|(simp only[X4,sl,ti60,List.map_nil,Y3p,Xha];done)|rfl|skip)|((with_reducible refine Vg (fun hg=> ?_) (fun hg=> ?_))<;>(try simp only[nb] at hg)<;>simp (maxSteps:=9^7) only[ss,X1,tab,simprocAttr, -List.reduceReplicate,hg,Y3p,Xha])|((with_reducible refine Vx ?_);simp only[sb,reduceIte,Nat.reduceEqDiff])|(refine hK _ ?_;clear hK K)|refine Vt rfl ?_|refine Vf rfl ?_|refine Vi rfl (fun hg=> ?_) (fun hg=> ?_)|clear hK K)
 refine Yy (Q9 (i:=2) 44 1 rfl) ?_
 refine Yy (Q9 (i:=3) 5 1 rfl) ?_
 simp only[s_0,s_s]
 refine Xe ?_
 refine Xz (fun i:Nat=>[(15,i64 (i:Int)),(6,.sl 1 ((S.take i).map Y6) (.own (n+2))),(7,.top),(8,.top),(9,.top),(16,.top),(17,.top),(18,.top),(19,.top),(20,.top),(21,.top),(22,.top),(23,.top),(24,.top),(25,.top),(26,.top),(27,.top),(28,.top),(29,.top),(30,.top)]) (fun i=>[some (.box 43 (Xha d)),some (.box 60 [.val (.int .u32 0),.sl 0 [] .nil]),some (.row 44 1 i),some (.row 5 1 0)]) (fun i=>out) (fun i=>i≤16) (fun i=>16 - i) 0 (Nat.zero_le _) ?_ fun i hi=> ?_
 ·refine X2 ?_ ?_ (by first|rfl|(simp only[Xha,List.take_zero,List.map_nil];rfl)|simp only[Xha,List.take_zero,List.map_nil]) rfl rfl rfl<;>simp only[X4,sl,Xha,List.take_zero,List.map_nil]
 simp only[X4,s_0,s_s]
 have hw:=Yl (n:=i) 1 1 rfl (by omega)
 by_cases hlt:i<16
 ·have hlt':(i:Int)<16:=by omega
  have hws:=Yl (n:=s) (i:Int) i rfl (by omega)
  have c1:=cr i hlt
  rw[er i hlt,← hSg i (by omega)] at c1
  have y1:(i+1)*24≤140737488355328:=by omega
  have y2:i+1≤9223372036854775807:=by omega
  have tl:(S.take i).length=i:=by rw[List.length_take];omega
  have lit:∀(σ:AState) (K:AV→List (Nat×Res)→Prop),X1 tab σ K none 40 1 [(0,bs S[i])]=K (.sl 1 [[bs S[i]]] .full) []:=fun σ K=>Yk (T:=tab) (ti:=ti40) (te:=ti44) rfl rfl rfl (by decide) (by decide) rfl rfl
  have sn:(S.take i).map Y6++[[bs S[i]]]=(S.take (i+1)).map Y6:=by
   rw[List.take_succ_eq_append_getElem (by omega),List.map_append];rfl
  repeat' (first|(with_reducible first|refine Vk fun K hK=> ?_|refine V0 ?_|refine Vb ?_|refine Vc ?_|refine Vr ?_|refine Vs ?_|apply And.intro|refine Vq (by kernel_rfl) ?_)|((with_reducible first|refine gE ?_|refine gR ?_);simp (maxSteps:=9^7) only[ss,tab,simprocAttr, -List.reduceReplicate,lit,Xha,hlt',hws,List.length_map,tl,y1,y2,hw])|exact Vn|((with_reducible refine Vz ?_);(first|refine Xp (.inr rfl) rfl rfl rfl (fun _ _=>rfl) ok60 (k:=n+1) (off:=0) rfl (Xb _ (by simp)) (X6 _ (Nat.le_refl _) 1) rfl rfl ?_|refine Xp (.inr rfl) rfl rfl rfl (fun _ _=>rfl) ok60 (k:=m+1) (off:=0) rfl (Xb _ (by simp)) (X6 _ hm 1) rfl rfl ?_)<;>first|rfl|exact AV.le.rfl _|(simp only[X4,sl,ti60,List.map_nil,lit,Xha,hlt',hws,List.length_map,tl,y1,y2,hw];done)|rfl|skip)|(refine X3 (c1) ?_)|((with_reducible refine Vg (fun hg=> ?_) (fun hg=> ?_))<;>(try simp only[nb] at hg)<;>simp (maxSteps:=9^7) only[ss,tab,simprocAttr, -List.reduceReplicate,hg,lit,Xha,hlt',hws,List.length_map,tl,y1,y2,hw])|((with_reducible refine Vx ?_);simp only[sb,reduceIte,Nat.reduceEqDiff])|(refine hK _ ?_;clear hK K)|refine Vt rfl ?_|refine Vf rfl ?_|refine Vi rfl (fun hg=> ?_) (fun hg=> ?_)|clear hK K)
  rw[sn]
  refine⟨i+1,by omega,by omega,?_⟩
  refine X2 ?_ ?_ rfl rfl rfl rfl<;>simp only[X4,sl,Xha,hlt',decide_true]
 ·obtain rfl:i=16:=by omega
  rw[List.take_of_length_le (by omega)]
  have h0:0<S.length:=by omega
  have g0:=Xg Y6 S 0 [] h0
  have l0:S[0].length=128:=hS128 _ (List.getElem_mem h0)
  have d0:S.getD 0 []=S[0]:=by simp [List.getD_eq_getElem?_getD,h0]
  have g5:=Xqt S[0] 5 (by omega)
  have c2:=Ya2 (S[0].take 4) .sh (by rw[List.length_take];omega)
  unfold Y65 at hO
  rw[d0] at hO
  obtain⟨M,hM⟩:∃M,M=(S[0].getD 5 0).toNat:=⟨_,rfl⟩
  obtain⟨G,hG⟩:∃G,G=Y55 (S[0].take 4):=⟨_,rfl⟩
  rw[← hM,← hG] at hO
  rw[← hG] at c2
  have c3:=Y8s G
  have hM256:M<256:=by rw[hM];exact UInt8.toNat_lt _
  have hc1:IntKind.i64.wrap ((S[0].getD 5 0).toNat:Int)=(M:Int):=by rw[← hM,wrap_i64]<;>omega
  have none_le:O=none→False:=fun h=>by rw[hOx] at h;cases h
  have hbad:(M<1∨16<M∨G=0∨Y3q G≠s)→O=none:=fun h=>by rw[hO,if_pos h]
  repeat' (first|(with_reducible first|refine Vk fun K hK=> ?_|refine V0 ?_|refine Vb ?_|refine Vc ?_|refine Vr ?_|refine Vs ?_|apply And.intro|refine Vq (by kernel_rfl) ?_)|((with_reducible first|refine gE ?_|refine gR ?_);simp (maxSteps:=9^7) only[ss,X1,tab,simprocAttr, -List.reduceReplicate,Xha,List.length_map,hS16,g0,Y6,X5,l0,g5,hc1,P6,Nh,Q2,Nat.sub_zero,Int.reduceToNat,Y57])|exact Vn|((with_reducible refine Vz ?_);(first|refine Xp (.inr rfl) rfl rfl rfl (fun _ _=>rfl) ok60 (k:=n+1) (off:=0) rfl (Xb _ (by simp)) (X6 _ (Nat.le_refl _) 1) rfl rfl ?_|refine Xp (.inr rfl) rfl rfl rfl (fun _ _=>rfl) ok60 (k:=m+1) (off:=0) rfl (Xb _ (by simp)) (X6 _ hm 1) rfl rfl ?_)<;>first|rfl|exact AV.le.rfl _|(simp only[X4,sl,ti60,List.map_nil,Xha,List.length_map,hS16,g0,Y6,X5,l0,g5,hc1,P6,Nh,Q2,Nat.sub_zero,Int.reduceToNat,Y57];done)|rfl|skip)|(refine X3 (c2) ?_)|(refine X3 (c3) ?_)|((with_reducible refine Vg (fun hg=> ?_) (fun hg=> ?_))<;>(try simp only[nb] at hg)<;>simp (maxSteps:=9^7) only[ss,X1,tab,simprocAttr, -List.reduceReplicate,hg,Xha,List.length_map,hS16,g0,Y6,X5,l0,g5,hc1,P6,Nh,Q2,Nat.sub_zero,Int.reduceToNat,Y57])|((with_reducible refine Vx ?_);simp only[sb,reduceIte,Nat.reduceEqDiff])|(refine hK _ ?_;clear hK K)|refine Vt rfl ?_|refine Vf rfl ?_|refine Vi rfl (fun hg=> ?_) (fun hg=> ?_)|clear hK K)
  ·refine(none_le (hbad (.inl ?_))).elim
   have h:decide ((M:Int)<1)=true:=by assumption
   have:=of_decide_eq_true h
   omega
  ·refine(none_le (hbad (.inr (.inl ?_)))).elim
   have h:decide ((M:Int)>16)=true:=by assumption
   have:=of_decide_eq_true h
   omega
  ·refine(none_le (hbad (.inr (.inr (.inl ?_))))).elim
   have h:decide (G=0)=true:=by assumption
   exact of_decide_eq_true h
  ·refine(none_le (hbad (.inr (.inr (.inr ?_))))).elim
   have h:((Y3q G:Int) !=(s:Int))=true:=by assumption
   intro e
   rw[e] at h;simp at h
  ·have h:decide ((M:Int)>16)=false:=by assumption
   have:=of_decide_eq_false h
   omega
  have hM1:1≤M:=by
   have h:decide ((M:Int)<1)=false:=by assumption
   have:=of_decide_eq_false h
   omega
  have hM16:M≤16:=by
   have h:decide ((M:Int)>16)=false:=by assumption
   have:=of_decide_eq_false h
   omega
  have hG0:G≠0:=by
   have h:decide (G=0)=false:=by assumption
   exact of_decide_eq_false h
  have hGs:Y3q G=s:=by
   have h:((Y3q G:Int) !=(s:Int))=false:=by assumption
   simp at h;omega
  rw[if_neg (by simp only[not_or];exact⟨by omega,by omega,hG0,by simpa using hGs⟩)] at hO
  have htl:((S.map Y6).take M).length=M:=by rw[List.length_take,List.length_map];omega
  have hal:∀i,i≤M→(Y9l S i).length=118*i:=fun i hi=>Y5f hS128 (by omega)
  refine Xe ?_
  refine Xz (fun i:Nat=>[(66,i64 (i:Int)),(11,.sl 1 (Xo (Y9l S i)) (.own (n+3))),(13,.top),(67,.top),(68,.top),(69,.top),(70,.top),(71,.top),(72,.top),(73,.top),(74,.top)]) (fun i=>[some (.box 43 (Xha d)),some (.box 60 [w32 G,.sl 0 [] .nil]),some (.row 44 1 16),some (.row 5 1 (118*i))]) (fun i=>out) (fun i=>i≤M) (fun i=>M - i) 0 (Nat.zero_le _) ?_ fun i hi=> ?_
  ·refine X2 ?_ ?_ (by first|rfl|(simp only[Xha,Y8l,Wb,Nat.mul_zero];rfl)|simp only[Xha,Y8l,Wb,Nat.mul_zero]) rfl rfl rfl<;>simp only[X4,sl,Xha,Y8l,Wb,Nat.mul_zero]
  simp only[X4,s_0,s_s]
  have hw:=Yl (n:=i) 1 1 rfl (by omega)
  by_cases hlt:i<M
  ·have hlt':(i:Int)<(M:Int):=by omega
   have gt:((S.map Y6).take M).getD i []=Y6 S[i]:=by
    rw[← List.map_take,Xg Y6 (S.take M) i [] (by rw[List.length_take];omega)];simp
   have li:S[i].length=128:=hS128 _ (List.getElem_mem (by omega))
   have hali:=hal i (by omega)
   have lS:(List.take 118 (List.drop 6 S[i])).length=118:=by rw[List.length_take,List.length_drop];omega
   have y1:118*i+118≤140737488355328:=by omega
   have y2:118*i+118≤9223372036854775807:=by omega
   have sn:Xo (Y9l S i)++Xo ((S[i].drop 6).take 118)=Xo (Y9l S (i+1)):=by
    rw[L6,← Y8m S (by omega)]
   repeat' (first|(with_reducible first|refine Vk fun K hK=> ?_|refine V0 ?_|refine Vb ?_|refine Vc ?_|refine Vr ?_|refine Vs ?_|apply And.intro|refine Vq (by kernel_rfl) ?_)|((with_reducible first|refine gE ?_|refine gR ?_);simp (maxSteps:=9^7) only[ss,X1,tab,simprocAttr, -List.reduceReplicate,Xha,hlt',htl,hlt,gt,Y6,X5,li,lS,P6,Nh,Q2,Q1,Int.reduceToNat,Nat.reduceSub,hali,y1,y2,sn,hw])|exact Vn|((with_reducible refine Vz ?_);(first|refine Xp (.inr rfl) rfl rfl rfl (fun _ _=>rfl) ok60 (k:=n+1) (off:=0) rfl (Xb _ (by simp)) (X6 _ (Nat.le_refl _) 1) rfl rfl ?_|refine Xp (.inr rfl) rfl rfl rfl (fun _ _=>rfl) ok60 (k:=m+1) (off:=0) rfl (Xb _ (by simp)) (X6 _ hm 1) rfl rfl ?_)<;>first|rfl|exact AV.le.rfl _|(simp only[X4,sl,ti60,List.map_nil,Xha,hlt',htl,hlt,gt,Y6,X5,li,lS,P6,Nh,Q2,Q1,Int.reduceToNat,Nat.reduceSub,hali,y1,y2,sn,hw];done)|rfl|skip)|((with_reducible refine Vg (fun hg=> ?_) (fun hg=> ?_))<;>(try simp only[nb] at hg)<;>simp (maxSteps:=9^7) only[ss,X1,tab,simprocAttr, -List.reduceReplicate,hg,Xha,hlt',htl,hlt,gt,Y6,X5,li,lS,P6,Nh,Q2,Q1,Int.reduceToNat,Nat.reduceSub,hali,y1,y2,sn,hw])|((with_reducible refine Vx ?_);simp only[sb,reduceIte,Nat.reduceEqDiff])|(refine hK _ ?_;clear hK K)|refine Vt rfl ?_|refine Vf rfl ?_|refine Vi rfl (fun hg=> ?_) (fun hg=> ?_)|clear hK K)
   refine⟨i+1,by omega,by omega,?_⟩
   refine X2 ?_ ?_ rfl rfl rfl rfl<;>simp only[X4,sl,Xha,hlt',htl,hlt,decide_true,Nat.mul_succ]
  ·obtain rfl:i=M:=by omega
   have hlt':¬(i:Int)<(i:Int):=by omega
   have hA:=hal i (Nat.le_refl _)
   obtain⟨A,hAA⟩:∃A,A=Y9l S i:=⟨_,rfl⟩
   have hO':O=if A.length - 6<(Y55 ((A.drop 4).take 2)).toNat then none else if Y3v ⟨G,(A.drop 6).take (Y55 ((A.drop 4).take 2)).toNat⟩=S.take i then some ⟨G,(A.drop 6).take (Y55 ((A.drop 4).take 2)).toNat⟩ else none:=by rw[hO,hAA];rfl
   clear hO
   rw[← hAA] at hA⊢
   have c4:=Ya2 ((A.drop 4).take 2) .sh (by rw[List.length_take];omega)
   obtain⟨sz,hsz⟩:∃sz,sz=(Y55 ((A.drop 4).take 2)).toNat:=⟨_,rfl⟩
   have hsz32:sz<4294967296:=by rw[hsz];exact BitVec.isLt _
   have hc2:IntKind.i64.wrap ((Y55 ((A.drop 4).take 2)).toNat:Int)=(sz:Int):=by rw[← hsz,wrap_i64]<;>omega
   rw[← hsz] at hO'
   have hsub:=X25 (n:=A.length) 6 6 rfl (by omega) (by omega)
   repeat' (first|(with_reducible first|refine Vk fun K hK=> ?_|refine V0 ?_|refine Vb ?_|refine Vc ?_|refine Vr ?_|refine Vs ?_|apply And.intro|refine Vq (by kernel_rfl) ?_)|((with_reducible first|refine gE ?_|refine gR ?_);simp (maxSteps:=9^7) only[ss,X1,tab,simprocAttr, -List.reduceReplicate,Xha,hlt',htl,X5,Q2,Q1,P6,Nh,Int.reduceToNat,Nat.reduceSub])|exact Vn|((with_reducible refine Vz ?_);(first|refine Xp (.inr rfl) rfl rfl rfl (fun _ _=>rfl) ok60 (k:=n+1) (off:=0) rfl (Xb _ (by simp)) (X6 _ (Nat.le_refl _) 1) rfl rfl ?_|refine Xp (.inr rfl) rfl rfl rfl (fun _ _=>rfl) ok60 (k:=m+1) (off:=0) rfl (Xb _ (by simp)) (X6 _ hm 1) rfl rfl ?_)<;>first|rfl|exact AV.le.rfl _|(simp only[X4,sl,ti60,List.map_nil,Xha,hlt',htl,X5,Q2,Q1,P6,Nh,Int.reduceToNat,Nat.reduceSub];done)|rfl|skip)|((with_reducible refine Vg (fun hg=> ?_) (fun hg=> ?_))<;>(try simp only[nb] at hg)<;>simp (maxSteps:=9^7) only[ss,X1,tab,simprocAttr, -List.reduceReplicate,hg,Xha,hlt',htl,X5,Q2,Q1,P6,Nh,Int.reduceToNat,Nat.reduceSub])|((with_reducible refine Vx ?_);simp only[sb,reduceIte,Nat.reduceEqDiff])|(refine hK _ ?_;clear hK K)|refine Vt rfl ?_|refine Vf rfl ?_|refine Vi rfl (fun hg=> ?_) (fun hg=> ?_)|clear hK K)
   ·omega
   refine X3 c4 ?_
   simp (maxSteps:=9^7) only[ss,X1,tab,simprocAttr, -List.reduceReplicate,hc2]
   repeat' (first|(with_reducible refine hK _ ?_;clear hK K)|with_reducible apply And.intro)
   by_cases hbig:A.length - 6<sz
   ·rw[if_pos hbig] at hO'
    exact(none_le hO').elim
   ·rw[if_neg hbig] at hO'
    have hadd:IntKind.i64.wrap (6+(sz:Int))=((6+sz:Nat):Int):=by rw[wrap_i64]<;>omega
    have hTl:((A.drop 6).take sz).length≤1882:=by rw[List.length_take,List.length_drop];omega
    obtain⟨T,hT⟩:∃T,T=(A.drop 6).take sz:=⟨_,rfl⟩
    rw[← hT] at hO' hTl
    have hq:Y3v ⟨G,T⟩=S.take i:=by
     rcases Classical.em (Y3v ⟨G,T⟩=S.take i) with h|h
     ·exact h
     ·rw[if_neg h] at hO';exact(none_le hO').elim
    rw[if_pos hq,hOx] at hO'
    have hxe:x=⟨G,T⟩:=Option.some.inj hO'
    subst hxe
    have hT0:0<T.length:=List.length_pos_iff.2 hx0
    have c5:=Xl8 k T (by omega) hT0
    have c6:=B0 k ⟨G,T⟩ (by show T.length≤10000;omega)
    have c7:=Xjz (Y3v ⟨G,T⟩) (S.take i) 52 [] (fun a b=>a==b) (hb0 _ (by decide) (by decide)) (by rw[Y3t];have:=Y48 (r:=⟨G,T⟩) hTl;omega) (fun x _ y _=>Xl7 x y)
    rw[Xkz,show(Y3v ⟨G,T⟩==S.take i)=true from beq_iff_eq.2 hq] at c7
    have ht:List.take i (List.map Y6 S)=List.map Y6 (S.take i):=by rw[List.map_take]
    have e6:6+sz≤A.length:=by omega
    have e7:6≤6+sz:=by omega
    have hoA:Xj1 n [(k,1)]:=Xkp fun j hj=>by omega
    dsimp only at c6
    repeat' (first|(with_reducible first|refine Vk fun K hK=> ?_|refine V0 ?_|refine Vb ?_|refine Vc ?_|refine Vr ?_|refine Vs ?_|apply And.intro)|((with_reducible first|refine gE ?_|refine gR ?_);simp (maxSteps:=9^7) only[ss,X1,tab,simprocAttr, -List.reduceReplicate,X5,hsub,hbig,Q2,Q1,P6,Nh,Int.reduceToNat,Nat.add_sub_cancel_left,Nat.sub_zero,hadd,e6,e7,← hT,X0,Xa hkn])|exact Vn|((with_reducible refine Vz ?_);(first|refine Xp (.inr rfl) rfl rfl rfl (fun _ _=>rfl) ok60 (k:=n+1) (off:=0) rfl (Xb _ (by simp)) (X6 _ (Nat.le_refl _) 1) rfl rfl ?_|refine Xp (.inr rfl) rfl rfl rfl (fun _ _=>rfl) ok60 (k:=m+1) (off:=0) rfl (Xb _ (by simp)) (X6 _ hm 1) rfl rfl ?_)<;>first|rfl|exact AV.le.rfl _|(simp only[X4,sl,ti60,List.map_nil,X5,hsub,hbig,Q2,Q1,P6,Nh,Int.reduceToNat,Nat.add_sub_cancel_left,Nat.sub_zero,hadd,e6,e7,← hT,X0,Xa hkn];done)|rfl|skip)|(refine Sb c5 (by rw[X8 hkn];exact hk) (by rw[X7 hkn];trivial) (by simp) ?_)|((with_reducible refine Vg (fun hg=> ?_) (fun hg=> ?_))<;>(try simp only[nb] at hg)<;>simp (maxSteps:=9^7) only[ss,X1,tab,simprocAttr, -List.reduceReplicate,hg,X5,hsub,hbig,Q2,Q1,P6,Nh,Int.reduceToNat,Nat.add_sub_cancel_left,Nat.sub_zero,hadd,e6,e7,← hT,X0,Xa hkn])|((with_reducible refine Vx ?_);simp only[sb,reduceIte,Nat.reduceEqDiff])|(refine hK _ ?_;clear hK K)|refine Vt rfl ?_|refine Vf rfl ?_|refine Vi rfl (fun hg=> ?_) (fun hg=> ?_)|clear hK K)
    refine Xib Xj [] [(k,1)] [[1],[100],[],[],[],[],[]] [[],[100],[],[],[],[],[]] hoA follows (by kernel_rfl) (by decide) (by decide) (by kernel_rfl) ?_
    simp (maxSteps:=9^7) only[ss,X1,tab,simprocAttr, -List.reduceReplicate,sf,X5]
    refine Sb c6 (by rw[X8 hkn,Xlg (x:=100) (by decide) (by decide) rfl (by dsimp only;omega)];exact Xt _ _ _) (by rw[X7 hkn];trivial) (by simp) ?_
    refine Xmb (z:=100) (by decide) (by decide) rfl ?_
    simp (maxSteps:=9^7) only[ss,X1,tab,simprocAttr, -List.reduceReplicate,sf,Xa hkn,ht,List.length_map,hS16,X5,P6,Nh,Nat.sub_zero]
    repeat' with_reducible apply And.intro
    any_goals omega
    refine X3 c7 ?_
    simp (maxSteps:=9^7) only[ss,X1,tab,simprocAttr, -List.reduceReplicate,sf,Bool.not_true]
    repeat' (first|(with_reducible refine hK _ ?_;clear hK K)|with_reducible apply And.intro)
    repeat' (first|(with_reducible first|refine Vk fun K hK=> ?_|refine V0 ?_|refine Vb ?_|refine Vc ?_|refine Vr ?_|refine Vs ?_|apply And.intro|refine Vq (by kernel_rfl) ?_)|((with_reducible first|refine gE ?_|refine gR ?_);simp (maxSteps:=9^7) only[ss,X1,tab,simprocAttr, -List.reduceReplicate,X0])|exact Vn|((with_reducible refine Vz ?_);(first|refine Xp (.inr rfl) rfl rfl rfl (fun _ _=>rfl) ok60 (k:=n+1) (off:=0) rfl (Xb _ (by simp)) (X6 _ (Nat.le_refl _) 1) rfl rfl ?_|refine Xp (.inr rfl) rfl rfl rfl (fun _ _=>rfl) ok60 (k:=m+1) (off:=0) rfl (Xb _ (by simp)) (X6 _ hm 1) rfl rfl ?_)<;>first|rfl|exact AV.le.rfl _|(simp only[X4,sl,ti60,List.map_nil,X0];done)|rfl|skip)|((with_reducible refine Vg (fun hg=> ?_) (fun hg=> ?_))<;>(try simp only[nb] at hg)<;>simp (maxSteps:=9^7) only[ss,X1,tab,simprocAttr, -List.reduceReplicate,hg,X0])|((with_reducible refine Vx ?_);simp only[sb,reduceIte,Nat.reduceEqDiff])|(refine hK _ ?_;clear hK K)|refine Vt rfl ?_|refine Vf rfl ?_|refine Vi rfl (fun hg=> ?_) (fun hg=> ?_)|clear hK K)
    refine Yd ?_
    refine Xp (.inr rfl) rfl rfl rfl (fun j _=>by rw[Zc,Wz];simp only[Jp]) ok60 (k:=n+1) (off:=0) rfl (Xb _ (by simp)) (X6 _ (Nat.le_refl _) 1) rfl rfl ?_
    exact AV.le.rfl _
def Yd6 (t:List UInt8):List (Option Res):=if t=[] then[] else[some (.box 5 (t.map b8))]
def txB (k:Nat) (t:List UInt8):AV:=if t=[] then bs t else .bsl k 0 t.length false
def Zn:Option Rc→List (Option Res)
 |none=>[]
 |some x=>Yd6 x.text
def Lk (k:Nat):Option Rc→AV
 |none=>Y7l none
 |some x=> .tup [.agg [w32 x.gen,txB k x.text],bool true]
theorem Ws (k:Nat) (d:Dsk) (s:Nat) (hm:may d=true) (hs:s=0∨s=16):Xr Try.prog 72 [Y3p d,i64 (s:Int)] (Xev k (Zn (Y3r d s))) (Lk k (Y3r d s)) (Y62 k (Zn (Y3r d s))):=by
 have c:=Y5j d s hm hs
 cases h:Y3r d s with
 |none=>rw[h] at c;exact c
 |some x=>
  by_cases h0:x.text=[]
  ·rw[h] at c
   have e1:Zn (some x)=[]:=by simp [Zn,Yd6,h0]
   have e2:Lk k (some x)=Y7l (some x):=by simp [Lk,Y7l,rcA,rcC,txB,h0]
   rw[e1,e2];exact c
  ·have c1:=S1 k d s hm hs x h h0
   have e1:Zn (some x)=[some (.box 5 (x.text.map b8))]:=by simp [Zn,Yd6,h0]
   have e2:Lk k (some x)= .tup [.agg [w32 x.gen,.bsl k 0 x.text.length false],bool true]:=by simp [Lk,txB,h0]
   rw[e1,e2];exact c1
end Go.Proofs.Ytjgbbjooeibppaa
