/- The layer of abstract values, joined. -/
import Derived.Test.YtjgbbjooeibppaaZD2
import Derived.Test.YtjgbbjooeibppaaZE6
import Derived.Test.YtjgbbjooeibppaaZVsFrz
import Derived.Test.YtjgbbjooeibppaaZVsDraw
namespace Go.Proofs.Ytjgbbjooeibppaa
set_option linter.unusedVariables false
set_option linter.unusedSimpArgs false
open Go Go.VS Tab
set_option maxHeartbeats 8000000
set_option maxRecDepth 8000
def rcC (r:Rc):List AV:=[w32 r.gen,bs r.text]
def rcA (r:Rc):AV:= .agg (rcC r)
theorem Y8w (r:Rc) (i:Nat):Y5e r i=X7t (Y4a r) 118 i++List.replicate (118 - (X7t (Y4a r) 118 i).length) 0∨Y3n r≤i:=by
 by_cases h:i<Y3n r
 ·left
  have hl:=Y73 r h
  unfold Y5e X7t
  rw[List.drop_append_of_le_length (by omega),List.take_append,List.length_take,List.length_drop]
  congr 1
  rw[List.take_replicate]
  congr 1
  omega
 ·exact .inr (by omega)
theorem Y5l (l q:List UInt8) (o:Nat) (h:o+q.length≤l.length):Yf (l.map b8) o (q.map b8)=(l.take o++q++l.drop (o+q.length)).map b8:=by
 unfold Yf
 simp only[List.map_append,List.map_take,List.map_drop,List.length_map,List.append_assoc]
def Yaz (r:Rc):List UInt8:=Y40 r.gen 4++List.replicate 124 0
def Ybd (r:Rc) (i:Nat):List UInt8:=Y40 r.gen 4++UInt8.ofNat i::UInt8.ofNat (Y3n r)::List.replicate 122 0
def Ybe (r:Rc) (i:Nat):List UInt8:=Y40 r.gen 4++UInt8.ofNat i::UInt8.ofNat (Y3n r)::(Y5e r i++List.replicate 4 0)
theorem Y76 (r:Rc):Yf (List.replicate 128 (.val (.int .u8 0))) 0 ((Y40 r.gen 4).map b8)=(Yaz r).map b8:=by
 have e:List.replicate 128 (AV.val (.int .u8 0))=(List.replicate 128 (0:UInt8)).map b8:=by rw[List.map_replicate];rfl
 rw[e,Y5l _ _ _ (by rw[Y3i,List.length_replicate];decide),Y3i]
 rfl
theorem Ya7 (r:Rc):(Yaz r).length=128:=by unfold Yaz;rw[List.length_append,Y3i,List.length_replicate]
theorem Y7r (r:Rc) (i:Nat):(Ybd r i).length=128:=by unfold Ybd;simp [Y3i]
theorem Ya8 (r:Rc) (i:Nat):((Yaz r).set 4 (UInt8.ofNat i)).set 5 (UInt8.ofNat (Y3n r))=Ybd r i:=by
 unfold Yaz Ybd
 rw[List.set_append_right _ _ (by rw[Y3i];exact Nat.le_refl _),List.set_append_right _ _ (by rw[Y3i];decide),Y3i]
 rfl
theorem Y77 (r:Rc) {i:Nat} (h:i<Y3n r):Yf ((Ybd r i).map b8) 6 ((X7t (Y4a r) 118 i).map b8)=(Ybe r i).map b8:=by
 have hp:=(Y8w r i).resolve_right (by omega)
 have hl:(X7t (Y4a r) 118 i).length≤118:=by unfold X7t;rw[List.length_take];omega
 rw[Y5l _ _ _ (by rw[Y7r];omega)]
 unfold Ybe
 rw[hp]
 generalize X7t (Y4a r) 118 i=q at hl
 unfold Ybd
 have e1:(Y40 r.gen 4++UInt8.ofNat i::UInt8.ofNat (Y3n r)::List.replicate 122 0).take 6=Y40 r.gen 4++[UInt8.ofNat i,UInt8.ofNat (Y3n r)]:=by
  rw[List.take_append,List.take_of_length_le (by rw[Y3i];decide),Y3i];rfl
 have e2:(Y40 r.gen 4++UInt8.ofNat i::UInt8.ofNat (Y3n r)::List.replicate 122 0).drop (6+q.length)=List.replicate (122 - q.length) 0:=by
  rw[List.drop_append,List.drop_of_length_le (by rw[Y3i];omega),Y3i,show 6+q.length - 4=q.length+1+1 by omega,List.drop_succ_cons,List.drop_succ_cons,List.drop_replicate];rfl
 rw[e1,e2,show 122 - q.length=(118 - q.length)+4 by omega,← List.replicate_append_replicate]
 simp
theorem Y6a (r:Rc) {i:Nat} (h:i<Y3n r):(Ybe r i).length=128:=by unfold Ybe;simp [Y3i,Y56 r h]
theorem Y78 (r:Rc) {i:Nat} (h:i<Y3n r):Yf ((Ybe r i).map b8) 124 ((Y40 r.gen 4).map b8)=(Xgh r i).map b8:=by
 rw[Y5l _ _ _ (by rw[Y6a r h,Y3i];decide),Y3i,List.drop_of_length_le (by rw[Y6a r h];decide),List.append_nil]
 congr 1
 unfold Ybe Xgh
 rw[List.take_append,List.take_of_length_le (by rw[Y3i];decide),Y3i,List.append_assoc]
 congr 1
 show(UInt8.ofNat i::UInt8.ofNat (Y3n r)::(Y5e r i++List.replicate 4 0)).take 120++ _= _
 rw[List.take_succ_cons,List.take_succ_cons,List.take_left' (Y56 r h)]
 rfl
theorem Ya9 {k sz:Nat} {cs:List AV} {sz':Nat} {L:List (List AV)} {a b:List AV} {md:Md} (h:fzL k sz cs a b):FzM k sz cs (.sl sz' (L++[a]) md) (.sl sz' (L++[b]) md):=
 .inr ⟨sz',_,_,md,rfl,rfl,by simp,fun p r r' hr hr'=>by
  rcases Nat.lt_or_ge p L.length with hp|hp
  ·rw[List.getElem?_append_left hp] at hr hr'
   rw[hr] at hr';injection hr' with e
   rw[e];exact Xjc _
  ·rw[List.getElem?_append_right hp] at hr hr'
   match hq:p - L.length,hr,hr' with
   |0,hr,hr'=>
    simp only[List.getElem?_cons_zero,Option.some.injEq] at hr hr'
    subst hr;subst hr';exact h
   |q+1,hr,_=>simp at hr⟩
theorem Ybp {fr:List AV} {lo:List (Option Res)} {out:Nat→Option Res} {n:Nat} {df:List Deferred} (i j:Nat) (r q:Res):AState.give ⟨fr,lo,out,n,n,df⟩ [(n+i,r),(n+j,q)]=⟨fr,(lo.set i (some r)).set j (some q),out,n,n,df⟩:=by
 have h:¬n+i<n:=by omega
 have h':¬n+j<n:=by omega
 simp [AState.give,h,h']
theorem Ej {P:Program} {c:Code} {Q:Exit→AState→Prop} {σ:AState} (lE:List (Nat×AV)) (loE:List (Option Res)) (h1:σ.le {σ with fr:=X4 σ.fr lE,lo:=loE}) (h:Cv P c Q {σ with fr:=X4 σ.fr lE,lo:=loE}):Cv P c Q σ:=Jl h1 h
theorem Y6t (r:Rc) (hl:r.text.length≤10000):Xr Try.prog 68 [rcA r] [] (.sl 1 ((Y3v r).map Y6) .sh) []:=by
 have hal:=Y4y r
 have htl:(Bm r).length=2+r.text.length:=by unfold Bm;rw[List.length_append,Y3i]
 have hgl:=Y3i 4 r.gen
 have hcl:=Y3i 4 (Ybj (Y40 r.gen 4++Bm r))
 have h2l:=Y3i 2 (BitVec.ofNat 32 r.text.length)
 have hconv:IntKind.u32.wrap (r.text.length:Int)=((BitVec.ofNat 32 r.text.length).toNat:Int):=by rw[Xar,BitVec.toNat_ofNat];omega
 refine Ph 8 Try.func68 rfl fun n out _ _=> ?_
 simp only[Try.ntmps68,List.length_cons,List.length_nil,List.length_map,List.length_replicate,Xf,Nat.reduceAdd,Nat.reduceSub,List.replicate,List.cons_append,List.nil_append]
 refine V4 fun K hK=>AWp.zero (Xn Xj [] ?_)
 simp (maxSteps:=9^7) only[ss,X1,tab,simprocAttr, -List.reduceReplicate,rcA,rcC]
 (refine hK _ ?_;clear hK K)
 refine Jl (Zi (i:=0) (t:=1) 1 (.ref [w32 r.gen,bs r.text]) rfl rfl (.ptr 0)) ?_
 simp only[s_0,s_s]
 refine Jl (Q9 (i:=6) 44 1 rfl) ?_
 simp only[s_0,s_s]
 refine V4 fun K hK=>AWp.zero (Xn Xj [] ?_)
 simp (maxSteps:=9^7) only[ss,X1,tab,simprocAttr, -List.reduceReplicate]
 skip
 refine X3 (Xe3 r.gen 4 (by decide) (by decide)) ?_
 simp (maxSteps:=9^7) only[ss,X1,tab,simprocAttr, -List.reduceReplicate]
 (refine hK _ ?_;clear hK K)
 refine Jl (Zi (i:=2) (t:=3) 1 (.ref [.sl 1 (Xo (Y40 r.gen 4)) .full]) rfl rfl (.ptr 0)) ?_
 simp only[s_0,s_s]
 refine V4 fun K hK=>AWp.zero (Xqf Xj follows (by kernel_rfl) ?_)
 simp (maxSteps:=9^7) only[ss,X1,tab,simprocAttr, -List.reduceReplicate,X5,hconv]
 refine X3 (Xe3 (BitVec.ofNat 32 r.text.length) 2 (by decide) (by decide)) ?_
 simp (maxSteps:=9^7) only[ss,X1,tab,simprocAttr, -List.reduceReplicate,X5,h2l,L6,show Y40 (BitVec.ofNat 32 r.text.length) 2++r.text=Bm r from rfl]
 repeat' (first|(with_reducible refine hK _ ?_;clear hK K)|with_reducible apply And.intro)
 ·omega
 ·omega
 obtain⟨MT,hMT⟩:∃MT,MT=(if (Xo r.text).isEmpty=true then Md.full else Md.sh):=⟨_,rfl⟩
 rw[← hMT]
 have lit:∀(σ:AState) (K:AV→List (Nat×Res)→Prop),X1 tab σ K none 40 2 [(0,.sl 1 (Xo (Y40 r.gen 4)) .full),(1,.sl 1 (Xo (Bm r)) MT)]=K (.sl 1 [[.sl 1 (Xo (Y40 r.gen 4)) .full],[.sl 1 (Xo (Bm r)) MT]] .full) []:=fun σ K=>Te (T:=tab) (ti:=ti40) (te:=ti44) rfl rfl rfl rfl rfl rfl
 refine V4 fun K hK=>AWp.zero (Xn Xj [] ?_)
 simp (maxSteps:=9^7) only[ss,tab,simprocAttr, -List.reduceReplicate,lit]
 skip
 refine Sb (Xbg (n+7) (Xo (Y40 r.gen 4)) (Xo (Bm r)) .full .full MT (by rw[X5,X5];omega)) (X6 _ (Nat.le_refl _) 7) (Xb _ (by simp)) (by simp) ?_
 rw[L6]
 simp (maxSteps:=9^7) only[ss,X1,tab,simprocAttr, -List.reduceReplicate]
 skip
 refine X3 (Yc0 (Y40 r.gen 4++Bm r) _ (by rw[List.length_append];omega)) ?_
 simp (maxSteps:=9^7) only[ss,X1,tab,simprocAttr, -List.reduceReplicate]
 skip
 refine X3 (Xe3 (Ybj (Y40 r.gen 4++Bm r)) 4 (by decide) (by decide)) ?_
 have hne:(Xo (Bm r)).isEmpty=false:=by
  cases h:Bm r with
  |nil=>rw[h] at htl;simp at htl;omega
  |cons x l=>rfl
 simp (maxSteps:=9^7) only[ss,X1,tab,simprocAttr, -List.reduceReplicate,X5,hcl,htl,hne,L6,show Y40 (Ybj (Y40 r.gen 4++Bm r)) 4++Bm r=Y4a r from rfl]
 repeat' (first|(with_reducible refine hK _ ?_;clear hK K)|with_reducible apply And.intro)
 ·omega
 ·omega
 have hq:Zr .quo .i64 (((Y4a r).length+118 - 1:Nat):Int) 118=some (.int .i64 ((Y3n r:Nat):Int)):=by
  have e:((((Y4a r).length+118 - 1:Nat):Int)).tdiv 118=((Y3n r:Nat):Int):=rfl
  have hm:Y3n r≤100:=by unfold Y3n;omega
  rw[X7l _ _ (by decide),e,wrap_i64 (by omega) (by omega)]
 have hq2:Zr .quo .i64 (((Y4a r).length+117:Nat):Int) 118=some (.int .i64 ((Y3n r:Nat):Int)):=hq
 have hw1:=Yl (n:=(Y4a r).length) 118 118 rfl (by omega)
 have hw2:=X25 (n:=(Y4a r).length+118) 1 1 rfl (by omega) (by omega)
 refine V4 fun K hK=>AWp.zero (Xn Xj [] ?_)
 simp (maxSteps:=9^7) only[ss,X1,tab,simprocAttr, -List.reduceReplicate,X5,hw1,hw2,hq,hq2]
 (refine hK _ ?_;clear hK K)
 refine Jl (Zi (i:=3) (t:=6) 1 (.ref [i64 (Y3n r:Nat)]) rfl rfl (.ptr 0)) ?_
 simp only[s_0,s_s]
 refine V4 fun KB hKB=> ?_
 refine V4 fun K hK=>AWp.zero (Xn Xj [] ?_)
 simp (maxSteps:=9^7) only[ss,X1,tab,simprocAttr, -List.reduceReplicate]
 skip
 refine X3 (Xdt (Xo (Y4a r)) _ 118 (by decide)) ?_
 simp (maxSteps:=9^7) only[ss,X1,tab,simprocAttr, -List.reduceReplicate]
 (refine hK _ ?_;clear hK K)
 refine Ej [] [some .dead,some (.box 40 [.sl 1 [] (.own (n+6))]),some .dead,some .dead,none,none,some (.row 44 1 0),some (.row 5 1 ((Y40 r.gen 4).length+(2+r.text.length)))] ?_ ?_
 ·refine X2 ?_ ?_ rfl rfl rfl rfl<;>simp only[X4,sl]
 simp only[X4,s_0,s_s]
 refine Fp (Fq (r:= .tup []) (gf:=109) (caps:=[.ref [.sl 1 (Xo (Y4a r)) .sh],.ref [i64 118]]) 4 5 Try.func109 (by kernel_rfl) (by kernel_rfl) rfl (by decide) rfl rfl ?_)
 intro D lp rec F hF h1 h2 h3 h4 h5
 refine⟨_,_,Xd4 lp (n+5) (n+1) (n+6) (by omega) (by omega) (by omega) (.pin lp (.loop rec) F) (by simp) (fun i=> .box 40 [.sl 1 (((List.range i).map (Xgh r)).map Y6) (.own (n+6))]) (fun i=> .row 44 1 i) (by simp) (by simp) (Y4a r) .sh (by omega) 118 (Y3n r) (by decide) (by decide) (Y5u r) (fun i h=>Y73 r h)
  (fun i hi=>Y4c (fr:=F) (fr1:=(F.set 35 (.sl 1 (Xo (X7t (Y4a r) 118 i)) .full)).set 7 (.sl 1 (Xo (X7t (Y4a r) 118 i)) .full)) (ps:=[35]) 1 h1 h2 h3 h4 h5 rfl (by simp) (by simp) ?_ ?_),?_,?_,?_,?_,?_⟩
 ·intro n' out'
  subst hF
  simp only[List.zip_cons_cons,List.zip_nil_left,List.zip_nil_right,setAll,s_0,s_s]
  refine Xn Xj [] ?_
  simp (maxSteps:=9^7) only[ss,X1,tab,simprocAttr, -List.reduceReplicate]
 ·intro n' out' hh hg
  obtain⟨hka,hkb,_⟩:=hh
  obtain⟨hkan,hkbn,_⟩:=hg
  have hoN:[n+1,n+6].Nodup:=by simp
  have hoL:∀k,k∈[n+1,n+6]→k<n':=fun k hk=>by
   simp only[List.mem_cons,List.not_mem_nil,or_false] at hk
   rcases hk with rfl|rfl
   ·exact hkan
   ·exact hkbn
  refine Xe ?_
  subst hF
  simp only[List.replicate,s_0,s_s]
  refine X9 fun K hK=>Xn Xj [] ?_
  simp (maxSteps:=9^7) only[ss,X1,tab,simprocAttr, -List.reduceReplicate]
  (refine hK _ ?_;clear hK K)
  have t4:List.take 128 (Y40 r.gen 4)=Y40 r.gen 4:=List.take_of_length_le (by rw[hgl];decide)
  have hk1:=Ya7 r
  have hk2:=Y7r r i
  have hk3:=Y6a r hi
  have hpl:(X7t (Y4a r) 118 i).length≤118:=by unfold X7t;rw[List.length_take];omega
  have hm100:Y3n r≤100:=by unfold Y3n;omega
  refine X9 fun K hK=>Ny Xj [] [[],[],[0]] [[],[],[0]] follows (by kernel_rfl) (by decide) (by decide) (by kernel_rfl) ?_
  simp (maxSteps:=9^7) only[ss,X1,tab,simprocAttr, -List.reduceReplicate,P6,Nh,X5,hgl,List.length_replicate,Nat.reduceSub,Int.reduceToNat,Q2,Xa7,t4,Y76 r]
  repeat' (first|(with_reducible refine hK _ ?_;clear hK K)|with_reducible apply And.intro)
  all_goals try decide
  have hc1:IntKind.u8.wrap (i:Int)=((UInt8.ofNat i).toNat:Int):=by rw[X1n,UInt8.toNat_ofNat'];omega
  have hc2:IntKind.u8.wrap ((Y3n r:Nat):Int)=((UInt8.ofNat (Y3n r)).toNat:Int):=by rw[X1n,UInt8.toNat_ofNat'];omega
  have hs1:=F7 b8 (Yaz r) 4 (UInt8.ofNat i) (by omega)
  have hs2:=F7 b8 ((Yaz r).set 4 (UInt8.ofNat i)) 5 (UInt8.ofNat (Y3n r)) (by rw[List.length_set];omega)
  rw[Ya8] at hs2
  refine X9 fun K hK=>Xik Xj [] [n+1,n+6] [[100],[],[],[],[],[],[0],[],[0]] [[],[],[],[],[],[],[0],[],[0]] hoN hoL follows (by kernel_rfl) (by decide) (by decide) (by kernel_rfl) ?_
  simp (maxSteps:=9^7) only[ss,X1,tab,simprocAttr, -List.reduceReplicate,so,X8 hkan,X7 hkan,hka,List.length_map,List.length_range,hc1,hc2,hs1,hs2,hk1,List.length_set,Int.reduceToNat]
  (refine hK _ ?_;clear hK K)
  all_goals try decide
  have hs3:=Y77 r hi
  have hs4:=Y78 r hi
  have tp:List.take 122 (X7t (Y4a r) 118 i)=X7t (Y4a r) 118 i:=List.take_of_length_le (by omega)
  have t4':List.take 4 (Y40 r.gen 4)=Y40 r.gen 4:=List.take_of_length_le (by rw[hgl];decide)
  refine X9 fun K hK=>Xn Xj [] ?_
  simp (maxSteps:=9^7) only[ss,X1,tab,simprocAttr, -List.reduceReplicate,P6,Nh,X5,hgl,List.length_map,hk2,Nat.reduceSub,Int.reduceToNat,Q2,Xa7,tp,hs3,Nat.min_eq_left (Nat.le_trans hpl (by decide:118≤122))]
  repeat' (first|(with_reducible refine hK _ ?_;clear hK K)|with_reducible apply And.intro)
  all_goals try omega
  refine X9 fun K hK=>Ny Xj [] [[],[],[0]] [[],[],[0]] follows (by kernel_rfl) (by decide) (by decide) (by kernel_rfl) ?_
  simp (maxSteps:=9^7) only[ss,X1,tab,simprocAttr, -List.reduceReplicate,P6,Nh,X5,hgl,List.length_map,hk3,Nat.reduceSub,Int.reduceToNat,Q2,Xa7,t4',hs4]
  repeat' (first|(with_reducible refine hK _ ?_;clear hK K)|with_reducible apply And.intro)
  all_goals try decide
  have lit2:∀(σ:AState) (K:AV→List (Nat×Res)→Prop) (k o l:Nat) (fl:Bool),X1 tab σ K none 40 1 [(0,.bsl k o l fl)]=K (.sl 1 [[.bsl k o l fl]] .full) []:=fun σ K k o l fl=>Yk (T:=tab) (ti:=ti40) (te:=ti44) rfl rfl rfl (by decide) (by decide) rfl rfl
  have hne:(n+6=n+1)=False:=eq_false (by omega)
  have y1:(i+1)*24≤140737488355328:=by omega
  have y2:i+1≤9223372036854775807:=by omega
  have hk6:∀q,Xw out' (n+6) q (n+1)=some (.box 40 [.sl 1 (((List.range i).map (Xgh r)).map Y6) (.own (n+6))]):=fun q=>by
   rw[Zp _ _ (by omega)];exact hka
  refine Y9i ?_
  refine Xik Xj [] [n+1,n+6] [[100],[],[],[101],[100]] [[],[],[],[101],[100]] hoN hoL follows (by kernel_rfl) (by decide) (by decide) (by kernel_rfl) ?_
  simp (maxSteps:=9^7) only[ss,tab,simprocAttr, -List.reduceReplicate,so,X8 hkan,X7 hkan,hka,X8 hkbn,X7 hkbn,hkb,Xa hkan,Xa hkbn,List.length_map,List.length_range,hne,lit2,y1,y2,P6,Nh,hk6,X0,Nat.sub_zero]
  refine⟨_,Y72 (i:=0) (k:=n+1) 1 [] (lo1:=[some (.box 147 ((Xgh r i).map b8))]) rfl (Xt _ _ _) (Xjc _) ?_ (Ya9 (b:=[bs (Xgh r i)]) ⟨?_,trivial⟩),rfl,fun k hk=> ?_⟩
  ·simp only[Xmh,Xmy,Xlz,true_and,and_true]
  ·have h:=Fz.bsl (k:=n'+0) (sz:=1) (cs:=(Xgh r i).map b8) 0 128 false ⟨by decide,by rw[List.length_map,Y4z r hi];decide⟩
   rw[List.drop_zero,Xa1 _ (Y4z r hi)] at h
   exact h
  ·show Xw (Xw (Xw out' (n+6) _) (n+1) _) (n+1) _ k= _
   rw[Jp,List.range_succ,List.map_append,List.map_append]
   simp only[Zc,Wz,Xw]
   by_cases q1:k=n+1
   ·have q2:¬k=n+6:=by omega
    rw[if_pos q1,if_neg q2,if_pos q1];rfl
   ·by_cases q2:k=n+6
    ·rw[if_neg q1,if_pos q2,if_pos q2]
    ·rw[if_neg q1,if_neg q2,if_neg q2,if_neg q1]
 ·subst hF
  simp only[holds,s_0,s_s,X2a,List.getElem?_cons_zero,List.getElem?_cons_succ,Option.join_some,and_true,true_and,List.range_zero,List.map_nil]
 ·exact⟨Xb _ (by simp),Xb _ (by simp),trivial⟩
 ·intro x hx
  simp only[List.mem_cons,List.not_mem_nil,or_false] at hx
  rcases hx with rfl|rfl|rfl
  ·exact Xb _ (by simp)
  ·exact Xb _ (by simp)
  ·exact Xb _ (by simp)
 ·intro x hx
  simp only[List.mem_cons,List.not_mem_nil,or_false] at hx
  rcases hx with rfl|rfl
  ·show n+1≠n+5
   omega
  ·show n+6≠n+5
   omega
 simp only[Qd,Z4,s_0,s_s,Ybp]
 refine hKB _ ?_
 clear hKB KB
 refine AWp.zero ?_
 refine X9 fun K hK=>Xn Xj [] ?_
 simp (maxSteps:=9^7) only[ss,X1,tab,simprocAttr, -List.reduceReplicate,X0]
 (refine hK _ ?_;clear hK K)
 refine Yd ?_
 exact⟨4,D,rfl,rfl,Xu (.inr rfl) rfl rfl rfl (fun _ _=>rfl) ok40 (k:=n+1) (off:=0) rfl (Xb _ (by simp)) (X6 _ (Nat.le_refl _) 1) rfl (.sh _ _ _)⟩
end Go.Proofs.Ytjgbbjooeibppaa
