/- The layer of abstract values, joined. -/
import Derived.Test.YtjgbbjooeibppaaZD2
import Derived.Test.YtjgbbjooeibppaaZI9
namespace Go.Proofs.Ytjgbbjooeibppaa
set_option linter.unusedVariables false
set_option linter.unusedSimpArgs false
open Go Go.VS Tab
set_option maxHeartbeats 16000000
set_option maxRecDepth 8000
def Z1 (X:Dsk) (i:Nat):List (Option Res):=(stg i (fun _=>Yd1) (fun _ r=>r) (X.waits.map Wr.data)).map bxO
theorem Yd3 (d:Dsk) (r:Rc) (hd:DOk d) (gd:Xjd d=false) (hl:r.text.length≤10000) (B ka kb:Nat) (X:Dsk) (a b:Option Rc) (eX:X=Y4e d r) (ea:a=if may d then Y3r d 0 else none) (eb:b=if may d then Y3r d 16 else none)
  (q1:ka=B+(Xh9 X).length) (q2:kb=ka+(Zn a).length+1):
  Xr Try.prog 5 [Y3p d,rcA r] (Xev B (Xh9 X)++(Xev ka (Zn a)++Xev kb (Zn b))) (bool true)
   (Y62 B (Xh9 X)++((Y62 ka (Zn a)++Y62 kb (Zn b))++(Y62 (B+X.sectors.length) (Z1 X X.waits.length)++zG (pl ka kb a b)))):=by
 obtain⟨hsm,hsw⟩:=X0a gd
 have hds:=hsm.s
 have hdw:=hsm.w
 have cg1:=Xj6 d hd
 rw[gd] at cg1
 have ctw:=X1o d hsm
 have cP:=Ts B d r hds hdw
 have cP2:=Ydd d r hds hdw
 rw[← eX] at cP cP2
 have cF:=Sm ka kb d hds hdw a b ea eb (by omega)
 have cF2:=Ycw d hds hdw
 have eL:=Ycy ka kb d a b ea eb
 obtain⟨L,hL⟩:∃L,L=pl ka kb a b:=⟨_,rfl⟩
 have hLl:L.length≤2:=by rw[hL];exact Ydg _ _ _ _
 have cN:=Y5z d r.gen hds hdw
 have cN2:=Ycv d r.gen hds hdw
 have cS:=Y8s r.gen
 have cS2:=Lf r.gen
 have hXs:Small X:=by rw[eX];exact B1
 have hXw:=hXs.w
 have hXr:∀w,w∈X.waits→w.data.length=128:=by rw[eX];exact Fd
 have cV1:=Ycj B X X hXs hXs
 rw[Xjo] at cV1
 have cV2:=F0 L (by omega)
 have cV3:=Xm4 d d hsm hsm
 rw[Xjo] at cV3
 have hLf:∀p,p∈L→(a=some p.2∧p.1=ka)∨(b=some p.2∧p.1=kb):=fun p hp=>by
  rw[hL] at hp
  cases a with
  |none=>
   cases b with
   |none=>cases hp
   |some y=>simp only[pl,List.mem_singleton] at hp;rw[hp];exact .inr ⟨rfl,rfl⟩
  |some x=>
   cases b with
   |none=>simp only[pl,List.mem_singleton] at hp;rw[hp];exact .inl ⟨rfl,rfl⟩
   |some y=>
    simp only[pl] at hp
    split at hp<;>simp only[List.mem_cons,List.not_mem_nil,or_false] at hp<;>rcases hp with hp|hp<;>rw[hp]
    ·exact .inr ⟨rfl,rfl⟩
    ·exact .inl ⟨rfl,rfl⟩
    ·exact .inl ⟨rfl,rfl⟩
    ·exact .inr ⟨rfl,rfl⟩
 have hLd:(L.map Prod.fst).Nodup:=by
  rw[hL]
  cases a with
  |none=>cases b<;>simp [pl]
  |some x=>
   cases b with
   |none=>simp [pl]
   |some y=>simp only[pl];split<;>simp<;>omega
 have hTl:∀p,p∈L→p.2.text.length≤1882:=fun p hp=>by
  have h1:p.2∈Y3s d:=by rw[eL,← hL];exact List.mem_map_of_mem hp
  have hm:may d=true:=by
   cases h:may d with
   |true=>rfl
   |false=>unfold Y3s at h1;rw[h] at h1;cases h1
  exact((Y4f hm (Y4d p.2.gen) p.2).1 ((Y4h hm).1 h1)).2.2.1
 rw[eL,← hL] at cF2
 rw[← hL] at cF
 have e1:decide ((r.text.length:Int)>10000)=false:=decide_eq_false (by omega)
 have e1':decide (10000<r.text.length)=false:=by simp;omega
 have tb1:r.text.length≤140737488355328:=by omega
 have tb2:r.text.length≤9223372036854775807:=by omega
 have hns:(Xh9 X).length=X.sectors.length+X.waits.length:=Xk6 X
 obtain⟨Kw,hK0⟩:∃Kw,Kw=B+X.sectors.length:=⟨_,rfl⟩
 rw[← hK0,← hL]
 have eWl:(Xhh B X).length=X.waits.length:=by simp [Xhh]
 obtain⟨W,hW⟩:∃W,W=Xhh B X:=⟨_,rfl⟩
 have gW:∀i (h:i<X.waits.length),W.getD i []=[i64 (X.waits[i]).at',.bsl (Kw+i) 0 128 false]:=fun i h=>by
  have g:X.waits[i]? =some X.waits[i]:=List.getElem?_eq_getElem h
  rw[hW,Xhh,List.getD_eq_getElem?_getD,List.getElem?_mapIdx,g,Option.map_some,Option.getD_some,wrB,hXr _ (List.getElem_mem h),← hK0]
 have hWl:W.length=X.waits.length:=by rw[hW];exact eWl
 have hrd:=rcA
 simp only[Y3p,Xha,rcA,rcC] at cg1 ctw cP cP2 cF cF2 cN cN2 cV1 cV3
 simp only[Xjr,← hW] at cP cV1
 generalize (if may d then(0:Int) else 8)=ef at cF cF2
 generalize Y4o d r=ep at*
 generalize X7s d r.gen=nw at*
 generalize V5 d r.gen=ne at*
 refine Xc 6 Try.func5 rfl fun n out _ _=> ?_
 simp only[Try.ntmps5,List.length_cons,List.length_nil,List.length_map,List.length_replicate,Xf,Nat.reduceAdd,Nat.reduceSub,List.replicate,List.cons_append,List.nil_append]
 rename_i hneeds hgv
 simp only[Xji] at hneeds
 simp only[Xiq] at hgv
 obtain⟨n1,n2,n3⟩:=hneeds
 obtain⟨u1,⟨u2,u3⟩,u4,u5⟩:=hgv
 have uF:Mc n (Y62 ka (Zn a)++Y62 kb (Zn b)):=Xiq.2 ⟨u2,u3⟩
 repeat' (first|(with_reducible first|refine Vk fun K hK=> ?_|refine V0 ?_|refine Vb ?_|refine Vc ?_|refine Vr ?_|refine Vs ?_|apply And.intro|refine Vd 4 [] [[],[1],[],[1],[],[],[3],[3]] [[],[],[],[],[],[],[3],[3]] (by kernel_rfl) (by decide) (by decide) (by kernel_rfl) ?_|refine Vq (by kernel_rfl) ?_)|((with_reducible first|refine gE ?_|refine gR ?_|refine gD ?_|refine gF ?_);simp (maxSteps:=9^7) only[ss,X1,tab,simprocAttr, -List.reduceReplicate,Y3p,Xha,rcA,rcC,X5,e1,e1',tb1,tb2,List.nil_append,X0,Xg7 u1])|exact Vn|((with_reducible refine Vz ?_);refine Vo rfl rfl rfl (fun _ _=>rfl) ?_<;>first|rfl|skip)|(refine X3 (cg1) ?_)|(refine X3 (ctw) ?_)|(refine Xg1 cP u1 n1 ?_)|(refine X3 (cP2) ?_)|((with_reducible refine Vg (fun hg=> ?_) (fun hg=> ?_))<;>(try simp only[nb] at hg)<;>simp (maxSteps:=9^7) only[ss,X1,tab,simprocAttr, -List.reduceReplicate,hg,Y3p,Xha,rcA,rcC,X5,e1,e1',tb1,tb2,List.nil_append,X0,Xg7 u1])|((with_reducible refine Vx ?_);simp only[sb,reduceIte,Nat.reduceEqDiff])|(refine hK _ ?_;clear hK K)|refine Vt rfl ?_|refine Vf rfl ?_|refine Vi rfl (fun hg=> ?_) (fun hg=> ?_)|clear hK K)
 have o1:∀j,ka≤j→ofL out B (Xh9 X) j=out j:=fun j hj=>Xge (by omega)
 have p1:ofL out B (Xh9 X)=upd out (Y62 B (Xh9 X)):=K3.symm
 have hH1:holds (ofL out B (Xh9 X)) (Xfx B ((Xis X).map bxO)):=Xhw _ _ _
 generalize ofL out B (Xh9 X)=O1 at o1 p1 hH1⊢
 have hF:∀y,y∈Xev ka (Zn a)++Xev kb (Zn b)→y.1<n∧O1 y.1=y.2∧y.2≠some .dead:=fun y hy=>by
  rcases List.mem_append.1 hy with h|h
  ·obtain⟨h0,j,q,h3,h4⟩:=Xwk.1 h
   refine⟨by rw[h4];exact K2 u2 h3,by rw[o1 _ (by rw[h4];omega)];exact Q5.1 n2 y h,by rw[h0];intro h;cases h⟩
  ·obtain⟨h0,j,q,h3,h4⟩:=Xwk.1 h
   refine⟨by rw[h4];exact K2 u3 h3,by rw[o1 _ (by rw[h4];omega)];exact Q5.1 n3 y h,by rw[h0];intro h;cases h⟩
 obtain⟨O2,hO2⟩:∃O2,O2=upd O1 (Y62 ka (Zn a)++Y62 kb (Zn b)):=⟨_,rfl⟩
 have o2:∀j,j<ka→O2 j=O1 j:=fun j hj=>by
  rw[hO2]
  exact Sd _ fun y hy=>by
   rcases List.mem_append.1 hy with h|h
   ·obtain⟨i,h1,h2⟩:=Xwj.1 h;omega
   ·obtain⟨i,h1,h2⟩:=Xwj.1 h;omega
 have hrl:(Xis X).length=X.sectors.length+X.waits.length:=by simp [Xis]
 have hH2:∀j (t:List UInt8),(Xis X)[j]? =some t→0<t.length→O2 (B+j)=some (.box 5 (t.map b8)):=fun j t h h0=>by
  have h3:=(List.getElem?_eq_some_iff.1 h).1
  rw[o2 _ (by omega)]
  exact Xpz hH1 (by rw[List.getElem?_map,h,Option.map_some,bxO,if_neg (by omega)])
 have hT:∀p,p∈L→p.2.text≠[]→p.1<n∧ka≤p.1∧O2 p.1=some (.box 5 (p.2.text.map b8)):=fun p hp h0=>by
  rw[hO2]
  rcases hLf p hp with ⟨h1,h2⟩|⟨h1,h2⟩
  ·have e:Zn a=[some (.box 5 (p.2.text.map b8))]:=by rw[h1];simp [Zn,Yd6,h0]
   rw[e] at u2
   refine⟨by rw[h2];exact u2.1,by omega,?_⟩
   rw[Xi6,K3,K3,Xge (.inl (by rw[h2,q2,e];simp only[List.length_cons,List.length_nil];omega)),h2]
   exact Xrq (j:=0) (by rw[e];rfl)
  ·have e:Zn b=[some (.box 5 (p.2.text.map b8))]:=by rw[h1];simp [Zn,Yd6,h0]
   rw[e] at u3
   refine⟨by rw[h2];exact u3.1,by omega,?_⟩
   rw[Xi6,K3,K3,h2]
   exact Xrq (j:=0) (by rw[e];rfl)
 have hv1:∀y,y∈Xfx B ((Xis X).map bxO)→y.1<n∧O2 y.1=y.2∧y.2≠some .dead:=fun y hy=>by
  obtain⟨j,q,h1,h2⟩:=Xu8.1 hy
  rw[List.getElem?_map] at h1
  cases hr:(Xis X)[j]? with
  |none=>rw[hr] at h1;cases h1
  |some t=>
   rw[hr,Option.map_some,bxO] at h1
   by_cases h0:t.length=0
   ·rw[if_pos h0] at h1;cases h1
   ·rw[if_neg h0] at h1
    injection h1 with h1;injection h1 with h1
    rw[h2,← h1]
    refine⟨?_,hH2 j t hr (by omega),by intro h;cases h⟩
    have h3:=(List.getElem?_eq_some_iff.1 hr).1
    have:=Xih u1 (Xhv X) j (by omega)
    exact this
 have hv2:∀y,y∈nsL L→y.1<n∧O2 y.1=y.2∧y.2≠some .dead:=fun y hy=>by
  obtain⟨p,hp,h2⟩:=List.mem_flatMap.1 hy
  split at h2
  ·cases h2
  ·rename_i h0
   rw[List.mem_singleton] at h2
   obtain⟨h3,_,h4⟩:=hT p hp h0
   rw[h2]
   exact⟨h3,h4,by intro h;cases h⟩
 have b1:∀x:Int,(x !=x)=false:=fun x=>bne_self_eq_false x
 repeat' (first|(with_reducible first|refine Vk fun K hK=> ?_|refine V0 ?_|refine Vb ?_|refine Vc ?_|refine Vr ?_|refine Vs ?_|apply And.intro|refine Vq (by kernel_rfl) ?_)|((with_reducible first|refine gE ?_|refine gR ?_);simp (maxSteps:=9^7) only[ss,X1,tab,simprocAttr, -List.reduceReplicate,Y3p,Xha,rcA,rcC,X0,Ycn uF,← hO2,b1,Bool.not_true])|exact Vn|((with_reducible refine Vz ?_);refine Vo rfl rfl rfl (fun _ _=>rfl) ?_<;>first|rfl|skip)|(refine P2 cF hF uF ?_)|(refine X3 (cF2) ?_)|(refine X3 (cN) ?_)|(refine X3 (cN2) ?_)|(refine P2 cV1 hv1 trivial ?_)|(refine P2 cV2 hv2 trivial ?_)|(refine X3 (cS) ?_)|(refine X3 (cS2) ?_)|((with_reducible refine Vg (fun hg=> ?_) (fun hg=> ?_))<;>(try simp only[nb] at hg)<;>simp (maxSteps:=9^7) only[ss,X1,tab,simprocAttr, -List.reduceReplicate,hg,Y3p,Xha,rcA,rcC,X0,Ycn uF,← hO2,b1,Bool.not_true])|((with_reducible refine Vx ?_);simp only[sb,reduceIte,Nat.reduceEqDiff])|(refine hK _ ?_;clear hK K)|refine Vt rfl ?_|refine Vf rfl ?_|refine Vi rfl (fun hg=> ?_) (fun hg=> ?_)|clear hK K)
 have hst:∀i (t:List UInt8),(X.waits.map Wr.data)[i]? =some t→(Xis X)[X.sectors.length+i]? =some t:=fun i t h=>by
  rw[Xis,List.getElem?_append_right (by omega),Nat.add_sub_cancel_left];exact h
 have hdl:∀i (t:List UInt8),(X.waits.map Wr.data)[i]? =some t→t.length=128:=fun i t h=>by
  obtain⟨w,hw,rfl⟩:=List.mem_map.1 (List.mem_of_getElem? h)
  exact hXr w hw
 have o0:ofL O2 Kw (Z1 X 0)=O2:=by
  refine Xmq (Q5.2 fun y hy=> ?_)
  obtain⟨j,q,h1,h2⟩:=Xu8.1 hy
  rw[Z1,Xqh _ (fun r=>r),List.map_id',List.getElem?_map] at h1
  cases hr:(X.waits.map Wr.data)[j]? with
  |none=>rw[hr] at h1;cases h1
  |some t=>
   have h128:=hdl j t hr
   rw[hr,Option.map_some,bxO,if_neg (by omega)] at h1
   injection h1 with h1;injection h1 with h1
   rw[h2,← h1]
   dsimp only
   rw[hK0,Nat.add_assoc]
   exact hH2 _ t (hst j t hr) (by omega)
 have hbl:∀i,(Z1 X i).length=X.waits.length:=fun i=>by simp [Z1,V8]
 have hout:∀i p,p∈L→p.2.text≠[]→ofL O2 Kw (Z1 X i) p.1=some (.box 5 (p.2.text.map b8)):=fun i p hp h0=>by
  obtain⟨_,h2,h3⟩:=hT p hp h0
  rw[Xge (by rw[hbl];omega)];exact h3
 refine Xe ?_
 refine Xz (fun i:Nat=>[(19,i64 (i:Int)),(113,.top),(114,.top),(115,.top),(116,.top),(117,.top),(118,.top),(119,.top),(120,.top),(121,.top),(122,.top),(123,.top),(124,.top),(125,.top),(126,.top),(127,.top),(128,.top),(129,.top),(130,.top),(131,.top),(132,.top),(133,.top),(134,.top),(135,.top)]) (fun i=>[some (.box 43 [.sl 1 (d.sectors.map Y6) .sh,.sl 2 (d.waits.map wrC) .sh]),some (.box 60 [w32 r.gen,bs r.text]),some (.box 43 [.sl 1 (d.sectors.map Y6) .sh,.sl 2 (d.waits.map wrC) .sh]),some (.box 60 [w32 r.gen,bs r.text]),some (.box 43 [.sl 1 (Xhn B X) .sh,.sl 2 W .sh]),some (.box 43 [.sl 1 (X.sectors.map Y6) .sh,.sl 2 (X.waits.map wrC) .sh])]) (fun i=>ofL O2 Kw (Z1 X i)) (fun i=>i≤X.waits.length) (fun i=>X.waits.length - i) 0 (Nat.zero_le _) ?_ fun i hi=> ?_
 ·refine X2 ?_ ?_ (by first|rfl|(simp only[o0];rfl)|simp only[o0]) rfl rfl rfl<;>simp only[X4,sl,o0]
 simp only[X4,s_0,s_s]
 have hw:=Yl (n:=i) 1 1 rfl (by omega)
 by_cases hlt:i<X.waits.length
 ·have hlt':(i:Int)<(X.waits.length:Int):=by omega
  obtain⟨t,ht⟩:∃t,t=(X.waits[i]).data:=⟨_,rfl⟩
  have gt:(X.waits.map Wr.data)[i]? =some t:=by rw[List.getElem?_map,List.getElem?_eq_getElem hlt,ht];rfl
  have tl:t.length=128:=hdl i t gt
  have gw:=gW i hlt
  have hZ:Kw+i<n:=K2 u4 (r:= .box 5 ((Yd1 t).map b8)) (by
   rw[Z1,List.getElem?_map,Y3e gt hlt,Option.map_some,bxO,if_neg (by rw[Tn];omega)])
  have gZ:ofL O2 Kw (Z1 X i) (Kw+i)=some (.box 5 (t.map b8)):=by
   refine Xrq ?_
   rw[Z1,List.getElem?_map,Rf gt (Nat.le_refl _),Option.map_some,bxO,if_neg (by omega)]
  have oS:Xw (ofL O2 Kw (Z1 X i)) (Kw+i) (.box 5 ((Yd1 t).map b8))=ofL O2 Kw (Z1 X (i+1)):=by
   rw[Y6k (by rw[hbl];exact hlt)]
   congr 1
   rw[Z1,Z1,← Xuz gt,List.map_set,bxO,if_neg (by rw[Tn];omega)]
  have gp:=X0z 1 b8 t 9 0 (by omega)
  have gs:=F7 b8 t 9 (t.getD 9 0+1) (by omega)
  rw[show t.set 9 (t.getD 9 0+1)=Yd1 t from rfl] at gs
  have gb:=Yd2 (t.getD 9 0)
  have gl:(t.map b8).length=128:=by rw[List.length_map,tl]
  generalize ofL O2 Kw (Z1 X i)=Oi at*
  generalize t.map b8=G at*
  generalize (Yd1 t).map b8=G' at*
  generalize t.getD 9 0=x9 at*
  obtain⟨Z,hZe⟩:∃Z,Z=Kw+i:=⟨_,rfl⟩
  rw[← hZe] at hZ gZ oS gw
  have hoN:[Z].Nodup:=by simp
  have hoL:∀k,k∈[Z]→k<n:=fun k hk=>by rw[List.mem_singleton] at hk;rw[hk];exact hZ
  repeat' (first|(with_reducible first|refine Vk fun K hK=> ?_|refine V0 ?_|refine Vb ?_|refine Vc ?_|refine Vr ?_|refine Vs ?_|apply And.intro)|((with_reducible first|refine gE ?_|refine gR ?_);simp (maxSteps:=9^7) only[ss,X1,tab,simprocAttr, -List.reduceReplicate,hWl,hlt,hlt',decide_true])|exact Vn|((with_reducible refine Vz ?_);refine Vo rfl rfl rfl (fun _ _=>rfl) ?_<;>first|rfl|skip)|((with_reducible refine Vg (fun hg=> ?_) (fun hg=> ?_))<;>(try simp only[nb] at hg)<;>simp (maxSteps:=9^7) only[ss,X1,tab,simprocAttr, -List.reduceReplicate,hg,hWl,hlt,hlt',decide_true])|((with_reducible refine Vx ?_);simp only[sb,reduceIte,Nat.reduceEqDiff])|(refine hK _ ?_;clear hK K)|refine Vt rfl ?_|refine Vf rfl ?_|refine Vi rfl (fun hg=> ?_) (fun hg=> ?_)|clear hK K)
  refine Xik Xj [] [Z] [[],[4],[],[],[],[],[],[4],[],[],[],[],[],[100],[],[],[100]] [[],[],[],[],[],[],[],[],[],[],[],[],[],[],[],[],[100]] hoN hoL follows (by kernel_rfl) (by decide) (by decide) (by kernel_rfl) ?_
  simp (maxSteps:=9^7) only[ss,X1,tab,simprocAttr, -List.reduceReplicate,so,X8 hZ,X7 hZ,Xa hZ,gZ,gw,hWl,hlt,Y9,gp,gb,gs,gl,oS]
  all_goals try decide
  repeat' (first|(with_reducible first|refine Vk fun K hK=> ?_|refine V0 ?_|refine Vb ?_|refine Vc ?_|refine Vr ?_|refine Vs ?_|apply And.intro|refine Vq (by kernel_rfl) ?_)|((with_reducible first|refine gE ?_|refine gR ?_);simp (maxSteps:=9^7) only[ss,X1,tab,simprocAttr, -List.reduceReplicate,hw])|exact Vn|((with_reducible refine Vz ?_);refine Vo rfl rfl rfl (fun _ _=>rfl) ?_<;>first|rfl|skip)|((with_reducible refine Vg (fun hg=> ?_) (fun hg=> ?_))<;>(try simp only[nb] at hg)<;>simp (maxSteps:=9^7) only[ss,X1,tab,simprocAttr, -List.reduceReplicate,hg,hw])|((with_reducible refine Vx ?_);simp only[sb,reduceIte,Nat.reduceEqDiff])|(refine hK _ ?_;clear hK K)|refine Vt rfl ?_|refine Vf rfl ?_|refine Vi rfl (fun hg=> ?_) (fun hg=> ?_)|clear hK K)
  refine⟨i+1,by omega,by omega,?_⟩
  refine X2 ?_ ?_ rfl rfl rfl rfl<;>simp only[X4,sl,hWl,hlt',decide_true]
 ·obtain rfl:i=X.waits.length:=by omega
  obtain⟨O3,hO3⟩:∃O3,O3=ofL O2 Kw (Z1 X X.waits.length):=⟨_,rfl⟩
  have hout:=hout X.waits.length
  rw[← hO3] at hout⊢
  have fin:upd O3 (zG L)=upd out (Y62 B (Xh9 X)++((Y62 ka (Zn a)++Y62 kb (Zn b))++(Y62 Kw (Z1 X X.waits.length)++zG L))):=by
   rw[Xi6,← p1,Xi6,← hO2,Xi6,K3,← hO3]
  have z0:upd O3 (zG [])=O3:=rfl
  repeat' (first|(with_reducible first|refine Vk fun K hK=> ?_|refine V0 ?_|refine Vb ?_|refine Vc ?_|refine Vr ?_|refine Vs ?_|apply And.intro|refine Vq (by kernel_rfl) ?_)|((with_reducible first|refine gE ?_|refine gR ?_);simp (maxSteps:=9^7) only[ss,X1,tab,simprocAttr, -List.reduceReplicate,hWl,hlt,decide_false])|exact Vn|((with_reducible refine Vz ?_);refine Vo rfl rfl rfl (fun _ _=>rfl) ?_<;>first|rfl|skip)|((with_reducible refine Vg (fun hg=> ?_) (fun hg=> ?_))<;>(try simp only[nb] at hg)<;>simp (maxSteps:=9^7) only[ss,X1,tab,simprocAttr, -List.reduceReplicate,hg,hWl,hlt,decide_false])|((with_reducible refine Vx ?_);simp only[sb,reduceIte,Nat.reduceEqDiff])|(refine hK _ ?_;clear hK K)|refine Vt rfl ?_|refine Vf rfl ?_|refine Vi rfl (fun hg=> ?_) (fun hg=> ?_)|clear hK K)
  refine Xe ?_
  refine Xz (fun i:Nat=>[(20,i64 (i:Int)),(21,.top),(136,.top),(137,.top),(138,.top),(139,.top),(140,.top),(141,.top),(142,.top),(143,.top),(144,.top),(145,.top),(146,.top),(147,.top),(148,.top),(149,.top),(150,.top),(151,.top),(152,.top),(153,.top),(154,.top),(155,.top),(156,.top),(157,.top),(158,.top)]) (fun i=>[some (.box 43 [.sl 1 (d.sectors.map Y6) .sh,.sl 2 (d.waits.map wrC) .sh]),some (.box 60 [w32 r.gen,bs r.text]),some (.box 43 [.sl 1 (d.sectors.map Y6) .sh,.sl 2 (d.waits.map wrC) .sh]),some (.box 60 [w32 r.gen,bs r.text]),some (.box 43 [.sl 1 (Xhn B X) .sh,.sl 2 W .sh]),some (.box 43 [.sl 1 (X.sectors.map Y6) .sh,.sl 2 (X.waits.map wrC) .sh])]) (fun i=>upd O3 (zG (L.take i))) (fun i=>i≤L.length) (fun i=>L.length - i) 0 (Nat.zero_le _) ?_ fun i hi=> ?_
  ·refine X2 ?_ ?_ (by first|rfl|(simp only[List.take_zero,z0];rfl)|simp only[List.take_zero,z0]) rfl rfl rfl<;>simp only[X4,sl,List.take_zero,z0]
  simp only[X4,s_0,s_s]
  have hw:=Yl (n:=i) 1 1 rfl (by omega)
  by_cases hlt2:i<L.length
  ·have gi:=Xg Bf L i [] hlt2
   have zs:=Yd0 hlt2 O3
   obtain⟨p,hp⟩:∃p,p=L[i]:=⟨_,rfl⟩
   rw[← hp] at gi zs
   have hpL:p∈L:=by rw[hp];exact List.getElem_mem hlt2
   have hpt:=hTl p hpL
   by_cases h0:p.2.text=[]
   ·have gi':(L.map Bf).getD i []=[w32 p.2.gen,.sl 1 [] .sh]:=by rw[gi,Bf,txB,if_pos h0,h0];rfl
    rw[if_pos h0] at zs
    rw[← zs]
    repeat' (first|(with_reducible first|refine Vk fun K hK=> ?_|refine V0 ?_|refine Vb ?_|refine Vc ?_|refine Vr ?_|refine Vs ?_|apply And.intro|refine Vq (by kernel_rfl) ?_)|((with_reducible first|refine gE ?_|refine gR ?_);simp (maxSteps:=9^7) only[ss,X1,tab,simprocAttr, -List.reduceReplicate,List.length_map,hlt2,decide_true])|exact Vn|((with_reducible refine Vz ?_);refine Vo rfl rfl rfl (fun _ _=>rfl) ?_<;>first|rfl|skip)|((with_reducible refine Vg (fun hg=> ?_) (fun hg=> ?_))<;>(try simp only[nb] at hg)<;>simp (maxSteps:=9^7) only[ss,X1,tab,simprocAttr, -List.reduceReplicate,hg,List.length_map,hlt2,decide_true])|((with_reducible refine Vx ?_);simp only[sb,reduceIte,Nat.reduceEqDiff])|(refine hK _ ?_;clear hK K)|refine Vt rfl ?_|refine Vf rfl ?_|refine Vi rfl (fun hg=> ?_) (fun hg=> ?_)|clear hK K)
    refine Xe ?_
    refine Xz (fun k:Nat=>[(21,i64 (k:Int)),(142,.top),(143,.top),(144,.top),(145,.top),(146,.top),(147,.top),(148,.top),(149,.top),(150,.top),(151,.top),(152,.top),(153,.top),(154,.top),(155,.top),(156,.top),(157,.top),(158,.top)]) (fun k=>[some (.box 43 [.sl 1 (d.sectors.map Y6) .sh,.sl 2 (d.waits.map wrC) .sh]),some (.box 60 [w32 r.gen,bs r.text]),some (.box 43 [.sl 1 (d.sectors.map Y6) .sh,.sl 2 (d.waits.map wrC) .sh]),some (.box 60 [w32 r.gen,bs r.text]),some (.box 43 [.sl 1 (Xhn B X) .sh,.sl 2 W .sh]),some (.box 43 [.sl 1 (X.sectors.map Y6) .sh,.sl 2 (X.waits.map wrC) .sh])]) (fun k=>upd O3 (zG (L.take (i+1)))) (fun k=>k≤0) (fun k=>0 - k) 0 (Nat.zero_le _) ?_ fun k hk=> ?_
    ·refine X2 ?_ ?_ rfl rfl rfl rfl<;>simp only[X4,sl]
    simp only[X4,s_0,s_s]
    obtain rfl:k=0:=by omega
    repeat' (first|(with_reducible first|refine Vk fun K hK=> ?_|refine V0 ?_|refine Vb ?_|refine Vc ?_|refine Vr ?_|refine Vs ?_|apply And.intro|refine Vq (by kernel_rfl) ?_)|((with_reducible first|refine gE ?_|refine gR ?_);simp (maxSteps:=9^7) only[ss,X1,tab,simprocAttr, -List.reduceReplicate,List.length_map,hlt2,gi',Y9,List.length_nil,Int.cast_ofNat_Int,Int.lt_irrefl,decide_false,hw])|exact Vn|((with_reducible refine Vz ?_);refine Vo rfl rfl rfl (fun _ _=>rfl) ?_<;>first|rfl|skip)|((with_reducible refine Vg (fun hg=> ?_) (fun hg=> ?_))<;>(try simp only[nb] at hg)<;>simp (maxSteps:=9^7) only[ss,X1,tab,simprocAttr, -List.reduceReplicate,hg,List.length_map,hlt2,gi',Y9,List.length_nil,Int.cast_ofNat_Int,Int.lt_irrefl,decide_false,hw])|((with_reducible refine Vx ?_);simp only[sb,reduceIte,Nat.reduceEqDiff])|(refine hK _ ?_;clear hK K)|refine Vt rfl ?_|refine Vf rfl ?_|refine Vi rfl (fun hg=> ?_) (fun hg=> ?_)|clear hK K)
    refine⟨i+1,by omega,by omega,?_⟩
    refine X2 ?_ ?_ rfl rfl rfl rfl<;>simp only[X4,sl,List.length_map,hlt2,decide_true]
   ·rw[if_neg h0] at zs
    obtain⟨t,ht⟩:∃t,t=p.2.text:=⟨_,rfl⟩
    obtain⟨hkn,hka,_⟩:=hT p hpL h0
    have hOi:upd O3 (zG (L.take i)) p.1=some (.box 5 (t.map b8)):=by
     rw[Ydi fun q hq=> ?_,hout p hpL h0,ht]
     obtain⟨j,hj,he⟩:=List.getElem_of_mem hq
     rw[List.length_take] at hj
     rw[List.getElem_take] at he
     intro e
     have h2:=(List.pairwise_iff_getElem.1 hLd) j i (by rw[List.length_map];omega) (by rw[List.length_map];exact hlt2) (by omega)
     refine h2 ?_
     rw[List.getElem_map,List.getElem_map,he,← hp,e]
    have gi':(L.map Bf).getD i []=[w32 p.2.gen,.bsl p.1 0 t.length false]:=by rw[gi,Bf,txB,if_neg h0,ht]
    rw[← ht] at zs hpt
    generalize upd O3 (zG (L.take i))=Oi at*
    generalize p.1=kk at*
    have oz:Xw Oi kk (.box 5 ((zR t 0).map b8))=Oi:=by rw[Ydo];exact Qb hOi
    repeat' (first|(with_reducible first|refine Vk fun K hK=> ?_|refine V0 ?_|refine Vb ?_|refine Vc ?_|refine Vr ?_|refine Vs ?_|apply And.intro|refine Vq (by kernel_rfl) ?_)|((with_reducible first|refine gE ?_|refine gR ?_);simp (maxSteps:=9^7) only[ss,X1,tab,simprocAttr, -List.reduceReplicate,List.length_map,hlt2,decide_true])|exact Vn|((with_reducible refine Vz ?_);refine Vo rfl rfl rfl (fun _ _=>rfl) ?_<;>first|rfl|skip)|((with_reducible refine Vg (fun hg=> ?_) (fun hg=> ?_))<;>(try simp only[nb] at hg)<;>simp (maxSteps:=9^7) only[ss,X1,tab,simprocAttr, -List.reduceReplicate,hg,List.length_map,hlt2,decide_true])|((with_reducible refine Vx ?_);simp only[sb,reduceIte,Nat.reduceEqDiff])|(refine hK _ ?_;clear hK K)|refine Vt rfl ?_|refine Vf rfl ?_|refine Vi rfl (fun hg=> ?_) (fun hg=> ?_)|clear hK K)
    refine Xe ?_
    refine Xz (fun k:Nat=>[(21,i64 (k:Int)),(142,.top),(143,.top),(144,.top),(145,.top),(146,.top),(147,.top),(148,.top),(149,.top),(150,.top),(151,.top),(152,.top),(153,.top),(154,.top),(155,.top),(156,.top),(157,.top),(158,.top)]) (fun k=>[some (.box 43 [.sl 1 (d.sectors.map Y6) .sh,.sl 2 (d.waits.map wrC) .sh]),some (.box 60 [w32 r.gen,bs r.text]),some (.box 43 [.sl 1 (d.sectors.map Y6) .sh,.sl 2 (d.waits.map wrC) .sh]),some (.box 60 [w32 r.gen,bs r.text]),some (.box 43 [.sl 1 (Xhn B X) .sh,.sl 2 W .sh]),some (.box 43 [.sl 1 (X.sectors.map Y6) .sh,.sl 2 (X.waits.map wrC) .sh])]) (fun k=>Xw Oi kk (.box 5 ((zR t k).map b8))) (fun k=>k≤t.length) (fun k=>t.length - k) 0 (Nat.zero_le _) ?_ fun k hk=> ?_
    ·refine X2 ?_ ?_ (by first|rfl|(simp only[oz];rfl)|simp only[oz]) rfl rfl rfl<;>simp only[X4,sl,oz]
    simp only[X4,s_0,s_s]
    have hwk:=Yl (n:=k) 1 1 rfl (by omega)
    by_cases hlk:k<t.length
    ·have hlk':(k:Int)<(t.length:Int):=by omega
     have gl:((zR t k).map b8).length=t.length:=by rw[List.length_map,Yco t (by omega)]
     have gs:Yf ((zR t k).map b8) k [.val (.int .u8 0)]=(zR t (k+1)).map b8:=by
      rw[← Ydh t hlk]
      exact F7 b8 (zR t k) k 0 (by rw[Yco t (by omega)];exact hlk)
     generalize (zR t k).map b8=G at*
     obtain⟨G',hG'⟩:∃G',G'=(zR t (k+1)).map b8:=⟨_,rfl⟩
     rw[← hG'] at gs
     have gle:k+1≤t.length:=by omega
     repeat' (first|(with_reducible first|refine Vk fun K hK=> ?_|refine V0 ?_|refine Vb ?_|refine Vc ?_|refine Vr ?_|refine Vs ?_|apply And.intro|refine Vq (by kernel_rfl) ?_)|((with_reducible first|refine gE ?_|refine gR ?_);simp (maxSteps:=9^7) only[ss,X1,tab,simprocAttr, -List.reduceReplicate,List.length_map,hlt2,gi',Y9,hlk,hlk',decide_true,X8 hkn,X7 hkn,Xa hkn,Xt,Jp,gl,gs,gle,hwk])|exact Vn|((with_reducible refine Vz ?_);refine Vo rfl rfl rfl (fun _ _=>rfl) ?_<;>first|rfl|skip)|((with_reducible refine Vg (fun hg=> ?_) (fun hg=> ?_))<;>(try simp only[nb] at hg)<;>simp (maxSteps:=9^7) only[ss,X1,tab,simprocAttr, -List.reduceReplicate,hg,List.length_map,hlt2,gi',Y9,hlk,hlk',decide_true,X8 hkn,X7 hkn,Xa hkn,Xt,Jp,gl,gs,gle,hwk])|((with_reducible refine Vx ?_);simp only[sb,reduceIte,Nat.reduceEqDiff])|(refine hK _ ?_;clear hK K)|refine Vt rfl ?_|refine Vf rfl ?_|refine Vi rfl (fun hg=> ?_) (fun hg=> ?_)|clear hK K)
     all_goals try omega
     refine⟨k+1,by omega,by omega,?_⟩
     rw[hG']
     refine X2 ?_ ?_ rfl rfl rfl rfl<;>simp only[X4,sl,List.length_map,hlt2,gi',Y9,hlk',decide_true]
    ·obtain rfl:k=t.length:=by omega
     rw[← zs]
     repeat' (first|(with_reducible first|refine Vk fun K hK=> ?_|refine V0 ?_|refine Vb ?_|refine Vc ?_|refine Vr ?_|refine Vs ?_|apply And.intro|refine Vq (by kernel_rfl) ?_)|((with_reducible first|refine gE ?_|refine gR ?_);simp (maxSteps:=9^7) only[ss,X1,tab,simprocAttr, -List.reduceReplicate,List.length_map,hlt2,gi',Y9,hlk,Int.lt_irrefl,decide_false,hw])|exact Vn|((with_reducible refine Vz ?_);refine Vo rfl rfl rfl (fun _ _=>rfl) ?_<;>first|rfl|skip)|((with_reducible refine Vg (fun hg=> ?_) (fun hg=> ?_))<;>(try simp only[nb] at hg)<;>simp (maxSteps:=9^7) only[ss,X1,tab,simprocAttr, -List.reduceReplicate,hg,List.length_map,hlt2,gi',Y9,hlk,Int.lt_irrefl,decide_false,hw])|((with_reducible refine Vx ?_);simp only[sb,reduceIte,Nat.reduceEqDiff])|(refine hK _ ?_;clear hK K)|refine Vt rfl ?_|refine Vf rfl ?_|refine Vi rfl (fun hg=> ?_) (fun hg=> ?_)|clear hK K)
     refine⟨i+1,by omega,by omega,?_⟩
     refine X2 ?_ ?_ rfl rfl rfl rfl<;>simp only[X4,sl,List.length_map,hlt2,decide_true]
  ·obtain rfl:i=L.length:=by omega
   rw[List.take_length,fin]
   repeat' (first|(with_reducible first|refine Vk fun K hK=> ?_|refine V0 ?_|refine Vb ?_|refine Vc ?_|refine Vr ?_|refine Vs ?_|apply And.intro|refine Vq (by kernel_rfl) ?_)|((with_reducible first|refine gE ?_|refine gR ?_);simp (maxSteps:=9^7) only[ss,X1,tab,simprocAttr, -List.reduceReplicate,Y3p,Xha,List.length_map,hlt2,decide_false,Ya,Z5,beq_self_eq_true])|exact Vn|((with_reducible refine Vz ?_);refine Vo rfl rfl rfl (fun _ _=>rfl) ?_<;>first|rfl|skip)|(refine X3 (cV3) ?_)|((with_reducible refine Vg (fun hg=> ?_) (fun hg=> ?_))<;>(try simp only[nb] at hg)<;>simp (maxSteps:=9^7) only[ss,X1,tab,simprocAttr, -List.reduceReplicate,hg,Y3p,Xha,List.length_map,hlt2,decide_false,Ya,Z5,beq_self_eq_true])|((with_reducible refine Vx ?_);simp only[sb,reduceIte,Nat.reduceEqDiff])|(refine hK _ ?_;clear hK K)|refine Vt rfl ?_|refine Vf rfl ?_|(refine Vi rfl (fun hg=> ?_) (fun hg=> ?_))<;>try simp only[hg]|clear hK K)
theorem Fl (d:Dsk) (r:Rc) (hd:DOk d) (hb:r.text.length≤Xiv):Xr Try.prog 5 [Y3p d,rcA r] [] (bool true) []:=by
 have cg1:=Xj6 d hd
 cases gd:Xjd d with
 |true=>
  rw[gd] at cg1
  simp only[Y3p,Xha] at cg1
  refine Xc 6 Try.func5 rfl fun n out _ _=> ?_
  simp only[Try.ntmps5,List.length_cons,List.length_nil,List.length_map,List.length_replicate,Xf,Nat.reduceAdd,Nat.reduceSub,List.replicate,List.cons_append,List.nil_append]
  repeat' (first|(with_reducible first|refine Vk fun K hK=> ?_|refine V0 ?_|refine Vb ?_|refine Vc ?_|refine Vr ?_|refine Vs ?_|apply And.intro|refine Vq (by kernel_rfl) ?_)|((with_reducible first|refine gE ?_|refine gR ?_);simp (maxSteps:=9^7) only[ss,X1,tab,simprocAttr, -List.reduceReplicate,Y3p,Xha,rcA,rcC])|exact Vn|((with_reducible refine Vz ?_);refine Vo rfl rfl rfl (fun _ _=>rfl) ?_<;>first|rfl|skip)|(refine X3 (cg1) ?_)|((with_reducible refine Vg (fun hg=> ?_) (fun hg=> ?_))<;>(try simp only[nb] at hg)<;>simp (maxSteps:=9^7) only[ss,X1,tab,simprocAttr, -List.reduceReplicate,hg,Y3p,Xha,rcA,rcC])|((with_reducible refine Vx ?_);simp only[sb,reduceIte,Nat.reduceEqDiff])|(refine hK _ ?_;clear hK K)|refine Vt rfl ?_|refine Vf rfl ?_|refine Vi rfl (fun hg=> ?_) (fun hg=> ?_)|clear hK K)
 |false=>
  by_cases a1:10000<r.text.length
  ·have e1:decide ((r.text.length:Int)>10000)=true:=decide_eq_true (by omega)
   have e1':decide (10000<r.text.length)=true:=decide_eq_true a1
   rw[gd] at cg1
   simp only[Y3p,Xha] at cg1
   refine Xc 6 Try.func5 rfl fun n out _ _=> ?_
   simp only[Try.ntmps5,List.length_cons,List.length_nil,List.length_map,List.length_replicate,Xf,Nat.reduceAdd,Nat.reduceSub,List.replicate,List.cons_append,List.nil_append]
   repeat' (first|(with_reducible first|refine Vk fun K hK=> ?_|refine V0 ?_|refine Vb ?_|refine Vc ?_|refine Vr ?_|refine Vs ?_|apply And.intro|refine Vq (by kernel_rfl) ?_)|((with_reducible first|refine gE ?_|refine gR ?_);simp (maxSteps:=9^7) only[ss,X1,tab,simprocAttr, -List.reduceReplicate,Y3p,Xha,rcA,rcC,X5,e1,e1'])|exact Vn|((with_reducible refine Vz ?_);refine Vo rfl rfl rfl (fun _ _=>rfl) ?_<;>first|rfl|skip)|(refine X3 (cg1) ?_)|((with_reducible refine Vg (fun hg=> ?_) (fun hg=> ?_))<;>(try simp only[nb] at hg)<;>simp (maxSteps:=9^7) only[ss,X1,tab,simprocAttr, -List.reduceReplicate,hg,Y3p,Xha,rcA,rcC,X5,e1,e1'])|((with_reducible refine Vx ?_);simp only[sb,reduceIte,Nat.reduceEqDiff])|(refine hK _ ?_;clear hK K)|refine Vt rfl ?_|refine Vf rfl ?_|refine Vi rfl (fun hg=> ?_) (fun hg=> ?_)|clear hK K)
  ·obtain⟨X,eX⟩:∃X,X=Y4e d r:=⟨_,rfl⟩
   obtain⟨a,ea⟩:∃a,a=if may d then Y3r d 0 else none:=⟨_,rfl⟩
   obtain⟨b,eb⟩:∃b,b=if may d then Y3r d 16 else none:=⟨_,rfl⟩
   have fO:∀o:Option Rc,(Zn o).length≤1:=fun o=>by
    cases o with
    |none=>simp [Zn]
    |some x=>simp only[Zn,Yd6];split<;>simp
   have fa:=fO a
   have fb:=fO b
   exact Xjq (fun B=>Yd3 d r hd gd (by omega) B _ _ X a b eX ea eb rfl rfl)
    (fun B y hy=>by
     have fN:∀Kw L,y∈Xev Kw L→y.2=none∧Kw≤y.1:=fun Kw L h=>by
      obtain⟨h0,j,q,_,h1⟩:=Xwk.1 h
      exact⟨h0,by omega⟩
     simp only[List.mem_append] at hy
     rcases hy with hy|hy|hy
     ·exact fN _ _ hy
     ·have:=fN _ _ hy;exact⟨this.1,by omega⟩
     ·have:=fN _ _ hy;exact⟨this.1,by omega⟩)
    (m:=(Xh9 X).length+32) fun B y hy=>by
     have fG:∀Kw L,y∈Y62 Kw L→Kw≤y.1∧y.1<Kw+L.length:=fun Kw L h=>by
      obtain⟨j,h1,h2⟩:=Xwj.1 h
      have:=(List.getElem?_eq_some_iff.1 h1).1
      omega
     have hXl:=Xk6 X
     simp only[List.mem_append] at hy
     rcases hy with hy|(hy|hy)|hy|hy
     ·have:=fG _ _ hy;omega
     ·have:=fG _ _ hy;omega
     ·have:=fG _ _ hy;omega
     ·have:=fG _ _ hy
      have h2:(Z1 X X.waits.length).length=X.waits.length:=by simp [Z1,V8]
      omega
     ·obtain⟨p,hp,h2⟩:=List.mem_flatMap.1 hy
      have hk:p.1=B+(Xh9 X).length∨p.1=B+(Xh9 X).length+(Zn a).length+1:=by
       cases a with
       |none=>
        cases b with
        |none=>cases hp
        |some y=>simp only[pl,List.mem_singleton] at hp;rw[hp];exact .inr rfl
       |some x=>
        cases b with
        |none=>simp only[pl,List.mem_singleton] at hp;rw[hp];exact .inl rfl
        |some y=>
         simp only[pl] at hp
         split at hp<;>simp only[List.mem_cons,List.not_mem_nil,or_false] at hp<;>rcases hp with hp|hp<;>rw[hp]
         ·exact .inr rfl
         ·exact .inl rfl
         ·exact .inl rfl
         ·exact .inr rfl
      split at h2
      ·cases h2
      ·rw[List.mem_singleton] at h2
       rw[h2]
       dsimp only
       omega
end Go.Proofs.Ytjgbbjooeibppaa
