/- The layer of abstract values, joined. -/
import Derived.Test.YtjgbbjooeibppaaZD2
import Derived.Test.YtjgbbjooeibppaaZI7
import Derived.Test.YtjgbbjooeibppaaZE10
namespace Go.Proofs.Ytjgbbjooeibppaa
set_option linter.unusedVariables false
set_option linter.unusedSimpArgs false
open Go Go.VS Tab
set_option maxHeartbeats 16000000
set_option maxRecDepth 8000
def wA:Option (BitVec 32×AV)→AV
 |none=>Y7l none
 |some x=> .tup [.agg [w32 x.1,x.2],bool true]
def rwA (x:BitVec 32×AV):List AV:=[w32 x.1,x.2]
def P3:Option (BitVec 32×AV)→List (List AV)
 |none=>[]
 |some x=>[rwA x]
def lsA (a b:Option (BitVec 32×AV)):List (List AV):=match a,b with
 |some x,some y=>if x.1.toNat<y.1.toNat then[rwA y,rwA x] else[rwA x,rwA y]
 |a,b=>P3 a++P3 b
theorem S2 (ka kb:Nat) (d:Dsk) (h1:d.sectors.length≤1000) (h2:d.waits.length≤1000) (hmd:may d=true) (Fa Fb:List (Option Res)) (a b:Option (BitVec 32×AV))
  (cw0:Xr Try.prog 72 [Y3p d,i64 0] (Xev ka Fa) (wA a) (Y62 ka Fa)) (cw1:Xr Try.prog 72 [Y3p d,i64 16] (Xev kb Fb) (wA b) (Y62 kb Fb)) (hab:ka+Fa.length≤kb):
  Xr Try.prog 24 [Y3p d] (Xev ka Fa++Xev kb Fb) (.tup [.sl 2 (lsA a b) .sh,i64 0]) (Y62 ka Fa++Y62 kb Fb):=by
 have cc:=Xjg d h1 h2
 have hwa:IntKind.i64.wrap 1=1:=rfl
 have hwb:IntKind.i64.wrap 2=2:=rfl
 rw[hmd,if_pos rfl] at cc
 simp only[Y3p,Xha] at cc
 have lit:∀(σ:AState) (K:AV→List (Nat×Res)→Prop),X1 tab σ K none 31 2 [(0,i64 0),(1,i64 16)]=K (.sl 1 [[i64 0],[i64 16]] .full) []:=fun σ K=>Te (T:=tab) (ti:=ti31) (te:=ti3) rfl rfl rfl rfl rfl rfl
 have lit2:∀(σ:AState) (K:AV→List (Nat×Res)→Prop) (g:BitVec 32) (t:AV),X1 tab σ K none 64 1 [(0,.agg [w32 g,t])]=K (.sl 2 [[w32 g,t]] .full) []:=fun σ K g t=>Yk (T:=tab) (ti:=ti64) (te:=ti60) rfl rfl rfl (by decide) (by decide) rfl rfl
 have g0:([[i64 0],[i64 16]]:List (List AV)).getD 0 []=[i64 0]:=rfl
 have g1:([[i64 0],[i64 16]]:List (List AV)).getD 1 []=[i64 16]:=rfl
 simp only[Y3p,Xha] at cw0 cw1
 by_cases hx:∃x y,a=some x∧b=some y∧x.1.toNat<y.1.toNat
 ·obtain⟨x,y,rfl,rfl,hxy⟩:=hx
  obtain⟨gx,tx⟩:=x
  obtain⟨gy,ty⟩:=y
  dsimp only at hxy
  have hF:lsA (some (gx,tx)) (some (gy,ty))=[[w32 gy,ty],[w32 gx,tx]]:=if_pos hxy
  rw[hF]
  simp only[wA] at cw0 cw1
  obtain⟨V,hV⟩:∃V:Nat→List AV,V=fun i=>if i=1 then[w32 gx,tx] else[w32 gx,tx,w32 gy,ty]:=⟨_,rfl⟩
  have vq1:V 1=[w32 gx,tx]:=by rw[hV];rfl
  have vq2:V 2=[w32 gx,tx,w32 gy,ty]:=by rw[hV];rfl
  clear hV
  refine Xc 3 Try.func24 rfl fun n out _ _=> ?_
  simp only[Try.ntmps24,List.length_cons,List.length_nil,List.length_map,List.length_replicate,Xf,Nat.reduceAdd,Nat.reduceSub,List.replicate,List.cons_append,List.nil_append]
  rename_i hneeds hgv
  rw[Xji] at hneeds
  rw[Xiq] at hgv
  obtain⟨hka,hkb⟩:=hneeds
  obtain⟨hga,hgb⟩:=hgv
  have hkb':holds (ofL out ka Fa) (Xev kb Fb):=Xm9 hkb (.inr hab)
  obtain⟨O,hO⟩:∃O:Nat→Nat→Option Res,O=fun i=>if i=0 then out else if i=1 then ofL out ka Fa else ofL (ofL out ka Fa) kb Fb:=⟨_,rfl⟩
  have O0:O 0=out:=by rw[hO];rfl
  have O1:O 1=ofL out ka Fa:=by rw[hO];rfl
  have O2:O 2=ofL (ofL out ka Fa) kb Fb:=by rw[hO];rfl
  clear hO
  have hfin:ofL (ofL out ka Fa) kb Fb=upd out (Y62 ka Fa++Y62 kb Fb):=by rw[Xi6,K3,K3]
  rw[← O1] at hkb'
  rw[← O2] at hfin
  repeat' (first|(with_reducible first|refine Vk fun K hK=> ?_|refine V0 ?_|refine Vb ?_|refine Vc ?_|refine Vr ?_|refine Vs ?_|apply And.intro|refine Vq (by kernel_rfl) ?_)|((with_reducible first|refine gE ?_|refine gR ?_);simp (maxSteps:=9^7) only[ss,tab,simprocAttr, -List.reduceReplicate,lit,Y3p,Xha])|exact Vn|((with_reducible refine Vz ?_);refine Vp rfl rfl rfl (fun _ _=>rfl) ?_ ?_<;>first|rfl|skip)|(refine X3 (cc) ?_)|((with_reducible refine Vg (fun hg=> ?_) (fun hg=> ?_))<;>(try simp only[nb] at hg)<;>simp (maxSteps:=9^7) only[ss,tab,simprocAttr, -List.reduceReplicate,hg,lit,Y3p,Xha])|((with_reducible refine Vx ?_);simp only[sb,reduceIte,Nat.reduceEqDiff])|(refine hK _ ?_;clear hK K)|refine Vt rfl ?_|refine Vf rfl ?_|refine Vi rfl (fun hg=> ?_) (fun hg=> ?_)|clear hK K)
  refine Xe ?_
  refine Xl (fun m (i:Nat)=>[(16,i64 (i:Int)),(1,.ptr (m+0) 0),(2,if i=0 then .sl 0 [] .nil else .vsl (m+2) i),(6,.top),(7,.top),(8,.top),(17,.top),(18,.top),(19,.top),(20,.top),(21,.top),(22,.top),(23,.top),(24,.top),(25,.top),(26,.top),(27,.top),(28,.top),(29,.top),(30,.top),(31,.top)]) (fun m i=>[some (.box 43 (Xha d)),none,if i=0 then none else some (.vec 60 2 i (V i))]) (fun i=>O i) (fun i=>i≤2) (fun i=>2 - i) 0 (Nat.zero_le _) ?_ fun m i hm hi=> ?_
  ·refine X2 ?_ ?_ (by first|rfl|(simp only[Xha,if_true,O0];rfl)|simp only[Xha,if_true,O0]) rfl rfl rfl<;>simp only[X4,sl,Xha,if_true,O0]
  simp only[X4,s_0,s_s]
  have hw:=Yl (n:=i) 1 1 rfl (by omega)
  by_cases hlt:i<2
  ·have hlt':(i:Int)<2:=by omega
   rcases(show i=0∨i=1 by omega) with rfl|rfl
   ·rw[if_pos rfl,if_pos rfl,O0]
    have hga':Mc n (Y62 ka Fa):=hga
    repeat' (first|(with_reducible first|refine Vk fun K hK=> ?_|refine Ve [(1030,none)] ?_|refine Vb ?_|refine Vc ?_|refine Vr ?_|refine Vs ?_|apply And.intro|refine Vq (by kernel_rfl) ?_)|((with_reducible first|refine gE ?_|refine gR ?_);simp (maxSteps:=9^7) only[ss,tab,simprocAttr, -List.reduceReplicate,lit2,Xi hm,Xg7 hga,Xha,hlt',hw,hwa,hwb,g0,Y9,X0,List.flatten_cons,List.flatten_nil,List.append_nil])|exact Vn|((with_reducible refine Vz ?_);refine Vp rfl rfl rfl (fun _ _=>rfl) ?_ ?_<;>first|rfl|skip)|(refine Xg1 cw0 hga hka ?_)|((with_reducible refine Vg (fun hg=> ?_) (fun hg=> ?_))<;>(try simp only[nb] at hg)<;>simp (maxSteps:=9^7) only[ss,tab,simprocAttr, -List.reduceReplicate,hg,lit2,Xi hm,Xg7 hga,Xha,hlt',hw,hwa,hwb,g0,Y9,X0,List.flatten_cons,List.flatten_nil,List.append_nil])|((with_reducible refine Vx ?_);simp only[sb,reduceIte,Nat.reduceEqDiff])|(refine hK _ ?_;clear hK K)|refine Vt rfl ?_|refine Vf rfl ?_|refine Vi rfl (fun hg=> ?_) (fun hg=> ?_)|clear hK K)
    all_goals try decide
    refine⟨1,by omega,by omega,?_⟩
    have hn1:((1:Nat)=0)=False:=by simp
    rw[O1]
    refine Xx [true,false,true] (fun n_=> ?_) (fun n_=> ?_)<;>simp only[X4,sm,Xha,hn1,if_false,vq1]
   ·rw[if_neg (by decide),if_neg (by decide),vq1,O1]
    rw[O1] at hkb'
    repeat' (first|(with_reducible first|refine Vk fun K hK=> ?_|refine V0 ?_|refine Vb ?_|refine Vc ?_|refine Vr ?_|refine Vs ?_|apply And.intro|refine Vq (by kernel_rfl) ?_)|((with_reducible first|refine gE ?_|refine gR ?_);simp (maxSteps:=9^7) only[ss,tab,simprocAttr, -List.reduceReplicate,lit2,Xi hm,Xg7 hgb,Xha,hlt',hw,hwa,hwb,g1,Y9,X0,List.flatten_cons,List.flatten_nil,List.append_nil,List.cons_append])|exact Vn|((with_reducible refine Vz ?_);refine Vp rfl rfl rfl (fun _ _=>rfl) ?_ ?_<;>first|rfl|skip)|(refine Xg1 cw1 hgb hkb' ?_)|((with_reducible refine Vg (fun hg=> ?_) (fun hg=> ?_))<;>(try simp only[nb] at hg)<;>simp (maxSteps:=9^7) only[ss,tab,simprocAttr, -List.reduceReplicate,hg,lit2,Xi hm,Xg7 hgb,Xha,hlt',hw,hwa,hwb,g1,Y9,X0,List.flatten_cons,List.flatten_nil,List.append_nil,List.cons_append])|((with_reducible refine Vx ?_);simp only[sb,reduceIte,Nat.reduceEqDiff])|(refine hK _ ?_;clear hK K)|refine Vt rfl ?_|refine Vf rfl ?_|refine Vi rfl (fun hg=> ?_) (fun hg=> ?_)|clear hK K)
    all_goals try decide
    refine⟨2,by omega,by omega,?_⟩
    have hn2:((2:Nat)=0)=False:=by simp
    rw[O2]
    refine Xx [true,false,true] (fun n_=> ?_) (fun n_=> ?_)<;>simp only[X4,sm,Xha,hn2,if_false,vq2]
  ·obtain rfl:i=2:=by omega
   have h22:¬((2:Nat):Int)<((2:Nat):Int):=by omega
   rw[if_neg (by decide),if_neg (by decide),vq2]
   refine Yy (Ybb (i:=2) (m:=2) (sz:=2) (e:=60) (cs:=[w32 gx,tx,w32 gy,ty]) [(2,.bsl (m+2) 0 2 false)] (lo1:=[some (.box 43 (Xha d)),none,some (.vec 60 2 2 [w32 gx,tx,w32 gy,ty])]) rfl (by decide) ?_ ?_) ?_
   ·simp only[X4,s_0,s_s,Yak,Yb9,Yba,Yby,true_and,and_true]
   ·simp only[Y9h,Yaj,Y89,true_and,and_true]
   simp only[X4,s_0,s_s]
   repeat' (first|(with_reducible first|refine Vk fun K hK=> ?_|refine V0 ?_|refine Vb ?_|refine Vc ?_|refine Vr ?_|refine Vs ?_|apply And.intro|refine Vd 11 [] [[],[],[],[],[],[],[],[2],[],[],[],[2],[],[]] [[],[],[],[],[],[],[],[],[],[],[],[],[],[]] (by kernel_rfl) (by decide) (by decide) (by kernel_rfl) ?_)|((with_reducible first|refine gE ?_|refine gR ?_|refine gD ?_|refine gF ?_);simp (maxSteps:=9^7) only[ss,X1,tab,simprocAttr, -List.reduceReplicate,sg,Xi hm,Xha,h22,Int.cast_ofNat_Int,hxy])|exact Vn|((with_reducible refine Vz ?_);refine Vp rfl rfl rfl (fun _ _=>rfl) ?_ ?_<;>first|rfl|skip)|((with_reducible first|refine Vg (fun hg=> ?_) (fun hg=> ?_)|refine Y5 (fun hg=> ?_) (fun hg=> ?_))<;>(try simp only[nb] at hg)<;>simp (maxSteps:=9^7) only[ss,X1,tab,simprocAttr, -List.reduceReplicate,hg,sg,Xi hm,Xha,h22,Int.cast_ofNat_Int,hxy])|((with_reducible refine Vx ?_);simp only[sb,reduceIte,Nat.reduceEqDiff])|(refine hK _ ?_;clear hK K)|refine Vt rfl ?_|refine Vf rfl ?_|refine Vi rfl (fun hg=> ?_) (fun hg=> ?_)|clear hK K)
   refine Ny Xj [] [[],[],[],[],[2],[],[],[2],[],[2],[],[2]] [[],[],[],[],[],[],[],[],[],[2],[],[2]] follows (by kernel_rfl) (by decide) (by decide) (by kernel_rfl) ?_
   simp (maxSteps:=9^7) only[ss,X1,tab,simprocAttr, -List.reduceReplicate,Xi hm,X0]
   have hfz:Fz (m+2) 2 [w32 gy,ty,w32 gx,tx] (.bsl (m+2) 0 2 false) (.sl 2 [[w32 gy,ty],[w32 gx,tx]] .sh):=
    Fz.bsl (k:=m+2) (sz:=2) (cs:=[w32 gy,ty,w32 gx,tx]) 0 2 false ⟨by decide,Nat.le_refl 4⟩
   repeat refine And.intro (by decide) ?_
   refine hK _ ?_
   clear hK K
   refine Yy (Zi (i:=2) (t:=2) 2 (.sl 2 [[w32 gy,ty],[w32 gx,tx]] .sh) rfl rfl hfz) ?_
   simp only[s_0,s_s]
   repeat' (first|(with_reducible first|refine Vk fun K hK=> ?_|refine V0 ?_|refine Vb ?_|refine Vc ?_|refine Vr ?_|refine Vs ?_|apply And.intro|refine Vq (by kernel_rfl) ?_)|((with_reducible first|refine gE ?_|refine gR ?_);simp (maxSteps:=9^7) only[ss,X1,tab,simprocAttr, -List.reduceReplicate,Xi hm])|exact Vn|((with_reducible refine Vz ?_);refine Vp rfl rfl rfl (fun _ _=>rfl) ?_ ?_<;>first|rfl|skip)|((with_reducible refine Vg (fun hg=> ?_) (fun hg=> ?_))<;>(try simp only[nb] at hg)<;>simp (maxSteps:=9^7) only[ss,X1,tab,simprocAttr, -List.reduceReplicate,hg,Xi hm])|((with_reducible refine Vx ?_);simp only[sb,reduceIte,Nat.reduceEqDiff])|(refine hK _ ?_;clear hK K)|refine Vt rfl ?_|refine Vf rfl ?_|refine Vi rfl (fun hg=> ?_) (fun hg=> ?_)|clear hK K)
   refine Yd ?_
   exact Za (.inr rfl) rfl rfl rfl (fun j _=>by rw[hfin]) rfl rfl (.rfl _) (.rfl _)
 ·have hF:lsA a b=P3 a++P3 b:=by
   cases a with
   |none=>rfl
   |some x=>
    cases b with
    |none=>rfl
    |some y=>exact if_neg fun h=>hx ⟨x,y,rfl,rfl,h⟩
  have hF2:P3 a++P3 b=lsA a b:=hF.symm
  obtain⟨V,hV⟩:∃V:Nat→List (List AV),V=fun i=>if i=0 then[] else if i=1 then P3 a else P3 a++P3 b:=⟨_,rfl⟩
  have vq0:V 0=[]:=by rw[hV];rfl
  have vq1:V 1=P3 a:=by rw[hV];rfl
  have vq2:V 2=P3 a++P3 b:=by rw[hV];rfl
  have o1:(P3 a).length≤1:=by cases a<;>simp [P3]
  have o2:(P3 b).length≤1:=by cases b<;>simp [P3]
  clear hV
  rw[hF,← vq2]
  refine Xc 3 Try.func24 rfl fun n out _ _=> ?_
  simp only[Try.ntmps24,List.length_cons,List.length_nil,List.length_map,List.length_replicate,Xf,Nat.reduceAdd,Nat.reduceSub,List.replicate,List.cons_append,List.nil_append]
  rename_i hneeds hgv
  rw[Xji] at hneeds
  rw[Xiq] at hgv
  obtain⟨hka,hkb⟩:=hneeds
  obtain⟨hga,hgb⟩:=hgv
  have hkb':holds (ofL out ka Fa) (Xev kb Fb):=Xm9 hkb (.inr hab)
  obtain⟨O,hO⟩:∃O:Nat→Nat→Option Res,O=fun i=>if i=0 then out else if i=1 then ofL out ka Fa else ofL (ofL out ka Fa) kb Fb:=⟨_,rfl⟩
  have O0:O 0=out:=by rw[hO];rfl
  have O1:O 1=ofL out ka Fa:=by rw[hO];rfl
  have O2:O 2=ofL (ofL out ka Fa) kb Fb:=by rw[hO];rfl
  clear hO
  have hfin:O 2=upd out (Y62 ka Fa++Y62 kb Fb):=by rw[O2,Xi6,K3,K3]
  repeat' (first|(with_reducible first|refine Vk fun K hK=> ?_|refine V0 ?_|refine Vb ?_|refine Vc ?_|refine Vr ?_|refine Vs ?_|apply And.intro|refine Vq (by kernel_rfl) ?_)|((with_reducible first|refine gE ?_|refine gR ?_);simp (maxSteps:=9^7) only[ss,tab,simprocAttr, -List.reduceReplicate,lit,Y3p,Xha])|exact Vn|((with_reducible refine Vz ?_);refine Vp rfl rfl rfl (fun _ _=>rfl) ?_ ?_<;>first|rfl|skip)|(refine X3 (cc) ?_)|((with_reducible refine Vg (fun hg=> ?_) (fun hg=> ?_))<;>(try simp only[nb] at hg)<;>simp (maxSteps:=9^7) only[ss,tab,simprocAttr, -List.reduceReplicate,hg,lit,Y3p,Xha])|((with_reducible refine Vx ?_);simp only[sb,reduceIte,Nat.reduceEqDiff])|(refine hK _ ?_;clear hK K)|refine Vt rfl ?_|refine Vf rfl ?_|refine Vi rfl (fun hg=> ?_) (fun hg=> ?_)|clear hK K)
  refine Yy (Q9 (i:=1) 60 2 rfl) ?_
  simp only[s_0,s_s]
  refine Xe ?_
  refine Xl (fun m (i:Nat)=>[(16,i64 (i:Int)),(1,.ptr (m+0) 0),(2,.sl 2 (V i) (.own (m+1))),(6,.top),(7,.top),(8,.top),(17,.top),(18,.top),(19,.top),(20,.top),(21,.top),(22,.top),(23,.top),(24,.top),(25,.top),(26,.top),(27,.top),(28,.top),(29,.top),(30,.top),(31,.top)]) (fun m i=>[some (.box 43 (Xha d)),some (.row 60 2 (V i).length),none]) (fun i=>O i) (fun i=>i≤2) (fun i=>2 - i) 0 (Nat.zero_le _) ?_ fun m i hm hi=> ?_
  ·refine X2 ?_ ?_ (by first|rfl|(simp only[Xha,vq0,List.length_nil,O0];rfl)|simp only[Xha,vq0,List.length_nil,O0]) rfl rfl rfl<;>simp only[X4,sl,Xha,vq0,List.length_nil,O0]
  simp only[X4,s_0,s_s]
  have hw:=Yl (n:=i) 1 1 rfl (by omega)
  by_cases hlt:i<2
  ·have hlt':(i:Int)<2:=by omega
   rcases(show i=0∨i=1 by omega) with rfl|rfl
   ·rw[O0]
    cases a with
    |none=>
     have e1:V 0=V 1:=by rw[vq0,vq1];rfl
     rw[e1]
     simp only[wA,Y7l,rcA,rcC,Option.getD_none,Option.isSome_none] at cw0
     repeat' (first|(with_reducible first|refine Vk fun K hK=> ?_|refine V0 ?_|refine Vb ?_|refine Vc ?_|refine Vr ?_|refine Vs ?_|apply And.intro|refine Vq (by kernel_rfl) ?_)|((with_reducible first|refine gE ?_|refine gR ?_);simp (maxSteps:=9^7) only[ss,tab,simprocAttr, -List.reduceReplicate,lit2,Xi hm,Xg7 hga,Xha,hlt',hw,hwa,hwb,g0,Y9,X0])|exact Vn|((with_reducible refine Vz ?_);refine Vp rfl rfl rfl (fun _ _=>rfl) ?_ ?_<;>first|rfl|skip)|(refine Xg1 cw0 hga hka ?_)|((with_reducible refine Vg (fun hg=> ?_) (fun hg=> ?_))<;>(try simp only[nb] at hg)<;>simp (maxSteps:=9^7) only[ss,tab,simprocAttr, -List.reduceReplicate,hg,lit2,Xi hm,Xg7 hga,Xha,hlt',hw,hwa,hwb,g0,Y9,X0])|((with_reducible refine Vx ?_);simp only[sb,reduceIte,Nat.reduceEqDiff])|(refine hK _ ?_;clear hK K)|refine Vt rfl ?_|refine Vf rfl ?_|refine Vi rfl (fun hg=> ?_) (fun hg=> ?_)|clear hK K)
     refine⟨1,by omega,by omega,?_⟩
     rw[O1]
     refine Xx [true,true,false] (fun n_=> ?_) (fun n_=> ?_)<;>simp only[X4,sm,Xha]
    |some x=>
     obtain⟨gx,tx⟩:=x
     have e1:V 0++[[w32 gx,tx]]=V 1:=by rw[vq0,vq1];rfl
     have l1:(V 0).length+1=(V 1).length:=by rw[vq0,vq1];rfl
     have l0:(V 0).length≤1:=by rw[vq0];decide
     simp only[wA] at cw0
     repeat' (first|(with_reducible first|refine Vk fun K hK=> ?_|refine V0 ?_|refine Vb ?_|refine Vc ?_|refine Vr ?_|refine Vs ?_|apply And.intro|refine Vq (by kernel_rfl) ?_)|((with_reducible first|refine gE ?_|refine gR ?_);simp (maxSteps:=9^7) only[ss,tab,simprocAttr, -List.reduceReplicate,lit2,Xi hm,Xg7 hga,Xha,hlt',hw,hwa,hwb,g0,Y9,X0,e1,l1])|exact Vn|((with_reducible refine Vz ?_);refine Vp rfl rfl rfl (fun _ _=>rfl) ?_ ?_<;>first|rfl|skip)|(refine Xg1 cw0 hga hka ?_)|((with_reducible refine Vg (fun hg=> ?_) (fun hg=> ?_))<;>(try simp only[nb] at hg)<;>simp (maxSteps:=9^7) only[ss,tab,simprocAttr, -List.reduceReplicate,hg,lit2,Xi hm,Xg7 hga,Xha,hlt',hw,hwa,hwb,g0,Y9,X0,e1,l1])|((with_reducible refine Vx ?_);simp only[sb,reduceIte,Nat.reduceEqDiff])|(refine hK _ ?_;clear hK K)|refine Vt rfl ?_|refine Vf rfl ?_|refine Vi rfl (fun hg=> ?_) (fun hg=> ?_)|clear hK K)
     ·omega
     ·omega
     refine⟨1,by omega,by omega,?_⟩
     rw[O1]
     refine Xx [true,true,false] (fun n_=> ?_) (fun n_=> ?_)<;>simp only[X4,sm,Xha]
   ·rw[O1]
    cases b with
    |none=>
     have e1:V 1=V 2:=by rw[vq1,vq2];cases a<;>rfl
     rw[e1]
     simp only[wA,Y7l,rcA,rcC,Option.getD_none,Option.isSome_none] at cw1
     repeat' (first|(with_reducible first|refine Vk fun K hK=> ?_|refine V0 ?_|refine Vb ?_|refine Vc ?_|refine Vr ?_|refine Vs ?_|apply And.intro|refine Vq (by kernel_rfl) ?_)|((with_reducible first|refine gE ?_|refine gR ?_);simp (maxSteps:=9^7) only[ss,tab,simprocAttr, -List.reduceReplicate,lit2,Xi hm,Xg7 hgb,Xha,hlt',hw,hwa,hwb,g1,Y9,X0])|exact Vn|((with_reducible refine Vz ?_);refine Vp rfl rfl rfl (fun _ _=>rfl) ?_ ?_<;>first|rfl|skip)|(refine Xg1 cw1 hgb hkb' ?_)|((with_reducible refine Vg (fun hg=> ?_) (fun hg=> ?_))<;>(try simp only[nb] at hg)<;>simp (maxSteps:=9^7) only[ss,tab,simprocAttr, -List.reduceReplicate,hg,lit2,Xi hm,Xg7 hgb,Xha,hlt',hw,hwa,hwb,g1,Y9,X0])|((with_reducible refine Vx ?_);simp only[sb,reduceIte,Nat.reduceEqDiff])|(refine hK _ ?_;clear hK K)|refine Vt rfl ?_|refine Vf rfl ?_|refine Vi rfl (fun hg=> ?_) (fun hg=> ?_)|clear hK K)
     refine⟨2,by omega,by omega,?_⟩
     rw[O2]
     refine Xx [true,true,false] (fun n_=> ?_) (fun n_=> ?_)<;>simp only[X4,sm,Xha]
    |some y=>
     obtain⟨gy,ty⟩:=y
     have e1:V 1++[[w32 gy,ty]]=V 2:=by rw[vq1,vq2];rfl
     have l1:(V 1).length+1=(V 2).length:=by rw[vq1,vq2,List.length_append];rfl
     have l0:(V 1).length≤1:=by rw[vq1];exact o1
     simp only[wA] at cw1
     repeat' (first|(with_reducible first|refine Vk fun K hK=> ?_|refine V0 ?_|refine Vb ?_|refine Vc ?_|refine Vr ?_|refine Vs ?_|apply And.intro|refine Vq (by kernel_rfl) ?_)|((with_reducible first|refine gE ?_|refine gR ?_);simp (maxSteps:=9^7) only[ss,tab,simprocAttr, -List.reduceReplicate,lit2,Xi hm,Xg7 hgb,Xha,hlt',hw,hwa,hwb,g1,Y9,X0,e1,l1])|exact Vn|((with_reducible refine Vz ?_);refine Vp rfl rfl rfl (fun _ _=>rfl) ?_ ?_<;>first|rfl|skip)|(refine Xg1 cw1 hgb hkb' ?_)|((with_reducible refine Vg (fun hg=> ?_) (fun hg=> ?_))<;>(try simp only[nb] at hg)<;>simp (maxSteps:=9^7) only[ss,tab,simprocAttr, -List.reduceReplicate,hg,lit2,Xi hm,Xg7 hgb,Xha,hlt',hw,hwa,hwb,g1,Y9,X0,e1,l1])|((with_reducible refine Vx ?_);simp only[sb,reduceIte,Nat.reduceEqDiff])|(refine hK _ ?_;clear hK K)|refine Vt rfl ?_|refine Vf rfl ?_|refine Vi rfl (fun hg=> ?_) (fun hg=> ?_)|clear hK K)
     ·omega
     ·omega
     refine⟨2,by omega,by omega,?_⟩
     rw[O2]
     refine Xx [true,true,false] (fun n_=> ?_) (fun n_=> ?_)<;>simp only[X4,sm,Xha]
  ·obtain rfl:i=2:=by omega
   have h22:¬((2:Nat):Int)<((2:Nat):Int):=by omega
   by_cases h2l:(V 2).length=2
   ·obtain⟨x,y,rfl,rfl⟩:∃x y,a=some x∧b=some y:=by
     rw[vq2] at h2l
     cases a<;>cases b<;>simp [P3] at h2l⊢
    obtain⟨gx,tx⟩:=x
    obtain⟨gy,ty⟩:=y
    have hq:V 2=[[w32 gx,tx],[w32 gy,ty]]:=vq2
    rw[hq]
    have hxy:¬gx.toNat<gy.toNat:=fun h=>hx ⟨_,_,rfl,rfl,h⟩
    have q0:([[w32 gx,tx],[w32 gy,ty]]:List (List AV)).getD 0 []=[w32 gx,tx]:=rfl
    have q1:([[w32 gx,tx],[w32 gy,ty]]:List (List AV)).getD 1 []=[w32 gy,ty]:=rfl
    repeat' (first|(with_reducible first|refine Vk fun K hK=> ?_|refine V0 ?_|refine Vb ?_|refine Vc ?_|refine Vr ?_|refine Vs ?_|apply And.intro|refine Vq (by kernel_rfl) ?_)|((with_reducible first|refine gE ?_|refine gR ?_);simp (maxSteps:=9^7) only[ss,X1,tab,simprocAttr, -List.reduceReplicate,Xi hm,Xha,List.length_cons,List.length_nil,h22,Int.cast_ofNat_Int,hxy,q0,q1,Y9])|exact Vn|((with_reducible refine Vz ?_);refine Vp rfl rfl rfl (fun _ _=>rfl) ?_ ?_<;>first|rfl|skip)|((with_reducible refine Vg (fun hg=> ?_) (fun hg=> ?_))<;>(try simp only[nb] at hg)<;>simp (maxSteps:=9^7) only[ss,X1,tab,simprocAttr, -List.reduceReplicate,hg,Xi hm,Xha,List.length_cons,List.length_nil,h22,Int.cast_ofNat_Int,hxy,q0,q1,Y9])|((with_reducible refine Vx ?_);simp only[sb,reduceIte,Nat.reduceEqDiff])|(refine hK _ ?_;clear hK K)|refine Vt rfl ?_|refine Vf rfl ?_|refine Vi rfl (fun hg=> ?_) (fun hg=> ?_)|clear hK K)
    refine Yd ?_
    exact Za (.inr rfl) rfl rfl rfl (fun j _=>by rw[hfin]) rfl rfl (by rw[hq];exact .sh _ _ _) (.rfl _)
   ·have h2b:(((V 2).length:Int)==2)=false:=by simp;omega
    repeat' (first|(with_reducible first|refine Vk fun K hK=> ?_|refine V0 ?_|refine Vb ?_|refine Vc ?_|refine Vr ?_|refine Vs ?_|apply And.intro|refine Vq (by kernel_rfl) ?_)|((with_reducible first|refine gE ?_|refine gR ?_);simp (maxSteps:=9^7) only[ss,X1,tab,simprocAttr, -List.reduceReplicate,Xi hm,Xha,h22,h2b])|exact Vn|((with_reducible refine Vz ?_);refine Vp rfl rfl rfl (fun _ _=>rfl) ?_ ?_<;>first|rfl|skip)|((with_reducible refine Vg (fun hg=> ?_) (fun hg=> ?_))<;>(try simp only[nb] at hg)<;>simp (maxSteps:=9^7) only[ss,X1,tab,simprocAttr, -List.reduceReplicate,hg,Xi hm,Xha,h22,h2b])|((with_reducible refine Vx ?_);simp only[sb,reduceIte,Nat.reduceEqDiff])|(refine hK _ ?_;clear hK K)|refine Vt rfl ?_|refine Vf rfl ?_|refine Vi rfl (fun hg=> ?_) (fun hg=> ?_)|clear hK K)
    refine Yd ?_
    exact Za (.inr rfl) rfl rfl rfl (fun j _=>by rw[hfin]) rfl rfl (.sh _ _ _) (.rfl _)
end Go.Proofs.Ytjgbbjooeibppaa
