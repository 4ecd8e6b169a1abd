/- The layer of abstract values, joined. -/
import Derived.Test.YtjgbbjooeibppaaZD2
import Derived.Test.YtjgbbjooeibppaaZE9
import Derived.Test.YtjgbbjooeibppaaZVsBox
namespace Go.Proofs.Ytjgbbjooeibppaa
set_option linter.unusedVariables false
set_option linter.unusedSimpArgs false
open Go Go.VS Tab
set_option maxHeartbeats 16000000
set_option maxRecDepth 8000
def Y7m (o:Option Rc):List Rc:=match o with|some r=>[r]|none=>[]
theorem Y9z {d:Dsk} (hd:may d=true) (h:∀x y,Y3r d 0=some x→Y3r d 16=some y→¬x.gen.toNat<y.gen.toNat):Y3s d=Y7m (Y3r d 0)++Y7m (Y3r d 16):=by
 rw[Y51 hd]
 cases h0:Y3r d 0 with
 |none=>cases h1:Y3r d 16<;>rfl
 |some x=>
  cases h1:Y3r d 16 with
  |none=>rfl
  |some y=>rw[Y69,if_neg (h x y h0 h1)];rfl
theorem Y5x (d:Dsk) (h1:d.sectors.length≤1000) (h2:d.waits.length≤1000):Xr Try.prog 24 [Y3p d] [] (.tup [.sl 2 ((Y3s d).map rcC) .sh,i64 (if may d then 0 else 8)]) []:=by
 have cc:=Xjg d h1 h2
 have hwa:IntKind.i64.wrap 1=1:=rfl
 have hwb:IntKind.i64.wrap 2=2:=rfl
 simp only[Y3p,Xha] at cc
 cases hmd:may d with
 |false=>
  have hF:Y3s d=[]:=by unfold Y3s;rw[hmd];rfl
  rw[hF]
  rw[hmd] at cc
  simp only[Bool.false_eq_true,if_false] at cc⊢
  refine Xc 3 Try.func24 rfl fun n out _ _=> ?_
  simp only[Try.ntmps24,List.length_cons,List.length_nil,List.length_map,List.length_replicate,Xf,Nat.reduceAdd,Nat.reduceSub,List.replicate,List.cons_append,List.nil_append]
  repeat' (first|(with_reducible first|refine Vk fun K hK=> ?_|refine V0 ?_)|((with_reducible first|refine gE ?_|refine gR ?_);simp (maxSteps:=9^7) only[ss,X1,tab,simprocAttr, -List.reduceReplicate,Y3p,Xha,List.map_nil])|((with_reducible refine Vz ?_);refine Za (.inr rfl) rfl rfl rfl (fun _ _=>rfl) rfl rfl ?_ ?_<;>first|rfl|(exact AV.le.rfl _)|(simp only[X4,sl,Y3p,Xha,Int.reduceBNe,List.map_nil];done)|rfl|skip)|(refine X3 (cc) ?_)|(refine hK _ ?_;clear hK K)|refine Vt rfl ?_)
 |true=>
  rw[hmd] at cc
  simp only[if_true] at cc⊢
  have lit:∀(σ:AState) (K:AV→List (Nat×Res)→Prop),X1 tab σ K none 31 2 [(0,i64 0),(1,i64 16)]=K (.sl 1 [[i64 0],[i64 16]] .full) []:=fun σ K=>Te (T:=tab) (ti:=ti31) (te:=ti3) rfl rfl rfl rfl rfl rfl
  have lit2:∀(σ:AState) (K:AV→List (Nat×Res)→Prop) (g:BitVec 32) (t:List UInt8),X1 tab σ K none 64 1 [(0,.agg [w32 g,bs t])]=K (.sl 2 [[w32 g,bs t]] .full) []:=fun σ K g t=>Yk (T:=tab) (ti:=ti64) (te:=ti60) rfl rfl rfl (by decide) (by decide) rfl rfl
  have cw0:=Y5j d 0 hmd (.inl rfl)
  have cw1:=Y5j d 16 hmd (.inr rfl)
  obtain⟨a,ha⟩:∃a,a=Y3r d 0:=⟨_,rfl⟩
  obtain⟨b,hb⟩:∃b,b=Y3r d 16:=⟨_,rfl⟩
  rw[← ha] at cw0
  rw[← hb] at cw1
  simp only[Y3p,Xha,Y7l,rcA,rcC,Int.cast_ofNat_Int] at cw0 cw1
  by_cases hx:∃x y,a=some x∧b=some y∧x.gen.toNat<y.gen.toNat
  ·obtain⟨x,y,rfl,rfl,hxy⟩:=hx
   have hF:Y3s d=[y,x]:=by rw[Y51 hmd,← ha,← hb,Y69,if_pos hxy]
   rw[hF]
   simp only[Option.getD_some,Option.isSome_some] at cw0 cw1
   obtain⟨V,hV⟩:∃V:Nat→List AV,V=fun i=>if i=1 then rcC x else rcC x++rcC y:=⟨_,rfl⟩
   have V1:V 1=[w32 x.gen,bs x.text]:=by rw[hV];rfl
   have V2:V 2=[w32 x.gen,bs x.text,w32 y.gen,bs y.text]:=by rw[hV];rfl
   clear hV
   refine Xc 3 Try.func24 rfl fun n out _ _=> ?_
   simp only[Try.ntmps24,List.length_cons,List.length_nil,List.length_map,List.length_replicate,Xf,Nat.reduceAdd,Nat.reduceSub,List.replicate,List.cons_append,List.nil_append]
   repeat' (first|(with_reducible first|refine Vk fun K hK=> ?_|refine V0 ?_|refine Vs ?_)|((with_reducible first|refine gE ?_|refine gR ?_);simp (maxSteps:=9^7) only[ss,tab,simprocAttr, -List.reduceReplicate,lit,Y3p,Xha])|(refine X3 (cc) ?_)|(refine hK _ ?_;clear hK K)|refine Vf rfl ?_)
   refine Xe ?_
   refine Xl (fun m (i:Nat)=>[(16,i64 (i:Int)),(1,.ptr (m+0) 0),(2,if i=0 then .sl 0 [] .nil else .vsl (m+2) i),(6,.top),(7,.top),(8,.top),(17,.top),(18,.top),(19,.top),(20,.top),(21,.top),(22,.top),(23,.top),(24,.top),(25,.top),(26,.top),(27,.top),(28,.top),(29,.top),(30,.top),(31,.top)]) (fun m i=>[some (.box 43 (Xha d)),none,if i=0 then none else some (.vec 60 2 i (V i))]) (fun i=>out) (fun i=>i≤2) (fun i=>2 - i) 0 (Nat.zero_le _) ?_ fun m i hm hi=> ?_
   ·refine X2 ?_ ?_ (by first|rfl|(simp only[Xha,if_true];rfl)|simp only[Xha,if_true]) rfl rfl rfl<;>simp only[X4,sl,Xha,if_true]
   simp only[X4,s_0,s_s]
   have hw:=Yl (n:=i) 1 1 rfl (by omega)
   by_cases hlt:i<2
   ·have hlt':(i:Int)<2:=by omega
    rcases(show i=0∨i=1 by omega) with rfl|rfl
    ·have g0:([[i64 0],[i64 16]]:List (List AV)).getD 0 []=[i64 0]:=rfl
     rw[if_pos rfl,if_pos rfl]
     repeat' (first|(with_reducible first|refine Vk fun K hK=> ?_|refine Ve [(1030,none)] ?_|refine Vb ?_|refine Vs ?_)|((with_reducible first|refine gE ?_|refine gR ?_);simp (maxSteps:=9^7) only[ss,tab,simprocAttr, -List.reduceReplicate,lit2,Xi hm,Xha,hlt',hw,hwa,hwb,g0,Y9,X0,List.flatten_cons,List.flatten_nil,List.append_nil])|(refine X3 (cw0) ?_)|(refine hK _ ?_;clear hK K)|refine Vt rfl ?_|clear hK K)
     all_goals try decide
     refine⟨1,by omega,by omega,?_⟩
     have hn1:((1:Nat)=0)=False:=by simp
     refine Xx [true,false,true] (fun n_=> ?_) (fun n_=> ?_)<;>simp only[X4,sm,Xha,hn1,if_false,V1]
    ·have g1:([[i64 0],[i64 16]]:List (List AV)).getD 1 []=[i64 16]:=rfl
     rw[if_neg (by decide),if_neg (by decide),V1]
     repeat' (first|(with_reducible first|refine Vk fun K hK=> ?_|refine V0 ?_|refine Vb ?_|refine Vs ?_)|((with_reducible first|refine gE ?_|refine gR ?_);simp (maxSteps:=9^7) only[ss,tab,simprocAttr, -List.reduceReplicate,lit2,Xi hm,Xha,hlt',hw,hwa,hwb,g1,Y9,X0,List.flatten_cons,List.flatten_nil,List.append_nil,List.cons_append])|(refine X3 (cw1) ?_)|(refine hK _ ?_;clear hK K)|refine Vt rfl ?_|clear hK K)
     all_goals try decide
     refine⟨2,by omega,by omega,?_⟩
     have hn2:((2:Nat)=0)=False:=by simp
     refine Xx [true,false,true] (fun n_=> ?_) (fun n_=> ?_)<;>simp only[X4,sm,Xha,hn2,if_false,V2]
   ·obtain rfl:i=2:=by omega
    have h22:¬((2:Nat):Int)<((2:Nat):Int):=by omega
    rw[if_neg (by decide),if_neg (by decide),V2]
    refine Yy (Ybb (i:=2) (m:=2) (sz:=2) (e:=60) (cs:=[w32 x.gen,bs x.text,w32 y.gen,bs y.text]) [(2,.bsl (m+2) 0 2 false)] (lo1:=[some (.box 43 (Xha d)),none,some (.vec 60 2 2 [w32 x.gen,bs x.text,w32 y.gen,bs y.text])]) rfl (by decide) ?_ ?_) ?_
    ·simp only[X4,s_0,s_s,Yak,Yb9,Yba,Yby,true_and,and_true]
    ·simp only[Y9h,Yaj,Y89,true_and,and_true]
    simp only[X4,s_0,s_s]
    repeat' (first|(with_reducible first|refine Vk fun K hK=> ?_|refine V0 ?_|refine Vd 11 [] [[],[],[],[],[],[],[],[2],[],[],[],[2],[],[]] [[],[],[],[],[],[],[],[],[],[],[],[],[],[]] (by kernel_rfl) (by decide) (by decide) (by kernel_rfl) ?_)|((with_reducible first|refine gE ?_|refine gD ?_);simp (maxSteps:=9^7) only[ss,X1,tab,simprocAttr, -List.reduceReplicate,sg,Xi hm,Xha,h22,Int.cast_ofNat_Int,hxy])|((with_reducible refine Vx ?_);simp only[sb,reduceIte,Nat.reduceEqDiff])|(refine hK _ ?_;clear hK K)|refine Vt rfl ?_|refine Vf rfl ?_|clear hK K)
    refine Ny Xj [] [[],[],[],[],[2],[],[],[2],[],[2],[],[2]] [[],[],[],[],[],[],[],[],[],[2],[],[2]] follows (by kernel_rfl) (by decide) (by decide) (by kernel_rfl) ?_
    simp (maxSteps:=9^7) only[ss,X1,tab,simprocAttr, -List.reduceReplicate,Xi hm,X0]
    have hfz:Fz (m+2) 2 [w32 y.gen,bs y.text,w32 x.gen,bs x.text] (.bsl (m+2) 0 2 false) (.sl 2 ([y,x].map rcC) .sh):=
     Fz.bsl (k:=m+2) (sz:=2) (cs:=[w32 y.gen,bs y.text,w32 x.gen,bs x.text]) 0 2 false ⟨by decide,Nat.le_refl 4⟩
    repeat refine And.intro (by decide) ?_
    refine hK _ ?_
    clear hK K
    refine Yy (Zi (i:=2) (t:=2) 2 (.sl 2 ([y,x].map rcC) .sh) rfl rfl hfz) ?_
    simp only[s_0,s_s]
    repeat' (first|(with_reducible first|refine Vk fun K hK=> ?_|refine V0 ?_)|((with_reducible refine gE ?_);simp (maxSteps:=9^7) only[ss,X1,tab,simprocAttr, -List.reduceReplicate,Xi hm])|((with_reducible refine Vz ?_);refine Za (.inr rfl) rfl rfl rfl (fun _ _=>rfl) rfl rfl ?_ ?_<;>first|rfl|(exact AV.le.rfl _)|(simp only[X4,sl,Xi hm];done)|rfl|skip)|(refine hK _ ?_;clear hK K))
  ·have hF:Y3s d=Y7m a++Y7m b:=by
    rw[ha,hb]
    exact Y9z hmd fun x y h0 h1 hlt=>hx ⟨x,y,by rw[ha,h0],by rw[hb,h1],hlt⟩
   obtain⟨L,hL⟩:∃L:Nat→List Rc,L=fun i=>if i=0 then[] else if i=1 then Y7m a else Y7m a++Y7m b:=⟨_,rfl⟩
   have L0:L 0=[]:=by rw[hL];rfl
   have L1:L 1=Y7m a:=by rw[hL];rfl
   have L2:L 2=Y7m a++Y7m b:=by rw[hL];rfl
   have o1:(Y7m a).length≤1:=by cases a<;>simp [Y7m]
   have o2:(Y7m b).length≤1:=by cases b<;>simp [Y7m]
   clear hL
   rw[hF,← L2]
   refine Xc 3 Try.func24 rfl fun n out _ _=> ?_
   simp only[Try.ntmps24,List.length_cons,List.length_nil,List.length_map,List.length_replicate,Xf,Nat.reduceAdd,Nat.reduceSub,List.replicate,List.cons_append,List.nil_append]
   repeat' (first|(with_reducible first|refine Vk fun K hK=> ?_|refine V0 ?_|refine Vs ?_)|((with_reducible first|refine gE ?_|refine gR ?_);simp (maxSteps:=9^7) only[ss,tab,simprocAttr, -List.reduceReplicate,lit,Y3p,Xha])|(refine X3 (cc) ?_)|(refine hK _ ?_;clear hK K)|refine Vf rfl ?_)
   refine Yy (Q9 (i:=1) 60 2 rfl) ?_
   simp only[s_0,s_s]
   refine Xe ?_
   refine Xl (fun m (i:Nat)=>[(16,i64 (i:Int)),(1,.ptr (m+0) 0),(2,.sl 2 ((L i).map rcC) (.own (m+1))),(6,.top),(7,.top),(8,.top),(17,.top),(18,.top),(19,.top),(20,.top),(21,.top),(22,.top),(23,.top),(24,.top),(25,.top),(26,.top),(27,.top),(28,.top),(29,.top),(30,.top),(31,.top)]) (fun m i=>[some (.box 43 (Xha d)),some (.row 60 2 (L i).length),none]) (fun i=>out) (fun i=>i≤2) (fun i=>2 - i) 0 (Nat.zero_le _) ?_ fun m i hm hi=> ?_
   ·refine X2 ?_ ?_ (by first|rfl|(simp only[Xha,L0,List.map_nil,List.length_nil];rfl)|simp only[Xha,L0,List.map_nil,List.length_nil]) rfl rfl rfl<;>simp only[X4,sl,Xha,L0,List.map_nil,List.length_nil]
   simp only[X4,s_0,s_s]
   have hw:=Yl (n:=i) 1 1 rfl (by omega)
   by_cases hlt:i<2
   ·have hlt':(i:Int)<2:=by omega
    rcases(show i=0∨i=1 by omega) with rfl|rfl
    ·have g0:([[i64 0],[i64 16]]:List (List AV)).getD 0 []=[i64 0]:=rfl
     cases a with
     |none=>
      have e1:L 0=L 1:=by rw[L0,L1];rfl
      rw[e1]
      simp only[Option.getD_none,Option.isSome_none] at cw0
      repeat' (first|(with_reducible first|refine Vk fun K hK=> ?_|refine V0 ?_|refine Vb ?_|refine Vs ?_)|((with_reducible first|refine gE ?_|refine gR ?_);simp (maxSteps:=9^7) only[ss,tab,simprocAttr, -List.reduceReplicate,lit2,Xi hm,Xha,hlt',hw,hwa,hwb,g0,Y9,X0])|(refine X3 (cw0) ?_)|(refine hK _ ?_;clear hK K)|refine Vt rfl ?_|refine Vf rfl ?_|clear hK K)
      refine⟨1,by omega,by omega,?_⟩
      refine Xx [true,true,false] (fun n_=> ?_) (fun n_=> ?_)<;>simp only[X4,sm,Xha]
     |some x=>
      have e1:(L 0).map rcC++[[w32 x.gen,bs x.text]]=(L 1).map rcC:=by rw[L0,L1];rfl
      have l1:(L 0).length+1=(L 1).length:=by rw[L0,L1];rfl
      have l0:(L 0).length≤1:=by rw[L0];decide
      simp only[Option.getD_some,Option.isSome_some] at cw0
      repeat' (first|(with_reducible first|refine Vk fun K hK=> ?_|refine V0 ?_|refine Vb ?_|refine Vs ?_|apply And.intro)|((with_reducible first|refine gE ?_|refine gR ?_);simp (maxSteps:=9^7) only[ss,tab,simprocAttr, -List.reduceReplicate,lit2,Xi hm,Xha,hlt',hw,hwa,hwb,g0,Y9,X0,e1,List.length_map,l1])|(refine X3 (cw0) ?_)|(refine hK _ ?_;clear hK K)|refine Vt rfl ?_|clear hK K)
      ·omega
      ·omega
      refine⟨1,by omega,by omega,?_⟩
      refine Xx [true,true,false] (fun n_=> ?_) (fun n_=> ?_)<;>simp only[X4,sm,Xha]
    ·have g1:([[i64 0],[i64 16]]:List (List AV)).getD 1 []=[i64 16]:=rfl
     cases b with
     |none=>
      have e1:L 1=L 2:=by rw[L1,L2];cases a<;>rfl
      rw[e1]
      simp only[Option.getD_none,Option.isSome_none] at cw1
      repeat' (first|(with_reducible first|refine Vk fun K hK=> ?_|refine V0 ?_|refine Vb ?_|refine Vs ?_)|((with_reducible first|refine gE ?_|refine gR ?_);simp (maxSteps:=9^7) only[ss,tab,simprocAttr, -List.reduceReplicate,lit2,Xi hm,Xha,hlt',hw,hwa,hwb,g1,Y9,X0])|(refine X3 (cw1) ?_)|(refine hK _ ?_;clear hK K)|refine Vt rfl ?_|refine Vf rfl ?_|clear hK K)
      refine⟨2,by omega,by omega,?_⟩
      refine Xx [true,true,false] (fun n_=> ?_) (fun n_=> ?_)<;>simp only[X4,sm,Xha]
     |some y=>
      have e1:(L 1).map rcC++[[w32 y.gen,bs y.text]]=(L 2).map rcC:=by rw[L1,L2,List.map_append];rfl
      have l1:(L 1).length+1=(L 2).length:=by rw[L1,L2,List.length_append];rfl
      have l0:(L 1).length≤1:=by rw[L1];exact o1
      simp only[Option.getD_some,Option.isSome_some] at cw1
      repeat' (first|(with_reducible first|refine Vk fun K hK=> ?_|refine V0 ?_|refine Vb ?_|refine Vs ?_|apply And.intro)|((with_reducible first|refine gE ?_|refine gR ?_);simp (maxSteps:=9^7) only[ss,tab,simprocAttr, -List.reduceReplicate,lit2,Xi hm,Xha,hlt',hw,hwa,hwb,g1,Y9,X0,e1,List.length_map,l1])|(refine X3 (cw1) ?_)|(refine hK _ ?_;clear hK K)|refine Vt rfl ?_|clear hK K)
      ·omega
      ·omega
      refine⟨2,by omega,by omega,?_⟩
      refine Xx [true,true,false] (fun n_=> ?_) (fun n_=> ?_)<;>simp only[X4,sm,Xha]
   ·obtain rfl:i=2:=by omega
    have h22:¬((2:Nat):Int)<((2:Nat):Int):=by omega
    cases a with
    |none=>
     cases b with
     |none=>
      have hq:L 2=[]:=L2
      rw[hq]
      repeat' (first|(with_reducible first|refine Vk fun K hK=> ?_|refine V0 ?_|refine Vs ?_|refine Vq (by kernel_rfl) ?_)|((with_reducible refine gE ?_);simp (maxSteps:=9^7) only[ss,X1,tab,simprocAttr, -List.reduceReplicate,Xi hm,Xha,List.map_nil,List.length_nil,h22,Int.cast_ofNat_Int])|((with_reducible refine Vz ?_);refine Za (.inr rfl) rfl rfl rfl (fun _ _=>rfl) rfl rfl ?_ ?_<;>first|rfl|(exact AV.le.rfl _)|(simp only[X4,sl,Xi hm,Xha,List.map_nil,List.length_nil,h22,Int.reduceBEq,Int.cast_ofNat_Int,Int.reduceLT];done)|rfl|skip)|((with_reducible refine Vx ?_);simp only[sb,reduceIte,Nat.reduceEqDiff])|(refine hK _ ?_;clear hK K)|refine Vf rfl ?_|clear hK K)
      rw[hq];exact .sh _ _ _
     |some y=>
      have hq:L 2=[y]:=L2
      rw[hq]
      repeat' (first|(with_reducible first|refine Vk fun K hK=> ?_|refine V0 ?_|refine Vs ?_|refine Vq (by kernel_rfl) ?_)|((with_reducible refine gE ?_);simp (maxSteps:=9^7) only[ss,X1,tab,simprocAttr, -List.reduceReplicate,Xi hm,Xha,List.map_nil,List.length_nil,h22,Int.cast_ofNat_Int])|((with_reducible refine Vz ?_);refine Za (.inr rfl) rfl rfl rfl (fun _ _=>rfl) rfl rfl ?_ ?_<;>first|rfl|(exact AV.le.rfl _)|(simp only[X4,sl,Xi hm,Xha,List.map_nil,List.length_nil,h22,Int.reduceBEq,Int.cast_ofNat_Int,Int.reduceLT];done)|rfl|skip)|((with_reducible refine Vx ?_);simp only[sb,reduceIte,Nat.reduceEqDiff])|(refine hK _ ?_;clear hK K)|refine Vf rfl ?_|clear hK K)
      rw[hq];exact .sh _ _ _
    |some x=>
     cases b with
     |none=>
      have hq:L 2=[x]:=L2
      rw[hq]
      repeat' (first|(with_reducible first|refine Vk fun K hK=> ?_|refine V0 ?_|refine Vs ?_|refine Vq (by kernel_rfl) ?_)|((with_reducible refine gE ?_);simp (maxSteps:=9^7) only[ss,X1,tab,simprocAttr, -List.reduceReplicate,Xi hm,Xha,List.map_nil,List.length_nil,h22,Int.cast_ofNat_Int])|((with_reducible refine Vz ?_);refine Za (.inr rfl) rfl rfl rfl (fun _ _=>rfl) rfl rfl ?_ ?_<;>first|rfl|(exact AV.le.rfl _)|(simp only[X4,sl,Xi hm,Xha,List.map_nil,List.length_nil,h22,Int.reduceBEq,Int.cast_ofNat_Int,Int.reduceLT];done)|rfl|skip)|((with_reducible refine Vx ?_);simp only[sb,reduceIte,Nat.reduceEqDiff])|(refine hK _ ?_;clear hK K)|refine Vf rfl ?_|clear hK K)
      rw[hq];exact .sh _ _ _
     |some y=>
      have hq:L 2=[x,y]:=L2
      rw[hq]
      have hxy:¬x.gen.toNat<y.gen.toNat:=fun h=>hx ⟨x,y,rfl,rfl,h⟩
      have q0:([[w32 x.gen,bs x.text],[w32 y.gen,bs y.text]]:List (List AV)).getD 0 []=[w32 x.gen,bs x.text]:=rfl
      have q1:([[w32 x.gen,bs x.text],[w32 y.gen,bs y.text]]:List (List AV)).getD 1 []=[w32 y.gen,bs y.text]:=rfl
      repeat' (first|(with_reducible first|refine Vk fun K hK=> ?_|refine V0 ?_|refine Vs ?_|refine Vq (by kernel_rfl) ?_)|((with_reducible refine gE ?_);simp (maxSteps:=9^7) only[ss,X1,tab,simprocAttr, -List.reduceReplicate,Xi hm,Xha,rcC,List.map_nil,List.length_nil,h22,Int.cast_ofNat_Int,hxy,q0,q1,Y9])|((with_reducible refine Vz ?_);refine Za (.inr rfl) rfl rfl rfl (fun _ _=>rfl) rfl rfl ?_ ?_<;>first|rfl|(exact AV.le.rfl _)|(simp only[X4,sl,Xi hm,Xha,rcC,List.map_nil,List.length_nil,h22,Int.reduceBEq,Int.cast_ofNat_Int,Int.reduceLT,hxy,q0,q1,Y9];done)|rfl|skip)|((with_reducible refine Vx ?_);simp only[sb,reduceIte,Nat.reduceEqDiff])|(refine hK _ ?_;clear hK K)|refine Vf rfl ?_|clear hK K)
      rw[hq];exact .sh _ _ _
end Go.Proofs.Ytjgbbjooeibppaa
