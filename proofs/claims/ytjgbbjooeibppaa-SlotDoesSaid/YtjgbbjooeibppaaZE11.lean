/- The layer of abstract values, joined. -/
import Derived.Test.YtjgbbjooeibppaaZD2
import Derived.Test.YtjgbbjooeibppaaZE10
namespace Go.Proofs.Ytjgbbjooeibppaa
set_option linter.unusedVariables false
set_option linter.unusedSimpArgs false
open Go Go.VS Tab
set_option maxHeartbeats 16000000
set_option maxRecDepth 8000
theorem Yb0 (x:BitVec 64):x&&& ~~~ (1:BitVec 64)=(x>>>1)<<<1:=by
 refine BitVec.eq_of_getLsbD_eq fun i hi=> ?_
 simp only[BitVec.getLsbD_and,BitVec.getLsbD_not,BitVec.getLsbD_shiftLeft,BitVec.getLsbD_ushiftRight]
 match i,hi with
 |0,_=>simp
 |i+1,hi=>
  have e:(1:BitVec 64).getLsbD (i+1)=false:=by
   show(1#64).getLsbD (i+1)=false
   rw[BitVec.getLsbD_one];simp
  simp [e,hi,Nat.add_comm]
theorem Yaa (y:Nat) (h:y<18446744073709551616):Zr .andNot .u64 (y:Int) 1=some (.int .u64 ((y / 2*2:Nat):Int)):=by
 show some (Value.int .u64 (IntKind.u64.wrap (((BitVec.ofInt 64 (y:Int)&&& ~~~ BitVec.ofInt 64 1).toNat:Nat):Int)))= _
 rw[V3,show BitVec.ofInt 64 1=(1:BitVec 64) from rfl,Yb0]
 congr 2
 have e:((BitVec.ofNat 64 y>>>1)<<<1).toNat=y / 2*2:=by
  rw[BitVec.toNat_shiftLeft,BitVec.toNat_ushiftRight,BitVec.toNat_ofNat,Nat.mod_eq_of_lt h,Nat.shiftLeft_eq,Nat.shiftRight_eq_div_pow]
  omega
 rw[e,X1m (by omega) (by omega)]
theorem Y5m (n g:Nat):Y44 n g≤max g (n+2):=by unfold Y44;split<;>omega
theorem Y6u (d:Dsk) (s g:Nat) (h:g≤4294967297):∀i,Y6r d s g i≤4294967297
 |0=>h
 |i+1=>by
  have ih:=Y6u d s g h i
  have h1:=Y5m (Y8n (Xkr d ((s+i:Nat):Int))).toNat (Y6r d s g i)
  have h2:=Y5m (Ya0 (Xkr d ((s+i:Nat):Int))).toNat (Y44 (Y8n (Xkr d ((s+i:Nat):Int))).toNat (Y6r d s g i))
  have h3:=(Y8n (Xkr d ((s+i:Nat):Int))).isLt
  have h4:=(Ya0 (Xkr d ((s+i:Nat):Int))).isLt
  show Y44 _ (Y44 _ _)≤ _
  omega
abbrev u64 (x:Nat):AV:= .val (.int .u64 (x:Int))
theorem Y5z (d:Dsk) (g:BitVec 32) (h1:d.sectors.length≤1000) (h2:d.waits.length≤1000):Xr Try.prog 26 [Y3p d,w32 g] [] (.tup [w32 (X7s d g),i64 (V5 d g)]) []:=by
 have cc:=Xjg d h1 h2
 have cr:=fun(i:Nat)=>Xea d (i:Int) h1 h2
 simp only[Y3p,Xha] at cc cr
 cases hmd:may d with
 |false=>
  have hE:V5 d g=8:=by unfold V5;rw[hmd];rfl
  have hW:X7s d g=0:=by unfold X7s;rw[hE,if_neg (by decide)]
  rw[hE,hW]
  rw[hmd] at cc
  simp only[Bool.false_eq_true,if_false] at cc
  refine Xc 1 Try.func26 rfl fun n out _ _=> ?_
  simp only[Try.ntmps26,List.length_cons,List.length_nil,List.length_map,List.length_replicate,Xf,Nat.reduceAdd,Nat.reduceSub,List.replicate,List.cons_append,List.nil_append]
  repeat' (first|(with_reducible first|refine Vk fun K hK=> ?_|refine V0 ?_)|((with_reducible first|refine gE ?_|refine gR ?_);simp (maxSteps:=9^7) only[ss,X1,tab,simprocAttr, -List.reduceReplicate,Y3p,Xha])|((with_reducible refine Vz ?_);refine Vp rfl rfl rfl (fun _ _=>rfl) ?_ ?_<;>first|rfl|skip)|(refine X3 (cc) ?_)|(refine hK _ ?_;clear hK K)|refine Vt rfl ?_)
 |true=>
  rw[hmd] at cc
  simp only[if_true] at cc
  have hgl:=g.isLt
  have hs:=Y50 (g+1)
  have csl:=Y8s (g+1)
  have q1:IntKind.u64.wrap (g.toNat:Int)=(g.toNat:Int):=X1m (by omega) (by omega)
  have q2:IntKind.u64.wrap ((g.toNat:Int)+1)=((g.toNat+1:Nat):Int):=by rw[X1m (by omega) (by omega)];rfl
  have q3:IntKind.u32.wrap ((g.toNat:Int)+1)=((g+1).toNat:Int):=Xb5 g 1
  obtain⟨s,hss⟩:∃s,s=Y3q (g+1):=⟨_,rfl⟩
  obtain⟨X,hX⟩:∃X:Nat→Nat,X=Y6r d s (g.toNat+1):=⟨_,rfl⟩
  have hX0:X 0=g.toNat+1:=by rw[hX];rfl
  have hXS:∀i,X (i+1)=Y44 (Ya0 (Xkr d ((s+i:Nat):Int))).toNat (Y44 (Y8n (Xkr d ((s+i:Nat):Int))).toNat (X i)):=fun i=>by rw[hX];rfl
  have hXm:∀i,X i≤4294967297:=fun i=>by rw[hX];exact Y6u d s _ (by omega) i
  have hN:Y68 d g=X 16:=by rw[hX,hss];rfl
  rw[← hss] at csl
  clear hX
  refine Xc 1 Try.func26 rfl fun n out _ _=> ?_
  simp only[Try.ntmps26,List.length_cons,List.length_nil,List.length_map,List.length_replicate,Xf,Nat.reduceAdd,Nat.reduceSub,List.replicate,List.cons_append,List.nil_append]
  repeat' (first|(with_reducible first|refine Vk fun K hK=> ?_|refine V0 ?_|refine Vs ?_)|((with_reducible first|refine gE ?_|refine gR ?_);simp (maxSteps:=9^7) only[ss,X1,tab,simprocAttr, -List.reduceReplicate,Y3p,Xha,q1,q2,q3])|(refine X3 (cc) ?_)|(refine X3 (csl) ?_)|(refine hK _ ?_;clear hK K)|refine Vf rfl ?_)
  refine Xe ?_
  refine Xz (fun i:Nat=>[(7,u64 (X i)),(25,i64 (i:Int)),(9,.top),(10,.top),(11,.top),(13,.top),(26,.top),(27,.top),(28,.top),(29,.top),(30,.top),(31,.top),(32,.top),(33,.top),(34,.top),(35,.top),(36,.top),(37,.top),(38,.top),(39,.top),(40,.top),(41,.top),(42,.top),(43,.top),(44,.top),(45,.top),(46,.top),(47,.top),(48,.top),(49,.top),(50,.top),(51,.top),(52,.top),(53,.top),(54,.top),(55,.top),(56,.top),(57,.top),(58,.top),(59,.top),(60,.top),(61,.top)]) (fun i=>[some (.box 43 (Xha d))]) (fun i=>out) (fun i=>i≤16) (fun i=>16 - i) 0 (Nat.zero_le _) ?_ fun i hi=> ?_
  ·refine X2 ?_ ?_ (by first|rfl|(simp only[Xha,hX0];rfl)|simp only[Xha,hX0]) rfl rfl rfl<;>simp only[X4,sl,Xha,hX0]
  simp only[X4,s_0,s_s]
  have hw:=Yl (n:=i) 1 1 rfl (by omega)
  by_cases hlt:i<16
  ·have hlt':(i:Int)<16:=by omega
   have hws:=Yl (n:=s) (i:Int) i rfl (by omega)
   have c1:=cr (s+i)
   rw[Xju.2 ⟨hmd,by omega,by omega⟩] at c1
   have lb:(Xkr d ((s+i:Nat):Int)).length=128:=Y7i hmd (by omega)
   have hXi:=hXS i
   obtain⟨B,hB⟩:∃B,B=Xkr d ((s+i:Nat):Int):=⟨_,rfl⟩
   rw[← hB] at c1 lb hXi
   have c2:=Ya2 (B.take 4) .sh (by rw[List.length_take];omega)
   have c3:=Ya2 (B.drop 124) .sh (by rw[List.length_drop];omega)
   have t124:List.take (128 - 124) (List.drop 124 B)=B.drop 124:=List.take_of_length_le (by rw[List.length_drop];omega)
   have lit:∀(σ:AState) (K:AV→List (Nat×Res)→Prop),X1 tab σ K none 125 2 [(0,w32 (Y55 (B.take 4))),(1,w32 (Y55 (B.drop 124)))]=K (.sl 1 [[w32 (Y55 (B.take 4))],[w32 (Y55 (B.drop 124))]] .full) []:=fun σ K=>Te (T:=tab) (ti:=ti125) (te:=ti58) rfl rfl rfl rfl rfl rfl
   repeat' (first|(with_reducible first|refine Vk fun K hK=> ?_|refine V0 ?_|refine Vb ?_|refine Vs ?_|refine Vq (by kernel_rfl) ?_)|((with_reducible first|refine gE ?_|refine gR ?_);simp (maxSteps:=9^7) only[ss,tab,simprocAttr, -List.reduceReplicate,lit,Xha,hlt',hws,X5,lb,P6,Nh,Q2,Q1,Nat.sub_zero,Int.reduceToNat,t124])|(refine X3 (c1) ?_)|(refine X3 (c2) ?_)|(refine X3 (c3) ?_)|(refine hK _ ?_;clear hK K)|refine Vt rfl ?_)
   obtain⟨H,hH⟩:∃H,H=Y55 (B.take 4):=⟨_,rfl⟩
   obtain⟨T,hT⟩:∃T,T=Y55 (B.drop 124):=⟨_,rfl⟩
   rw[← hH,← hT]
   have hX2:X (i+1)=Y44 T.toNat (Y44 H.toNat (X i)):=by rw[hXi,hH,hT];rfl
   obtain⟨Y,hY⟩:∃Y:Nat→Nat,Y=fun j=>if j=0 then X i else if j=1 then Y44 H.toNat (X i) else Y44 T.toNat (Y44 H.toNat (X i)):=⟨_,rfl⟩
   have Y0:Y 0=X i:=by rw[hY];rfl
   have Y1:Y 1=Y44 H.toNat (Y 0):=by rw[hY];rfl
   have Y2:Y 2=Y44 T.toNat (Y 1):=by rw[hY];rfl
   have Y2':Y 2=X (i+1):=by rw[hX2,hY];rfl
   have hYm:∀j,j<2→Y j≤4294967297:=fun j hj=>by
    have:=hXm i
    have:=Y5m H.toNat (Y 0)
    have:=H.isLt
    rcases(show j=0∨j=1 by omega) with rfl|rfl<;>omega
   clear hY
   rw[← Y0]
   refine Xe ?_
   refine Xz (fun j:Nat=>[(7,u64 (Y j)),(44,i64 (j:Int)),(13,.top),(45,.top),(46,.top),(47,.top),(48,.top),(49,.top),(50,.top),(51,.top),(52,.top),(53,.top),(54,.top),(55,.top),(56,.top),(57,.top),(58,.top),(59,.top),(60,.top)]) (fun j=>[some (.box 43 (Xha d))]) (fun j=>out) (fun j=>j≤2) (fun j=>2 - j) 0 (Nat.zero_le _) ?_ fun j hj=> ?_
   ·refine X2 ?_ ?_ (by first|rfl|(simp only[Xha];rfl)|simp only[Xha]) rfl rfl rfl<;>simp only[X4,sl,Xha]
   simp only[X4,s_0,s_s]
   have hwj:=Yl (n:=j) 1 1 rfl (by omega)
   by_cases hj2:j<2
   ·have hj2':(j:Int)<2:=by omega
    obtain⟨N,gN,hNS,hNl⟩:∃N:BitVec 32,([[w32 H],[w32 T]]:List (List AV)).getD j []=[w32 N]∧Y (j+1)=Y44 N.toNat (Y j)∧N.toNat<4294967296:=by
     rcases(show j=0∨j=1 by omega) with rfl|rfl
     ·exact⟨H,rfl,Y1,H.isLt⟩
     ·exact⟨T,rfl,Y2,T.isLt⟩
    have hYj:=hYm j hj2
    have r1:IntKind.u64.wrap (N.toNat:Int)=(N.toNat:Int):=X1m (by omega) (by omega)
    by_cases hge:Y j≤N.toNat
    ·have hS:Y (j+1)=Y j+(N.toNat - Y j+2) / 2*2:=by rw[hNS];unfold Y44;rw[if_pos hge]
     have r2:IntKind.u64.wrap ((N.toNat:Int) - (Y j:Int))=((N.toNat - Y j:Nat):Int):=by rw[X1m (by omega) (by omega)];omega
     have r3:IntKind.u64.wrap (((N.toNat - Y j:Nat):Int)+2)=((N.toNat - Y j+2:Nat):Int):=by rw[X1m (by omega) (by omega)];rfl
     have r4:=Yaa (N.toNat - Y j+2) (by omega)
     have r5:IntKind.u64.wrap ((Y j:Int)+(((N.toNat - Y j+2) / 2*2:Nat):Int))=(Y (j+1):Int):=by rw[hS,X1m (by omega) (by omega)];omega
     repeat' (first|(with_reducible first|refine Vk fun K hK=> ?_|refine V0 ?_|refine Vb ?_|refine Vs ?_)|((with_reducible refine gE ?_);simp (maxSteps:=9^7) only[ss,X1,tab,simprocAttr, -List.reduceReplicate,Xha,hj2',hj2,hwj,gN,Y9,r1,r2,r3,r4,r5,hge,ge_iff_le,Int.ofNat_le])|(refine hK _ ?_;clear hK K)|refine Vt rfl ?_|clear hK K)
     refine⟨j+1,by omega,by omega,?_⟩
     refine X2 ?_ ?_ rfl rfl rfl rfl<;>simp only[X4,sl,Xha,hj2',decide_true]
    ·have hS:Y (j+1)=Y j:=by rw[hNS];unfold Y44;rw[if_neg hge]
     repeat' (first|(with_reducible first|refine Vk fun K hK=> ?_|refine V0 ?_|refine Vb ?_|refine Vs ?_)|((with_reducible refine gE ?_);simp (maxSteps:=9^7) only[ss,X1,tab,simprocAttr, -List.reduceReplicate,Xha,hj2',hj2,hwj,gN,Y9,r1,hge,ge_iff_le,Int.ofNat_le])|(refine hK _ ?_;clear hK K)|refine Vt rfl ?_|refine Vf rfl ?_|clear hK K)
     rw[← hS]
     refine⟨j+1,by omega,by omega,?_⟩
     refine X2 ?_ ?_ rfl rfl rfl rfl<;>simp only[X4,sl,Xha,hj2',decide_true]
   ·obtain rfl:j=2:=by omega
    repeat' (first|(with_reducible first|refine Vk fun K hK=> ?_|refine V0 ?_)|((with_reducible refine gE ?_);simp (maxSteps:=9^7) only[ss,X1,tab,simprocAttr, -List.reduceReplicate,Xha,hj2,hw])|((with_reducible refine Vx ?_);simp only[sb,reduceIte,Nat.reduceEqDiff])|(refine hK _ ?_;clear hK K)|refine Vf rfl ?_|clear hK K)
    rw[Y2']
    refine⟨i+1,by omega,by omega,?_⟩
    refine X2 ?_ ?_ rfl rfl rfl rfl<;>simp only[X4,sl,Xha,hlt',decide_true]
  ·obtain rfl:i=16:=by omega
   have hE:V5 d g=if 4294967295<X 16 then 9 else 0:=by unfold V5;rw[hmd,if_pos rfl,hN]
   have hW:X7s d g=if V5 d g=0 then BitVec.ofNat 32 (X 16) else 0:=by unfold X7s;rw[hN]
   by_cases hbig:4294967295<X 16
   ·rw[if_pos hbig] at hE
    rw[hE,if_neg (by decide)] at hW
    have hbI:(4294967295:Int)<(X 16:Int):=by omega
    have hbG:decide ((X 16:Int)>4294967295)=true:=decide_eq_true hbI
    repeat' (first|(with_reducible first|refine Vk fun K hK=> ?_|refine V0 ?_)|((with_reducible refine gE ?_);simp (maxSteps:=9^7) only[ss,X1,tab,simprocAttr, -List.reduceReplicate,Xha,hlt,hbI,hbG])|((with_reducible refine Vz ?_);refine Vp rfl rfl rfl (fun _ _=>rfl) ?_ ?_<;>first|rfl|skip)|((with_reducible refine Vx ?_);simp only[sb,reduceIte,Nat.reduceEqDiff])|(refine hK _ ?_;clear hK K)|refine Vt rfl ?_|refine Vf rfl ?_|clear hK K)
    ·rw[hW];rfl
    ·rw[hE];rfl
   ·rw[if_neg hbig] at hE
    rw[hE,if_pos rfl] at hW
    have r6:IntKind.u32.wrap (X 16:Int)=((BitVec.ofNat 32 (X 16)).toNat:Int):=by rw[Xar,BitVec.toNat_ofNat];omega
    have hbI:¬(4294967295:Int)<(X 16:Int):=by omega
    have hbG:decide ((X 16:Int)>4294967295)=false:=decide_eq_false hbI
    repeat' (first|(with_reducible first|refine Vk fun K hK=> ?_|refine V0 ?_|refine Vs ?_)|((with_reducible refine gE ?_);simp (maxSteps:=9^7) only[ss,X1,tab,simprocAttr, -List.reduceReplicate,Xha,hlt,hbI,hbG,r6])|((with_reducible refine Vz ?_);refine Vp rfl rfl rfl (fun _ _=>rfl) ?_ ?_<;>first|rfl|skip)|((with_reducible refine Vx ?_);simp only[sb,reduceIte,Nat.reduceEqDiff])|(refine hK _ ?_;clear hK K)|refine Vf rfl ?_|clear hK K)
    ·rw[hW];rfl
    ·rw[hE];rfl
end Go.Proofs.Ytjgbbjooeibppaa
