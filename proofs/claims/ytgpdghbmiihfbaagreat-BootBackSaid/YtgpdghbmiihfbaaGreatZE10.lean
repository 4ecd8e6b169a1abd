/- The layer of abstract values, joined. -/
import Derived.Test.YtgpdghbmiihfbaaGreatZP5
import Derived.Test.YtgpdghbmiihfbaaGreatZE7
import Derived.Test.YtgpdghbmiihfbaaGreatZVsBox
namespace Go.Proofs.YtgpdghbmiihfbaaGreat
set_option linter.all false
set_option maxHeartbeats 16000000
set_option maxRecDepth 8000
open Go Go.VS Tab
attribute [local irreducible] AWp Xp0 Pg X5c Qy Lt Tp FdT Eb
def stP (d:Dsk) (r:Rc) (i:Nat):Dsk:=⟨d.sectors,d.waits++(Y5g r).take i⟩
theorem Yav (r:Rc) {i:Nat} (h:i<Y3n r):(Y5g r)[i]'(by rw[Y3z];exact h)=⟨((Y3q r.gen+i:Nat):Int),Xgh r i⟩:=by unfold Y5g;simp
theorem Y9y (d:Dsk) (r:Rc) {i:Nat} (h:i<Y3n r):Xjh (stP d r i) ((Y3q r.gen+i:Nat):Int) (Xgh r i)=stP d r (i+1):=by
 unfold Xjh stP;rw[ai (by rw[Y3z];exact h),Yav r h,aw]
theorem Y8i (d:Dsk) (r:Rc) {i:Nat} (h:i<=Y3n r):(stP d r i).waits.length=d.waits.length+i:=by
 unfold stP;simp only[ac,aj,Y3z];omega
theorem Y8j {d:Dsk} (hd:may d=true) {r:Rc} (hr:Y3n r<=16) {i:Nat} (h:i<=Y3n r) (hw:d.waits.length+i<=256):may (stP d r i)=true:=by
 obtain⟨d1,d2,d3,d4⟩:=(Xho d).1 hd;refine(Xho _).2 ⟨d1,by rw[Y8i d r h];exact hw,d3,fun w hw=> ?_⟩;rcases el.1 hw with h|h
 ·exact d4 w h
 ·exact Y66 hr w (fk h)
theorem Y82 {d:Dsk} (hd:may d=true) {r:Rc} (hr:Y3n r<=16) {i:Nat} (h:i<Y3n r) (hw:d.waits.length+i<=256):
  Xbb (stP d r i) ((Y3q r.gen+i:Nat):Int) (Xgh r i)=if d.waits.length+i=256 then 9 else 0:=by
 have hs:=Y50 r.gen;unfold Xbb;rw[Y8j hd hr (Nat.le_of_lt h) hw,if_pos rfl,if_pos (by simp;omega),if_pos (Y4z r h),Y8i d r (Nat.le_of_lt h)]
theorem Yaw (d:Dsk) (r:Rc):stP d r 0=d:=by unfold stP;simp
theorem Y3x {d:Dsk} (hd:may d=true):Small d:=by
 obtain⟨d1,d2,d3,d4⟩:=(Xho d).1 hd;exact⟨by omega,by omega,fun b hb=>by rw[d3 b hb];decide,fun w hw=>by rw[(d4 w hw).2.2];decide⟩
theorem Y57 (g:BitVec 32):((g.toNat:Int)==0)=decide (g=0):=by
 rw[bp,cv,am];constructor
 ·intro h;exact jc (by have e:(0:BitVec 32).toNat=0:=rfl;omega)
 ·intro h;rw[h];rfl
theorem Y83 (d:Dsk) (r:Rc) (h1:d.sectors.length<=1000) (h2:d.waits.length<=1000):Xr Tryz.prog 32 [Y3p d,rcA r] [] (.tup [Y3p (Y4e d r),i64 (Y4o d r)]) []:=by
 have cc:=Xjg d h1 h2;have csl:=Y8s r.gen;have bad:∀e,e≠0->Y4o d r=e->Y4e d r=Xhm:=fun e he h=>by unfold Y4e;rw[h,if_neg he]
 simp only[Y3p,Xha] at cc;cases hm:may d with
 |false=>
  have hE:Y4o d r=8:=Ya1 r hm;rw[bad 8 (by decide) hE,hE];rw[hm] at cc;simp only[bf,if_false] at cc;refine Xc 3 Tryz.func32 rfl fun n out _ _=> ?_;simp only[sn,Tryz.ntmps32,simprocAttr];repeat' (first|refine Vk fun K hK=> ?_|apply V0|apply Vb|apply Vs|((first|apply gE|apply gR);simp only[zA,simprocAttr,Y3p,Xha,Xhm,rcA,rcC])|(apply Vz;(first|refine Xp (.inr rfl) rfl rfl rfl (fun _ _=>rfl) ok39 (k:=n+2) (off:=0) rfl (Xb _ (by simp)) (X6 _ (Nat.le_refl _) 2) rfl rfl ?_|refine Xp (.inr rfl) rfl rfl rfl (fun _ _=>rfl) ok39 (k:=m+2) (off:=0) rfl (Xb _ (by simp)) (X6 _ hm 2) rfl rfl ?_)<;>first|rfl|exact AV.le.rfl _|(simp only[sL,ad,Y3p,Xha,Xhm];done)|rfl|skip)|(refine X3 (cc) ?_)|(refine hK _ ?_;clear hK K)|refine Vt rfl ?_)
 |true=>
  rw[hm] at cc;simp only[if_true] at cc;by_cases h0:r.gen=0
  ·have hg:=(Y57 r.gen).trans (ay h0);have hE:Y4o d r=2:=by unfold Y4o;rw[hm,if_pos rfl,if_pos h0]
   rw[bad 2 (by decide) hE,hE];refine Xc 3 Tryz.func32 rfl fun n out _ _=> ?_;simp only[sn,Tryz.ntmps32,simprocAttr];repeat' (first|refine Vk fun K hK=> ?_|apply V0|apply Vb|((first|apply gE|apply gR);simp only[zA,simprocAttr,Y3p,Xha,Xhm,rcA,rcC,hg])|(apply Vz;(first|refine Xp (.inr rfl) rfl rfl rfl (fun _ _=>rfl) ok39 (k:=n+2) (off:=0) rfl (Xb _ (by simp)) (X6 _ (Nat.le_refl _) 2) rfl rfl ?_|refine Xp (.inr rfl) rfl rfl rfl (fun _ _=>rfl) ok39 (k:=m+2) (off:=0) rfl (Xb _ (by simp)) (X6 _ hm 2) rfl rfl ?_)<;>first|rfl|exact AV.le.rfl _|(simp only[sL,ad,Y3p,Xha,Xhm];done)|rfl|skip)|(refine X3 (cc) ?_)|(refine hK _ ?_;clear hK K)|refine Vt rfl ?_|refine Vf rfl ?_)
  ·have hg:=(Y57 r.gen).trans (aq h0);by_cases hlt0:1882<r.text.length
   ·have hE:Y4o d r=3:=by unfold Y4o;rw[hm,if_pos rfl,if_neg h0,if_pos hlt0]
    have hgt:decide ((r.text.length:Int)>1882)=true:=ay (by omega);rw[bad 3 (by decide) hE,hE];refine Xc 3 Tryz.func32 rfl fun n out _ _=> ?_;simp only[sn,Tryz.ntmps32,simprocAttr];repeat' (first|refine Vk fun K hK=> ?_|apply V0|apply Vb|((first|apply gE|apply gR);simp only[zA,simprocAttr,Y3p,Xha,Xhm,rcA,rcC,hg,X5,hgt])|(apply Vz;(first|refine Xp (.inr rfl) rfl rfl rfl (fun _ _=>rfl) ok39 (k:=n+2) (off:=0) rfl (Xb _ (by simp)) (X6 _ (Nat.le_refl _) 2) rfl rfl ?_|refine Xp (.inr rfl) rfl rfl rfl (fun _ _=>rfl) ok39 (k:=m+2) (off:=0) rfl (Xb _ (by simp)) (X6 _ hm 2) rfl rfl ?_)<;>first|rfl|exact AV.le.rfl _|(simp only[sL,ad,Y3p,Xha,Xhm];done)|rfl|skip)|(refine X3 (cc) ?_)|(refine hK _ ?_;clear hK K)|refine Vt rfl ?_|refine Vf rfl ?_)
   ·have hgt:decide ((r.text.length:Int)>1882)=false:=aq (by omega);have cs:=Y6t r (by omega);simp only[rcA,rcC] at cs;have hmy:=Y48 (r:=r) (by omega);have hsl:=Y50 r.gen;have h256:=((Xho d).1 hm).2.1;refine Xc 3 Tryz.func32 rfl fun n out _ _=> ?_;simp only[sn,Tryz.ntmps32,simprocAttr];repeat' (first|refine Vk fun K hK=> ?_|apply V0|apply Vb|apply Vs|((first|apply gE|apply gR);simp only[zA,simprocAttr,Y3p,Xha,rcA,rcC,hg,X5,hgt,Y3t])|(refine X3 (cc) ?_)|(refine X3 (cs) ?_)|(refine hK _ ?_;clear hK K)|refine Vf rfl ?_)
    apply V5;refine Xse ((Y3n r)) (fun i=>d.waits.length+i<=256) (fun i=>tr 31 20 (tr 5 4 [(30,i64 (i:Int))])) (fun i=>[some (.box 39 (Xha (stP d r i))),some (.box 66 [w32 r.gen,bs r.text]),some (.box 39 [.sl 0 [] .nil,.sl 0 [] .nil])]) (by intros;omega) ?_ fun i hi=> ?_
    ·refine X2 ?_ ?_ (by first|rfl|(simp only[Yaw,Xha];rfl)|simp only[Yaw,Xha]) rfl rfl rfl<;>simp only[sL,Yaw,Xha]
    obtain⟨hi,hq⟩:=hi;simp only[pt];have hw:=Yl (n:=i) 1 1 rfl (by omega);by_cases hlt:i<Y3n r
    ·have hlt':(i:Int)<(Y3n r:Int):=by omega
     have hE:=Y82 hm hmy hlt hq;have gi:=Xg secC (Y3v r) i [] (by rw[Y3t];exact hlt);have gs:(Y3v r)[i]'(by rw[Y3t];exact hlt)=Xgh r i:=by
      rw[<- Y5v r hlt];simp [ah,Y3t,hlt]
     rw[gs] at gi;have hws:=Yl (n:=Y3q r.gen) (i:Int) i rfl (by omega);have cw:=Xdu (stP d r i) ((Y3q r.gen+i:Nat):Int) (Xgh r i) (Y3x (Y8j hm hmy (Nat.le_of_lt hlt) hq)) (by rw[Y4z r hlt];decide);by_cases hf:d.waits.length+i=256
     ·rw[if_pos hf] at hE;have hD:Xhr (stP d r i) ((Y3q r.gen+i:Nat):Int) (Xgh r i)=Xhm:=by unfold Xhr;rw[hE,if_neg (by decide)]
      rw[hE,hD] at cw;have hP:Y4o d r=9:=by unfold Y4o;rw[hm,if_pos rfl,if_neg h0,if_neg hlt0,if_pos (by omega)]
      rw[bad 9 (by decide) hP,hP];simp only[Y3p] at cw;repeat' (first|refine Vk fun K hK=> ?_|apply V0|apply Vb|apply Vs|with_reducible apply aa|refine Vd 12 [] [[0],[],[1],[],[],[],[],[],[],[],[],[0],[]] [[],[],[],[],[],[],[],[],[],[],[],[0],[]] (by kernel_rfl) (by decide) (by decide) (by kernel_rfl) ?_|((first|apply gE|apply gD|apply gF);simp only[zA,simprocAttr,Y3p,Xha,Xhm,Y3t,hlt',gi,secC,hws])|(apply Vz;(first|refine Xp (.inr rfl) rfl rfl rfl (fun _ _=>rfl) ok39 (k:=n+2) (off:=0) rfl (Xb _ (by simp)) (X6 _ (Nat.le_refl _) 2) rfl rfl ?_|refine Xp (.inr rfl) rfl rfl rfl (fun _ _=>rfl) ok39 (k:=m+2) (off:=0) rfl (Xb _ (by simp)) (X6 _ hm 2) rfl rfl ?_)<;>first|rfl|exact AV.le.rfl _|(simp only[sL,ad,Y3p,Xha,Xhm];done)|rfl|skip)|(refine X3 (csl) ?_)|(refine X3 (cw) ?_)|(refine hK _ ?_;clear hK K)|refine Vt rfl ?_|clear hK K)
      ·omega
     ·rw[if_neg hf] at hE;have hD:Xhr (stP d r i) ((Y3q r.gen+i:Nat):Int) (Xgh r i)=stP d r (i+1):=by unfold Xhr;rw[hE,if_pos rfl,Y9y d r hlt]
      rw[hE,hD] at cw;simp only[Y3p] at cw;repeat' (first|refine Vk fun K hK=> ?_|apply V0|apply Vb|apply Vs|with_reducible apply aa|refine Vd 12 [] [[0],[],[1],[],[],[],[],[],[],[],[],[0],[]] [[],[],[],[],[],[],[],[],[],[],[],[0],[]] (by kernel_rfl) (by decide) (by decide) (by kernel_rfl) ?_|((first|apply gE|apply gD|apply gF);simp only[zA,simprocAttr,Y3p,Xha,Y3t,hlt',gi,secC,hws,hw])|(refine X3 (csl) ?_)|(refine X3 (cw) ?_)|(refine hK _ ?_;clear hK K)|refine Vt rfl ?_|refine Vf rfl ?_|clear hK K)
      ·omega
      refine⟨i+1,⟨by omega,by omega⟩,by omega,?_⟩;refine La rfl ?_ ?_<;>simp only[sL]
    ·obtain rfl:i=Y3n r:=by omega
     have hP:Y4o d r=0:=by unfold Y4o;rw[hm,if_pos rfl,if_neg h0,if_neg hlt0,if_neg (by omega)]
     have hD:Y4e d r=stP d r (Y3n r):=by
      unfold Y4e stP;rw[if_pos hP,bo (by rw[Y3z];exact Nat.le_refl _)]
     rw[hP,hD];repeat' (first|refine Vk fun K hK=> ?_|apply V0|(apply gE;simp only[zA,simprocAttr,Y3p,Xha,hlt])|(apply Vz;(first|refine Xp (.inr rfl) rfl rfl rfl (fun _ _=>rfl) ok39 (k:=n+2) (off:=0) rfl (Xb _ (by simp)) (X6 _ (Nat.le_refl _) 2) rfl rfl ?_|refine Xp (.inr rfl) rfl rfl rfl (fun _ _=>rfl) ok39 (k:=m+2) (off:=0) rfl (Xb _ (by simp)) (X6 _ hm 2) rfl rfl ?_)<;>first|rfl|exact AV.le.rfl _|(simp only[sL,Y3p,Xha];done)|rfl|skip)|(apply Vx;simp only[sb])|(refine hK _ ?_;clear hK K)|refine Vf rfl ?_|clear hK K)
     rw[hP,hD];exact AV.le.rfl _
theorem Y8k (d:Dsk) (r:Rc) (h1:d.sectors.length<=1000) (h2:d.waits.length<=1000) (hl:r.text.length<=10000):Xr Tryz.prog 32 [Y3p d,rcA r] [] (.tup [Y3p (Y4e d r),i64 (Y4o d r)]) []:=Y83 d r h1 h2
theorem Xkz:∀(l m:List (List UInt8)),Fv (fun a b=>a==b) l m=(l==m)
 |[],[]=>rfl
 |x::l,y::m=>by rw[Fv,Xkz l m];rfl
 |[],_:: _=>rfl
 | _:: _,[]=>rfl
def Y9l (S:List (List UInt8)) (i:Nat):List UInt8:=(S.take i).flatMap fun b=>(b.drop 6).take 118
theorem Y8l (S:List (List UInt8)):Y9l S 0=[]:=by unfold Y9l;simp
theorem Y8m (S:List (List UInt8)) {i:Nat} (h:i<S.length):Y9l S (i+1)=Y9l S i++(S[i].drop 6).take 118:=by
 unfold Y9l;rw[ai h,du];simp
def Y7l (o:Option Rc):AV:= .tup [rcA (o.getD ⟨0,[]⟩),bool o.isSome]
theorem Y5j (d:Dsk) (s:Nat) (hm:may d=true) (hs:s=0∨s=16):Xr Tryz.prog 50 [Y3p d,i64 (s:Int)] [] (Y7l (Y3r d s)) []:=by
 have hsm:=Y3x hm;have cr:=fun i (hi:i<16)=>Xea d ((s+i:Nat):Int) hsm.s hsm.w;have er:∀i,i<16->Xau d ((s+i:Nat):Int)=0:=fun i hi=>Xju.2 ⟨hm,by omega,by omega⟩;have hS16:=Y7k d s;have hS128:=Y6o hm hs;have hSat:=fun i (hi:i<16)=>Yau d s hi;obtain⟨O,hO⟩:∃O,O=Y3r d s:=⟨_,rfl⟩
 obtain⟨S,hS⟩:∃S,S=Y4q d s:=⟨_,rfl⟩
 unfold Y3r at hO;rw[<- hS] at hO hS16 hS128 hSat;have hSg:∀i (hi:i<S.length),S[i]=Xkr d ((s+i:Nat):Int):=fun i hi=>by
  rw[<- hSat i (by omega)];simp [ah,hi]
 rw[show Y3r d s=O from by rw[hO,hS];rfl];simp only[Y3p,Xha] at cr;refine Xc 4 Tryz.func50 rfl fun n out _ _=> ?_;simp only[sn,Tryz.ntmps50,simprocAttr];have hg:=Nat.le_refl 0;repeat' (first|refine Vk fun K hK=> ?_|apply V0|((first|apply gE|apply gS);simp only[zA,simprocAttr,Y3p,Xha])|(refine hK _ ?_;clear hK K))
 refine Yy (Q9 (i:=2) 22 1 rfl) ?_;refine Yy (Q9 (i:=3) 5 1 rfl) ?_;simp only[s_0,s_s];apply V5;refine Xwm (16) (fun i=>tp [7,8,9] (tr 16 15 [(15,i64 (i:Int)),(6,.sl 1 ((S.take i).map secC) (.own (n+2)))])) (fun i=>[some (.box 39 (Xha d)),some (.box 66 [.val (.int .u32 0),.sl 0 [] .nil]),some (.row 22 1 i),some (.row 5 1 0)]) ?_ fun i hi=> ?_
 ·refine X2 ?_ ?_ (by first|rfl|(simp only[Xha,List.take_zero,ad];rfl)|simp only[Xha,List.take_zero,ad]) rfl rfl rfl<;>simp only[sL,Xha,ad]
 simp only[pt];have hw:=Yl (n:=i) 1 1 rfl (by omega);by_cases hlt:i<16
 ·have hlt':(i:Int)<16:=by omega
  have hws:=Yl (n:=s) (i:Int) i rfl (by omega);have c1:=cr i hlt;rw[er i hlt,<- hSg i (by omega)] at c1;have y1:(i+1)*24<=140737488355328:=by omega
  have y2:i+1<=9223372036854775807:=by omega
  have tl:(S.take i).length=i:=by rw[aj];omega
  have lit:∀(σ:AState) (K:AV->List (Nat×Res)->Prop),X1 tab σ K none 36 1 [(0,bs S[i])]=K (.sl 1 [[bs S[i]]] .full) []:=fun σ K=>Yk (T:=tab) (ti:=ti36) (te:=ti22) rfl rfl rfl (by decide) (by decide) rfl rfl;have sn:(S.take i).map secC++[[bs S[i]]]=(S.take (i+1)).map secC:=by
   rw[ai (by omega),cu];rfl
  repeat' (first|refine Vk fun K hK=> ?_|apply V0|apply Vb|apply Vs|((first|apply gE|apply gR|apply gS);simp only[zB,simprocAttr,lit,Xha,hlt',hws,tl,y1,y2,hw])|(refine X3 (c1) ?_)|(refine hK _ ?_;clear hK K)|refine Vt rfl ?_|clear hK K)
  rw[sn];refine⟨i+1,by omega,by omega,?_⟩;refine La rfl ?_ ?_<;>simp only[sL]
 ·obtain rfl:i=16:=by omega
  rw[bo (by omega)];have h0:0<S.length:=by omega
  have g0:=Xg secC S 0 [] h0;have l0:S[0].length=128:=hS128 _ (ak h0);have d0:S.getD 0 []=S[0]:=by simp [ah,h0]
  have g5:=Xqt S[0] 5 (by omega);have c2:=Ya2 (S[0].take 4) .sh (by rw[aj];omega);unfold Y65 at hO;rw[d0] at hO;obtain⟨M,hM⟩:∃M,M=(S[0].getD 5 0).toNat:=⟨_,rfl⟩
  obtain⟨G,hG⟩:∃G,G=Y55 (S[0].take 4):=⟨_,rfl⟩
  rw[<- hM,<- hG] at hO;rw[<- hG] at c2;have c3:=Y8s G;have hM256:M<256:=by rw[hM];exact jr _
  have hc1:IntKind.i64.wrap ((S[0].getD 5 0).toNat:Int)=(M:Int):=by rw[<- hM,wrap_i64]<;>omega
  have none_le:O=none->AV.le (.tup [.agg [.val (.int .u32 0),.sl 0 [] .nil],bool false]) (Y7l O):=fun h=>by
   rw[h];simp only[Y7l,rcA,rcC,Option.getD_none,Option.isSome_none,w0,sL];exact(Py _ _).2 trivial
  have hbad:(M<1∨16<M∨G=0∨Y3q G≠s)->O=none:=fun h=>by rw[hO,if_pos h]
  repeat' (first|refine Vk fun K hK=> ?_|apply V0|apply Vs|with_reducible apply aa|((first|apply gE|apply gR|apply gS);simp only[zA,simprocAttr,hg,Xha,hS16,g0,secC,X5,l0,g5,hc1,P6,Nh,Q2,Nat.sub_zero,Int.reduceToNat,Y57])|(apply Vz;(first|refine Xp (.inr rfl) rfl rfl rfl (fun _ _=>rfl) ok66 (k:=n+1) (off:=0) rfl (Xb _ (by simp)) (X6 _ (Nat.le_refl _) 1) rfl rfl ?_|refine Xp (.inr rfl) rfl rfl rfl (fun _ _=>rfl) ok66 (k:=m+1) (off:=0) rfl (Xb _ (by simp)) (X6 _ hm 1) rfl rfl ?_)<;>first|rfl|exact AV.le.rfl _|(simp only[sL];done)|rfl|skip)|(refine X3 (c2) ?_)|(refine X3 (c3) ?_)|((refine Vg (fun hg=> ?_) (fun hg=> ?_))<;>try simp only[nb] at hg)|(apply Vx;simp only[sb])|(refine hK _ ?_;clear hK K)|refine Vt rfl ?_|refine Vf rfl ?_|refine Vi rfl (fun hg=> ?_) (fun hg=> ?_)|clear hK K)
  ·refine none_le (hbad (.inl ?_));have h:decide ((M:Int)<1)=true:=by assumption
   have:=au h;omega
  ·refine none_le (hbad (.inr (.inl ?_)));have h:decide ((M:Int)>16)=true:=by assumption
   have:=au h;omega
  ·refine none_le (hbad (.inr (.inr (.inl ?_))));have h:decide (G=0)=true:=by assumption
   exact au h
  ·refine none_le (hbad (.inr (.inr (.inr ?_))));have h:((Y3q G:Int) !=(s:Int))=true:=by assumption
   intro e;rw[e] at h;simp at h
  ·have h:decide ((M:Int)>16)=false:=by assumption
   have:=bh h;omega
  have hM1:1<=M:=by
   have h:decide ((M:Int)<1)=false:=by assumption
   have:=bh h;omega
  have hM16:M<=16:=by
   have h:decide ((M:Int)>16)=false:=by assumption
   have:=bh h;omega
  have hG0:G≠0:=by
   have h:decide (G=0)=false:=by assumption
   exact bh h
  have hGs:Y3q G=s:=by
   have h:((Y3q G:Int) !=(s:Int))=false:=by assumption
   simp at h;omega
  rw[if_neg (by simp only[not_or];exact⟨by omega,by omega,hG0,by simpa using hGs⟩)] at hO;have htl:((S.map secC).take M).length=M:=by rw[aj,af];omega
  have hal:∀i,i<=M->(Y9l S i).length=118*i:=fun i hi=>Y5f hS128 (by omega);apply V5;refine Xwm (M) (fun i=>tp [13] (tr 67 8 [(66,i64 (i:Int)),(11,.sl 1 (Xo (Y9l S i)) (.own (n+3)))])) (fun i=>[some (.box 39 (Xha d)),some (.box 66 [w32 G,.sl 0 [] .nil]),some (.row 22 1 16),some (.row 5 1 (118*i))]) ?_ fun i hi=> ?_
  ·refine X2 ?_ ?_ (by first|rfl|(simp only[Xha,Y8l,Wb,Nat.mul_zero];rfl)|simp only[Xha,Y8l,Wb,Nat.mul_zero]) rfl rfl rfl<;>simp only[sL,Xha,Y8l,Wb,Nat.mul_zero]
  simp only[pt];have hw:=Yl (n:=i) 1 1 rfl (by omega);by_cases hlt:i<M
  ·have hlt':(i:Int)<(M:Int):=by omega
   have gt:((S.map secC).take M).getD i []=secC S[i]:=by
    rw[<- iu,Xg secC (S.take M) i [] (by rw[aj];omega)];simp
   have li:S[i].length=128:=hS128 _ (ak (by omega));have hali:=hal i (by omega);have lS:(List.take 118 (List.drop 6 S[i])).length=118:=by rw[aj,bu];omega
   have y1:118*i+118<=140737488355328:=by omega
   have y2:118*i+118<=9223372036854775807:=by omega
   have sn:Xo (Y9l S i)++Xo ((S[i].drop 6).take 118)=Xo (Y9l S (i+1)):=by
    rw[L6,<- Y8m S (by omega)]
   repeat' (first|refine Vk fun K hK=> ?_|apply V0|apply Vb|apply Vs|((first|apply gE|apply gS);simp only[zA,simprocAttr,Xha,hlt',htl,hlt,gt,secC,X5,li,lS,P6,Nh,Q2,Q1,Int.reduceToNat,Nat.reduceSub,hali,y1,y2,sn,hw])|(refine hK _ ?_;clear hK K)|refine Vt rfl ?_|clear hK K)
   refine⟨i+1,by omega,by omega,?_⟩;refine La rfl ?_ ?_<;>simp only[sL,Nat.mul_succ]
  ·obtain rfl:i=M:=by omega
   have hlt':¬(i:Int)<(i:Int):=by omega
   have hA:=hal i (Nat.le_refl _);obtain⟨A,hAA⟩:∃A,A=Y9l S i:=⟨_,rfl⟩
   have hO':O=if A.length - 6<(Y55 ((A.drop 4).take 2)).toNat then none else if Y3v ⟨G,(A.drop 6).take (Y55 ((A.drop 4).take 2)).toNat⟩=S.take i then some ⟨G,(A.drop 6).take (Y55 ((A.drop 4).take 2)).toNat⟩ else none:=by rw[hO,hAA];rfl
   clear hO;rw[<- hAA] at hA⊢;have c4:=Ya2 ((A.drop 4).take 2) .sh (by rw[aj];omega);obtain⟨sz,hsz⟩:∃sz,sz=(Y55 ((A.drop 4).take 2)).toNat:=⟨_,rfl⟩
   have hsz32:sz<4294967296:=by rw[hsz];exact BitVec.isLt _
   have hc2:IntKind.i64.wrap ((Y55 ((A.drop 4).take 2)).toNat:Int)=(sz:Int):=by rw[<- hsz,wrap_i64]<;>omega
   rw[<- hsz] at hO';have hsub:=X25 (n:=A.length) 6 6 rfl (by omega) (by omega);repeat' (first|refine Vk fun K hK=> ?_|apply V0|with_reducible apply aa|((first|apply gE|apply gS);simp only[zA,simprocAttr,Xha,hlt',htl,X5,Q2,Q1,P6,Nh,Int.reduceToNat,Nat.reduceSub])|(apply Vx;simp only[sb])|(refine hK _ ?_;clear hK K)|refine Vf rfl ?_|clear hK K)
   ·omega
   refine X3 c4 ?_;simp only[zA,simprocAttr,hc2]
   (refine hK _ ?_;clear hK K)
   by_cases hbig:A.length - 6<sz
   ·rw[if_pos hbig] at hO';repeat' (first|refine Vk fun K hK=> ?_|apply V0|((first|apply gE|apply gS);simp only[zA,simprocAttr,X5,hsub,hbig])|(apply Vz;(first|refine Xp (.inr rfl) rfl rfl rfl (fun _ _=>rfl) ok66 (k:=n+1) (off:=0) rfl (Xb _ (by simp)) (X6 _ (Nat.le_refl _) 1) rfl rfl ?_|refine Xp (.inr rfl) rfl rfl rfl (fun _ _=>rfl) ok66 (k:=m+1) (off:=0) rfl (Xb _ (by simp)) (X6 _ hm 1) rfl rfl ?_)<;>first|rfl|exact AV.le.rfl _|(simp only[sL];done)|rfl|skip)|(refine hK _ ?_;clear hK K)|refine Vt rfl ?_|clear hK K)
    exact none_le hO'
   ·rw[if_neg hbig] at hO';have hadd:IntKind.i64.wrap (6+(sz:Int))=((6+sz:Nat):Int):=by rw[wrap_i64]<;>omega
    have hTl:((A.drop 6).take sz).length<=1882:=by rw[aj,bu];omega
    have c5:=Xds ((A.drop 6).take sz) (by omega);have c6:=Y6t ⟨G,(A.drop 6).take sz⟩ (by show((A.drop 6).take sz).length<=10000;omega);have c7:=Xjz (Y3v ⟨G,(A.drop 6).take sz⟩) (S.take i) 57 [] (fun a b=>a==b) (hb0 _ (by decide) (by decide)) (by rw[Y3t];have:=Y48 (r:=⟨G,(A.drop 6).take sz⟩) hTl;omega) (fun x _ y _=>Xl7 x y);rw[Xkz] at c7;have ht:List.take i (List.map secC S)=List.map secC (S.take i):=by rw[iu]
    have e6:6+sz<=A.length:=by omega
    have e7:6<=6+sz:=by omega
    obtain⟨T,hT⟩:∃T,T=(A.drop 6).take sz:=⟨_,rfl⟩
    rw[<- hT] at c5 c6 c7 hO' hTl;simp only[rcA,rcC] at c6;cases hq:(Y3v ⟨G,T⟩==S.take i) with
    |false=>
     rw[hq] at c7;rw[if_neg (by simpa using hq)] at hO';repeat' (first|refine Vk fun K hK=> ?_|apply V0|apply Vs|with_reducible apply aa|refine Vd 22 [] [[1],[],[],[],[],[],[]] [[],[],[],[],[],[],[]] (by kernel_rfl) (by decide) (by decide) (by kernel_rfl) ?_|((first|apply gE|apply gR|apply gD|apply gF|apply gS);simp only[zA,simprocAttr,X5,hsub,hbig,ht,Q2,Q1,P6,Nh,Int.reduceToNat,Nat.add_sub_cancel_left,Nat.sub_zero,hadd,e6,e7,<- hT,hS16])|(apply Vz;(first|refine Xp (.inr rfl) rfl rfl rfl (fun _ _=>rfl) ok66 (k:=n+1) (off:=0) rfl (Xb _ (by simp)) (X6 _ (Nat.le_refl _) 1) rfl rfl ?_|refine Xp (.inr rfl) rfl rfl rfl (fun _ _=>rfl) ok66 (k:=m+1) (off:=0) rfl (Xb _ (by simp)) (X6 _ hm 1) rfl rfl ?_)<;>first|rfl|exact AV.le.rfl _|(simp only[sL];done)|rfl|skip)|(refine X3 (c5) ?_)|(refine X3 (c6) ?_)|(refine X3 (c7) ?_)|(refine hK _ ?_;clear hK K)|refine Vt rfl ?_|refine Vf rfl ?_|clear hK K)
     ·omega
     exact none_le hO'
    |true=>
     rw[hq] at c7;rw[if_pos (by simpa using hq)] at hO';repeat' (first|refine Vk fun K hK=> ?_|apply V0|apply Vs|with_reducible apply aa|refine Vd 22 [] [[1],[],[],[],[],[],[]] [[],[],[],[],[],[],[]] (by kernel_rfl) (by decide) (by decide) (by kernel_rfl) ?_|((first|apply gE|apply gR|apply gD|apply gF|apply gS);simp only[zA,simprocAttr,X5,hsub,hbig,ht,Q2,Q1,P6,Nh,Int.reduceToNat,Nat.add_sub_cancel_left,Nat.sub_zero,hadd,e6,e7,<- hT,hS16])|(apply Vz;(first|refine Xp (.inr rfl) rfl rfl rfl (fun _ _=>rfl) ok66 (k:=n+1) (off:=0) rfl (Xb _ (by simp)) (X6 _ (Nat.le_refl _) 1) rfl rfl ?_|refine Xp (.inr rfl) rfl rfl rfl (fun _ _=>rfl) ok66 (k:=m+1) (off:=0) rfl (Xb _ (by simp)) (X6 _ hm 1) rfl rfl ?_)<;>first|rfl|exact AV.le.rfl _|(simp only[sL];done)|rfl|skip)|(refine X3 (c5) ?_)|(refine X3 (c6) ?_)|(refine X3 (c7) ?_)|(refine hK _ ?_;clear hK K)|refine Vf rfl ?_|clear hK K)
     ·omega
     rw[hO'];exact AV.le.rfl _
def Y7m (o:Option Rc):List Rc:=match o with|some r=>[r]|none=>[]
theorem Y9z {d:Dsk} (hd:may d=true) (h:∀x y,Y3r d 0=some x->Y3r d 16=some y->¬x.gen.toNat<y.gen.toNat):Y3s d=Y7m (Y3r d 0)++Y7m (Y3r d 16):=by
 rw[Y51 hd];cases h0:Y3r d 0 with
 |none=>cases h1:Y3r d 16<;>rfl
 |some x=>
  cases h1:Y3r d 16 with
  |none=>rfl
  |some y=>rw[Y69,if_neg (h x y h0 h1)];rfl
theorem Y5x (d:Dsk) (h1:d.sectors.length<=1000) (h2:d.waits.length<=1000):Xr Tryz.prog 21 [Y3p d] [] (.tup [.sl 2 ((Y3s d).map rcC) .sh,i64 (if may d then 0 else 8)]) []:=by
 have cc:=Xjg d h1 h2;have hwa:IntKind.i64.wrap 1=1:=rfl;have hwb:IntKind.i64.wrap 2=2:=rfl;simp only[Y3p,Xha] at cc;cases hmd:may d with
 |false=>
  have hF:Y3s d=[]:=by unfold Y3s;rw[hmd];rfl
  rw[hF];rw[hmd] at cc;simp only[bf,if_false] at cc⊢;refine Xc 3 Tryz.func21 rfl fun n out _ _=> ?_;simp only[sn,Tryz.ntmps21,simprocAttr];repeat' (first|refine Vk fun K hK=> ?_|apply V0|((first|apply gE|apply gR);simp only[zA,simprocAttr,Y3p,Xha])|(apply Vz;refine Za (.inr rfl) rfl rfl rfl (fun _ _=>rfl) rfl rfl ?_ ?_<;>first|rfl|(exact AV.le.rfl _)|(simp only[sL,ad];done)|rfl|skip)|(refine X3 (cc) ?_)|(refine hK _ ?_;clear hK K)|refine Vt rfl ?_)
 |true=>
  rw[hmd] at cc;simp only[if_true] at cc⊢;have lit:∀(σ:AState) (K:AV->List (Nat×Res)->Prop),X1 tab σ K none 99 2 [(0,i64 0),(1,i64 16)]=K (.sl 1 [[i64 0],[i64 16]] .full) []:=fun σ K=>Te (T:=tab) (ti:=ti99) (te:=ti3) rfl rfl rfl rfl rfl rfl;have B6:∀(σ:AState) (K:AV->List (Nat×Res)->Prop) (g:BitVec 32) (t:List UInt8),X1 tab σ K none 62 1 [(0,.agg [w32 g,bs t])]=K (.sl 2 [[w32 g,bs t]] .full) []:=fun σ K g t=>Yk (T:=tab) (ti:=ti62) (te:=ti66) rfl rfl rfl (by decide) (by decide) rfl rfl;have cw0:=Y5j d 0 hmd (.inl rfl);have cw1:=Y5j d 16 hmd (.inr rfl);obtain⟨a,ha⟩:∃a,a=Y3r d 0:=⟨_,rfl⟩
  obtain⟨b,hb⟩:∃b,b=Y3r d 16:=⟨_,rfl⟩
  rw[<- ha] at cw0;rw[<- hb] at cw1;simp only[Y3p,Xha,Y7l,rcA,rcC,Int.cast_ofNat_Int] at cw0 cw1;by_cases hx:∃x y,a=some x∧b=some y∧x.gen.toNat<y.gen.toNat
  ·obtain⟨x,y,rfl,rfl,hxy⟩:=hx;have hF:Y3s d=[y,x]:=by rw[Y51 hmd,<- ha,<- hb,Y69,if_pos hxy]
   rw[hF];simp only[Option.getD_some,Option.isSome_some] at cw0 cw1;obtain⟨V,hV⟩:∃V:Nat->List AV,V=fun i=>if i=1 then rcC x else rcC x++rcC y:=⟨_,rfl⟩
   have V1:V 1=[w32 x.gen,bs x.text]:=by rw[hV];rfl
   have V2:V 2=[w32 x.gen,bs x.text,w32 y.gen,bs y.text]:=by rw[hV];rfl
   clear hV;refine Xc 3 Tryz.func21 rfl fun n out _ _=> ?_;simp only[sn,Tryz.ntmps21,simprocAttr];repeat' (first|refine Vk fun K hK=> ?_|apply V0|apply Vs|((first|apply gE|apply gR);simp only[zB,simprocAttr,lit,Y3p,Xha])|(refine X3 (cc) ?_)|(refine hK _ ?_;clear hK K)|refine Vf rfl ?_)
   apply V5;refine Xrd (2) (fun m i=>tp [6,7,8] (tr 17 15 [(16,i64 (i:Int)),(1,.ptr (m+0) 0),(2,if i=0 then .sl 0 [] .nil else .vsl (m+2) i)])) (fun m i=>[some (.box 39 (Xha d)),none,if i=0 then none else some (.vec 66 2 i (V i))]) ?_ fun m i hm hi=> ?_
   ·refine X2 ?_ ?_ (by first|rfl|(simp only[Xha,if_true];rfl)|simp only[Xha,if_true]) rfl rfl rfl<;>simp only[sL,Xha,if_true]
   simp only[pt];have hw:=Yl (n:=i) 1 1 rfl (by omega);by_cases hlt:i<2
   ·have hlt':(i:Int)<2:=by omega
    rcases(show i=0∨i=1 by omega) with rfl|rfl
    ·have g0:([[i64 0],[i64 16]]:List (List AV)).getD 0 []=[i64 0]:=rfl;rw[if_pos rfl,if_pos rfl];repeat' (first|refine Vk fun K hK=> ?_|refine Ve [(1030,none)] ?_|apply Vb|apply Vs|((first|apply gE|apply gR);simp only[zB,simprocAttr,B6,Xi hm,Xha,hwa,g0,X0,List.flatten_cons,List.flatten_nil,b9])|(refine X3 (cw0) ?_)|(refine hK _ ?_;clear hK K)|refine Vt rfl ?_|clear hK K)
     all_goals try decide
     refine⟨1,by omega,by omega,?_⟩;have hn1:((1:Nat)=0)=False:=by simp
     refine Xx [true,false,true] ?_ ?_<;>intro n_<;>simp only[sM,hn1,if_false,V1]
    ·have g1:([[i64 0],[i64 16]]:List (List AV)).getD 1 []=[i64 16]:=rfl;rw[if_neg (by decide),if_neg (by decide),V1];repeat' (first|refine Vk fun K hK=> ?_|apply V0|apply Vb|apply Vs|((first|apply gE|apply gR);simp only[zB,simprocAttr,B6,Xi hm,Xha,hwb,g1,X0,List.flatten_cons,List.flatten_nil,b9,List.cons_append])|(refine X3 (cw1) ?_)|(refine hK _ ?_;clear hK K)|refine Vt rfl ?_|clear hK K)
     all_goals try decide
     refine⟨2,by omega,by omega,?_⟩;have hn2:((2:Nat)=0)=False:=by simp
     refine Xx [true,false,true] ?_ ?_<;>intro n_<;>simp only[sM,hn2,if_false,V2]
   ·obtain rfl:i=2:=by omega
    have h22:¬((2:Nat):Int)<((2:Nat):Int):=by omega
    rw[if_neg (by decide),if_neg (by decide),V2];refine Yy (Ybb (i:=2) (m:=2) (sz:=2) (e:=66) (cs:=[w32 x.gen,bs x.text,w32 y.gen,bs y.text]) [(2,.bsl (m+2) 0 2 false)] (lo1:=[some (.box 39 (Xha d)),none,some (.vec 66 2 2 [w32 x.gen,bs x.text,w32 y.gen,bs y.text])]) rfl (by decide) ?_ ?_) ?_
    ·simp only[pt,Yak,Yb9,Yba,Yby,true_and,and_true]
    ·simp only[Y9h,Yaj,Y89,true_and,and_true]
    simp only[pt];repeat' (first|refine Vk fun K hK=> ?_|apply V0|refine Vd 11 [] [[],[],[],[],[],[],[],[2],[],[],[],[2],[],[]] [[],[],[],[],[],[],[],[],[],[],[],[],[],[]] (by kernel_rfl) (by decide) (by decide) (by kernel_rfl) ?_|((first|apply gE|apply gD|refine gS2 ?_);simp only[zA,simprocAttr,sg,Xi hm,Xha,Int.cast_ofNat_Int,hxy])|(apply Vx;simp only[sb])|(refine hK _ ?_;clear hK K)|refine Vt rfl ?_|refine Vf rfl ?_|clear hK K)
    refine Ny Xj [] [[],[],[],[],[2],[],[],[2],[],[2],[],[2]] [[],[],[],[],[],[],[],[],[],[2],[],[2]] follows (by kernel_rfl) (by decide) (by decide) (by kernel_rfl) ?_;simp only[zA,simprocAttr,Xi hm,X0];have hfz:Fz (m+2) 2 [w32 y.gen,bs y.text,w32 x.gen,bs x.text] (.bsl (m+2) 0 2 false) (.sl 2 ([y,x].map rcC) .sh):=
     Fz.bsl (k:=m+2) (sz:=2) (cs:=[w32 y.gen,bs y.text,w32 x.gen,bs x.text]) 0 2 false ⟨by decide,Nat.le_refl 4⟩
    repeat refine aa (by decide) ?_
    refine hK _ ?_;clear hK K;refine Yy (Zi (i:=2) (t:=2) 2 (.sl 2 ([y,x].map rcC) .sh) rfl rfl hfz) ?_;simp only[s_0,s_s];repeat' (first|refine Vk fun K hK=> ?_|apply V0|((first|apply gE);simp only[zA,simprocAttr])|(apply Vz;refine Za (.inr rfl) rfl rfl rfl (fun _ _=>rfl) rfl rfl ?_ ?_<;>first|rfl|(exact AV.le.rfl _)|(simp only[sL,Xi hm];done)|rfl|skip)|(refine hK _ ?_;clear hK K))
  ·have hF:Y3s d=Y7m a++Y7m b:=by
    rw[ha,hb];exact Y9z hmd fun x y h0 h1 hlt=>hx ⟨x,y,by rw[ha,h0],by rw[hb,h1],hlt⟩
   obtain⟨L,hL⟩:∃L:Nat->List Rc,L=fun i=>if i=0 then[] else if i=1 then Y7m a else Y7m a++Y7m b:=⟨_,rfl⟩
   have L0:L 0=[]:=by rw[hL];rfl
   have L1:L 1=Y7m a:=by rw[hL];rfl
   have L2:L 2=Y7m a++Y7m b:=by rw[hL];rfl
   have o1:(Y7m a).length<=1:=by cases a<;>simp [Y7m]
   have o2:(Y7m b).length<=1:=by cases b<;>simp [Y7m]
   clear hL;rw[hF,<- L2];refine Xc 3 Tryz.func21 rfl fun n out _ _=> ?_;simp only[sn,Tryz.ntmps21,simprocAttr];repeat' (first|refine Vk fun K hK=> ?_|apply V0|apply Vs|((first|apply gE|apply gR);simp only[zB,simprocAttr,lit,Y3p,Xha])|(refine X3 (cc) ?_)|(refine hK _ ?_;clear hK K)|refine Vf rfl ?_)
   refine Yy (Q9 (i:=1) 66 2 rfl) ?_;simp only[s_0,s_s];apply V5;refine Xrd (2) (fun m i=>tp [6,7,8] (tr 17 15 [(16,i64 (i:Int)),(1,.ptr (m+0) 0),(2,.sl 2 ((L i).map rcC) (.own (m+1)))])) (fun m i=>[some (.box 39 (Xha d)),some (.row 66 2 (L i).length),none]) ?_ fun m i hm hi=> ?_
   ·refine X2 ?_ ?_ (by first|rfl|(simp only[Xha,L0,ad,List.length_nil];rfl)|simp only[Xha,L0,ad,List.length_nil]) rfl rfl rfl<;>simp only[sL,Xha,L0,ad,List.length_nil]
   simp only[pt];have hw:=Yl (n:=i) 1 1 rfl (by omega);by_cases hlt:i<2
   ·have hlt':(i:Int)<2:=by omega
    rcases(show i=0∨i=1 by omega) with rfl|rfl
    ·have g0:([[i64 0],[i64 16]]:List (List AV)).getD 0 []=[i64 0]:=rfl;cases a with
     |none=>
      have e1:L 0=L 1:=by rw[L0,L1];rfl
      rw[e1];simp only[Option.getD_none,Option.isSome_none] at cw0;repeat' (first|refine Vk fun K hK=> ?_|apply V0|apply Vb|apply Vs|((first|apply gE|apply gR);simp only[zB,simprocAttr,Xi hm,Xha,hwa,g0,X0])|(refine X3 (cw0) ?_)|(refine hK _ ?_;clear hK K)|refine Vt rfl ?_|refine Vf rfl ?_|clear hK K)
      refine⟨1,by omega,by omega,?_⟩;refine Xx [true,true,false] ?_ ?_<;>intro n_<;>simp only[sM]
     |some x=>
      have e1:(L 0).map rcC++[[w32 x.gen,bs x.text]]=(L 1).map rcC:=by rw[L0,L1];rfl
      have l1:(L 0).length+1=(L 1).length:=by rw[L0,L1];rfl
      have l0:(L 0).length<=1:=by rw[L0];decide
      simp only[Option.getD_some,Option.isSome_some] at cw0;repeat' (first|refine Vk fun K hK=> ?_|apply V0|apply Vb|apply Vs|with_reducible apply aa|((first|apply gE|apply gR);simp only[zB,simprocAttr,B6,Xi hm,Xha,hwa,g0,X0,e1,l1])|(refine X3 (cw0) ?_)|(refine hK _ ?_;clear hK K)|refine Vt rfl ?_|clear hK K)
      ·omega
      ·omega
      refine⟨1,by omega,by omega,?_⟩;refine Xx [true,true,false] ?_ ?_<;>intro n_<;>simp only[sM]
    ·have g1:([[i64 0],[i64 16]]:List (List AV)).getD 1 []=[i64 16]:=rfl;cases b with
     |none=>
      have e1:L 1=L 2:=by rw[L1,L2];cases a<;>rfl
      rw[e1];simp only[Option.getD_none,Option.isSome_none] at cw1;repeat' (first|refine Vk fun K hK=> ?_|apply V0|apply Vb|apply Vs|((first|apply gE|apply gR);simp only[zB,simprocAttr,Xi hm,Xha,hwb,g1,X0])|(refine X3 (cw1) ?_)|(refine hK _ ?_;clear hK K)|refine Vt rfl ?_|refine Vf rfl ?_|clear hK K)
      refine⟨2,by omega,by omega,?_⟩;refine Xx [true,true,false] ?_ ?_<;>intro n_<;>simp only[sM]
     |some y=>
      have e1:(L 1).map rcC++[[w32 y.gen,bs y.text]]=(L 2).map rcC:=by rw[L1,L2,cu];rfl
      have l1:(L 1).length+1=(L 2).length:=by rw[L1,L2,ac];rfl
      have l0:(L 1).length<=1:=by rw[L1];exact o1
      simp only[Option.getD_some,Option.isSome_some] at cw1;repeat' (first|refine Vk fun K hK=> ?_|apply V0|apply Vb|apply Vs|with_reducible apply aa|((first|apply gE|apply gR);simp only[zB,simprocAttr,B6,Xi hm,Xha,hwb,g1,X0,e1,l1])|(refine X3 (cw1) ?_)|(refine hK _ ?_;clear hK K)|refine Vt rfl ?_|clear hK K)
      ·omega
      ·omega
      refine⟨2,by omega,by omega,?_⟩;refine Xx [true,true,false] ?_ ?_<;>intro n_<;>simp only[sM]
   ·obtain rfl:i=2:=by omega
    have h22:¬((2:Nat):Int)<((2:Nat):Int):=by omega
    cases a with
    |none=>
     cases b with
     |none=>
      have hq:L 2=[]:=L2;rw[hq];repeat' (first|refine Vk fun K hK=> ?_|apply V0|apply Vs|refine Vq (by kernel_rfl) ?_|((first|apply gE);simp only[zA,simprocAttr,Xha,Int.cast_ofNat_Int])|(apply Vz;refine Za (.inr rfl) rfl rfl rfl (fun _ _=>rfl) rfl rfl ?_ ?_<;>first|rfl|(exact AV.le.rfl _)|(simp only[sL];done)|rfl|skip)|(apply Vx;simp only[sb])|(refine hK _ ?_;clear hK K)|refine Vf rfl ?_|clear hK K)
      rw[hq];exact .sh _ _ _
     |some y=>
      have hq:L 2=[y]:=L2;rw[hq];repeat' (first|refine Vk fun K hK=> ?_|apply V0|apply Vs|refine Vq (by kernel_rfl) ?_|((first|apply gE);simp only[zA,simprocAttr,Xha,Int.cast_ofNat_Int])|(apply Vz;refine Za (.inr rfl) rfl rfl rfl (fun _ _=>rfl) rfl rfl ?_ ?_<;>first|rfl|(exact AV.le.rfl _)|(simp only[sL];done)|rfl|skip)|(apply Vx;simp only[sb])|(refine hK _ ?_;clear hK K)|refine Vf rfl ?_|clear hK K)
      rw[hq];exact .sh _ _ _
    |some x=>
     cases b with
     |none=>
      have hq:L 2=[x]:=L2;rw[hq];repeat' (first|refine Vk fun K hK=> ?_|apply V0|apply Vs|refine Vq (by kernel_rfl) ?_|((first|apply gE);simp only[zA,simprocAttr,Xha,Int.cast_ofNat_Int])|(apply Vz;refine Za (.inr rfl) rfl rfl rfl (fun _ _=>rfl) rfl rfl ?_ ?_<;>first|rfl|(exact AV.le.rfl _)|(simp only[sL];done)|rfl|skip)|(apply Vx;simp only[sb])|(refine hK _ ?_;clear hK K)|refine Vf rfl ?_|clear hK K)
      rw[hq];exact .sh _ _ _
     |some y=>
      have hq:L 2=[x,y]:=L2;rw[hq];have hxy:¬x.gen.toNat<y.gen.toNat:=fun h=>hx ⟨x,y,rfl,rfl,h⟩;have q0:([[w32 x.gen,bs x.text],[w32 y.gen,bs y.text]]:List (List AV)).getD 0 []=[w32 x.gen,bs x.text]:=rfl;have q1:([[w32 x.gen,bs x.text],[w32 y.gen,bs y.text]]:List (List AV)).getD 1 []=[w32 y.gen,bs y.text]:=rfl;repeat' (first|refine Vk fun K hK=> ?_|apply V0|apply Vs|refine Vq (by kernel_rfl) ?_|((first|apply gE);simp only[zA,simprocAttr,Xha,rcC,Int.cast_ofNat_Int,hxy,q0,q1])|(apply Vz;refine Za (.inr rfl) rfl rfl rfl (fun _ _=>rfl) rfl rfl ?_ ?_<;>first|rfl|(exact AV.le.rfl _)|(simp only[sL];done)|rfl|skip)|(apply Vx;simp only[sb])|(refine hK _ ?_;clear hK K)|refine Vf rfl ?_|clear hK K)
      rw[hq];exact .sh _ _ _
end Go.Proofs.YtgpdghbmiihfbaaGreat
