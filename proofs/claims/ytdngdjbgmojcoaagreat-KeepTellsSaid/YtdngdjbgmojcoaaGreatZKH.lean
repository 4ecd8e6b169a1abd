/- The layer of abstract values, joined. -/
import Derived.Test.YtdngdjbgmojcoaaGreatZPR
import Derived.Test.YtdngdjbgmojcoaaGreatZKF
namespace Go.Proofs.YtdngdjbgmojcoaaGreat.Pln
set_option linter.all false
set_option maxHeartbeats 8000000
set_option maxRecDepth 4000
open Go Go.VS Tab
attribute [local irreducible] AWp Xp0 Pg X5c Qy Lt Tp FdT Eb
theorem X7n (v:Int) (σ:AState) (K:AV->List (Nat×Res)->Prop):X1 tab σ K none 22 1 [(0,.val (.int .u8 v))]=K (.sl 1 [[.val (.int .u8 v)]] .full) []:=Yk (T:=tab) (ti:=ti22) (te:=ti5) rfl rfl rfl (by decide) (by decide) rfl rfl
theorem Ra:∀(f v:Nat),0<f->f<=5->v<128 ^ f->Xr Tryz.prog 111 [i64 (v:Int)] [] (.sl 1 (Xo (Ur f v)) .sh) []
 |0,_,h,_,_=>by omega
 |f+1,v,_,h5,h=>by
  have hbig:v<128 ^ 5:=Nat.lt_of_lt_of_le h (Nat.pow_le_pow_right (by decide) h5);by_cases hv:v<128
  ·have e:Ur (f+1) v=[UInt8.ofNat v]:=by rw[Ur,if_pos hv]
   have hw:IntKind.u8.wrap (v:Int)=((UInt8.ofNat v).toNat:Int):=by rw[de,Se (by omega) (by omega)];omega
   have g1:(v:Int)<128:=by omega
   rw[e];refine Xc 0 Tryz.func111 rfl fun n out _ _=> ?_;simp only[sn,Tryz.ntmps111,simprocAttr];repeat' (first|refine Vk fun K hK=> ?_|apply V0|(apply gE;simp only[zB,simprocAttr,X7n,g1,hw])|(apply Vz;refine Xv (.inr rfl) rfl rfl rfl (fun _ _=>rfl) ?_ rfl<;>first|rfl|(exact AV.le.rfl _)|(simp only[sL];done)|rfl|skip)|(refine hK _ ?_;clear hK K)|refine Vt rfl ?_|clear hK K)
   all_goals exact .sh _ _ _
  ·have hf:0<f:=by
    rcases fh f with h0|h0
    ·subst h0;simp at h;omega
    ·exact h0
   have hd:v / 128<128 ^ f:=by rw[fu (by decide),<- Nat.pow_succ];exact h
   have e:Ur (f+1) v=[UInt8.ofNat (v % 128+128)]++Ur f (v / 128):=by rw[Ur,if_neg hv];rfl
   have hw:IntKind.u8.wrap (((v % 128+128:Nat):Int))=((UInt8.ofNat (v % 128+128)).toNat:Int):=by rw[de,Se (by omega) (by omega)];omega
   have g1:¬(v:Int)<128:=by omega
   have q1:Zr .rem .i64 (v:Int) 128=some (.int .i64 ((v % 128:Nat):Int)):=by rw[X5a _ _ (by decide)];rfl
   have q2:IntKind.i64.wrap (128+((v % 128:Nat):Int))=((v % 128+128:Nat):Int):=by rw[wrap_i64]<;>omega
   have q3:Zr .quo .i64 (v:Int) 128=some (.int .i64 ((v / 128:Nat):Int)):=by
    rw[X7l _ _ (by decide),show(v:Int).tdiv 128=((v / 128:Nat):Int) from rfl,wrap_i64 (by omega) (by omega)]
   have ih:=Ra f (v / 128) hf (by omega) hd;have hl:=Mj f (v / 128);rw[e,<- L6];generalize Ur f (v / 128)=T at ih hl;have y1:1+T.length<=140737488355328:=by omega
   have y2:1+T.length<=9223372036854775807:=by omega
   refine Xc 0 Tryz.func111 rfl fun n out _ _=> ?_;simp only[sn,Tryz.ntmps111,simprocAttr];repeat' (first|refine Vk fun K hK=> ?_|apply V0|apply Vs|((first|apply gE|apply gR);simp only[zB,simprocAttr,X7n,g1,q1,q2,q3,hw,X5,y1,y2])|(apply Vz;refine Xv (.inr rfl) rfl rfl rfl (fun _ _=>rfl) ?_ rfl<;>first|rfl|(exact AV.le.rfl _)|(simp only[sL];done)|rfl|skip)|(refine X3 (ih) ?_)|(refine hK _ ?_;clear hK K)|refine Vf rfl ?_)
   all_goals exact .sh _ _ _
theorem X5r (l:List UInt8):∀i,i<=l.length->(∀j,j<i->128<=(l.getD j 0).toNat)->i<=5->rgN l=Gd (l.drop i) i (K5 l i) (l.take i)
 |0,_,_,_=>by simp [rgN,K5]
 |i+1,h,hj,h5=>by
  rw[X5r l i (by omega) (fun j hji=>hj j (by omega)) (by omega)];have hl:i<l.length:=by omega
  have e:l.getD i 0=l[i]:=by simp [af,hl]
  rw[cd hl,Gd,if_neg (by omega),if_pos (by rw[<- e];exact hj i (by omega)),<- e,aj hl,<- e];rfl
def rgT (b:List UInt8) (at':Nat):Int×Int×Int:=match rgN (b.drop at') with
 |none=>(0,0,8)
 |some r=>(r.1,((at'+r.2:Nat):Int),0)
theorem X5s (b:List UInt8) (at':Nat) (md:Md) (h:at'<=b.length) (hb:b.length<=1000000):Xr Tryz.prog 131 [.sl 1 (Xo b) md,i64 (at':Int)] [] (.tup [i64 (rgT b at').1,i64 (rgT b at').2.1,i64 (rgT b at').2.2]) []:=by
 obtain⟨l,hl⟩:∃l,l=b.drop at':=⟨_,rfl⟩
 have hll:at'+l.length=b.length:=by rw[hl,bt];omega
 have hneg:¬(at':Int)<0:=by omega
 have hle:¬(b.length:Int)<(at':Int):=by omega
 obtain⟨T,hT⟩:∃T,T=rgT b at':=⟨_,rfl⟩
 have hN:=hT;unfold rgT at hN;rw[<- hl] at hN;rw[<- hT];have h5a:=Yl (n:=at') 5 5 rfl (by omega);refine Xc 0 Tryz.func131 rfl fun n out _ _=> ?_;simp only[sn,Tryz.ntmps131,simprocAttr];repeat' (first|refine Vk fun K hK=> ?_|apply V0|apply Vs|((first|apply gE);simp only[zA,simprocAttr,X5,hneg,hle])|(refine hK _ ?_;clear hK K)|refine Vf rfl ?_)
 apply V5;refine Xse ((min l.length 5)) (fun i=>(∀j,j<i->128<=(l.getD j 0).toNat)) (fun i=>tp [4,5,6] (tr 19 46 [(7,i64 (K5 l i:Nat)),(8,i64 (128 ^ i:Nat)),(9,i64 ((at'+i:Nat):Int))])) (fun i=>[]) (by intros;omega) ?_ fun i hi=> ?_
 ·refine X2 ?_ ?_ (by first|rfl|(simp only[K5,show((128 ^ 0:Nat):Int)=1 from rfl,Nat.add_zero];rfl)|simp only[K5,show((128 ^ 0:Nat):Int)=1 from rfl,Nat.add_zero]) rfl rfl rfl<;>simp only[sL,K5,show((128 ^ 0:Nat):Int)=1 from rfl,Nat.add_zero]
 obtain⟨hi,hq⟩:=hi;simp only[pt];have hw:=Yl (n:=at'+i) 1 1 rfl (by omega);have hGi:=X5r l i (by omega) hq (by omega);have hsl:=Bb l i;have hp:128 ^ i<=128 ^ 5:=Nat.pow_le_pow_right (by decide) (by omega);by_cases hlt:i<l.length
 ·have g0:((at'+i:Nat):Int)<(b.length:Int):=by omega
  have g0n:at'+i<b.length:=by omega
  have gi:(Xo b).getD (at'+i) []=[b8 (b.getD (at'+i) 0)]:=Xqt b (at'+i) (by omega);have ge:l.getD i 0=l[i]:=by simp [af,hlt]
  have gb:b.getD (at'+i) 0=l.getD i 0:=by rw[hl];simp [af]
  rw[cd hlt,<- ge,Gd] at hGi;rw[gb] at gi;by_cases h5:i=5
  ·have h5b:¬((at'+i:Nat):Int)<((at'+5:Nat):Int):=by omega
   rw[if_pos h5] at hGi;rw[hGi] at hN;dsimp only at hN;subst hN;repeat' (first|refine Vk fun K hK=> ?_|apply V0|((first|apply gE);simp only[zA,simprocAttr,X5,g0,h5a,h5b])|(apply Vz;refine Zv (.inr rfl) rfl rfl rfl (fun _ _=>rfl) rfl rfl rfl ?_ ?_ ?_<;>first|rfl|(exact AV.le.rfl _)|(simp only[sL,X5,g0,g0n,gi,h5a,h5b,e8,d9];done)|rfl|skip)|(apply Vx;simp only[sb])|(refine hK _ ?_;clear hK K)|refine Vf rfl ?_|clear hK K)
  ·have h5b:((at'+i:Nat):Int)<((at'+5:Nat):Int):=by omega
   rw[if_neg h5] at hGi;obtain⟨c,hc⟩:∃c,c=l.getD i 0:=⟨_,rfl⟩
   rw[<- hc] at gi hGi;have hc8:=c.toNat_lt;have a1:Zr .rem .u8 (c.toNat:Int) 128=some (.int .u8 ((c.toNat % 128:Nat):Int)):=by rw[X5a _ _ (by decide)];rfl
   have a2:IntKind.i64.wrap ((c.toNat % 128:Nat):Int)=((c.toNat % 128:Nat):Int):=by rw[wrap_i64]<;>omega
   have hmb:c.toNat % 128*128 ^ i<=127*128 ^ 5:=Nat.mul_le_mul (by omega) hp;obtain⟨W,hW⟩:∃W,W=128 ^ i:=⟨_,rfl⟩
   have hW1:128 ^ (i+1)=W*128:=by rw[Nat.pow_succ,hW]
   rw[<- hW] at hp hmb hsl;have hp5:W<=34359738368:=hp;have hmb5:c.toNat % 128*W<=4363686772736:=hmb;have a3:=X95 (n:=W) ((c.toNat % 128:Nat):Int) (c.toNat % 128) rfl (by omega);have a4:=Yl (n:=K5 l i) ((c.toNat % 128*W:Nat):Int) (c.toNat % 128*W) rfl (by omega);have hS:K5 l (i+1)=K5 l i+c.toNat % 128*W:=by rw[hc,hW];rfl
   have a5:IntKind.i64.wrap ((W:Int)*128)=((128 ^ (i+1):Nat):Int):=by rw[hW1,wrap_i64]<;>omega
   rw[<- hW];rw[<- hW,<- hS] at hGi;rw[<- hS] at a4;have a6:=hw;by_cases hbig:128<=c.toNat
   ·have hbI:(128:Int)<=(c.toNat:Int):=by omega
    repeat' (first|refine Vk fun K hK=> ?_|apply V0|apply Vb|apply Vs|((first|apply gE);simp only[zA,simprocAttr,X5,g0,g0n,gi,h5a,h5b,a1,a2,a3,a4,a5,ge_iff_le,hbI,hw])|(apply Vx;simp only[sb,Nat.reduceEqDiff])|(refine hK _ ?_;clear hK K)|refine Vt rfl ?_|clear hK K)
    refine⟨i+1,⟨by omega,fun j hj=> ?_⟩,by omega,?_⟩
    ·by_cases hji:j=i
     ·rw[hji,<- hc];exact hbig
     ·exact hq j (by omega)
    refine La rfl ?_ ?_<;>simp only[sL,show at'+(i+1)=at'+i+1 from rfl]
   ·have hbI:¬(128:Int)<=(c.toNat:Int):=by omega
    rw[if_neg hbig] at hGi;by_cases hmx:2147483647<K5 l (i+1)
    ·have hmI:(2147483647:Int)<(K5 l (i+1):Int):=by omega
     rw[if_pos (.inl hmx)] at hGi;rw[hGi] at hN;dsimp only at hN;subst hN;repeat' (first|refine Vk fun K hK=> ?_|apply V0|apply Vb|apply Vs|refine Vq (by kernel_rfl) ?_|((first|apply gE);simp only[zA,simprocAttr,X5,g0,g0n,gi,h5a,h5b,a1,a2,a3,a4,a5,ge_iff_le,gt_iff_lt,hbI,hmI])|(apply Vz;refine Zv (.inr rfl) rfl rfl rfl (fun _ _=>rfl) rfl rfl rfl ?_ ?_ ?_<;>first|rfl|(exact AV.le.rfl _)|(simp only[sL,X5,g0,g0n,gi,h5a,h5b,e8,d9,a1,a2,a3,a4,a5,ge_iff_le,gt_iff_lt,hbI,hmI];done)|rfl|skip)|(refine hK _ ?_;clear hK K)|refine Vt rfl ?_|refine Vf rfl ?_)
    ·have hmI:¬(2147483647:Int)<(K5 l (i+1):Int):=by omega
     have cb:=Ra 5 (K5 l (i+1)) (by decide) (by decide) (by omega);have s1:List.take (at'+i+1 - at') (List.drop at' b)=l.take (i+1):=by rw[<- hl];congr 1;omega
     have s2:at'<=at'+i+1:=by omega
     have s3:at'+i+1<=b.length:=by omega
     have s4:l.take (i+1)=l.take i++[c]:=by rw[aj hlt,hc,ge]
     rw[s4] at s1;generalize l.take i++[c]=Y at s1 hGi;generalize Ur 5 (K5 l (i+1))=X at cb hGi;by_cases hXY:X=Y
     ·have hxy:(X==Y)=true:=bq.2 hXY;rw[if_neg (by rintro(h|h);exact hmx h;exact h hXY)] at hGi;rw[hGi] at hN;dsimp only at hN;rw[<- Nat.add_assoc] at hN;subst hN;repeat' (first|refine Vk fun K hK=> ?_|apply V0|apply Vb|apply Vs|refine Vq (by kernel_rfl) ?_|((first|apply gE|apply gR|refine gS2 ?_);simp only[zA,simprocAttr,X5,g0,g0n,gi,h5a,h5b,a1,a2,a3,a4,a5,ge_iff_le,gt_iff_lt,hbI,hmI,hw,P6,Nh,Q1,Q2,s1,s2,s3,Ya,Z5,hxy])|(apply Vz;refine Zv (.inr rfl) rfl rfl rfl (fun _ _=>rfl) rfl rfl rfl ?_ ?_ ?_<;>first|rfl|(exact AV.le.rfl _)|(simp only[sL,sg,X5,g0,g0n,gi,h5a,h5b,e8,d9,a1,a2,a3,a4,a5,ge_iff_le,gt_iff_lt,hbI,hmI,hw,P6,Nh,Q1,Q2,s1,s2,s3,Ya,Z5,hxy];done)|rfl|skip)|(refine X3 (cb) ?_)|(refine hK _ ?_;clear hK K)|refine Vt rfl ?_|refine Vf rfl ?_)
     ·have hxy:(X==Y)=false:=dz.2 hXY;rw[if_pos (.inr hXY)] at hGi;rw[hGi] at hN;dsimp only at hN;subst hN;repeat' (first|refine Vk fun K hK=> ?_|apply V0|apply Vb|apply Vs|refine Vq (by kernel_rfl) ?_|((first|apply gE|apply gR|refine gS2 ?_);simp only[zA,simprocAttr,X5,g0,g0n,gi,h5a,h5b,a1,a2,a3,a4,a5,ge_iff_le,gt_iff_lt,hbI,hmI,hw,P6,Nh,Q1,Q2,s1,s2,s3,Ya,Z5,hxy])|(apply Vz;refine Zv (.inr rfl) rfl rfl rfl (fun _ _=>rfl) rfl rfl rfl ?_ ?_ ?_<;>first|rfl|(exact AV.le.rfl _)|(simp only[sL,sg,X5,g0,g0n,gi,h5a,h5b,e8,d9,a1,a2,a3,a4,a5,ge_iff_le,gt_iff_lt,hbI,hmI,hw,P6,Nh,Q1,Q2,s1,s2,s3,Ya,Z5,hxy];done)|rfl|skip)|(refine X3 (cb) ?_)|(refine hK _ ?_;clear hK K)|refine Vt rfl ?_|refine Vf rfl ?_)
 ·obtain hil:i=l.length:=by omega
  have g0:¬((at'+i:Nat):Int)<(b.length:Int):=by omega
  rw[fk (by omega),Gd] at hGi;rw[hGi] at hN;dsimp only at hN;subst hN;repeat' (first|refine Vk fun K hK=> ?_|apply V0|((first|apply gE);simp only[zA,simprocAttr,X5,g0])|(apply Vz;refine Zv (.inr rfl) rfl rfl rfl (fun _ _=>rfl) rfl rfl rfl ?_ ?_ ?_<;>first|rfl|(exact AV.le.rfl _)|(simp only[sL,X5,g0,d9];done)|rfl|skip)|(apply Vx;simp only[sb])|(refine hK _ ?_;clear hK K)|refine Vf rfl ?_|clear hK K)
theorem Gv (l:List Int):(l.flatMap Y3m).length<=l.length*5:=R6 fun x _=>R5 x
theorem X30 (k:Nat) (l:List Int) (h:∀x,x∈l->nOk x) (hb:l.length<=100000):Xr Tryz.prog 60 [.sl 1 (l.map Ym) .sh] [(k,none)] (.sl 1 (Xo (l.flatMap Y3m)) (.own k)) [(k,.row 5 1 (l.flatMap Y3m).length)]:=by
 refine Xc 0 Tryz.func60 rfl fun n out _ _=> ?_;simp only[sn,Tryz.ntmps60,simprocAttr];rename_i hneeds hgv;obtain⟨hk,_⟩:=hneeds;obtain⟨hkn,_⟩:=hgv;have e0:((l.take 0).flatMap Y3m)=[]:=by rw[List.take_zero];rfl
 refine Yy (X3x (k:=k) 5 1 (by rw[X7 hkn];trivial) (by rw[X8 hkn];exact hk)) ?_;rw[X79 hkn];repeat' (first|refine Vk fun K hK=> ?_|apply V0|(apply gE;simp only[zA,simprocAttr])|(refine hK _ ?_;clear hK K))
 apply V5;refine Xz (fun i:Nat=>tr 5 13 [(3,.sl 1 (Xo ((l.take i).flatMap Y3m)) (.own k)),(4,i64 (i:Int))]) (fun i=>[]) (fun i=>Xw out k (.row 5 1 ((l.take i).flatMap Y3m).length)) (fun i=>i<=l.length) (fun i=>l.length - i) 0 (br _) ?_ fun i hi=> ?_
 ·refine X2 ?_ ?_ (by first|rfl|(simp only[e0,Wb,List.length_nil,List.take_zero,bv];rfl)|simp only[e0,Wb,List.length_nil,List.take_zero,bv]) rfl rfl rfl<;>simp only[sL,Wb,bv]
 simp only[pt];have hw:=Yl (n:=i) 1 1 rfl (by omega);by_cases hlt:i<l.length
 ·have gi:=Xg Ym l i [] hlt;have hx:=h l[i] (a8 hlt);unfold nOk at hx;have cb:=Ra 5 l[i].toNat (by decide) (by decide) (by omega);rw[ib hx.1,<- show Y3m l[i]=Ur 5 l[i].toNat from if_pos hx] at cb;have hfl:=Xon Y3m l (i+1);have hfz:=Gv l;rw[Y3 Y3m l i hlt,ac] at hfl;have hst:=Y3 Y3m l i hlt;generalize (l.take i).flatMap Y3m=B at*;generalize Y3m l[i]=X at*;have y1:B.length+X.length<=140737488355328:=by omega
  have y2:B.length+X.length<=9223372036854775807:=by omega
  repeat' (first|refine Vk fun K hK=> ?_|apply V0|apply Vr|apply Vs|((first|apply gE|apply gR);simp only[zA,simprocAttr,X8 hkn,X7 hkn,Cz hkn,Xt,Jp,gi,Ym,hlt,X5,L6,y1,y2,hw])|(refine X3 (cb) ?_)|(refine hK _ ?_;clear hK K)|refine Vt rfl ?_|clear hK K)
  refine⟨i+1,by omega,by omega,?_⟩;rw[hst,ac];refine La rfl ?_ ?_<;>simp only[sL]
 ·obtain rfl:i=l.length:=by omega
  rw[bi];repeat' (first|refine Vk fun K hK=> ?_|apply V0|(apply gE;simp only[zA,simprocAttr,hlt])|(apply Vz;refine Vo rfl rfl rfl (fun _ _=>rfl) ?_<;>first|rfl|skip)|(apply Vx;simp only[sb])|(refine hK _ ?_;clear hK K)|refine Vf rfl ?_|clear hK K)
theorem Y4 (l:List Int) (md:Md) (a:Nat) (hl:l.length<=1000000):Xr Tryz.prog 129 [.sl 1 (l.map Ym) md,i64 (a:Int)] [] (i64 (l.getD a 0)) []:=by
 by_cases h:a<l.length
 ·have g1:¬(l.length:Int)<=(a:Int):=by omega
  have gi:=Xg Ym l a [] h;have e:l.getD a 0=l[a]:=by simp [af,h]
  rw[e];refine Xc 0 Tryz.func129 rfl fun n out _ _=> ?_;simp only[sn,Tryz.ntmps129,simprocAttr];repeat' (first|refine Vk fun K hK=> ?_|apply V0|apply Vs|(apply gE;simp only[zA,simprocAttr,g1,h,gi,Ym])|(apply Vz;refine Vo rfl rfl rfl (fun _ _=>rfl) ?_<;>first|rfl|skip)|(refine hK _ ?_;clear hK K)|refine Vf rfl ?_)
 ·have g1:(l.length:Int)<=(a:Int):=by omega
  have e:l.getD a 0=0:=by simp [af,dn (Nat.le_of_not_lt h)]
  rw[e];refine Xc 0 Tryz.func129 rfl fun n out _ _=> ?_;simp only[sn,Tryz.ntmps129,simprocAttr];repeat' (first|refine Vk fun K hK=> ?_|apply V0|(apply gE;simp only[zA,simprocAttr,g1])|(apply Vz;refine Vo rfl rfl rfl (fun _ _=>rfl) ?_<;>first|rfl|skip)|(refine hK _ ?_;clear hK K)|refine Vt rfl ?_)
theorem Rb (l:List Int):∀(k a:Nat),k<=l.length - a∨k=0->rfK rfN k l a=((l.drop a).take k,a+k)
 |0,a,_=>by simp [rfK,rfP]
 |k+1,a,h=>by
  have ha:a<l.length:=by omega
  show(if a<l.length then((rfN l a).1::(rfK rfN k l (rfN l a).2).1,(rfK rfN k l (rfN l a).2).2) else([],a))= _
  rw[if_pos ha,show(rfN l a).2=a+1 from rfl,Rb l k (a+1) (by omega)];have e:(rfN l a).1=l[a]:=by show l.getD a 0= _;simp [af,ha]
  rw[e,cd ha,List.take_succ_cons]
  congr 1
  omega
theorem Sj (l:List Int) (a:Nat) (many:Int) (hl:l.length<=1000000) (ha:a<=100000000):Xr Tryz.prog 156 [.sl 1 (l.map Ym) .sh,i64 (a:Int),i64 many] [] (.sl 1 ((rfK rfN many.toNat l a).1.map Ym) .sh) []:=by
 obtain⟨D,hD⟩:∃D,D=l.drop a:=⟨_,rfl⟩
 have hDl:D.length=l.length - a:=by rw[hD,bt]
 have hR:rfK rfN many.toNat l a=(D.take many.toNat,a+min many.toNat D.length):=by
  by_cases h:many.toNat<=D.length
  ·rw[Rb l _ a (by omega),Nat.min_eq_left h,hD]
  ·have h1:=Rb l D.length a (by omega);rw[R8 rfN l D.length many.toNat a (by omega) (by rw[h1];simp;omega) (by rw[h1];show ¬a+D.length<l.length;omega),h1,Nat.min_eq_right (by omega),<- hD,db (Nat.le_refl _),db (by omega)]
 rw[hR];dsimp only;refine Xc 1 Tryz.func156 rfl fun n out _ _=> ?_;simp only[sn,Tryz.ntmps156,simprocAttr];repeat' (first|refine Vk fun K hK=> ?_|apply V0|((first|apply gE);simp only[zA,simprocAttr])|(refine hK _ ?_;clear hK K))
 refine Yy (Q9 (i:=0) 3 1 rfl) ?_;simp only[s_0,s_s];apply V5;refine Xwm ((min many.toNat D.length)) (fun i=>tr 9 22 [(7,.sl 1 ((D.take i).map Ym) (.own (n+0))),(8,i64 (i:Int))]) (fun i=>[some (.row 3 1 (D.take i).length)]) ?_ fun i hi=> ?_
 ·refine X2 ?_ ?_ (by first|rfl|(simp only[List.take_zero,ag,List.length_nil];rfl)|simp only[List.take_zero,ag,List.length_nil]) rfl rfl rfl<;>simp only[sL,ag,List.length_nil]
 simp only[pt];have hw:=Yl (n:=i) 1 1 rfl (by omega);have hw2:=Yl (n:=a) (i:Int) i rfl (by omega);by_cases hlt:i<min many.toNat D.length
 ·have g1:(i:Int)<many:=by omega
  have g2:a+i<l.length:=by omega
  have gi:=Xg Ym l (a+i) [] g2;have hiD:i<D.length:=by omega
  have e:l[a+i]=D[i]:=by simp [hD]
  rw[e] at gi;have hst:D.take (i+1)=D.take i++[D[i]]:=aj hiD;have hln:(D.take i).length=i:=by rw[ba];omega
  have y1:(i+1)*8<=140737488355328:=by omega
  have y2:i+1<=9223372036854775807:=by omega
  have y3:i<=9223372036854775806:=by omega
  rw[hln];repeat' (first|refine Vk fun K hK=> ?_|apply V0|apply Vr|apply Vs|((first|apply gE);simp only[zB,simprocAttr,Mr,g1,g2,gi,Ym,hw,hw2,hln,y1,y2,Int.ofNat_lt])|(refine hK _ ?_;clear hK K)|refine Vt rfl ?_|clear hK K)
  refine⟨i+1,by omega,by omega,?_⟩;rw[hst,aw,ac,hln];refine La rfl ?_ ?_<;>simp only[sL,Ym,bk,ag,List.length_cons,List.length_nil,Nat.zero_add]
 ·obtain hi:i=min many.toNat D.length:=by omega
  have e:D.take many.toNat=D.take i:=by
   rw[hi];rcases Nat.le_total many.toNat D.length with h|h
   ·rw[Nat.min_eq_left h]
   ·rw[Nat.min_eq_right h,db h,db (Nat.le_refl _)]
  simp only[e] at*;by_cases g1:(i:Int)<many
  ·have g2:¬a+i<l.length:=by omega
   repeat' (first|refine Vk fun K hK=> ?_|apply V0|((first|apply gE);simp only[zA,simprocAttr,g1,g2,hw2,Int.ofNat_lt])|(apply Vz;refine Xv (.inr rfl) rfl rfl rfl (fun _ _=>rfl) ?_ rfl<;>first|rfl|(exact AV.le.rfl _)|(simp only[sL];done)|rfl|skip)|(apply Vx;simp only[sb])|(refine hK _ ?_;clear hK K)|refine Vf rfl ?_|clear hK K)
  ·repeat' (first|refine Vk fun K hK=> ?_|apply V0|((first|apply gE);simp only[zA,simprocAttr,g1])|(apply Vz;refine Xv (.inr rfl) rfl rfl rfl (fun _ _=>rfl) ?_ rfl<;>first|rfl|(exact AV.le.rfl _)|(simp only[sL];done)|rfl|skip)|(apply Vx;simp only[sb])|(refine hK _ ?_;clear hK K)|refine Vf rfl ?_|clear hK K)
def gsA (b:List UInt8) (i:Nat):Nat:=((gsS b i).getD (0,[])).1
def gsL (b:List UInt8) (i:Nat):List Int:=((gsS b i).getD (0,[])).2
theorem Sk {b:List UInt8} {i:Nat} (h:gsS b i=none) (hi:i<=b.length):Bh b=none:=by
 obtain⟨k,hk⟩:=Nat.exists_eq_add_of_le hi;unfold Bh;rw[hk,D9 h k];rfl
theorem Bn {b:List UInt8} {i a:Nat} {l:List Int} (h:gsS b i=some (a,l)) (ha:¬a<b.length) (hi:i<=b.length):Bh b=some l:=by
 obtain⟨k,hk⟩:=Nat.exists_eq_add_of_le hi;unfold Bh;rw[hk,Bi h ha k];rfl
def QG (b:List UInt8) (i:Nat):Prop:=(gsS b i).isSome=true
theorem Ar (b:List UInt8) (hb:b.length<=1000000):Xr Tryz.prog 128 [.sl 1 (Xo b) .sh] [] (.tup [.sl 1 (((Bh b).getD []).map Ym) .sh,bool (Bh b).isSome]) []:=by
 obtain⟨G,hG⟩:∃G,G=Bh b:=⟨_,rfl⟩
 have hq0:QG b 0:=rfl;rw[<- hG];refine Xc 1 Tryz.func128 rfl fun n out _ _=> ?_;simp only[sn,Tryz.ntmps128,simprocAttr];repeat' (first|refine Vk fun K hK=> ?_|apply V0|(apply gE;simp only[zA,simprocAttr])|(refine hK _ ?_;clear hK K))
 refine Yy (Q9 (i:=0) 3 1 rfl) ?_;simp only[s_0,s_s];apply V5;refine Xse (b.length) (fun i=>QG b i) (fun i=>tp [2,3] (tr 6 21 [(4,.sl 1 ((gsL b i).map Ym) (.own (n+0))),(5,i64 (gsA b i:Nat))])) (fun i=>[some (.row 3 1 (gsL b i).length)]) (by assumption) ?_ fun i hi=> ?_
 ·refine X2 ?_ ?_ (by first|rfl|(simp only[show gsL b 0=[] from rfl,show gsA b 0=0 from rfl,ag,List.length_nil];rfl)|simp only[show gsL b 0=[] from rfl,show gsA b 0=0 from rfl,ag,List.length_nil]) rfl rfl rfl<;>simp only[sL,show gsL b 0=[] from rfl,show gsA b 0=0 from rfl,ag,List.length_nil]
 obtain⟨hi,hq⟩:=hi;simp only[pt];obtain⟨⟨a,l⟩,hs⟩:=cu.1 hq;have hin:=Ge hs;have ea:gsA b i=a:=by unfold gsA;rw[hs];rfl
 have el:gsL b i=l:=by unfold gsL;rw[hs];rfl
 rw[ea,el];by_cases hlt:a<b.length
 ·have g1:(a:Int)<(b.length:Int):=by omega
  have cg:=X5s b a .sh (by omega) hb;cases hr:rgN (b.drop a) with
  |none=>
   have e1:rgT b a=(0,0,8):=by unfold rgT;rw[hr]
   have e2:gsS b (i+1)=none:=by rw[gsS,hs];dsimp only;rw[if_pos hlt,hr]
   have e3:=Sk e2 (by omega);rw[<- hG] at e3;subst e3;rw[e1] at cg;repeat' (first|refine Vk fun K hK=> ?_|apply V0|apply Vb|apply Vs|((first|apply gE|apply gR);simp only[zA,simprocAttr,X5,g1,Option.getD_none])|(apply Vz;refine Za (.inr rfl) rfl rfl rfl (fun _ _=>rfl) rfl rfl ?_ ?_<;>first|rfl|(exact AV.le.rfl _)|(simp only[sL,Option.getD_none,ag];done)|rfl|skip)|(refine X3 (cg) ?_)|(refine hK _ ?_;clear hK K)|refine Vt rfl ?_)
  |some r=>
   obtain⟨x,k⟩:=r;have e1:rgT b a=((x:Int),((a+k:Nat):Int),0):=by unfold rgT;rw[hr]
   have e2:gsS b (i+1)=some (a+k,l++[(x:Int)]):=by rw[gsS,hs];dsimp only;rw[if_pos hlt,hr]
   have ea':gsA b (i+1)=a+k:=by unfold gsA;rw[e2];rfl
   have el':gsL b (i+1)=l++[(x:Int)]:=by unfold gsL;rw[e2];rfl
   rw[e1] at cg;have y1:(l.length+1)*8<=140737488355328:=by omega
   have y2:l.length+1<=9223372036854775807:=by omega
   have y3:l.length<=9223372036854775806:=by omega
   repeat' (first|refine Vk fun K hK=> ?_|apply V0|apply Vb|apply Vs|((first|apply gE|apply gR);simp only[zB,simprocAttr,Mr,X5,g1,y1,y2])|(refine X3 (cg) ?_)|(refine hK _ ?_;clear hK K)|refine Vt rfl ?_|refine Vf rfl ?_|clear hK K)
   refine⟨i+1,⟨by omega,by unfold QG;rw[e2];rfl⟩,by omega,?_⟩;rw[ea',el',aw,ac];refine La rfl ?_ ?_<;>simp only[sL,Ym,bk,ag,List.length_cons,List.length_nil,Nat.zero_add]
 ·have g1:¬(a:Int)<(b.length:Int):=by omega
  have e3:=Bn hs hlt (by omega);rw[<- hG] at e3;subst e3;repeat' (first|refine Vk fun K hK=> ?_|apply V0|(apply gE;simp only[zA,simprocAttr,X5,g1,Option.getD_some])|(apply Vz;refine Za (.inr rfl) rfl rfl rfl (fun _ _=>rfl) rfl rfl ?_ ?_<;>first|rfl|(exact AV.le.rfl _)|(simp only[sL,Option.getD_some];done)|rfl|skip)|(apply Vx;simp only[sb])|(refine hK _ ?_;clear hK K)|refine Vf rfl ?_|clear hK K)
theorem Yds {α:Type} (one:Rf α) (l:List Int) (c:Nat) (h:∀a,(one l a).2<=a+c):∀(k a:Nat),(rfK one k l a).2<=max a (l.length+c)
 |0,a=>Nat.le_max_left _ _
 |k+1,a=>by
  show(if a<l.length then((one l a).1::(rfK one k l (one l a).2).1,(rfK one k l (one l a).2).2) else(([]:List α),a)).2<= _
  by_cases ha:a<l.length
  ·rw[if_pos ha];have h1:=Yds one l c h k (one l a).2;have h2:=h a
   show(rfK one k l (one l a).2).2<= _
   omega
  ·rw[if_neg ha];exact Nat.le_max_left _ _
theorem Lv {α:Type} (one:Rf α) (l:List Int) (c:Nat) (h:∀a,(one l a).2<=a+c) (a:Nat):(rfL one l a).2<=a+1+l.length+c:=by
 have:=Yds one l c h (rfN l a).1.toNat (a+1)
 show(rfK one (rfN l a).1.toNat l (a+1)).2<= _
 omega
theorem Dg (l:List Int) (a:Nat):(rfJ l a).2<=a+2:=Nat.le_refl _
theorem X21 (l:List Int) (a:Nat):(rfG l a).2<=a+3:=Nat.le_refl _
theorem Dh (l:List Int) (a:Nat):(rfN l a).2<=a+1:=Nat.le_refl _
theorem X22 (l:List Int) (a:Nat):(rfS l a).2<=a+8:=by
 unfold rfS rfB;dsimp only;split
 ·show a+8<=a+8;omega
 ·show a+6<=a+8;omega
theorem X5t (l:List Int) (a:Nat):(rfR l a).2<=a+3*l.length+12:=by
 have h1:=Lv rfN l 1 (Dh l) (a+1+1+1);have h2:=Lv rfN l 1 (Dh l) (rfL rfN l (a+1+1+1)).2;have h3:=Lv rfJ l 2 (Dg l) (rfL rfN l (rfL rfN l (a+1+1+1)).2).2
 show(rfL rfJ l (rfL rfN l (rfL rfN l (a+1+1+1)).2).2).2+1<= _
 omega
structure RfAt {α:Type} (one:Rf α) (l:List Int) (a i:Nat) (L:List α) (p:Nat):Prop where
 at':rfK one i l a=(L,p)
 len:L.length=i
theorem RfAt.zero {α:Type} (one:Rf α) (l:List Int) (a:Nat):RfAt one l a 0 [] a:=⟨rfl,rfl⟩
theorem RfAt.go {α:Type} {one:Rf α} {l:List Int} {a i:Nat} {L:List α} {p:Nat} (h:RfAt one l a i L p) (hp:p<l.length):RfAt one l a (i+1) (L++[(one l p).1]) (one l p).2:=by
 obtain⟨h1,h2⟩:=h;have:=X1r one l i a (by rw[h1];exact h2) (by rw[h1];exact hp);rw[h1] at this;exact⟨this,by rw[ac,List.length_singleton,h2]⟩
theorem RfAt.stop {α:Type} {one:Rf α} {l:List Int} {a i:Nat} {L:List α} {p:Nat} (h:RfAt one l a i L p) {k:Nat} (hk:i<=k) (hs:i=k∨¬p<l.length):rfK one k l a=(L,p):=by
 obtain⟨h1,h2⟩:=h;rcases hs with rfl|hs
 ·exact h1
 ·rw[R8 one l i k a hk (by rw[h1];exact h2) (by rw[h1];exact hs),h1]
theorem RfAt.most {α:Type} {one:Rf α} {l:List Int} {a i:Nat} {L:List α} {p:Nat} (h:RfAt one l a i L p) (h1:∀a,a+1<=(one l a).2):i<=l.length∧a<=p:=by
 have:=Mk one l 1 h1 i a;rw[h.at',show L.length=i from h.len] at this;dsimp only at this;omega
theorem Rc (l:List Int):∀(k a:Nat),(rfK rfN k l a).2=a+(rfK rfN k l a).1.length
 |0,a=>rfl
 |k+1,a=>by
  have e:rfK rfN (k+1) l a=if a<l.length then((rfN l a).1::(rfK rfN k l (rfN l a).2).1,(rfK rfN k l (rfN l a).2).2) else([],a):=rfl
  by_cases ha:a<l.length
  ·rw[e,if_pos ha];have:=Rc l k (a+1);rw[show(rfN l a).2=a+1 from rfl,List.length_cons,this];omega
  ·rw[e,if_neg ha];rfl
def QK {α:Type} (one:Rf α) (l:List Int) (a i:Nat):Prop:=(rfK one i l a).1.length=i
theorem QK.zero {α:Type} (one:Rf α) (l:List Int) (a:Nat):QK one l a 0:=rfl
theorem QK.at {α:Type} {one:Rf α} {l:List Int} {a i:Nat} {L:List α} {p:Nat} (h:QK one l a i) (e:rfK one i l a=(L,p)):RfAt one l a i L p:=⟨e,by unfold QK at h;rw[e] at h;exact h⟩
theorem RfAt.qk {α:Type} {one:Rf α} {l:List Int} {a i:Nat} {L:List α} {p:Nat} (h:RfAt one l a i L p):QK one l a i:=by unfold QK;rw[h.at'];exact h.len
theorem Gw (x y:Int) (σ:AState) (K:AV->List (Nat×Res)->Prop):X1 tab σ K none 80 1 [(0,.agg [i64 x,i64 y])]=K (.sl 2 [[i64 x,i64 y]] .full) []:=Yk (T:=tab) (ti:=ti80) (te:=ti142) rfl rfl rfl (by decide) (by decide) rfl rfl
theorem El (l:List Int) (a:Nat) (hl:l.length<=1000000) (ha:a<=8000000) (hn:∀x,x∈l->nOk x):Xr Tryz.prog 130 [.sl 1 (l.map Ym) .sh,i64 (a:Int)] [] (.tup [rtA (rfR l a).1,i64 ((rfR l a).2:Nat)]) []:=by
 obtain⟨pa,a1,h1⟩:∃L p,rfL rfN l (a+3)=(L,p):=⟨_,_,rfl⟩
 obtain⟨ov,a2,h2⟩:∃L p,rfL rfN l a1=(L,p):=⟨_,_,rfl⟩
 obtain⟨fl,a3,h3⟩:∃L p,rfL rfJ l a2=(L,p):=⟨_,_,rfl⟩
 have e:rfR l a=(⟨l.getD a 0,l.getD (a+1) 0,l.getD (a+2) 0,pa,ov,fl,l.getD a3 0⟩,a3+1):=by
  show(match rfL rfN l (a+3) with|v=>rfB (rfL rfN) (fun over=>rfB (rfL rfJ) fun fl=>rfB rfN fun t=>rfP (⟨l.getD a 0,l.getD (a+1) 0,l.getD (a+2) 0,v.1,over,fl,t⟩:Rt)) l v.2)= _
  rw[h1]
  show(match rfL rfN l a1 with|v=>rfB (rfL rfJ) (fun fl=>rfB rfN fun t=>rfP (⟨l.getD a 0,l.getD (a+1) 0,l.getD (a+2) 0,pa,v.1,fl,t⟩:Rt)) l v.2)= _
  rw[h2]
  show(match rfL rfJ l a2 with|v=>((⟨l.getD a 0,l.getD (a+1) 0,l.getD (a+2) 0,pa,ov,v.1,l.getD v.2 0⟩:Rt),v.2+1))= _
  rw[h3]
 rw[e];have u1:=Lv rfN l 1 (Dh l) (a+3);have u2:=Lv rfN l 1 (Dh l) a1;rw[h1] at u1;rw[h2] at u2;dsimp only at u1 u2;have k1:rfK rfN (l.getD (a+3) 0).toNat l (a+4)=(pa,a1):=h1;have k2:rfK rfN (l.getD a1 0).toNat l (a1+1)=(ov,a2):=h2;have k3:rfK rfJ (l.getD a2 0).toNat l (a2+1)=(fl,a3):=h3;have p1:=Rc l (l.getD (a+3) 0).toNat (a+4);have p2:=Rc l (l.getD a1 0).toNat (a1+1);rw[k1] at p1;rw[k2] at p2;dsimp only at p1 p2;have ci:=Sj l (a+4) (l.getD (a+3) 0) hl (by omega);have co:=Sj l (a1+1) (l.getD a1 0) hl (by omega);rw[k1] at ci;rw[k2] at co;dsimp only at ci co;have w1:=Yl (n:=a) 1 1 rfl (by omega);have w2:=Yl (n:=a) 2 2 rfl (by omega);have w3:=Yl (n:=a) 3 3 rfl (by omega);have w4:=Yl (n:=a) 4 4 rfl (by omega);have w5:=Yl (n:=a+4) (pa.length:Int) pa.length rfl (by omega);rw[<- p1] at w5;have w6:=Yl (n:=a1) 1 1 rfl (by omega);have w7:=Yl (n:=a1+1) (ov.length:Int) ov.length rfl (by omega);rw[<- p2] at w7;have w8:=Yl (n:=a2) 1 1 rfl (by omega);have hq0:QK rfJ l (a2+1) 0:=QK.zero _ _ _;clear p1 p2 k1 k2 h1 h2 h3 e;refine Xc 3 Tryz.func130 rfl fun n out _ _=> ?_;simp only[sn,Tryz.ntmps130,simprocAttr];repeat' (first|refine Vk fun K hK=> ?_|apply V0|((first|apply gE|apply gR);simp only[zA,simprocAttr,X0,w1,w2,w3,w4,w5,w6,w7,w8])|(refine X3 (Y4 l .sh _ hl) ?_)|(refine X3 (ci) ?_)|(refine X3 (co) ?_)|(refine hK _ ?_;clear hK K))
 refine Yy (Q9 (i:=2) 142 2 rfl) ?_;simp only[s_0,s_s];refine Lb [] [some (.box 82 [i64 0,i64 0,i64 0,.sl 0 [] .nil,.sl 0 [] .nil,.sl 0 [] .nil,i64 0]),some (.box 82 [i64 (l.getD a 0),i64 (l.getD (a+1) 0),i64 (l.getD (a+2) 0),.sl 1 (pa.map Ym) .sh,.sl 1 (ov.map Ym) .sh,.sl 2 [] (.own (n+2)),i64 0]),some (.row 142 2 0)] ?_ ?_
 ·refine La rfl ?_ ?_<;>simp only[sL]
 simp only[pt];apply V5;refine Xse ((l.getD a2 0).toNat) (fun i=>QK rfJ l (a2+1) i) (fun i=>tr 57 26 [(8,i64 (i:Int)),(1,i64 ((rfK rfJ i l (a2+1)).2:Nat))]) (fun i=>[some (.box 82 [i64 0,i64 0,i64 0,.sl 0 [] .nil,.sl 0 [] .nil,.sl 0 [] .nil,i64 0]),some (.box 82 [i64 (l.getD a 0),i64 (l.getD (a+1) 0),i64 (l.getD (a+2) 0),.sl 1 (pa.map Ym) .sh,.sl 1 (ov.map Ym) .sh,.sl 2 ((rfK rfJ i l (a2+1)).1.map jnC) (.own (n+2)),i64 0]),some (.row 142 2 (rfK rfJ i l (a2+1)).1.length)]) (by assumption) ?_ fun i hi=> ?_
 ·refine X2 ?_ ?_ (by first|rfl|(simp only[show rfK rfJ 0 l (a2+1)=([],a2+1) from rfl,ag,List.length_nil];rfl)|simp only[show rfK rfJ 0 l (a2+1)=([],a2+1) from rfl,ag,List.length_nil]) rfl rfl rfl<;>simp only[sL,show rfK rfJ 0 l (a2+1)=([],a2+1) from rfl,ag,List.length_nil]
 obtain⟨hi,hq⟩:=hi;simp only[pt];obtain⟨L,p,hLp⟩:∃L p,rfK rfJ i l (a2+1)=(L,p):=⟨_,_,rfl⟩
 have hat:=hq.at hLp;have hlen:=hat.len;have hmost:=hat.most (Si l);have hup:=Yds rfJ l 2 (Dg l) i (a2+1);rw[hLp] at hup⊢;dsimp only at hup⊢;have hw:=Yl (n:=i) 1 1 rfl (by omega);have v1:=Yl (n:=p) 1 1 rfl (by omega);have v2:=Yl (n:=p) 2 2 rfl (by omega);have y1:(i+1)*16<=140737488355328:=by omega
 have y2:i+1<=9223372036854775807:=by omega
 have y3:i<=9223372036854775806:=by omega
 by_cases hlt:(i:Int)<l.getD a2 0
 ·by_cases hp:p<l.length
  ·have hpI:(p:Int)<(l.length:Int):=by omega
   have hg:=hat.go hp;repeat' (first|refine Vk fun K hK=> ?_|apply V0|apply Vb|apply Vs|refine Vd 13 [] [[],[1],[],[],[],[],[],[],[],[],[],[2],[],[1]] [[],[],[],[],[],[],[],[],[],[],[],[2],[],[1]] (by kernel_rfl) (by decide) (by decide) (by kernel_rfl) ?_|((first|apply gE|apply gD|apply gF);simp only[zB,simprocAttr,Gw,X0,hlt,hpI,hlen,hw,v1,v2,y1,y2])|(refine X3 (Y4 l .sh _ hl) ?_)|(refine hK _ ?_;clear hK K)|refine Vt rfl ?_|clear hK K)
   refine⟨i+1,⟨by omega,hg.qk⟩,by omega,?_⟩;rw[hg.at',show rfJ l p=((l.getD p 0,l.getD (p+1) 0),p+2) from rfl];refine La rfl ?_ ?_<;>simp only[sL,jnC,aw,bk,ag,ac,List.length_cons,List.length_nil,hlen,Nat.zero_add]
  ·have hs:=hat.stop (k:=(l.getD a2 0).toNat) (by omega) (.inr hp);have hpI:¬(p:Int)<(l.length:Int):=by omega
   rw[k3] at hs;cases hs;repeat' (first|refine Vk fun K hK=> ?_|apply V0|((first|apply gE|apply gR);simp only[zA,simprocAttr,X0,hlt,hpI,rtA,rtC,v1])|(apply Vz;(first|refine Xp (.inr rfl) rfl rfl rfl (fun _ _=>rfl) ok82 (k:=n+0) (off:=0) rfl (Xb _ (by simp)) (X6 _ (Nat.le_refl _) 0) rfl rfl ?_|refine Xp (.inr rfl) rfl rfl rfl (fun _ _=>rfl) ok82 (k:=m+0) (off:=0) rfl (Xb _ (by simp)) (X6 _ hm 0) rfl rfl ?_)<;>first|rfl|exact AV.le.rfl _|(simp only[sL,rtA,rtC];done)|(exact AV.le.rfl _)|(simp only[sL,X0,hlt,hp,hpI,e8,d9,ai,rtA,rtC,v1];done)|rfl|skip)|(refine X3 (Y4 l .sh _ hl) ?_)|(apply Vx;simp only[sb])|(refine hK _ ?_;clear hK K)|refine Vf rfl ?_|clear hK K)
 ·have hs:=hat.stop (k:=(l.getD a2 0).toNat) (by omega) (.inl (by omega));rw[k3] at hs;cases hs;repeat' (first|refine Vk fun K hK=> ?_|apply V0|((first|apply gE|apply gR);simp only[zA,simprocAttr,X0,hlt,rtA,rtC,v1])|(apply Vz;(first|refine Xp (.inr rfl) rfl rfl rfl (fun _ _=>rfl) ok82 (k:=n+0) (off:=0) rfl (Xb _ (by simp)) (X6 _ (Nat.le_refl _) 0) rfl rfl ?_|refine Xp (.inr rfl) rfl rfl rfl (fun _ _=>rfl) ok82 (k:=m+0) (off:=0) rfl (Xb _ (by simp)) (X6 _ hm 0) rfl rfl ?_)<;>first|rfl|exact AV.le.rfl _|(simp only[sL,rtA,rtC];done)|(exact AV.le.rfl _)|(simp only[sL,X0,hlt,d9,ai,rtA,rtC,v1];done)|rfl|skip)|(refine X3 (Y4 l .sh _ hl) ?_)|(apply Vx;simp only[sb])|(refine hK _ ?_;clear hK K)|refine Vf rfl ?_|clear hK K)
end Go.Proofs.YtdngdjbgmojcoaaGreat.Pln
