/- The layer of abstract values, joined. -/
import Derived.Test.YtgpdghbmiihfbaaGreatZE1
import Derived.Test.YtgpdghbmiihfbaaGreatZP5
import Derived.Test.YtgpdghbmiihfbaaGreatZVsFrz
import Derived.Test.YtgpdghbmiihfbaaGreatZVsDraw
namespace Go.Proofs.YtgpdghbmiihfbaaGreat
set_option linter.all false
set_option maxHeartbeats 1000000
open Go Go.VS Tab
def Y44 (n next:Nat):Nat:=if next<=n then next+(n - next+2) / 2*2 else next
def Y8n (b:List UInt8):BitVec 32:=Y55 (b.take 4)
def Ya0 (b:List UInt8):BitVec 32:=Y55 (b.drop 124)
def Y6r (d:Dsk) (s g:Nat):Nat->Nat
 |0=>g
 |i+1=>Y44 (Ya0 (Xkr d ((s+i:Nat):Int))).toNat (Y44 (Y8n (Xkr d ((s+i:Nat):Int))).toNat (Y6r d s g i))
theorem Y7n (n g:Nat):g<=Y44 n g:=by unfold Y44;split<;>omega
theorem Y7o (d:Dsk) (s g:Nat):∀{i j},i<=j->Y6r d s g i<=Y6r d s g j:=by
 intro i j h;induction h with
 |refl=>exact Nat.le_refl _
 |step _ ih=>exact Nat.le_trans ih (Nat.le_trans (Y7n _ _) (Y7n _ _))
def Y68 (d:Dsk) (g:BitVec 32):Nat:=Y6r d (Y3q (g+1)) (g.toNat+1) 16
def nextE (d:Dsk) (g:BitVec 32):Int:=if may d then(if 4294967295<Y68 d g then 9 else 0) else 8
def X7s (d:Dsk) (g:BitVec 32):BitVec 32:=if nextE d g=0 then BitVec.ofNat 32 (Y68 d g) else 0
theorem Yax {d:Dsk} {g:BitVec 32}:nextE d g=0↔may d=true∧Y68 d g<=4294967295:=by
 unfold nextE;cases may d
 ·simp
 ·by_cases h:4294967295<Y68 d g
  ·have h':¬Y68 d g<=4294967295:=by omega
   simp [h,h']
  ·have h':Y68 d g<=4294967295:=by omega
   simp [h,h']
theorem Y8o {d:Dsk} {g:BitVec 32} (h:nextE d g=0):(X7s d g).toNat=Y68 d g:=by
 have:=(Yax.1 h).2;unfold X7s;rw[if_pos h,da];omega
theorem Y8p {d:Dsk} {g:BitVec 32} (h:nextE d g=0):g.toNat<(X7s d g).toNat:=by
 rw[Y8o h];have:=Y7o d (Y3q (g+1)) (g.toNat+1) (ba 16);unfold Y68;exact Nat.lt_of_succ_le this
def Ks (a b:Rc):Bool:=a.gen==b.gen&&a.text==b.text
theorem Sx (a b:Rc):Ks a b=true↔a=b:=by
 unfold Ks;cases a;cases b;simp
theorem Ybk {a b:BitVec 32} (h:Y3q a≠Y3q b):a.toNat≠b.toNat:=fun e=>h (by unfold Y3q;rw[e])
theorem Y69 (a b:Rc):Y6q (some a) (some b)=if a.gen.toNat<b.gen.toNat then[b,a] else[a,b]:=rfl
theorem Y51 {d:Dsk} (hd:may d=true):Y3s d=Y6q (Y3r d 0) (Y3r d 16):=by unfold Y3s;rw[if_pos hd]
theorem Y5k {d:Dsk} (hd:may d=true) {a b:Rc} (h:Y3s d=[a,b]):b.gen.toNat<a.gen.toNat∧Y3q a.gen≠Y3q b.gen:=by
 rw[Y51 hd] at h;cases h0:Y3r d 0 with
 |none=>rw[h0] at h;cases h1:Y3r d 16<;>rw[h1] at h<;>simp [Y6q] at h
 |some x=>
  cases h1:Y3r d 16 with
  |none=>rw[h0,h1] at h;simp [Y6q] at h
  |some y=>
   rw[h0,h1] at h;have e0:=Y4g hd (.inl rfl) h0;have e1:=Y4g hd (.inr rfl) h1;have hne:=Ybk (a:=x.gen) (b:=y.gen) (by omega);rw[Y69] at h;split at h
   ·injection h with p q
    injection q with q _
    subst p;subst q;exact⟨by assumption,by omega⟩
   ·injection h with p q
    injection q with q _
    subst p;subst q;exact⟨by omega,by omega⟩
theorem Y6s {d:Dsk} {r:Rc} (h:Y4o d r=0):r∈Y3s (Y4e d r):=(Y4h (Y4b h)).2 (Y6p h)
theorem Y8q {d:Dsk} {r s:Rc} (h:Y4o d r=0) (hne:Y3q s.gen≠Y3q r.gen):s∈Y3s (Y4e d r)↔s∈Y3s d:=by
 rw[Y4h (Y4b h),Y4h (Y5h.1 h).1,Y74 h (Y4d _) hne]
theorem Ya1 {d:Dsk} (r:Rc) (h:may d=false):Y4o d r=8:=by unfold Y4o;rw[h];rfl
theorem Y8r {d:Dsk} {r:Rc} (h:Y4o d r=0) {a:Rc} {l:List Rc} (e:Y3s (Y4e d r)=a::l):a.gen=r.gen∨r.gen.toNat<a.gen.toNat∧Y3q a.gen≠Y3q r.gen:=by
 have hm:=Y6s h;rw[e] at hm;rcases bq.1 hm with h1|h1
 ·exact .inl (by rw[h1])
 ·have hl:=Y67 (Y4e d r);rw[e] at hl
  match l,h1,hl with
  |[b],h1,_=>
   have:r=b:=by simpa using h1
   subst this;obtain⟨p,q⟩:=Y5k (Y4b h) e;exact .inr ⟨p,q⟩
theorem Y5y {d t:Dsk} {s:Nat} (h:∀i,i<16->Xkr t ((s+i:Nat):Int)=Xkr d ((s+i:Nat):Int)):Y3r t s=Y3r d s:=by
 unfold Y3r
 congr 1
 unfold Y4q;exact dl fun i hi=>h i (c8.1 hi)
end Go.Proofs.YtgpdghbmiihfbaaGreat
namespace Go.Proofs.YtgpdghbmiihfbaaGreat
set_option linter.all false
set_option maxHeartbeats 8000000
set_option maxRecDepth 8000
open Go Go.VS Tab
attribute [local irreducible] AWp Xp0 Pg X5c Qy Lt Tp FdT Eb
theorem Y8s (g:BitVec 32):Xr Tryz.prog 51 [w32 g] [] (i64 (Y3q g:Nat)) []:=by
 have h1:Zr .rem .u32 (g.toNat:Int) 2=some (.int .u32 ((g.toNat % 2:Nat):Int)):=by rw[X5a _ _ (by decide)];rfl
 have h2:IntKind.i64.wrap ((g.toNat % 2:Nat):Int)=((g.toNat % 2:Nat):Int):=by rw[wrap_i64]<;>omega
 have h3:IntKind.i64.wrap (((g.toNat % 2:Nat):Int)*16)=(Y3q g:Int):=by
  unfold Y3q;rw[wrap_i64]<;>omega
 refine Xc 0 Tryz.func51 rfl fun n out _ _=> ?_;simp only[sn,Tryz.ntmps51,simprocAttr];repeat' (first|refine Vk fun K hK=> ?_|apply V0|(apply gE;simp only[zA,simprocAttr,h1,h2,h3])|(apply Vz;refine Vo rfl rfl rfl (fun _ _=>rfl) ?_<;>first|rfl|skip)|(refine hK _ ?_;clear hK K))
theorem w0:w32 0= .val (.int .u32 0):=rfl
theorem Ya2 (l:List UInt8) (md:Md) (hl:l.length<=4):Xr Tryz.prog 53 [.sl 1 (Xo l) md] [] (w32 (Y55 l)) []:=by
 refine Xc 0 Tryz.func53 rfl fun n out _ _=> ?_;simp only[sn,Tryz.ntmps53,simprocAttr];repeat' (first|refine Vk fun K hK=> ?_|apply V0|(apply gE;simp only[zA,simprocAttr,X5])|(refine hK _ ?_;clear hK K))
 apply V5;refine Xrd (l.length) (fun m i=>tp [3] (tr 7 13 [(2,w32 (Qt l i)),(6,i64 (i:Int))])) (fun m i=>[]) ?_ fun m i hm hi=> ?_
 ·refine X2 ?_ ?_ (by first|rfl|(simp only[Qt,w0];rfl)|simp only[Qt,w0]) rfl rfl rfl<;>simp only[sL,Qt,w0]
 simp only[pt];have hw:=Yl (n:=i) 1 1 rfl (by omega);by_cases hlt:i<l.length
 ·have gi:=Xqt l i hlt;have h8:=X95 (n:=i) 8 8 rfl (by omega);have hs:Zr .shl .u32 ((BitVec.ofNat 32 (l.getD i 0).toNat).toNat:Int) ((8*i:Nat):Int)=some (.int .u32 ((BitVec.ofNat 32 (l.getD i 0).toNat<<<(8*i)).toNat:Int)):=Xbl _ (by omega);repeat' (first|refine Vk fun K hK=> ?_|apply V0|apply Vb|apply Vs|(apply gE;simp only[zA,simprocAttr,X5,hlt,gi,Xd9,h8,hs,Xcq,hw])|(refine hK _ ?_;clear hK K)|refine Vt rfl ?_|clear hK K)
  refine⟨i+1,by omega,by omega,?_⟩;refine Xx [] ?_ ?_<;>intro n_<;>simp only[sM,Qt]
 ·obtain rfl:i=l.length:=by omega
  repeat' (first|refine Vk fun K hK=> ?_|apply V0|(apply gE;simp only[zA,simprocAttr,hlt])|(apply Vz;refine Vo rfl rfl rfl (fun _ _=>rfl) ?_<;>first|rfl|skip)|(apply Vx;simp only[sb])|(refine hK _ ?_;clear hK K)|refine Vf rfl ?_|clear hK K)
theorem Ybl (k:Nat) (w:BitVec 32):Xr Tryz.prog 207 [.ptr k 0] [(k,some (.box 40 [w32 w]))] (b8 (UInt8.ofNat w.toNat)) [(k,.box 40 [w32 (w>>>8)])]:=by
 have hs:Zr .shr .u32 (w.toNat:Int) 8=some (.int .u32 ((w>>>8).toNat:Int)):=Xcr w (by decide);refine Xc 0 Tryz.func207 rfl fun n out _ _=> ?_;simp only[sn,Tryz.ntmps207,simprocAttr];rename_i hneeds hgv;obtain⟨hk,_⟩:=hneeds;obtain⟨hkn,_⟩:=hgv;repeat' (first|refine Vk fun K hK=> ?_|apply V0|(apply gE;simp only[zA,simprocAttr,hk,X8 hkn,X7 hkn,Xa hkn,Y7y,hs,X0])|(apply Vz;refine Vo rfl rfl rfl (fun _ _=>rfl) ?_<;>first|rfl|skip)|(refine hK _ ?_;clear hK K))
def Y84 (w:BitVec 32) (c i:Nat):List UInt8:=(Y40 w c).take i++List.replicate (c - i) 0
theorem Ya3 (w:BitVec 32) {c i:Nat} (h:i<=c):(Y84 w c i).length=c:=by
 unfold Y84;rw[ac,aj,Y3i,d7];omega
theorem Ybm (w:BitVec 32) (c:Nat):Y84 w c 0=List.replicate c 0:=by unfold Y84;simp
theorem Ya4 (w:BitVec 32) (c:Nat):Y84 w c c=Y40 w c:=by
 unfold Y84;rw[bo (by rw[Y3i];exact Nat.le_refl _),Nat.sub_self,List.replicate_zero,b9]
theorem Y7p:∀(c:Nat) (w:BitVec 32) (i:Nat) (h:i<(Y40 w c).length),(Y40 w c)[i]=UInt8.ofNat (w>>>(8*i)).toNat
 |0,_,i,h=>by simp [Y40] at h
 |c+1,w,0,h=>by simp [Y40]
 |c+1,w,i+1,h=>by
  have:=Y7p c (w>>>8) i (by rw[Y3i];rw[Y3i] at h;omega);simp only[Y40,List.getElem_cons_succ,this];rw[<- BitVec.shiftRight_add,Nat.mul_succ,Nat.add_comm]
theorem Y8t (w:BitVec 32) {c i:Nat} (h:i<c):(Y84 w c i).set i (UInt8.ofNat (w>>>(8*i)).toNat)=Y84 w c (i+1):=by
 unfold Y84;have hl:i<(Y40 w c).length:=by rw[Y3i];exact h
 have h1:((Y40 w c).take i).length=i:=by rw[aj,Y3i];omega
 rw[d8 _ _ (by omega),h1,Nat.sub_self,show c - i=(c - (i+1))+1 by omega,List.replicate_succ,List.set_cons_zero,ai hl,Y7p,aw];rfl
theorem Xe3 (w:BitVec 32) (c:Nat) (h0:0<c) (h8:c<=8):Xr Tryz.prog 140 [w32 w,i64 (c:Int)] [] (.sl 1 (Xo (Y40 w c)) .full) []:=by
 refine Xc 2 Tryz.func140 rfl fun n out _ _=> ?_;simp only[sn,Tryz.ntmps140,simprocAttr];have hz:Y7 [Value.int .u8 0] c=(Y84 w c 0).map b8:=by
  rw[Ybm];simp only[Y7,List.length_cons,List.length_nil,Nat.zero_add,Nat.mod_one,List.map_replicate,jn,X70];rw[List.map_const',gu];rfl
 repeat' (first|refine Vk fun K hK=> ?_|refine Ve [(10,none)] ?_|with_reducible apply aa|(apply gE;simp only[zA,simprocAttr, -List.reduceReplicate,hz])|(refine hK _ ?_;clear hK K)|clear hK K)
 ·omega
 ·omega
 ·omega
 apply V5;refine Xwm (c) (fun i=>tp [7] (tr 14 8 [(5,.fn (.func 207) [.ptr (n+0) 0]),(6,.bsl (n+1) 0 c true),(12,i64 (c:Int)),(13,i64 (i:Int))])) (fun i=>[some (.box 40 [w32 (w>>>(8*i))]),some (.box 5 ((Y84 w c i).map b8))]) ?_ fun i hi=> ?_
 ·refine X2 ?_ ?_ (by first|rfl|(simp only[Nat.mul_zero,iz,fw];rfl)|simp only[Nat.mul_zero,iz,fw]) rfl rfl rfl<;>simp only[sL,Nat.mul_zero,iz]
 simp only[pt];have hw:=Yl (n:=i) 1 1 rfl (by omega);have hl:=Ya3 w hi;by_cases hlt:i<c
 ·have hs:=F7 b8 (Y84 w c i) i (UInt8.ofNat (w>>>(8*i)).toNat) (by omega);rw[Y8t w hlt] at hs;have hsh:w>>>(8*i)>>>8=w>>>(8*(i+1)):=by rw[<- BitVec.shiftRight_add,Nat.mul_succ]
  have c1:=Ybl (n+0) (w>>>(8*i));rw[hsh] at c1;repeat' (first|refine Vk fun K hK=> ?_|apply V0|apply Vb|apply Vs|with_reducible apply aa|((first|apply gE|apply gR);simp only[zA,simprocAttr, -List.reduceReplicate,hlt,hl,hs,hw])|(refine Sb c1 (X6 _ (Nat.le_refl _) 0) (Xb _ (by simp)) (by simp) ?_)|(refine hK _ ?_;clear hK K)|refine Vt rfl ?_|clear hK K)
  ·omega
  refine⟨i+1,by omega,by omega,?_⟩;refine La rfl ?_ ?_<;>simp only[sL]
 ·obtain rfl:i=c:=by omega
  refine Yy (Xa9 (i:=1) 1 (e:=5) (cs:=(Y84 w i i).map b8) rfl (by simp [hl,h0])) ?_;simp only[bg,ad,AV.frz,Xcu,Xcv,Nat.add_left_cancel_iff,reduceIte,Nat.reduceEqDiff,s_0,s_s,dn,Ya4,Xa1 _ (Y3i _ w)];repeat' (first|refine Vk fun K hK=> ?_|apply V0|(apply gE;simp only[zA,simprocAttr, -List.reduceReplicate,hlt])|(apply Vz;refine Vo rfl rfl rfl (fun _ _=>rfl) ?_<;>first|rfl|skip)|(apply Vx;simp only[sb])|(refine hK _ ?_;clear hK K)|refine Vf rfl ?_|clear hK K)
theorem Xdt (els:List (List AV)) (md:Md) (w:Int) (hw:1<=w):
  Xr Tryz.prog 143 [.sl 1 els md,i64 w] [] (.fn (.func 210) [.ref [.sl 1 els md],.ref [i64 w]]) []:=by
 refine Xc 2 Tryz.func143 rfl fun n out _ _=> ?_;simp only[sn,Tryz.ntmps143,simprocAttr];refine Vy fun K hK=> ?_;simp only[zA,simprocAttr]
 (refine hK _ ?_;clear hK K)
 refine Yy (Xa9 (i:=0) 1 (e:=22) (cs:=[.sl 1 els md]) rfl (by simp)) ?_;simp only[bg,ad,AV.frz,Xcu,Xcv,Nat.add_left_cancel_iff,reduceIte,Nat.reduceEqDiff,s_0,s_s,dn];refine Yy (Xa9 (i:=1) 1 (e:=3) (cs:=[i64 w]) rfl (by simp)) ?_;simp only[bg,ad,AV.frz,Xcu,Xcv,Nat.add_left_cancel_iff,reduceIte,Nat.reduceEqDiff,s_0,s_s,dn];have hw1:decide (w<1)=false:=aq (by omega);repeat' (first|refine Vk fun K hK=> ?_|apply V0|apply Vs|(apply gE;simp only[zA,simprocAttr,hw1])|(apply Vz;refine Vo rfl rfl rfl (fun _ _=>rfl) ?_<;>first|rfl|skip)|(refine hK _ ?_;clear hK K)|refine Vf rfl ?_)
def X7t (b:List UInt8) (w i:Nat):List UInt8:=(b.drop (w*i)).take w
theorem Ya5 (s:Nat->Option Res) {a b:Nat} (h:a≠b) (r q r' q':Res):Xw (Xw (Xw (Xw s a r) b q) a r') b q'=Xw (Xw s a r') b q':=by
 funext j;unfold Xw;by_cases h1:j=b
 ·simp [h1]
 ·by_cases h2:j=a
  ·simp [h2]
  ·simp [h1,h2]
theorem Xd4 (l kl ka kb:Nat) (na:kl≠ka) (nb:kl≠kb) (nab:ka≠kb) (P0:Res) (hP:P0≠ .dead) (A B:Nat->Res) (hA:∀i,A i≠ .dead) (hB:∀i,B i≠ .dead) (b:List UInt8) (md:Md) (hb:b.length<=1000000) (w cnt:Nat) (hw1:1<=w) (hw2:w<=1000000)
  (hcnt:b.length<=w*cnt) (hcnt2:∀i,i<cnt->w*i<b.length)
  (hy:∀i,i<cnt->X6t Tryz.prog l [.sl 1 (Xo (X7t b w i)) .full] [(kl,some P0),(ka,some (A i)),(kb,some (B i))] (.val (.bool true)) [(ka,A (i+1)),(kb,B (i+1))]):
  Xr Tryz.prog 210 [.fn (.yield l) [],.ref [.sl 1 (Xo b) md],.ref [i64 (w:Int)]] [(kl,some P0),(ka,some (A 0)),(kb,some (B 0))] (.tup []) [(ka,A cnt),(kb,B cnt)]:=by
 refine Kz 0 Tryz.func210 rfl fun n out _ _ _=> ?_;simp only[sn,Tryz.ntmps210,simprocAttr];rename_i hneeds hg hz;obtain⟨hkl,hka,hkb,_⟩:=hneeds;obtain⟨hkan,hkbn,_⟩:=hg;have hkln:kl<n:=by
  rcases Nat.lt_or_ge kl n with h|h
  ·exact h
  ·rw[hz kl h] at hkl;cases hkl
 have h00:Xw (Xw out ka (A 0)) kb (B 0)=out:=by rw[Qb hka,Qb hkb]
 refine Vy fun K hK=> ?_;simp only[zA,simprocAttr]
 (refine hK _ ?_;clear hK K)
 apply V5;refine Xl (fun m (c:Nat)=>tr 5 26 [(4,i64 ((w*c:Nat):Int))]) (fun m c=>[]) (fun c=>Xw (Xw out ka (A c)) kb (B c)) (fun c=>c<=cnt) (fun c=>cnt - c) 0 (ba _) ?_ fun m c hm hc=> ?_
 ·refine X2 ?_ ?_ (by first|rfl|(simp only[h00];rfl)|simp only[h00]) rfl rfl rfl<;>simp only[sL,Nat.mul_zero]
 simp only[pt];by_cases hcc:c<cnt
 ·have h1:=hcnt2 c hcc;have h1':((w*c:Nat):Int)<(b.length:Int):=by omega
  obtain⟨q,hq⟩:∃q,q=min w (b.length - w*c):=⟨_,rfl⟩
  have e1:(List.take (b.length - w*c) (List.drop (w*c) b)).length=b.length - w*c:=by simp
  have e2:(if b.length - w*c<w then((b.length - w*c:Nat):Int) else(w:Int))=(q:Int):=by rw[hq];split<;>omega
  have e3:(b.drop (w*c)).take q=X7t b w c:=by
   rw[hq,X7t];apply dw;intro i;simp only[List.getElem?_take,cb];by_cases h:i<min w (b.length - w*c)
   ·rw[if_pos h,if_pos (by omega)]
   ·rw[if_neg h];split
    ·rw[dz (by omega)]
    ·rfl
  have e4:w*c<=w*c+q:=by omega
  have e5:w*c+q<=b.length:=by omega
  repeat' (first|refine Vk fun K hK=> ?_|apply V0|apply Vb|apply Vs|refine Vq (by kernel_rfl) ?_|(apply gE;simp only[zA,simprocAttr,X5,h1',P6,Nh,Nat.le_of_lt h1,e1,e2,Yl (n:=w*c) (q:Int) q rfl (by omega),e4,e5,Nat.add_sub_cancel_left,Q1,Q2,e3])|(refine hK _ ?_;clear hK K)|refine Vt rfl ?_)
  refine X6i (hy c hcc) ⟨?_,?_,?_,trivial⟩ ⟨?_,?_,trivial⟩ ?_ ?_
  ·rw[X8 hkln,Zp _ _ nb,Zp _ _ na];exact hkl
  ·rw[X8 hkan,Zp _ _ nab];exact Xt _ _ _
  ·rw[X8 hkbn];exact Xt _ _ _
  ·rw[X7 hkan];trivial
  ·rw[X7 hkbn];trivial
  ·intro x hx;simp only[bq,bv,or_false] at hx;rcases hx with rfl|rfl|rfl
   ·exact⟨by rw[X7 hkln];trivial,by simpa using hP⟩
   ·exact⟨by rw[X7 hkan];trivial,by simpa using hA c⟩
   ·exact⟨by rw[X7 hkbn];trivial,by simpa using hB c⟩
  have e6:IntKind.i64.wrap (((w*c:Nat):Int)+(w:Int))=((w*(c+1):Nat):Int):=by rw[Nat.mul_succ,wrap_i64]<;>omega
  simp only[zA,simprocAttr,Xa hkan,Xa hkbn,Ya5 out nab]
  (refine hK _ ?_;clear hK K)
  repeat' (first|apply V0|apply Vs|(apply gE;simp only[zA,simprocAttr,e6])|(refine hK _ ?_;clear hK K)|refine Vf rfl ?_)
  refine⟨c+1,by omega,by omega,?_⟩;refine Xx [] ?_ ?_<;>intro n_<;>simp only[sM]
 ·obtain rfl:c=cnt:=by omega
  have h1':¬((w*c:Nat):Int)<(b.length:Int):=by omega
  repeat' (first|refine Vk fun K hK=> ?_|apply V0|(apply gE;simp only[zA,simprocAttr,X5,h1'])|(apply Vx;simp only[sb])|(refine hK _ ?_;clear hK K)|refine Vf rfl ?_|clear hK K)
  exact Xy (.inl rfl) rfl rfl rfl (fun _ _=>rfl)
theorem Ybn (w:BitVec 32):Xr Tryz.prog 301 [w32 w] [] (w32 (Yar w)) []:=by
 obtain⟨a,ha⟩:∃a:BitVec 32,a=w&&&1:=⟨_,rfl⟩
 have h1:Zr .and .u32 (w.toNat:Int) 1=some (.int .u32 (a.toNat:Int)):=by rw[ha];exact Xbk w 1
 have h2:Zr .shr .u32 (w.toNat:Int) 1=some (.int .u32 ((w>>>1).toNat:Int)):=Xcr w (by decide);have h3:Zr .xor .u32 ((w>>>1).toNat:Int) 3988292384=some (.int .u32 (((w>>>1) ^^^ 0xedb88320).toNat:Int)):=Xac (w>>>1) 0xedb88320;unfold Yar;by_cases h:w&&&1=1
 ·rw[if_pos h];have h4:((a.toNat:Int)==1)=true:=by rw[ha,h];rfl
  refine Xc 0 Tryz.func301 rfl fun n out _ _=> ?_;simp only[sn,Tryz.ntmps301,simprocAttr];repeat' (first|refine Vk fun K hK=> ?_|apply V0|(apply gE;simp only[zA,simprocAttr,h1,h2,h3,h4])|(apply Vz;refine Vo rfl rfl rfl (fun _ _=>rfl) ?_<;>first|rfl|skip)|(refine hK _ ?_;clear hK K)|refine Vt rfl ?_)
 ·rw[if_neg h];have h4:((a.toNat:Int)==1)=false:=by
   rw[fg,ha];exact fun e=>h (jc (by have e:(1:BitVec 32).toNat=1:=rfl;omega))
  refine Xc 0 Tryz.func301 rfl fun n out _ _=> ?_;simp only[sn,Tryz.ntmps301,simprocAttr];repeat' (first|refine Vk fun K hK=> ?_|apply V0|apply Vs|(apply gE;simp only[zA,simprocAttr,h1,h2,h4])|(apply Vz;refine Vo rfl rfl rfl (fun _ _=>rfl) ?_<;>first|rfl|skip)|(refine hK _ ?_;clear hK K)|refine Vf rfl ?_)
def Y75 (i:Nat):List (BitVec 32):=(List.range i).map Yas++List.replicate (256 - i) 0
theorem Y7q {i:Nat} (h:i<=256):(Y75 i).length=256:=by
 unfold Y75;simp only[ac,af,gu,d7];omega
theorem Y8u {i:Nat} (h:i<256):(Y75 i).set i (Yas i)=Y75 (i+1):=by
 unfold Y75;rw[d8 _ _ (by simp),af,gu,Nat.sub_self,show 256 - i=(256 - (i+1))+1 by omega,List.replicate_succ,List.set_cons_zero,List.range_succ,cu,aw];rfl
theorem Ya6 {k:Nat} (h:k<256):(Y75 256).getD k 0=Yas k:=by
 unfold Y75;simp [ah,h]
theorem Y8v:(Y75 0).map w32=List.replicate 256 (.val (.int .u32 0)):=by
 unfold Y75;simp [w0]
theorem Yay:Xr Tryz.prog 248 [] [] (.agg ((Y75 256).map w32)) []:=by
 refine Xc 2 Tryz.func248 rfl fun n out _ _=> ?_;simp only[sn,Tryz.ntmps248,simprocAttr];repeat' (first|refine Vk fun K hK=> ?_|apply V0|(apply gE;simp only[zA,simprocAttr, -List.reduceReplicate])|(refine hK _ ?_;clear hK K))
 apply V5;refine Xwm (256) (fun i=>tp [3,4] (tr 6 14 [(5,i64 (i:Int))])) (fun i=>[some (.box 330 (List.replicate 256 (.val (.int .u32 0)))),some (.box 330 ((Y75 i).map w32))]) ?_ fun i hi=> ?_
 ·refine X2 ?_ ?_ (by first|rfl|(simp only[Y8v];rfl)|simp only[Y8v]) rfl rfl rfl<;>simp only[sL,Y8v]
 simp only[pt];have hw:=Yl (n:=i) 1 1 rfl (by omega);have hl:=Y7q hi;by_cases hlt:i<256
 ·have hc:IntKind.u32.wrap (i:Int)=((BitVec.ofNat 32 i).toNat:Int):=by rw[Xar,da];omega
  have hlt':(i:Int)<256:=by omega
  have hs:=F7 w32 (Y75 i) i (Yas i) (by omega);rw[Y8u hlt] at hs;repeat' (first|refine Vk fun K hK=> ?_|apply V0|apply Vb|apply Vs|(apply gE;simp only[zA,simprocAttr, -List.reduceReplicate,hlt',hc])|(refine hK _ ?_;clear hK K)|refine Vt rfl ?_)
  apply V5;refine Xwm (8) (fun j=>tr 11 5 [(5,i64 (i:Int)),(3,i64 (i:Int)),(4,w32 (Y4p (BitVec.ofNat 32 i) j)),(10,i64 (j:Int))]) (fun j=>[some (.box 330 (List.replicate 256 (.val (.int .u32 0)))),some (.box 330 ((Y75 i).map w32))]) ?_ fun j hj=> ?_
  ·refine X2 ?_ ?_ (by first|rfl|(simp only[Y4p];rfl)|simp only[Y4p]) rfl rfl rfl<;>simp only[sL,Y4p]
  simp only[pt];have hwj:=Yl (n:=j) 1 1 rfl (by omega);by_cases hj8:j<8
  ·have hj8':(j:Int)<8:=by omega
   have cs:=Ybn (Y4p (BitVec.ofNat 32 i) j);repeat' (first|refine Vk fun K hK=> ?_|apply V0|apply Vr|apply Vs|((first|apply gE|apply gR);simp only[zA,simprocAttr, -List.reduceReplicate,hj8',hwj])|(refine X3 (cs) ?_)|(refine hK _ ?_;clear hK K)|refine Vt rfl ?_|clear hK K)
   refine⟨j+1,by omega,by omega,?_⟩;refine La rfl ?_ ?_<;>simp only[sL,Y4p]
  ·obtain rfl:j=8:=by omega
   have ht:Y4p (BitVec.ofNat 32 i) 8=Yas i:=rfl;rw[ht];repeat' (first|refine Vk fun K hK=> ?_|apply V0|with_reducible apply aa|(apply gE;simp only[zA,simprocAttr, -List.reduceReplicate,hlt',hl,hs,hw])|(apply Vx;simp only[sb,Nat.reduceEqDiff])|(refine hK _ ?_;clear hK K)|refine Vf rfl ?_|clear hK K)
   ·omega
   refine⟨i+1,by omega,by omega,?_⟩;refine La rfl ?_ ?_<;>simp only[sL]
 ·obtain rfl:i=256:=by omega
  repeat' (first|refine Vk fun K hK=> ?_|apply V0|(apply gE;simp only[zA,simprocAttr, -List.reduceReplicate,hl,X0,E6])|(apply Vz;(first|refine Xu (.inr rfl) rfl rfl rfl (fun _ _=>rfl) ok330 (k:=n+0) (off:=0) rfl (Xb _ (by simp)) (X6 _ (Nat.le_refl _) 0) rfl ?_|refine Xu (.inr rfl) rfl rfl rfl (fun _ _=>rfl) ok330 (k:=m+0) (off:=0) rfl (Xb _ (by simp)) (X6 _ hm 0) rfl ?_)<;>first|rfl|exact AV.le.rfl _|(simp only[sL,ti330,ad,af,hl,X0,E6];done)|rfl|skip)|(apply Vx;simp only[sb])|(refine hK _ ?_;clear hK K)|refine Vf rfl ?_|clear hK K)
theorem Ybo (s:BitVec 32) (l:List UInt8) (md:Md) (hl:l.length<=1000000):Xr Tryz.prog 208 [w32 s,.sl 1 (Xo l) md] [] (w32 (~~~ Y9k (~~~ s) l l.length)) []:=by
 have ht:=Y7q (Nat.le_refl 256);refine Xc 1 Tryz.func208 rfl fun n out _ _=> ?_;simp only[sn,Tryz.ntmps208,simprocAttr];repeat' (first|refine Vk fun K hK=> ?_|apply V0|((first|apply gE|apply gR);simp only[zA,simprocAttr, -List.reduceReplicate,Xdw,X5,X0,ht])|(refine X3 (Yay) ?_)|(refine hK _ ?_;clear hK K))
 apply V5;refine Xwm (l.length) (fun i=>tp [8] (tr 15 13 [(6,w32 (Y9k (~~~ s) l i)),(14,i64 (i:Int))])) (fun i=>[some (.box 330 ((Y75 256).map w32))]) ?_ fun i hi=> ?_
 ·refine X2 ?_ ?_ (by first|rfl|(simp only[Y9k,Xdw];rfl)|simp only[Y9k,Xdw]) rfl rfl rfl<;>simp only[sL,Y9k]
 simp only[pt];have hw:=Yl (n:=i) 1 1 rfl (by omega);by_cases hlt:i<l.length
 ·have gi:=Xqt l i hlt;obtain⟨W,hW⟩:∃W,W=Y9k (~~~ s) l i:=⟨_,rfl⟩
  have hS:Y9k (~~~ s) l (i+1)=(W>>>8) ^^^ Yas (UInt8.ofNat W.toNat ^^^ l.getD i 0).toNat:=by rw[hW];rfl
  rw[<- hW];have h1:Zr .shr .u32 (W.toNat:Int) 8=some (.int .u32 ((W>>>8).toNat:Int)):=Xcr W (by decide);have hx:(UInt8.ofNat W.toNat ^^^ l.getD i 0).toNat<256:=jr _;have hx':((UInt8.ofNat W.toNat ^^^ l.getD i 0).toNat:Int)<256:=by omega
  have hp:=X0z 1 w32 (Y75 256) (UInt8.ofNat W.toNat ^^^ l.getD i 0).toNat 0 (by omega);rw[Ya6 hx] at hp;repeat' (first|refine Vk fun K hK=> ?_|apply V0|apply Vb|apply Vs|(apply gE;simp only[zA,simprocAttr, -List.reduceReplicate,X5,hlt,gi,h1,Y7y,Xc6,hx',hp,Xac,hw])|(refine hK _ ?_;clear hK K)|refine Vt rfl ?_|clear hK K)
  rw[<- hS];refine⟨i+1,by omega,by omega,?_⟩;refine La rfl ?_ ?_<;>simp only[sL]
 ·obtain rfl:i=l.length:=by omega
  repeat' (first|refine Vk fun K hK=> ?_|apply V0|(apply gE;simp only[zA,simprocAttr, -List.reduceReplicate,hlt,Xdw])|(apply Vz;refine Vo rfl rfl rfl (fun _ _=>rfl) ?_<;>first|rfl|skip)|(apply Vx;simp only[sb])|(refine hK _ ?_;clear hK K)|refine Vf rfl ?_|clear hK K)
theorem Yc0 (l:List UInt8) (md:Md) (hl:l.length<=1000000):Xr Tryz.prog 141 [.sl 1 (Xo l) md] [] (w32 (Ybj l)) []:=by
 have c:=Ybo 0 l md hl;rw[w0] at c;refine Xc 0 Tryz.func141 rfl fun n out _ _=> ?_;simp only[sn,Tryz.ntmps141,simprocAttr];repeat' (first|refine Vk fun K hK=> ?_|apply V0|((first|apply gE|apply gR);simp only[zA,simprocAttr])|(apply Vz;refine Vo rfl rfl rfl (fun _ _=>rfl) ?_<;>first|rfl|skip)|(refine X3 (c) ?_)|(refine hK _ ?_;clear hK K))
def rcC (r:Rc):List AV:=[w32 r.gen,bs r.text]
def rcA (r:Rc):AV:= .agg (rcC r)
theorem Y8w (r:Rc) (i:Nat):Y5e r i=X7t (Y4a r) 118 i++List.replicate (118 - (X7t (Y4a r) 118 i).length) 0∨Y3n r<=i:=by
 by_cases h:i<Y3n r
 ·left
  have hl:=Y73 r h;unfold Y5e X7t;rw[ic (by omega),ip,aj,bu]
  congr 1
  rw[List.take_replicate]
  congr 1
  omega
 ·exact .inr (by omega)
theorem Y5l (l q:List UInt8) (o:Nat) (h:o+q.length<=l.length):Yf (l.map b8) o (q.map b8)=(l.take o++q++l.drop (o+q.length)).map b8:=by
 unfold Yf;simp only[cu,iu,List.map_drop,af,aw]
def Yaz (r:Rc):List UInt8:=Y40 r.gen 4++List.replicate 124 0
def Ybd (r:Rc) (i:Nat):List UInt8:=Y40 r.gen 4++UInt8.ofNat i::UInt8.ofNat (Y3n r)::List.replicate 122 0
def Ybe (r:Rc) (i:Nat):List UInt8:=Y40 r.gen 4++UInt8.ofNat i::UInt8.ofNat (Y3n r)::(Y5e r i++List.replicate 4 0)
theorem Y76 (r:Rc):Yf (List.replicate 128 (.val (.int .u8 0))) 0 ((Y40 r.gen 4).map b8)=(Yaz r).map b8:=by
 have e:List.replicate 128 (AV.val (.int .u8 0))=(List.replicate 128 (0:UInt8)).map b8:=by rw[List.map_replicate];rfl
 rw[e,Y5l _ _ _ (by rw[Y3i,d7];decide),Y3i];rfl
theorem Ya7 (r:Rc):(Yaz r).length=128:=by unfold Yaz;rw[ac,Y3i,d7]
theorem Y7r (r:Rc) (i:Nat):(Ybd r i).length=128:=by unfold Ybd;simp [Y3i]
theorem Ya8 (r:Rc) (i:Nat):((Yaz r).set 4 (UInt8.ofNat i)).set 5 (UInt8.ofNat (Y3n r))=Ybd r i:=by
 unfold Yaz Ybd;rw[d8 _ _ (by rw[Y3i];exact Nat.le_refl _),d8 _ _ (by rw[Y3i];decide),Y3i];rfl
theorem Y77 (r:Rc) {i:Nat} (h:i<Y3n r):Yf ((Ybd r i).map b8) 6 ((X7t (Y4a r) 118 i).map b8)=(Ybe r i).map b8:=by
 have hp:=(Y8w r i).resolve_right (by omega);have hl:(X7t (Y4a r) 118 i).length<=118:=by unfold X7t;rw[aj];omega
 rw[Y5l _ _ _ (by rw[Y7r];omega)];unfold Ybe;rw[hp];generalize X7t (Y4a r) 118 i=q at hl;unfold Ybd;have e1:(Y40 r.gen 4++UInt8.ofNat i::UInt8.ofNat (Y3n r)::List.replicate 122 0).take 6=Y40 r.gen 4++[UInt8.ofNat i,UInt8.ofNat (Y3n r)]:=by
  rw[ip,bo (by rw[Y3i];decide),Y3i];rfl
 have e2:(Y40 r.gen 4++UInt8.ofNat i::UInt8.ofNat (Y3n r)::List.replicate 122 0).drop (6+q.length)=List.replicate (122 - q.length) 0:=by
  rw[List.drop_append,dm (by rw[Y3i];omega),Y3i,show 6+q.length - 4=q.length+1+1 by omega,fp,fp,List.drop_replicate];rfl
 rw[e1,e2,show 122 - q.length=(118 - q.length)+4 by omega,<- List.replicate_append_replicate];simp
theorem Y6a (r:Rc) {i:Nat} (h:i<Y3n r):(Ybe r i).length=128:=by unfold Ybe;simp [Y3i,Y56 r h]
theorem Y78 (r:Rc) {i:Nat} (h:i<Y3n r):Yf ((Ybe r i).map b8) 124 ((Y40 r.gen 4).map b8)=(Xgh r i).map b8:=by
 rw[Y5l _ _ _ (by rw[Y6a r h,Y3i];decide),Y3i,dm (by rw[Y6a r h];decide),b9]
 congr 1
 unfold Ybe Xgh;rw[ip,bo (by rw[Y3i];decide),Y3i,aw]
 congr 1
 show(UInt8.ofNat i::UInt8.ofNat (Y3n r)::(Y5e r i++List.replicate 4 0)).take 120++ _= _
 rw[List.take_succ_cons,List.take_succ_cons,gg (Y56 r h)];rfl
theorem Ya9 {k sz:Nat} {cs:List AV} {sz':Nat} {L:List (List AV)} {a b:List AV} {md:Md} (h:fzL k sz cs a b):FzM k sz cs (.sl sz' (L++[a]) md) (.sl sz' (L++[b]) md):=
 .inr ⟨sz',_,_,md,rfl,rfl,by simp,fun p r r' hr hr'=>by
  rcases Nat.lt_or_ge p L.length with hp|hp
  ·rw[ap hp] at hr hr';rw[hr] at hr';injection hr' with e
   rw[e];exact Xjc _
  ·rw[ao hp] at hr hr'
   match hq:p - L.length,hr,hr' with
   |0,hr,hr'=>
    simp only[List.getElem?_cons_zero,ax] at hr hr';subst hr;subst hr';exact h
   |q+1,hr,_=>simp at hr⟩
theorem Ybp {fr:List AV} {lo:List (Option Res)} {out:Nat->Option Res} {n:Nat} {df:List Deferred} (i j:Nat) (r q:Res):AState.give ⟨fr,lo,out,n,n,df⟩ [(n+i,r),(n+j,q)]=⟨fr,(lo.set i (some r)).set j (some q),out,n,n,df⟩:=by
 have h:¬n+i<n:=by omega
 have h':¬n+j<n:=by omega
 simp [AState.give,h,h']
theorem Ej {P:Program} {c:Code} {Q:Exit->AState->Prop} {σ:AState} (lE:List (Nat×AV)) (loE:List (Option Res)) (h1:σ.le {σ with fr:=X4 σ.fr lE,lo:=loE}) (h:Cv P c Q {σ with fr:=X4 σ.fr lE,lo:=loE}):Cv P c Q σ:=Jl h1 h
theorem Y6t (r:Rc) (hl:r.text.length<=10000):Xr Tryz.prog 81 [rcA r] [] (.sl 1 ((Y3v r).map secC) .sh) []:=by
 have hal:=Y4y r;have htl:(Bm r).length=2+r.text.length:=by unfold Bm;rw[ac,Y3i]
 have hgl:=Y3i 4 r.gen;have hcl:=Y3i 4 (Ybj (Y40 r.gen 4++Bm r));have h2l:=Y3i 2 (BitVec.ofNat 32 r.text.length);have hconv:IntKind.u32.wrap (r.text.length:Int)=((BitVec.ofNat 32 r.text.length).toNat:Int):=by rw[Xar,da];omega
 refine Ph 8 Tryz.func81 rfl fun n out _ _=> ?_;simp only[sn,Tryz.ntmps81,simprocAttr];refine V4 fun K hK=>AWp.zero (Xn Xj [] ?_);simp only[zA,simprocAttr, -List.reduceReplicate,rcA,rcC]
 (refine hK _ ?_;clear hK K)
 refine Jl (Zi (i:=0) (t:=1) 1 (.ref [w32 r.gen,bs r.text]) rfl rfl (.ptr 0)) ?_;simp only[s_0,s_s];refine Jl (Q9 (i:=6) 22 1 rfl) ?_;simp only[s_0,s_s];refine V4 fun K hK=>AWp.zero (Xn Xj [] ?_);simp only[zA,simprocAttr, -List.reduceReplicate]
 skip
 refine X3 (Xe3 r.gen 4 (by decide) (by decide)) ?_;simp only[zA,simprocAttr, -List.reduceReplicate]
 (refine hK _ ?_;clear hK K)
 refine Jl (Zi (i:=2) (t:=3) 1 (.ref [.sl 1 (Xo (Y40 r.gen 4)) .full]) rfl rfl (.ptr 0)) ?_;simp only[s_0,s_s];refine V4 fun K hK=>AWp.zero (Xqf Xj follows (by kernel_rfl) ?_);simp only[zA,simprocAttr, -List.reduceReplicate,X5,hconv];refine X3 (Xe3 (BitVec.ofNat 32 r.text.length) 2 (by decide) (by decide)) ?_;simp only[zA,simprocAttr, -List.reduceReplicate,X5,h2l,L6,show Y40 (BitVec.ofNat 32 r.text.length) 2++r.text=Bm r from rfl];repeat' (first|(refine hK _ ?_;clear hK K)|with_reducible apply aa)
 ·omega
 ·omega
 obtain⟨MT,hMT⟩:∃MT,MT=(if (Xo r.text).isEmpty=true then Md.full else Md.sh):=⟨_,rfl⟩
 rw[<- hMT];have lit:∀(σ:AState) (K:AV->List (Nat×Res)->Prop),X1 tab σ K none 36 2 [(0,.sl 1 (Xo (Y40 r.gen 4)) .full),(1,.sl 1 (Xo (Bm r)) MT)]=K (.sl 1 [[.sl 1 (Xo (Y40 r.gen 4)) .full],[.sl 1 (Xo (Bm r)) MT]] .full) []:=fun σ K=>Te (T:=tab) (ti:=ti36) (te:=ti22) rfl rfl rfl rfl rfl rfl;refine V4 fun K hK=>AWp.zero (Xn Xj [] ?_);simp only[zB,simprocAttr, -List.reduceReplicate,lit]
 skip
 refine Sb (Xbg (n+7) (Xo (Y40 r.gen 4)) (Xo (Bm r)) .full .full MT (by rw[X5,X5];omega)) (X6 _ (Nat.le_refl _) 7) (Xb _ (by simp)) (by simp) ?_;rw[L6];simp only[zA,simprocAttr, -List.reduceReplicate]
 skip
 refine X3 (Yc0 (Y40 r.gen 4++Bm r) _ (by rw[ac];omega)) ?_;simp only[zA,simprocAttr, -List.reduceReplicate]
 skip
 refine X3 (Xe3 (Ybj (Y40 r.gen 4++Bm r)) 4 (by decide) (by decide)) ?_;have hne:(Xo (Bm r)).isEmpty=false:=by
  cases h:Bm r with
  |nil=>rw[h] at htl;simp at htl;omega
  |cons x l=>rfl
 simp only[zA,simprocAttr, -List.reduceReplicate,X5,hcl,htl,hne,L6,show Y40 (Ybj (Y40 r.gen 4++Bm r)) 4++Bm r=Y4a r from rfl];repeat' (first|(refine hK _ ?_;clear hK K)|with_reducible apply aa)
 ·omega
 ·omega
 have hq:Zr .quo .i64 (((Y4a r).length+118 - 1:Nat):Int) 118=some (.int .i64 ((Y3n r:Nat):Int)):=by
  have e:((((Y4a r).length+118 - 1:Nat):Int)).tdiv 118=((Y3n r:Nat):Int):=rfl;have hm:Y3n r<=100:=by unfold Y3n;omega
  rw[X7l _ _ (by decide),e,wrap_i64 (by omega) (by omega)]
 have hq2:Zr .quo .i64 (((Y4a r).length+117:Nat):Int) 118=some (.int .i64 ((Y3n r:Nat):Int)):=hq;have hw1:=Yl (n:=(Y4a r).length) 118 118 rfl (by omega);have hw2:=X25 (n:=(Y4a r).length+118) 1 1 rfl (by omega) (by omega);refine V4 fun K hK=>AWp.zero (Xn Xj [] ?_);simp only[zA,simprocAttr, -List.reduceReplicate,X5,hw1,hw2,hq2]
 (refine hK _ ?_;clear hK K)
 refine Jl (Zi (i:=3) (t:=6) 1 (.ref [i64 (Y3n r:Nat)]) rfl rfl (.ptr 0)) ?_;simp only[s_0,s_s];refine V4 fun KB hKB=> ?_;refine V4 fun K hK=>AWp.zero (Xn Xj [] ?_);simp only[zA,simprocAttr, -List.reduceReplicate]
 skip
 refine X3 (Xdt (Xo (Y4a r)) _ 118 (by decide)) ?_;simp only[zA,simprocAttr, -List.reduceReplicate]
 (refine hK _ ?_;clear hK K)
 refine Ej [] [some .dead,some (.box 36 [.sl 1 [] (.own (n+6))]),some .dead,some .dead,none,none,some (.row 22 1 0),some (.row 5 1 ((Y40 r.gen 4).length+(2+r.text.length)))] ?_ ?_
 ·refine La rfl ?_ ?_<;>simp only[sL]
 simp only[pt];refine Fp (Fq (r:= .tup []) (gf:=210) (caps:=[.ref [.sl 1 (Xo (Y4a r)) .sh],.ref [i64 118]]) 4 5 Tryz.func210 (by kernel_rfl) (by kernel_rfl) rfl (by decide) rfl rfl ?_);intro D lp rec F hF h1 h2 h3 h4 h5;refine⟨_,_,Xd4 lp (n+5) (n+1) (n+6) (by omega) (by omega) (by omega) (.pin lp (.loop rec) F) (by simp) (fun i=> .box 36 [.sl 1 (((List.range i).map (Xgh r)).map secC) (.own (n+6))]) (fun i=> .row 22 1 i) (by simp) (by simp) (Y4a r) .sh (by omega) 118 (Y3n r) (by decide) (by decide) (Y5u r) (fun i h=>Y73 r h)
  (fun i hi=>Y4c (fr:=F) (fr1:=(F.set 35 (.sl 1 (Xo (X7t (Y4a r) 118 i)) .full)).set 7 (.sl 1 (Xo (X7t (Y4a r) 118 i)) .full)) (ps:=[35]) 1 h1 h2 h3 h4 h5 rfl (by simp) (by simp) ?_ ?_),?_,?_,?_,?_,?_⟩
 ·intro n' out';subst hF;simp only[List.zip_cons_cons,List.zip_nil_left,iw,setAll,s_0,s_s];refine Xn Xj [] ?_;simp only[zA,simprocAttr, -List.reduceReplicate]
 ·intro n' out' hh hg;obtain⟨hka,hkb,_⟩:=hh;obtain⟨hkan,hkbn,_⟩:=hg;have hoN:[n+1,n+6].Nodup:=by simp
  have hoL:∀k,k∈[n+1,n+6]->k<n':=fun k hk=>by
   simp only[bq,bv,or_false] at hk;rcases hk with rfl|rfl
   ·exact hkan
   ·exact hkbn
  apply V5;subst hF;simp only[List.replicate,s_0,s_s];refine Vy fun K hK=> ?_;simp only[zA,simprocAttr, -List.reduceReplicate]
  (refine hK _ ?_;clear hK K)
  have t4:List.take 128 (Y40 r.gen 4)=Y40 r.gen 4:=bo (by rw[hgl];decide);have hk1:=Ya7 r;have hk2:=Y7r r i;have hk3:=Y6a r hi;have hpl:(X7t (Y4a r) 118 i).length<=118:=by unfold X7t;rw[aj];omega
  have hm100:Y3n r<=100:=by unfold Y3n;omega
  refine Vk fun K hK=>Ny Xj [] [[],[],[0]] [[],[],[0]] follows (by kernel_rfl) (by decide) (by decide) (by kernel_rfl) ?_;simp only[zA,simprocAttr, -List.reduceReplicate,P6,Nh,X5,hgl,Nat.reduceSub,Q2,Xa7,t4,Y76 r];repeat' (first|(refine hK _ ?_;clear hK K)|with_reducible apply aa)
  all_goals try decide
  have hc1:IntKind.u8.wrap (i:Int)=((UInt8.ofNat i).toNat:Int):=by rw[X1n,dr];omega
  have hc2:IntKind.u8.wrap ((Y3n r:Nat):Int)=((UInt8.ofNat (Y3n r)).toNat:Int):=by rw[X1n,dr];omega
  have hs1:=F7 b8 (Yaz r) 4 (UInt8.ofNat i) (by omega);have hs2:=F7 b8 ((Yaz r).set 4 (UInt8.ofNat i)) 5 (UInt8.ofNat (Y3n r)) (by rw[List.length_set];omega);rw[Ya8] at hs2;refine Vk fun K hK=>Xik Xj [] [n+1,n+6] [[100],[],[],[],[],[],[0],[],[0]] [[],[],[],[],[],[],[0],[],[0]] hoN hoL follows (by kernel_rfl) (by decide) (by decide) (by kernel_rfl) ?_;simp only[zA,simprocAttr, -List.reduceReplicate,so,X8 hkan,X7 hkan,hka,gu,hc1,hc2,hs1,hs2,hk1,List.length_set,Int.reduceToNat]
  (refine hK _ ?_;clear hK K)
  all_goals try decide
  have hs3:=Y77 r hi;have hs4:=Y78 r hi;have tp:List.take 122 (X7t (Y4a r) 118 i)=X7t (Y4a r) 118 i:=bo (by omega);have t4':List.take 4 (Y40 r.gen 4)=Y40 r.gen 4:=bo (by rw[hgl];decide);refine Vy fun K hK=> ?_;simp only[zA,simprocAttr, -List.reduceReplicate,P6,Nh,X5,hk2,Nat.reduceSub,Int.reduceToNat,Q2,Xa7,tp,hs3,Nat.min_eq_left (Nat.le_trans hpl (by decide:118<=122))];repeat' (first|(refine hK _ ?_;clear hK K)|with_reducible apply aa)
  all_goals try omega
  refine Vk fun K hK=>Ny Xj [] [[],[],[0]] [[],[],[0]] follows (by kernel_rfl) (by decide) (by decide) (by kernel_rfl) ?_;simp only[zA,simprocAttr, -List.reduceReplicate,P6,Nh,X5,hgl,hk3,Nat.reduceSub,Int.reduceToNat,Q2,Xa7,t4',hs4];repeat' (first|(refine hK _ ?_;clear hK K)|with_reducible apply aa)
  all_goals try decide
  have B6:∀(σ:AState) (K:AV->List (Nat×Res)->Prop) (k o l:Nat) (fl:Bool),X1 tab σ K none 36 1 [(0,.bsl k o l fl)]=K (.sl 1 [[.bsl k o l fl]] .full) []:=fun σ K k o l fl=>Yk (T:=tab) (ti:=ti36) (te:=ti22) rfl rfl rfl (by decide) (by decide) rfl rfl;have hne:(n+6=n+1)=False:=dc (by omega);have y1:(i+1)*24<=140737488355328:=by omega
  have y2:i+1<=9223372036854775807:=by omega
  have hk6:∀q,Xw out' (n+6) q (n+1)=some (.box 36 [.sl 1 (((List.range i).map (Xgh r)).map secC) (.own (n+6))]):=fun q=>by
   rw[Zp _ _ (by omega)];exact hka
  refine Y9i ?_;refine Xik Xj [] [n+1,n+6] [[100],[],[],[101],[100]] [[],[],[],[101],[100]] hoN hoL follows (by kernel_rfl) (by decide) (by decide) (by kernel_rfl) ?_;simp only[zB,simprocAttr, -List.reduceReplicate,so,X8 hkan,X7 hkan,hka,X8 hkbn,X7 hkbn,hkb,Xa hkan,Xa hkbn,gu,hne,B6,y1,y2,P6,Nh,hk6,X0,Nat.sub_zero];refine⟨_,Y72 (i:=0) (k:=n+1) 1 [] (lo1:=[some (.box 205 ((Xgh r i).map b8))]) rfl (Xt _ _ _) (Xjc _) ?_ (Ya9 (b:=[bs (Xgh r i)]) ⟨?_,trivial⟩),rfl,fun k hk=> ?_⟩
  ·simp only[Xmh,Xmy,Xlz,true_and,and_true]
  ·have h:=Fz.bsl (k:=n'+0) (sz:=1) (cs:=(Xgh r i).map b8) 0 128 false ⟨by decide,by rw[af,Y4z r hi];decide⟩;rw[dn,Xa1 _ (Y4z r hi)] at h;exact h
  ·show Xw (Xw (Xw out' (n+6) _) (n+1) _) (n+1) _ k= _
   rw[Jp,List.range_succ,cu,cu];simp only[Zc,Wz,Xw];by_cases q1:k=n+1
   ·have q2:¬k=n+6:=by omega
    rw[if_pos q1,if_neg q2,if_pos q1];rfl
   ·by_cases q2:k=n+6
    ·rw[if_neg q1,if_pos q2,if_pos q2]
    ·rw[if_neg q1,if_neg q2,if_neg q2,if_neg q1]
 ·subst hF;simp only[holds,s_0,s_s,X2a,List.getElem?_cons_zero,List.getElem?_cons_succ,Option.join_some,and_true,true_and,List.range_zero,ad]
 ·exact⟨Xb _ (by simp),Xb _ (by simp),trivial⟩
 ·intro x hx;simp only[bq,bv,or_false] at hx;rcases hx with rfl|rfl|rfl
  ·exact Xb _ (by simp)
  ·exact Xb _ (by simp)
  ·exact Xb _ (by simp)
 ·intro x hx;simp only[bq,bv,or_false] at hx;rcases hx with rfl|rfl
  ·show n+1≠n+5
   omega
  ·show n+6≠n+5
   omega
 simp only[Qd,Z4,s_0,s_s,Ybp];refine hKB _ ?_;clear hKB KB;refine AWp.zero ?_;refine Vy fun K hK=> ?_;simp only[zA,simprocAttr, -List.reduceReplicate,X0]
 (refine hK _ ?_;clear hK K)
 apply Vz;exact⟨4,D,rfl,rfl,Xu (.inr rfl) rfl rfl rfl (fun _ _=>rfl) ok36 (k:=n+1) (off:=0) rfl (Xb _ (by simp)) (X6 _ (Nat.le_refl _) 1) rfl (.sh _ _ _)⟩
end Go.Proofs.YtgpdghbmiihfbaaGreat
