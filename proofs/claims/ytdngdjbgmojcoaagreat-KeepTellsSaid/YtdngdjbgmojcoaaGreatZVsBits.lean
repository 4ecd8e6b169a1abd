/-
 The value-semantics layer, part 14: words and bytes.
-/
import Derived.Test.YtdngdjbgmojcoaaGreatZVsSimp
namespace Go.VS
set_option linter.all false
open Go
abbrev b8 (x:UInt8):AV:= .val (.int .u8 (x.toNat:Int))
abbrev i64 (x:Int):AV:= .val (.int .i64 x)
abbrev bool (x:Bool):AV:= .val (.bool x)
theorem V3 {w n:Nat}:BitVec.ofInt w (n:Int)=BitVec.ofNat w n:=by simp
theorem X3y (x:BitVec 64) {b:Int} (h:0<=b):Zr .shr .u64 (x.toNat:Int) b=some (.int .u64 ((x>>>b.toNat).toNat:Int)):=by
 have hlt:=x.isLt;simp only[Zr,if_neg (Int.not_lt.2 h),IntKind.bits,BitVec.toNat_ushiftRight,Nat.shiftRight_eq_div_pow]
 congr 2
 have e:((2:Int) ^ min b.toNat 64)=((2 ^ min b.toNat 64:Nat):Int):=by simp
 rw[e,Int.fdiv_eq_ediv_of_nonneg _ (Int.natCast_nonneg _),<- Int.natCast_ediv]
 congr 1
 rcases Nat.le_total b.toNat 64 with h1|h1
 ·rw[Nat.min_eq_left h1]
 ·rw[Nat.min_eq_right h1,Nat.div_eq_of_lt hlt,Nat.div_eq_of_lt];exact Nat.lt_of_lt_of_le hlt (Nat.pow_le_pow_right (by decide) h1)
theorem Yl {n:Nat} (k:Int) (k':Nat) (e:k=k') (h:n+k'<4611686018427387904):IntKind.i64.wrap ((n:Int)+k)=((n+k':Nat):Int):=by
 subst e;rw[wrap_i64]<;>omega
theorem X25 {n:Nat} (k:Int) (k':Nat) (e:k=k') (h:k'<=n) (h2:n<4611686018427387904):IntKind.i64.wrap ((n:Int) - k)=((n - k':Nat):Int):=by
 subst e;rw[wrap_i64]<;>omega
theorem X95 {n:Nat} (k:Int) (k':Nat) (e:k=k') (h:k'*n<4611686018427387904):IntKind.i64.wrap (k*(n:Int))=((k'*n:Nat):Int):=by
 subst e;rw[<- Int.natCast_mul,wrap_i64]<;>omega
theorem nc:((0:Nat):Int)=0∧((1:Nat):Int)=1∧((4:Nat):Int)=4∧((8:Nat):Int)=8∧((16:Nat):Int)=16∧((32:Nat):Int)=32∧((64:Nat):Int)=64:=⟨rfl,rfl,rfl,rfl,rfl,rfl,rfl⟩
theorem X69 {α:Type} (f:α->AV) (l:List α) (k:Nat) (d:α) (h:k<l.length):(List.drop k (List.map f l)).head? =some (f (l.getD k d)):=by
 rw[ie,b9,ah h,af,ah h];rfl
theorem X0z {α:Type} (s:Nat) (f:α->AV) (l:List α) (k:Nat) (d:α) (h:k<l.length):pick false s (List.drop k (List.map f l))=some (f (l.getD k d)):=X69 f l k d h
theorem Y9 (s:Nat) (x:AV) (l:List AV):pick false s (x::l)=some x:=rfl
theorem pk1 (x0:AV):pick true 1 [x0]=some (.agg [x0]):=rfl
theorem pq1 (x0:AV) (l:List AV):pick true 1 (x0::l)=some (.agg [x0]):=by simp [pick]
theorem pk2 (x0 x1:AV):pick true 2 [x0,x1]=some (.agg [x0,x1]):=rfl
theorem pq2 (x0 x1:AV) (l:List AV):pick true 2 (x0::x1::l)=some (.agg [x0,x1]):=by simp [pick]
theorem pk3 (x0 x1 x2:AV):pick true 3 [x0,x1,x2]=some (.agg [x0,x1,x2]):=rfl
theorem pq3 (x0 x1 x2:AV) (l:List AV):pick true 3 (x0::x1::x2::l)=some (.agg [x0,x1,x2]):=by simp [pick]
theorem pk4 (x0 x1 x2 x3:AV):pick true 4 [x0,x1,x2,x3]=some (.agg [x0,x1,x2,x3]):=rfl
theorem pq4 (x0 x1 x2 x3:AV) (l:List AV):pick true 4 (x0::x1::x2::x3::l)=some (.agg [x0,x1,x2,x3]):=by simp [pick]
theorem pk5 (x0 x1 x2 x3 x4:AV):pick true 5 [x0,x1,x2,x3,x4]=some (.agg [x0,x1,x2,x3,x4]):=rfl
theorem pq5 (x0 x1 x2 x3 x4:AV) (l:List AV):pick true 5 (x0::x1::x2::x3::x4::l)=some (.agg [x0,x1,x2,x3,x4]):=by simp [pick]
theorem pk6 (x0 x1 x2 x3 x4 x5:AV):pick true 6 [x0,x1,x2,x3,x4,x5]=some (.agg [x0,x1,x2,x3,x4,x5]):=rfl
theorem pq6 (x0 x1 x2 x3 x4 x5:AV) (l:List AV):pick true 6 (x0::x1::x2::x3::x4::x5::l)=some (.agg [x0,x1,x2,x3,x4,x5]):=by simp [pick]
theorem pk7 (x0 x1 x2 x3 x4 x5 x6:AV):pick true 7 [x0,x1,x2,x3,x4,x5,x6]=some (.agg [x0,x1,x2,x3,x4,x5,x6]):=rfl
theorem pq7 (x0 x1 x2 x3 x4 x5 x6:AV) (l:List AV):pick true 7 (x0::x1::x2::x3::x4::x5::x6::l)=some (.agg [x0,x1,x2,x3,x4,x5,x6]):=by simp [pick]
theorem pk8 (x0 x1 x2 x3 x4 x5 x6 x7:AV):pick true 8 [x0,x1,x2,x3,x4,x5,x6,x7]=some (.agg [x0,x1,x2,x3,x4,x5,x6,x7]):=rfl
theorem pq8 (x0 x1 x2 x3 x4 x5 x6 x7:AV) (l:List AV):pick true 8 (x0::x1::x2::x3::x4::x5::x6::x7::l)=some (.agg [x0,x1,x2,x3,x4,x5,x6,x7]):=by simp [pick]
theorem pk9 (x0 x1 x2 x3 x4 x5 x6 x7 x8:AV):pick true 9 [x0,x1,x2,x3,x4,x5,x6,x7,x8]=some (.agg [x0,x1,x2,x3,x4,x5,x6,x7,x8]):=rfl
theorem pq9 (x0 x1 x2 x3 x4 x5 x6 x7 x8:AV) (l:List AV):pick true 9 (x0::x1::x2::x3::x4::x5::x6::x7::x8::l)=some (.agg [x0,x1,x2,x3,x4,x5,x6,x7,x8]):=by simp [pick]
theorem X9l (x0 x1 x2 x3 x4 x5 x6 x7 x8 x9:AV):pick true 10 [x0,x1,x2,x3,x4,x5,x6,x7,x8,x9]=some (.agg [x0,x1,x2,x3,x4,x5,x6,x7,x8,x9]):=rfl
theorem X9m (x0 x1 x2 x3 x4 x5 x6 x7 x8 x9:AV) (l:List AV):pick true 10 (x0::x1::x2::x3::x4::x5::x6::x7::x8::x9::l)=some (.agg [x0,x1,x2,x3,x4,x5,x6,x7,x8,x9]):=by simp [pick]
theorem X9n (x0 x1 x2 x3 x4 x5 x6 x7 x8 x9 x10:AV):pick true 11 [x0,x1,x2,x3,x4,x5,x6,x7,x8,x9,x10]=some (.agg [x0,x1,x2,x3,x4,x5,x6,x7,x8,x9,x10]):=rfl
theorem X9o (x0 x1 x2 x3 x4 x5 x6 x7 x8 x9 x10:AV) (l:List AV):pick true 11 (x0::x1::x2::x3::x4::x5::x6::x7::x8::x9::x10::l)=some (.agg [x0,x1,x2,x3,x4,x5,x6,x7,x8,x9,x10]):=by simp [pick]
theorem X9p (x0 x1 x2 x3 x4 x5 x6 x7 x8 x9 x10 x11:AV):pick true 12 [x0,x1,x2,x3,x4,x5,x6,x7,x8,x9,x10,x11]=some (.agg [x0,x1,x2,x3,x4,x5,x6,x7,x8,x9,x10,x11]):=rfl
theorem X9q (x0 x1 x2 x3 x4 x5 x6 x7 x8 x9 x10 x11:AV) (l:List AV):pick true 12 (x0::x1::x2::x3::x4::x5::x6::x7::x8::x9::x10::x11::l)=some (.agg [x0,x1,x2,x3,x4,x5,x6,x7,x8,x9,x10,x11]):=by simp [pick]
theorem E6 {n:Nat} {cs:List AV} (h:cs.length=n):pick true n cs=some (.agg cs):=by
 subst h;simp [pick]
theorem F7 {α:Type} (f:α->AV) (l:List α) (k:Nat) (x:α) (h:k<l.length):Yf (List.map f l) k [f x]=List.map f (l.set k x):=by
 have e:l.set k x=l.take k++x::l.drop (k+1):=by rw[ij,if_pos h]
 rw[e];simp only[Yf,List.length_cons,List.length_nil,Nat.zero_add,aw,ip,bk,List.map_drop,aq,List.cons_append,List.nil_append]
theorem X82 (l:List AV):Yf l 0 []=l:=by simp [Yf]
theorem X83 (a x:AV) (l xs:List AV):Yf (a::l) 0 (x::xs)=x::Yf l 0 xs:=by simp [Yf]
theorem X84 (a:AV) (l xs:List AV) (i:Nat):Yf (a::l) (i+1) xs=a::Yf l i xs:=by
 simp only[Yf,List.take_succ_cons,List.cons_append];rw[show i+1+xs.length=(i+xs.length)+1 by omega,List.drop_succ_cons]
theorem X0 {cs xs:List AV} (h:xs.length=cs.length):Yf cs 0 xs=xs:=by
 simp [Yf,il,h]
theorem Ie (v:Value):AV.parts (.val v)=some [.val v]:=rfl
theorem Ig (cs:List AV):AV.parts (.agg cs)=some cs:=rfl
theorem Cj (sz:Nat) (els:List (List AV)) (md:Md):AV.parts (.sl sz els md)=some [.sl sz els md]:=rfl
theorem Ih (k o l:Nat) (f:Bool):AV.parts (.bsl k o l f)=some [.bsl k o l f]:=rfl
theorem Ii (k m:Nat):AV.parts (.vsl k m)=some [.vsl k m]:=rfl
theorem X10 (f:Fn) (l:List AV):AV.parts (.fn f l)=some [.fn f l]:=rfl
theorem Ck (t:TypeId) (x:AV):AV.parts (.iface t x)=some [.iface t x]:=rfl
theorem Ij (cs:List AV):AV.parts (.ref cs)=some [.ref cs]:=rfl
theorem Ik (k o:Nat):AV.parts (.ptr k o)=some [.ptr k o]:=rfl
theorem Xf (n:Nat) (k:IntKind):(List.replicate n (Value.int k 0)).map Yq=List.replicate n (.val (.int k 0)):=by simp [X70]
theorem Yk {T:TypeId->Option TI} {σ:AState} {K:AV->List (Nat×Res)->Prop} {t e:TypeId} {ti te:TI} (ht:T t=some ti) (hd:ti.desc= .slice e) (he:T e=some te) (h1:0<te.size) (h2:te.size<=16777216) {x:AV} {ps:List AV} (hp:x.parts=some ps) (hl:ps.length=te.size):
  X1 T σ K none t 1 [(0,x)]=K (.sl te.size [ps] .full) []:=by
 have hz:(Y7 te.zero (1*te.size)).length=te.size:=by simp [Y7]
 have hr:U4 (fun i=>some (i*te.size,te.size)) (Y7 te.zero (1*te.size)) [(0,x)]=some ps:=by
  simp only[U4,hp,hl,Nat.zero_mul,Nat.zero_add,hz,Nat.le_refl,and_self,if_true,Yf,List.take_zero,List.nil_append];rw[fk (by rw[hz];exact Nat.le_refl _)];simp
 have hc:Yh te.size 1 ps=[ps]:=by
  simp only[Yh];rw[db (by omega)]
 rw[Nat.one_mul] at hr;simp only[X1,ht,hd,he,hr,h1,Nat.one_mul,h2,true_and,hl,hc]
theorem Te {T:TypeId->Option TI} {σ:AState} {K:AV->List (Nat×Res)->Prop} {t e:TypeId} {ti te:TI} (ht:T t=some ti) (hd:ti.desc= .slice e) (he:T e=some te) (h1:te.size=1) {x y a b:AV} (hp:x.parts=some [a]) (hq:y.parts=some [b]):
  X1 T σ K none t 2 [(0,x),(1,y)]=K (.sl 1 [[a],[b]] .full) []:=by
 have hz:(Y7 te.zero 2).length=2:=by simp [Y7]
 obtain⟨z0,z1,hz2⟩:∃z0 z1,Y7 te.zero 2=[z0,z1]:=⟨_,_,rfl⟩
 have hr:U4 (fun i=>some (i*te.size,te.size)) (Y7 te.zero (2*te.size)) [(0,x),(1,y)]=some [a,b]:=by
  rw[h1,show 2*1=2 from rfl,hz2];simp [U4,hp,hq,Yf]
 simp only[X1,ht,hd,he,hr];simp [h1,Yh]
theorem af1 (z v:Value):U4 (fun i=>some (i,1)) (Y7 [z] 1) [(0,.val v)]=some [.val v]:=rfl
theorem X9r (pl:List (Nat×Nat)) (cs:List AV) (i:Nat) (x:AV) (l:List (Nat×AV)):U4 (W7 pl) cs ((i,x)::l)=match W7 pl i,x.parts with
  |some (off,size),some xs=>if xs.length=size∧off+size<=cs.length then U4 (W7 pl) (Yf cs off xs) l else none
  | _,_=>none:=rfl
theorem X85 (p:Nat×Nat) (l:List (Nat×Nat)):W7 (p::l) 0=some p:=rfl
theorem X86 (p:Nat×Nat) (l:List (Nat×Nat)) (i:Nat):W7 (p::l) (i+1)=W7 l i:=rfl
theorem af0 (f:Nat->Option (Nat×Nat)) (cs:List AV):U4 f cs []=some cs:=rfl
theorem ch0 (sz:Nat) (cs:List AV):Yh sz 0 cs=[]:=rfl
theorem rp0 (z:List Value):Y7 z 0=[]:=rfl
theorem ch1 (x:AV):Yh 1 1 [x]=[[x]]:=rfl
theorem L6 (l l':List UInt8):Xo l++Xo l'=Xo (l++l'):=by simp [Xo]
theorem Q1 (l:List UInt8) (n:Nat):(Xo l).drop n=Xo (l.drop n):=by simp [Xo]
theorem Q2 (l:List UInt8) (n:Nat):(Xo l).take n=Xo (l.take n):=by simp [Xo]
theorem Wb:Xo []=[]:=rfl
theorem X5 (l:List UInt8):(Xo l).length=l.length:=by simp [Xo]
theorem Xbz {P:Program} {f:FuncId} {sz:Nat} {els:List (List AV)} {rest:List AV} {needs:List (Nat×Option Res)} {r:AV} {gives:List (Nat×Res)} (hn:els=[]->Xr P f (.sl sz [] .nil::rest) needs r gives)
  (hs:Xr P f (.sl sz els .nn::rest) needs r gives):Xr P f (.sl sz els .sh::rest) needs r gives:=fun M N vs hI hR h1 h2 h3=>by
 obtain⟨hl,hr⟩:=hR;have h0:0<vs.size:=by rw[<- hl];simp
 have hv0:vs[0]? =some vs[0]:=by simp [h0]
 have turn:∀x,R M x vs[0]->RL M (x::rest) vs:=fun x hx=>⟨hl,fun i c v hi hv=>by
  cases i with
  |zero=>simp at hi;subst hi;rw[hv0] at hv;injection hv with hv;rw[<- hv];exact hx
  |succ i=>exact hr (i+1) c v (by simpa using hi) hv⟩
 have hR0:=hr 0 _ _ rfl hv0;generalize vs[0]=v at hR0 turn;cases hR0 with
 |nil _ _ a q1 q2=>
  cases a with
  |none=>exact hn rfl M N vs hI (turn _ (.nil _ _ none (by intro h;cases h) (fun _=>rfl))) h1 h2 h3
  |some a=>exact hs M N vs hI (turn _ (.nil _ _ (some a) (by intro _ h;cases h) (by intro h;cases h))) h1 h2 h3
 |slice _ _ _ a cap q1 q2 q3 q4 q5 q6=>exact hs M N vs hI (turn _ (.slice sz els .nn a cap q1 q2 q3 q4 q5 trivial)) h1 h2 h3
theorem Xdb {P:Program} {f:FuncId} {args args':List AV} {needs:List (Nat×Option Res)} {r:AV} {gives:List (Nat×Res)} (h:Xr P f args needs r gives) (hle:leL args' args):Xr P f args' needs r gives:=
 fun M N vs hI hR hn hN hu=>h M N vs hI (hR.le hle) hn hN hu
theorem Np (bs:ByteArray):∀(n i:Nat) (r:List UInt8),bs.size - i=n->ByteArray.toList.loop bs i r=r.reverse++bs.data.toList.drop i
 |0,i,r,h=>by
  unfold ByteArray.toList.loop;rw[if_neg (by omega)];have:bs.data.toList.length<=i:=by simp;have:bs.size=bs.data.size:=rfl;omega
  rw[il this,a9]
 |n+1,i,r,h=>by
  unfold ByteArray.toList.loop;have hi:i<bs.size:=by omega
  rw[if_pos hi,Np bs n (i+1) _ (by omega)];have hi':i<bs.data.toList.length:=by simpa using hi
  rw[cd hi',List.reverse_cons,aq];have e:bs.get! i=bs.data.toList[i]:=by
   show bs.data[i]! = _
   rw[getElem!_pos bs.data i hi];simp
  rw[e];rfl
theorem Px (l:List UInt8):(⟨l.toArray⟩:ByteArray).toList=l:=by
 unfold ByteArray.toList;rw[Np _ _ _ _ rfl];simp
theorem Nq:∀{l m:List UInt8},Xo l=Xo m->l=m
 |[],[],_=>rfl
 |x::l,y::m,h=>by
  simp only[Xo,bk,List.cons.injEq,AV.val.injEq,Value.int.injEq,true_and,and_true] at h;have e:x=y:=UInt8.toNat_inj.1 (by omega);rw[e,Nq (l:=l) (m:=m) h.2]
 |[],_:: _,h=>by simp [Xo] at h
 | _:: _,[],h=>by simp [Xo] at h
theorem Ya (l:List UInt8) (Q:List UInt8->Prop):(∃l',Xo l=Xo l'∧Q l')↔Q l:=
 ⟨fun⟨l',h,q⟩=>by rw[Nq h];exact q,fun q=>⟨l,rfl,q⟩⟩
theorem Z5 (a b:List UInt8):((⟨a.toArray⟩:ByteArray).toList==(⟨b.toArray⟩:ByteArray).toList)=(a==b):=by rw[Px,Px]
theorem Xqt (l:List UInt8) (i:Nat) (h:i<l.length):(Xo l).getD i []=[b8 (l.getD i 0)]:=by
 simp [Xo,af,h]
set_option linter.all false
def sx:=ab @Ti.eq_def<|ab @Ns.eq_def<|ab @Vw.eq_def<|ab @Io.eq_def<|ab @Nt.eq_def<|ab @Ip.eq_def<|ab @X6d.eq_def<|ab @Tj.eq_def<|ab @Nu.eq_def<|ab @L9.eq_def<|ab @Iq.eq_def<|ab @Y3f.eq_def<|ab @X8b<|ab @X6u<|ab @X4m<|ab @X6v<|ab @X6w<|ab @X9u<|ab @X9s<|ab @X9t<|ab @X1h<|ab @X8c<|ab @X8d<|ab @X8x<|ab @X8y<|ab @X8z<|ab @X90<|ab @X9x<|ab @X9y<|ab @X6x<|ab @X4n<|ab @X6y<|ab @X4o<|ab @X49<|ab @J0<|ab @X4p<|ab @X7c<|ab @X4y<|ab @X46<|ab @X47<|ab @Iy<|ab @X78<|ab @X8e<|ab @X4q<|ab @X6z<|ab @X70<|ab @X29<|ab @X1i<|ab @X8f<|ab @X71<|ab @X72<|ab @g_0<|ab @g_s<|ab @s_0<|ab @s_s<|ab @X73<|ab @X74<|ab @X75<|ab @X76<|ab @X2a<|ab @X77<|ab @X4r<|ab @X4s<|ab @fa<|ab @X4t<|ab @X4u<|ab @X4v<|ab @Y3a<|ab @X7b<|ab @X4x<|ab @X7a<|ab @X4w<|ab @X8g<|ab @X4z<|ab @X50<|ab @X7d<|ab @X1j<|ab @X51<|ab @X8h<|ab @X7e<|ab @X7f<|ab @X52<|ab @X8i<|ab @X9v<|ab @X7g<|ab @X53<|ab @X8j<|ab @X7h<|ab @X54<|ab @X55<|ab @X56<|ab @X57<|ab @X58<|ab @X8k<|ab @X8l<|ab @X1k<|ab @Jq<|ab @X59<|ab @X7j<|ab @X1l<|ab @X8n<|ab @X9w<|ab @X7k<|ab @af1<|ab @X9r<|ab @X85<|ab @X86<|ab @Ih<|ab @Ii<|ab @ch1<|ab @af0<|ab @ch0<|ab @rp0<|ab @Nat.zero_mul<|ab @Bool.and_false<|ab @Bool.and_true<|ab @Nat.one_ne_zero<|ab @X82<|ab @X83<|ab @X84<|ab @Y9<|ab @pk1<|ab @pq1<|ab @pk2<|ab @pq2<|ab @pk3<|ab @pq3<|ab @pk4<|ab @pq4<|ab @pk5<|ab @pq5<|ab @pk6<|ab @pq6<|ab @pk7<|ab @pq7<|ab @pk8<|ab @pq8<|ab @pk9<|ab @pq9<|ab @X9l<|ab @X9m<|ab @X9n<|ab @X9o<|ab @X9p<|ab @X9q<|ab @Ie<|ab @Ig<|ab @Cj<|ab @X10<|ab @Ck<|ab @Ij<|ab @Ik<|ab @X12<|ab @X8o<|ab @X8p<|ab @X8q<|ab @X8r<|ab @X8s<|ab @X8t<|ab @X8u<|ab @X8v<|ab @X8w<|ab @Nat.le_refl<|ab @Nat.zero_le<|ab @true_or<|ab @or_true<|ab @false_or<|ab @or_false<|ab @true_and<|ab @and_true<|ab @Bool.false_eq_true<|ab @Bool.true_or<|ab @Bool.false_or<|ab @Bool.or_false<|ab @Int.natCast_nonneg<|ab @Int.ofNat_lt<|ab @Int.toNat_natCast<|ab @Nat.mul_one<|ab @Xf<| @Nat.zero_add
def sy:=ab @List.nil_append.{0}<|ab @List.isEmpty_cons.{0}<|ab @List.isEmpty_nil.{0}<|ab @List.drop_zero.{0}<|ab @List.drop_succ_cons.{0}<|ab @Option.isSome_some.{0}<|ab @List.contains_nil.{0}<|ab @List.contains_cons.{0}<|ab @beq_self_eq_true.{0}<|ab @List.map_cons.{0,0}<|ab @List.map_nil.{0,0}<|ab @List.length_cons.{0}<|ab @List.length_nil.{0}<|ab @List.length_map.{0,0}<|ab @List.length_replicate.{0}<|ab @List.getElem?_toArray.{0}<|ab @List.getElem?_cons_zero.{0}<|ab @List.getElem?_cons_succ.{0}<|ab @Option.join_some.{0}<|ab @Option.join_none.{0}<|ab @decide_true<|ab @decide_false<| @not_false_eq_true
def sl:=ab @Int.cast_ofNat_Int<|ab @List.drop_zero.{0}<|ab @List.drop_succ_cons.{0}<|ab @List.take_succ_cons.{0}<|ab @List.take_zero.{0}<|ab @g_0<|ab @g_s<|ab @s_0<|ab @s_s<|ab @X18<|ab @X4a<|ab @Co<|ab @Fe<|ab @Py<|ab @Nz<|ab @Cp<|ab @J1<|ab @Fi<|ab @Cq<|ab @Tr<|ab @X19<|ab @X4b<|ab @X4c<|ab @Ff<|ab @Fg<|ab @Fh<|ab @J2<|ab @Tq<|ab @X1a<|ab @X4d<|ab @Tt<|ab @X4e<|ab @X4f<|ab @true_and<| @and_true
def sm:=ab @Int.cast_ofNat_Int<|ab @s_0<|ab @s_s<|ab @X1d<|ab @X4j<|ab @Jf<|ab @Fk<|ab @Xuo<|ab @Ct<|ab @Jg<|ab @X6j<|ab @X6k<|ab @X6l<|ab @X6m<|ab @X6n<|ab @X6o<|ab @X6p<|ab @X6q<|ab @X6r<|ab @X6s<|ab @X1e<|ab @X89<|ab @X8a<|ab @X4k<|ab @Jh<|ab @Fm<|ab @Fo<|ab @Ji<|ab @Jj<|ab @Jk<|ab @true_and<| @and_true
theorem Il {σ:AState} {i k:Nat} {q:Res} (l:List (Nat×AV)) {lo1:List (Option Res)} (hi:σ.lo[i]? =some (some q)) (hk:k<σ.n0) (hfree:σ.out k=none) (h:mvL [true] (σ.n+i) k σ.fr (X4 σ.fr l)) (hr:X4l [true] (σ.n+i) k σ.lo lo1):
  σ.le {σ with fr:=X4 σ.fr l,lo:=lo1.set i (Xoe (some q)),out:=Xw σ.out k q}:=Jm hi hk hfree h hr
end Go.VS
