/-
 The value-semantics layer, part 14: words and bytes.
-/
import Derived.Test.YtgpdghbmiihfbaaGreatZVsSimp
namespace Go.VS
set_option linter.all false
open Go
abbrev b8 (x:UInt8):AV:= .val (.int .u8 (x.toNat:Int))
abbrev w32 (x:BitVec 32):AV:= .val (.int .u32 (x.toNat:Int))
abbrev i64 (x:Int):AV:= .val (.int .i64 x)
abbrev bool (x:Bool):AV:= .val (.bool x)
theorem V3 {w n:Nat}:BitVec.ofInt w (n:Int)=BitVec.ofNat w n:=by simp
theorem Xag (x:BitVec 32):IntKind.u32.wrap (x.toNat:Int)=(x.toNat:Int):=Xc7 (by omega) (by have:=x.isLt;omega)
theorem Xbw (x:UInt8):IntKind.u8.wrap (x.toNat:Int)=(x.toNat:Int):=Se (by omega) (by have:=x.toNat_lt;omega)
theorem Xb5 (x y:BitVec 32):IntKind.u32.wrap ((x.toNat:Int)+(y.toNat:Int))=((x+y).toNat:Int):=by
 rw[Xar,BitVec.toNat_add];omega
theorem Xbk (x y:BitVec 32):Zr .and .u32 (x.toNat:Int) (y.toNat:Int)=some (.int .u32 ((x&&&y).toNat:Int)):=by
 show some (Value.int .u32 (IntKind.u32.wrap (((BitVec.ofInt 32 (x.toNat:Int)&&&BitVec.ofInt 32 (y.toNat:Int)).toNat:Nat):Int)))= _
 rw[V3,V3,ec,ec,ed,ed,Xag]
theorem Xcq (x y:BitVec 32):Zr .or .u32 (x.toNat:Int) (y.toNat:Int)=some (.int .u32 ((x|||y).toNat:Int)):=by
 show some (Value.int .u32 (IntKind.u32.wrap (((BitVec.ofInt 32 (x.toNat:Int)|||BitVec.ofInt 32 (y.toNat:Int)).toNat:Nat):Int)))= _
 rw[V3,V3,ec,ec,ed,ed,Xag]
theorem Xac (x y:BitVec 32):Zr .xor .u32 (x.toNat:Int) (y.toNat:Int)=some (.int .u32 ((x ^^^ y).toNat:Int)):=by
 show some (Value.int .u32 (IntKind.u32.wrap (((BitVec.ofInt 32 (x.toNat:Int) ^^^ BitVec.ofInt 32 (y.toNat:Int)).toNat:Nat):Int)))= _
 rw[V3,V3,ec,ec,ed,ed,Xag]
theorem Xdw (x:BitVec 32):IntKind.u32.wrap (((BitVec.ofInt IntKind.u32.bits (if IntKind.u32.signed then -1 else IntKind.u32.max) ^^^ BitVec.ofInt IntKind.u32.bits (x.toNat:Int)).toNat:Nat):Int)=((~~~x).toNat:Int):=by
 show IntKind.u32.wrap (((BitVec.ofInt 32 (4294967295:Int) ^^^ BitVec.ofInt 32 (x.toNat:Int)).toNat:Nat):Int)=((~~~x).toNat:Int)
 have e:BitVec.ofInt 32 (4294967295:Int)=BitVec.allOnes 32:=by decide
 rw[e,V3,ec,ed,Xag,BitVec.allOnes_xor]
theorem Xcr (x:BitVec 32) {b:Int} (h:0<=b):Zr .shr .u32 (x.toNat:Int) b=some (.int .u32 ((x>>>b.toNat).toNat:Int)):=by
 have hlt:=x.isLt;simp only[Zr,if_neg (Int.not_lt.2 h),IntKind.bits,gx,f8]
 congr 2
 have e:((2:Int) ^ min b.toNat 32)=((2 ^ min b.toNat 32:Nat):Int):=by simp
 rw[e,Int.fdiv_eq_ediv_of_nonneg _ (ie _),<- Int.natCast_ediv]
 congr 1
 rcases Nat.le_total b.toNat 32 with h1|h1
 ·rw[Nat.min_eq_left h1]
 ·rw[Nat.min_eq_right h1,je hlt,je];exact Nat.lt_of_lt_of_le hlt (Nat.pow_le_pow_right (by decide) h1)
theorem X3y (x:BitVec 64) {b:Int} (h:0<=b):Zr .shr .u64 (x.toNat:Int) b=some (.int .u64 ((x>>>b.toNat).toNat:Int)):=by
 have hlt:=x.isLt;simp only[Zr,if_neg (Int.not_lt.2 h),IntKind.bits,gx,f8]
 congr 2
 have e:((2:Int) ^ min b.toNat 64)=((2 ^ min b.toNat 64:Nat):Int):=by simp
 rw[e,Int.fdiv_eq_ediv_of_nonneg _ (ie _),<- Int.natCast_ediv]
 congr 1
 rcases Nat.le_total b.toNat 64 with h1|h1
 ·rw[Nat.min_eq_left h1]
 ·rw[Nat.min_eq_right h1,je hlt,je];exact Nat.lt_of_lt_of_le hlt (Nat.pow_le_pow_right (by decide) h1)
theorem Xbl (x:BitVec 32) {b:Int} (h:0<=b):Zr .shl .u32 (x.toNat:Int) b=some (.int .u32 ((x<<<b.toNat).toNat:Int)):=by
 simp only[Zr,if_neg (Int.not_lt.2 h),IntKind.bits,BitVec.toNat_shiftLeft,Nat.shiftLeft_eq,Xar]
 congr 2
 have e:((2:Int) ^ min b.toNat 32)=((2 ^ min b.toNat 32:Nat):Int):=by simp
 rw[e,<- Int.natCast_mul];rcases Nat.le_total b.toNat 32 with h1|h1
 ·rw[Nat.min_eq_left h1];omega
 ·rw[Nat.min_eq_right h1];have h2:x.toNat*2 ^ b.toNat % 2 ^ 32=0:=Nat.mod_eq_zero_of_dvd (Nat.dvd_mul_left_of_dvd (Nat.pow_dvd_pow 2 h1) _);rw[h2];omega
theorem Yl {n:Nat} (k:Int) (k':Nat) (e:k=k') (h:n+k'<4611686018427387904):IntKind.i64.wrap ((n:Int)+k)=((n+k':Nat):Int):=by
 subst e;rw[wrap_i64]<;>omega
theorem X25 {n:Nat} (k:Int) (k':Nat) (e:k=k') (h:k'<=n) (h2:n<4611686018427387904):IntKind.i64.wrap ((n:Int) - k)=((n - k':Nat):Int):=by
 subst e;rw[wrap_i64]<;>omega
theorem X95 {n:Nat} (k:Int) (k':Nat) (e:k=k') (h:k'*n<4611686018427387904):IntKind.i64.wrap (k*(n:Int))=((k'*n:Nat):Int):=by
 subst e;rw[<- Int.natCast_mul,wrap_i64]<;>omega
theorem nc:((0:Nat):Int)=0∧((1:Nat):Int)=1∧((4:Nat):Int)=4∧((8:Nat):Int)=8∧((16:Nat):Int)=16∧((32:Nat):Int)=32∧((64:Nat):Int)=64:=⟨rfl,rfl,rfl,rfl,rfl,rfl,rfl⟩
theorem Xd9 (x:UInt8):IntKind.u32.wrap (x.toNat:Int)=((BitVec.ofNat 32 x.toNat).toNat:Int):=by
 have:=x.toNat_lt;rw[Xar,da];omega
theorem Y7y (x:BitVec 32):IntKind.u8.wrap (x.toNat:Int)=((UInt8.ofNat x.toNat).toNat:Int):=by
 rw[X1n,dr];omega
theorem X69 {α:Type} (f:α->AV) (l:List α) (k:Nat) (d:α) (h:k<l.length):(List.drop k (List.map f l)).head? =some (f (l.getD k d)):=by
 rw[ga,bw,ae h,ah,ae h];rfl
theorem X0z {α:Type} (s:Nat) (f:α->AV) (l:List α) (k:Nat) (d:α) (h:k<l.length):pick false s (List.drop k (List.map f l))=some (f (l.getD k d)):=X69 f l k d h
theorem Y9 (s:Nat) (x:AV) (l:List AV):pick false s (x::l)=some x:=rfl
theorem pk1 (x0:AV):pick true 1 [x0]=some (.agg [x0]):=rfl
theorem pq1 (x0:AV) (l:List AV):pick true 1 (x0::l)=some (.agg [x0]):=by simp [pick]
theorem pk2 (x0 x1:AV):pick true 2 [x0,x1]=some (.agg [x0,x1]):=rfl
theorem pq2 (x0 x1:AV) (l:List AV):pick true 2 (x0::x1::l)=some (.agg [x0,x1]):=by simp [pick]
theorem pk3 (x0 x1 x2:AV):pick true 3 [x0,x1,x2]=some (.agg [x0,x1,x2]):=rfl
theorem pq3 (x0 x1 x2:AV) (l:List AV):pick true 3 (x0::x1::x2::l)=some (.agg [x0,x1,x2]):=by simp [pick]
theorem pk4 (x0 x1 x2 x3:AV):pick true 4 [x0,x1,x2,x3]=some (.agg [x0,x1,x2,x3]):=rfl
theorem pq4 (x0 x1 x2 x3:AV) (l:List AV):pick true 4 (x0::x1::x2::x3::l)=some (.agg [x0,x1,x2,x3]):=by simp [pick]
theorem pk5 (x0 x1 x2 x3 x4:AV):pick true 5 [x0,x1,x2,x3,x4]=some (.agg [x0,x1,x2,x3,x4]):=rfl
theorem pq5 (x0 x1 x2 x3 x4:AV) (l:List AV):pick true 5 (x0::x1::x2::x3::x4::l)=some (.agg [x0,x1,x2,x3,x4]):=by simp [pick]
theorem pk6 (x0 x1 x2 x3 x4 x5:AV):pick true 6 [x0,x1,x2,x3,x4,x5]=some (.agg [x0,x1,x2,x3,x4,x5]):=rfl
theorem pq6 (x0 x1 x2 x3 x4 x5:AV) (l:List AV):pick true 6 (x0::x1::x2::x3::x4::x5::l)=some (.agg [x0,x1,x2,x3,x4,x5]):=by simp [pick]
theorem pk7 (x0 x1 x2 x3 x4 x5 x6:AV):pick true 7 [x0,x1,x2,x3,x4,x5,x6]=some (.agg [x0,x1,x2,x3,x4,x5,x6]):=rfl
theorem pq7 (x0 x1 x2 x3 x4 x5 x6:AV) (l:List AV):pick true 7 (x0::x1::x2::x3::x4::x5::x6::l)=some (.agg [x0,x1,x2,x3,x4,x5,x6]):=by simp [pick]
theorem pk8 (x0 x1 x2 x3 x4 x5 x6 x7:AV):pick true 8 [x0,x1,x2,x3,x4,x5,x6,x7]=some (.agg [x0,x1,x2,x3,x4,x5,x6,x7]):=rfl
theorem pq8 (x0 x1 x2 x3 x4 x5 x6 x7:AV) (l:List AV):pick true 8 (x0::x1::x2::x3::x4::x5::x6::x7::l)=some (.agg [x0,x1,x2,x3,x4,x5,x6,x7]):=by simp [pick]
theorem pk9 (x0 x1 x2 x3 x4 x5 x6 x7 x8:AV):pick true 9 [x0,x1,x2,x3,x4,x5,x6,x7,x8]=some (.agg [x0,x1,x2,x3,x4,x5,x6,x7,x8]):=rfl
theorem pq9 (x0 x1 x2 x3 x4 x5 x6 x7 x8:AV) (l:List AV):pick true 9 (x0::x1::x2::x3::x4::x5::x6::x7::x8::l)=some (.agg [x0,x1,x2,x3,x4,x5,x6,x7,x8]):=by simp [pick]
theorem X9l (x0 x1 x2 x3 x4 x5 x6 x7 x8 x9:AV):pick true 10 [x0,x1,x2,x3,x4,x5,x6,x7,x8,x9]=some (.agg [x0,x1,x2,x3,x4,x5,x6,x7,x8,x9]):=rfl
theorem X9m (x0 x1 x2 x3 x4 x5 x6 x7 x8 x9:AV) (l:List AV):pick true 10 (x0::x1::x2::x3::x4::x5::x6::x7::x8::x9::l)=some (.agg [x0,x1,x2,x3,x4,x5,x6,x7,x8,x9]):=by simp [pick]
theorem X9n (x0 x1 x2 x3 x4 x5 x6 x7 x8 x9 x10:AV):pick true 11 [x0,x1,x2,x3,x4,x5,x6,x7,x8,x9,x10]=some (.agg [x0,x1,x2,x3,x4,x5,x6,x7,x8,x9,x10]):=rfl
theorem X9o (x0 x1 x2 x3 x4 x5 x6 x7 x8 x9 x10:AV) (l:List AV):pick true 11 (x0::x1::x2::x3::x4::x5::x6::x7::x8::x9::x10::l)=some (.agg [x0,x1,x2,x3,x4,x5,x6,x7,x8,x9,x10]):=by simp [pick]
theorem X9p (x0 x1 x2 x3 x4 x5 x6 x7 x8 x9 x10 x11:AV):pick true 12 [x0,x1,x2,x3,x4,x5,x6,x7,x8,x9,x10,x11]=some (.agg [x0,x1,x2,x3,x4,x5,x6,x7,x8,x9,x10,x11]):=rfl
theorem X9q (x0 x1 x2 x3 x4 x5 x6 x7 x8 x9 x10 x11:AV) (l:List AV):pick true 12 (x0::x1::x2::x3::x4::x5::x6::x7::x8::x9::x10::x11::l)=some (.agg [x0,x1,x2,x3,x4,x5,x6,x7,x8,x9,x10,x11]):=by simp [pick]
theorem E6 {n:Nat} {cs:List AV} (h:cs.length=n):pick true n cs=some (.agg cs):=by
 subst h;simp [pick]
theorem F7 {α:Type} (f:α->AV) (l:List α) (k:Nat) (x:α) (h:k<l.length):Yf (List.map f l) k [f x]=List.map f (l.set k x):=by
 have e:l.set k x=l.take k++x::l.drop (k+1):=by rw[fb,if_pos h]
 rw[e];simp only[Yf,List.length_cons,List.length_nil,Nat.zero_add,cu,iu,bg,List.map_drop,aw,List.cons_append,List.nil_append]
theorem X82 (l:List AV):Yf l 0 []=l:=by simp [Yf]
theorem X83 (a x:AV) (l xs:List AV):Yf (a::l) 0 (x::xs)=x::Yf l 0 xs:=by simp [Yf]
theorem X84 (a:AV) (l xs:List AV) (i:Nat):Yf (a::l) (i+1) xs=a::Yf l i xs:=by
 simp only[Yf,List.take_succ_cons,List.cons_append];rw[show i+1+xs.length=(i+xs.length)+1 by omega,fp]
theorem X0 {cs xs:List AV} (h:xs.length=cs.length):Yf cs 0 xs=xs:=by
 simp [Yf,i7,h]
def Xej (T:TypeId->Option TI) (t:TypeId) (n:Nat) (parts:List (Nat×AV)):Option (Nat×List (List AV)):=
 match T t with
 |some si=>match si.desc with
  | .slice e=>match T e with
   |some te=>if 0<te.size∧n*te.size<=16777216 then
     match U4 (fun i=>some (i*te.size,te.size)) (Y7 te.zero (n*te.size)) parts with
     |some r=>if r.length=n*te.size then some (te.size,Yh te.size n r) else none
     |none=>none
    else none
   |none=>none
  | _=>none
 |none=>none
theorem Xal {T:TypeId->Option TI} {σ:AState} {K:AV->List (Nat×Res)->Prop} {t:TypeId} {n:Nat} {parts:List (Nat×AV)} (sz:Nat) (els:List (List AV)) (h:Xej T t n parts=some (sz,els)) (hK:K (.sl sz els .full) []):X1 T σ K none t n parts:=by
 unfold Xej at h;unfold X1;cases hT:T t with
 |none=>rw[hT] at h;cases h
 |some si=>
  rw[hT] at h;dsimp only at h⊢;cases hd:si.desc<;>rw[hd] at h<;>first|(cases h;done)|skip
  rename_i e;dsimp only at h⊢;cases he:T e with
  |none=>rw[he] at h;cases h
  |some te=>
   rw[he] at h;dsimp only at h⊢;split at h
   ·rename_i h0;split at h
    ·rename_i r hr;rw[hr];split at h
     ·rename_i hl;injection h with h
      obtain⟨rfl,rfl⟩:=Prod.mk.inj h;exact⟨h0.1,h0.2,hl,hK⟩
     ·cases h
    ·cases h
   ·cases h
theorem Ie (v:Value):AV.parts (.val v)=some [.val v]:=rfl
theorem Ig (cs:List AV):AV.parts (.agg cs)=some cs:=rfl
theorem Cj (sz:Nat) (els:List (List AV)) (md:Md):AV.parts (.sl sz els md)=some [.sl sz els md]:=rfl
theorem Ih (k o l:Nat) (f:Bool):AV.parts (.bsl k o l f)=some [.bsl k o l f]:=rfl
theorem Ii (k m:Nat):AV.parts (.vsl k m)=some [.vsl k m]:=rfl
theorem X10 (f:Fn) (l:List AV):AV.parts (.fn f l)=some [.fn f l]:=rfl
theorem Ck (t:TypeId) (x:AV):AV.parts (.iface t x)=some [.iface t x]:=rfl
theorem Ij (cs:List AV):AV.parts (.ref cs)=some [.ref cs]:=rfl
theorem Ik (k o:Nat):AV.parts (.ptr k o)=some [.ptr k o]:=rfl
theorem Xf (n:Nat) (k:IntKind):(List.replicate n (Value.int k 0)).map Yq=List.replicate n (.val (.int k 0)):=by simp [X70]
theorem Yk {T:TypeId->Option TI} {σ:AState} {K:AV->List (Nat×Res)->Prop} {t e:TypeId} {ti te:TI} (ht:T t=some ti) (hd:ti.desc= .slice e) (he:T e=some te) (h1:0<te.size) (h2:te.size<=16777216) {x:AV} {ps:List AV} (hp:x.parts=some ps) (hl:ps.length=te.size):
  X1 T σ K none t 1 [(0,x)]=K (.sl te.size [ps] .full) []:=by
 have hz:(Y7 te.zero (1*te.size)).length=te.size:=by simp [Y7]
 have hr:U4 (fun i=>some (i*te.size,te.size)) (Y7 te.zero (1*te.size)) [(0,x)]=some ps:=by
  simp only[U4,hp,hl,Nat.zero_mul,Nat.zero_add,hz,Nat.le_refl,and_self,if_true,Yf,List.take_zero,List.nil_append];rw[dm (by rw[hz];exact Nat.le_refl _)];simp
 have hc:Yh te.size 1 ps=[ps]:=by
  simp only[Yh];rw[bo (by omega)]
 rw[Nat.one_mul] at hr;simp only[X1,ht,hd,he,hr,h1,Nat.one_mul,h2,true_and,hl,hc]
theorem Te {T:TypeId->Option TI} {σ:AState} {K:AV->List (Nat×Res)->Prop} {t e:TypeId} {ti te:TI} (ht:T t=some ti) (hd:ti.desc= .slice e) (he:T e=some te) (h1:te.size=1) {x y a b:AV} (hp:x.parts=some [a]) (hq:y.parts=some [b]):
  X1 T σ K none t 2 [(0,x),(1,y)]=K (.sl 1 [[a],[b]] .full) []:=by
 have hz:(Y7 te.zero 2).length=2:=by simp [Y7]
 obtain⟨z0,z1,hz2⟩:∃z0 z1,Y7 te.zero 2=[z0,z1]:=⟨_,_,rfl⟩
 have hr:U4 (fun i=>some (i*te.size,te.size)) (Y7 te.zero (2*te.size)) [(0,x),(1,y)]=some [a,b]:=by
  rw[h1,show 2*1=2 from rfl,hz2];simp [U4,hp,hq,Yf]
 simp only[X1,ht,hd,he,hr];simp [h1,Yh]
theorem af1 (z v:Value):U4 (fun i=>some (i,1)) (Y7 [z] 1) [(0,.val v)]=some [.val v]:=rfl
theorem X9r (pl:List (Nat×Nat)) (cs:List AV) (i:Nat) (x:AV) (l:List (Nat×AV)):U4 (W7 pl) cs ((i,x)::l)=match W7 pl i,x.parts with
  |some (off,size),some xs=>if xs.length=size∧off+size<=cs.length then U4 (W7 pl) (Yf cs off xs) l else none
  | _,_=>none:=rfl
theorem X85 (p:Nat×Nat) (l:List (Nat×Nat)):W7 (p::l) 0=some p:=rfl
theorem X86 (p:Nat×Nat) (l:List (Nat×Nat)) (i:Nat):W7 (p::l) (i+1)=W7 l i:=rfl
theorem af0 (f:Nat->Option (Nat×Nat)) (cs:List AV):U4 f cs []=some cs:=rfl
theorem ch0 (sz:Nat) (cs:List AV):Yh sz 0 cs=[]:=rfl
theorem rp0 (z:List Value):Y7 z 0=[]:=rfl
theorem ch1 (x:AV):Yh 1 1 [x]=[[x]]:=rfl
theorem L6 (l l':List UInt8):Xo l++Xo l'=Xo (l++l'):=by simp [Xo]
theorem Q1 (l:List UInt8) (n:Nat):(Xo l).drop n=Xo (l.drop n):=by simp [Xo]
theorem Q2 (l:List UInt8) (n:Nat):(Xo l).take n=Xo (l.take n):=by simp [Xo]
theorem Xa7 (l:List UInt8):(Xo l).flatten=l.map b8:=by
 induction l with
 |nil=>rfl
 |cons x l ih=>simp only[Xo,bg,List.flatten_cons] at ih⊢;rw[ih];rfl
theorem Wb:Xo []=[]:=rfl
theorem X5 (l:List UInt8):(Xo l).length=l.length:=by simp [Xo]
def be (x:BitVec 64):Nat->List UInt8
 |0=>[]
 |m+1=>UInt8.ofNat (x>>>(8*m)).toNat::be x m
theorem Xbz {P:Program} {f:FuncId} {sz:Nat} {els:List (List AV)} {rest:List AV} {needs:List (Nat×Option Res)} {r:AV} {gives:List (Nat×Res)} (hn:els=[]->Xr P f (.sl sz [] .nil::rest) needs r gives)
  (hs:Xr P f (.sl sz els .nn::rest) needs r gives):Xr P f (.sl sz els .sh::rest) needs r gives:=fun M N vs hI hR h1 h2 h3=>by
 obtain⟨hl,hr⟩:=hR;have h0:0<vs.size:=by rw[<- hl];simp
 have hv0:vs[0]? =some vs[0]:=by simp [h0]
 have turn:∀x,R M x vs[0]->RL M (x::rest) vs:=fun x hx=>⟨hl,fun i c v hi hv=>by
  cases i with
  |zero=>simp at hi;subst hi;rw[hv0] at hv;injection hv with hv;rw[<- hv];exact hx
  |succ i=>exact hr (i+1) c v (by simpa using hi) hv⟩
 have hR0:=hr 0 _ _ rfl hv0;generalize vs[0]=v at hR0 turn;cases hR0 with
 |nil _ _ a q1 q2=>
  cases a with
  |none=>exact hn rfl M N vs hI (turn _ (.nil _ _ none (by intro h;cases h) (fun _=>rfl))) h1 h2 h3
  |some a=>exact hs M N vs hI (turn _ (.nil _ _ (some a) (by intro _ h;cases h) (by intro h;cases h))) h1 h2 h3
 |slice _ _ _ a cap q1 q2 q3 q4 q5 q6=>exact hs M N vs hI (turn _ (.slice sz els .nn a cap q1 q2 q3 q4 q5 trivial)) h1 h2 h3
theorem Xdb {P:Program} {f:FuncId} {args args':List AV} {needs:List (Nat×Option Res)} {r:AV} {gives:List (Nat×Res)} (h:Xr P f args needs r gives) (hle:leL args' args):Xr P f args' needs r gives:=
 fun M N vs hI hR hn hN hu=>h M N vs hI (hR.le hle) hn hN hu
theorem Xc5:∀(l:List UInt8),Yh 1 l.length (l.map b8)=Xo l
 |[]=>rfl
 |x::l=>by
  have:=Xc5 l;simp only[List.length_cons,bg,Yh,List.take_succ_cons,List.take_zero,fp,dn,this];rfl
theorem Xa1 (l:List UInt8) {n:Nat} (h:l.length=n):Yh 1 n (l.map b8)=Xo l:=by subst h;exact Xc5 l
theorem Np (bs:ByteArray):∀(n i:Nat) (r:List UInt8),bs.size - i=n->ByteArray.toList.loop bs i r=r.reverse++bs.data.toList.drop i
 |0,i,r,h=>by
  unfold ByteArray.toList.loop;rw[if_neg (by omega)];have:bs.data.toList.length<=i:=by simp;have:bs.size=bs.data.size:=rfl;omega
  rw[i7 this,b9]
 |n+1,i,r,h=>by
  unfold ByteArray.toList.loop;have hi:i<bs.size:=by omega
  rw[if_pos hi,Np bs n (i+1) _ (by omega)];have hi':i<bs.data.toList.length:=by simpa using hi
  rw[dd hi',List.reverse_cons,aw];have e:bs.get! i=bs.data.toList[i]:=by
   show bs.data[i]! = _
   rw[getElem!_pos bs.data i hi];simp
  rw[e];rfl
theorem Px (l:List UInt8):(⟨l.toArray⟩:ByteArray).toList=l:=by
 unfold ByteArray.toList;rw[Np _ _ _ _ rfl];simp
theorem Nq:∀{l m:List UInt8},Xo l=Xo m->l=m
 |[],[],_=>rfl
 |x::l,y::m,h=>by
  simp only[Xo,bg,List.cons.injEq,AV.val.injEq,Value.int.injEq,true_and,and_true] at h;have e:x=y:=UInt8.toNat_inj.1 (by omega);rw[e,Nq (l:=l) (m:=m) h.2]
 |[],_:: _,h=>by simp [Xo] at h
 | _:: _,[],h=>by simp [Xo] at h
theorem Ya (l:List UInt8) (Q:List UInt8->Prop):(∃l',Xo l=Xo l'∧Q l')↔Q l:=
 ⟨fun⟨l',h,q⟩=>by rw[Nq h];exact q,fun q=>⟨l,rfl,q⟩⟩
theorem Z5 (a b:List UInt8):((⟨a.toArray⟩:ByteArray).toList==(⟨b.toArray⟩:ByteArray).toList)=(a==b):=by rw[Px,Px]
theorem Xqt (l:List UInt8) (i:Nat) (h:i<l.length):(Xo l).getD i []=[b8 (l.getD i 0)]:=by
 simp [Xo,ah,h]
theorem Xc6 (x y:UInt8):Zr .xor .u8 (x.toNat:Int) (y.toNat:Int)=some (.int .u8 ((x ^^^ y).toNat:Int)):=by
 show some (Value.int .u8 (IntKind.u8.wrap (((BitVec.ofInt 8 (x.toBitVec.toNat:Int) ^^^ BitVec.ofInt 8 (y.toBitVec.toNat:Int)).toNat:Nat):Int)))= _
 rw[V3,V3,ec,ec,ed,ed];exact congrArg (fun i=>some (Value.int .u8 i)) (Xbw (x ^^^ y))
set_option linter.all false
def sx:=aa @Ti.eq_def<|aa @Ns.eq_def<|aa @Vw.eq_def<|aa @Io.eq_def<|aa @Nt.eq_def<|aa @Ip.eq_def<|aa @X6d.eq_def<|aa @Tj.eq_def<|aa @Nu.eq_def<|aa @L9.eq_def<|aa @Iq.eq_def<|aa @Y3f.eq_def<|aa @X8b<|aa @X6u<|aa @X4m<|aa @X6v<|aa @X6w<|aa @X9u<|aa @X9s<|aa @X9t<|aa @X1h<|aa @X8c<|aa @X8d<|aa @X8x<|aa @X8y<|aa @X8z<|aa @X90<|aa @X9x<|aa @X9y<|aa @X6x<|aa @X4n<|aa @X6y<|aa @X4o<|aa @X49<|aa @J0<|aa @X4p<|aa @X7c<|aa @X4y<|aa @X46<|aa @X47<|aa @Iy<|aa @X78<|aa @X8e<|aa @X4q<|aa @X6z<|aa @X70<|aa @X29<|aa @X1i<|aa @X8f<|aa @X71<|aa @X72<|aa @g_0<|aa @g_s<|aa @s_0<|aa @s_s<|aa @X73<|aa @X74<|aa @X75<|aa @X76<|aa @X2a<|aa @X77<|aa @X4r<|aa @X4s<|aa @fa<|aa @X4t<|aa @X4u<|aa @X4v<|aa @Y3a<|aa @X7b<|aa @X4x<|aa @X7a<|aa @X4w<|aa @X8g<|aa @X4z<|aa @X50<|aa @X7d<|aa @X1j<|aa @X51<|aa @X8h<|aa @X7e<|aa @X7f<|aa @X52<|aa @X8i<|aa @X9v<|aa @X7g<|aa @X53<|aa @X8j<|aa @X7h<|aa @X54<|aa @X55<|aa @X56<|aa @X57<|aa @X58<|aa @X8k<|aa @X8l<|aa @X1k<|aa @X7i<|aa @Jq<|aa @X59<|aa @X7j<|aa @X1l<|aa @X8n<|aa @X9w<|aa @X7k<|aa @af1<|aa @X9r<|aa @X85<|aa @X86<|aa @Ih<|aa @Ii<|aa @ch1<|aa @af0<|aa @ch0<|aa @rp0<|aa @Nat.zero_mul<|aa @Bool.and_false<|aa @Bool.and_true<|aa @Nat.one_ne_zero<|aa @X82<|aa @X83<|aa @X84<|aa @Y9<|aa @pk1<|aa @pq1<|aa @pk2<|aa @pq2<|aa @pk3<|aa @pq3<|aa @pk4<|aa @pq4<|aa @pk5<|aa @pq5<|aa @pk6<|aa @pq6<|aa @pk7<|aa @pq7<|aa @pk8<|aa @pq8<|aa @pk9<|aa @pq9<|aa @X9l<|aa @X9m<|aa @X9n<|aa @X9o<|aa @X9p<|aa @X9q<|aa @Ie<|aa @Ig<|aa @Cj<|aa @X10<|aa @Ck<|aa @Ij<|aa @Ik<|aa @X12<|aa @X8o<|aa @X8p<|aa @X8q<|aa @X8r<|aa @X8s<|aa @X8t<|aa @X8u<|aa @X8v<|aa @X8w<|aa @Nat.le_refl<|aa @Nat.zero_le<|aa @true_or<|aa @or_true<|aa @false_or<|aa @or_false<|aa @true_and<|aa @and_true<|aa @Bool.false_eq_true<|aa @Bool.true_or<|aa @Bool.false_or<|aa @Bool.or_false<|aa @Int.natCast_nonneg<|aa @Int.ofNat_lt<|aa @Int.toNat_natCast<|aa @Nat.mul_one<|aa @Xf<| @Nat.zero_add
def sy:=aa @List.nil_append.{0}<|aa @List.isEmpty_cons.{0}<|aa @List.isEmpty_nil.{0}<|aa @List.drop_zero.{0}<|aa @List.drop_succ_cons.{0}<|aa @Option.isSome_some.{0}<|aa @List.contains_nil.{0}<|aa @List.contains_cons.{0}<|aa @beq_self_eq_true.{0}<|aa @List.map_cons.{0,0}<|aa @List.map_nil.{0,0}<|aa @List.length_cons.{0}<|aa @List.length_nil.{0}<|aa @List.length_map.{0,0}<|aa @List.length_replicate.{0}<|aa @List.getElem?_toArray.{0}<|aa @List.getElem?_cons_zero.{0}<|aa @List.getElem?_cons_succ.{0}<|aa @Option.join_some.{0}<|aa @Option.join_none.{0}<|aa @decide_true<|aa @decide_false<| @not_false_eq_true
def sl:=aa @Int.cast_ofNat_Int<|aa @List.drop_zero.{0}<|aa @List.drop_succ_cons.{0}<|aa @List.take_succ_cons.{0}<|aa @List.take_zero.{0}<|aa @g_0<|aa @g_s<|aa @s_0<|aa @s_s<|aa @X18<|aa @X4a<|aa @Co<|aa @Fe<|aa @Py<|aa @Nz<|aa @Cp<|aa @J1<|aa @Fi<|aa @Cq<|aa @Tr<|aa @X19<|aa @X4b<|aa @X4c<|aa @Ff<|aa @Fg<|aa @Fh<|aa @J2<|aa @Tq<|aa @X1a<|aa @X4d<|aa @Tt<|aa @X4e<|aa @X4f<|aa @true_and<| @and_true
def sm:=aa @Int.cast_ofNat_Int<|aa @s_0<|aa @s_s<|aa @X1d<|aa @X4j<|aa @Jf<|aa @Fk<|aa @Xuo<|aa @Ct<|aa @Jg<|aa @X6j<|aa @X6k<|aa @X6l<|aa @X6m<|aa @X6n<|aa @X6o<|aa @X6p<|aa @X6q<|aa @X6r<|aa @X6s<|aa @X1e<|aa @X89<|aa @X8a<|aa @X4k<|aa @Jh<|aa @Fm<|aa @Fo<|aa @Ji<|aa @Jj<|aa @Jk<|aa @true_and<| @and_true
theorem Il {σ:AState} {i k:Nat} {q:Res} (l:List (Nat×AV)) {lo1:List (Option Res)} (hi:σ.lo[i]? =some (some q)) (hk:k<σ.n0) (hfree:σ.out k=none) (h:mvL [true] (σ.n+i) k σ.fr (X4 σ.fr l)) (hr:X4l [true] (σ.n+i) k σ.lo lo1):
  σ.le {σ with fr:=X4 σ.fr l,lo:=lo1.set i (Xoe (some q)),out:=Xw σ.out k q}:=Jm hi hk hfree h hr
end Go.VS
