/-
 The value-semantics layer, part 14: words and bytes.
-/
import Derived.Test.YtjgbbjooeibppaaZVsSimp
namespace Go.VS
set_option linter.unusedVariables false
set_option linter.unusedSimpArgs false
open Go
abbrev b8 (x:UInt8):AV:= .val (.int .u8 (x.toNat:Int))
abbrev w32 (x:BitVec 32):AV:= .val (.int .u32 (x.toNat:Int))
abbrev w64 (x:BitVec 64):AV:= .val (.int .u64 (x.toNat:Int))
abbrev i64 (x:Int):AV:= .val (.int .i64 x)
abbrev bool (x:Bool):AV:= .val (.bool x)
theorem V3 {w n:Nat}:BitVec.ofInt w (n:Int)=BitVec.ofNat w n:=by simp
theorem Xag (x:BitVec 32):IntKind.u32.wrap (x.toNat:Int)=(x.toNat:Int):=Xc7 (by omega) (by have:=x.isLt;omega)
theorem Xbw (x:UInt8):IntKind.u8.wrap (x.toNat:Int)=(x.toNat:Int):=Se (by omega) (by have:=x.toNat_lt;omega)
theorem Xb5 (x y:BitVec 32):IntKind.u32.wrap ((x.toNat:Int)+(y.toNat:Int))=((x+y).toNat:Int):=by
 rw[Xar,BitVec.toNat_add];omega
theorem Xbk (x y:BitVec 32):Zr .and .u32 (x.toNat:Int) (y.toNat:Int)=some (.int .u32 ((x&&&y).toNat:Int)):=by
 show some (Value.int .u32 (IntKind.u32.wrap (((BitVec.ofInt 32 (x.toNat:Int)&&&BitVec.ofInt 32 (y.toNat:Int)).toNat:Nat):Int)))= _
 rw[V3,V3,BitVec.ofNat_toNat,BitVec.ofNat_toNat,BitVec.setWidth_eq,BitVec.setWidth_eq,Xag]
theorem Xcq (x y:BitVec 32):Zr .or .u32 (x.toNat:Int) (y.toNat:Int)=some (.int .u32 ((x|||y).toNat:Int)):=by
 show some (Value.int .u32 (IntKind.u32.wrap (((BitVec.ofInt 32 (x.toNat:Int)|||BitVec.ofInt 32 (y.toNat:Int)).toNat:Nat):Int)))= _
 rw[V3,V3,BitVec.ofNat_toNat,BitVec.ofNat_toNat,BitVec.setWidth_eq,BitVec.setWidth_eq,Xag]
theorem Xac (x y:BitVec 32):Zr .xor .u32 (x.toNat:Int) (y.toNat:Int)=some (.int .u32 ((x ^^^ y).toNat:Int)):=by
 show some (Value.int .u32 (IntKind.u32.wrap (((BitVec.ofInt 32 (x.toNat:Int) ^^^ BitVec.ofInt 32 (y.toNat:Int)).toNat:Nat):Int)))= _
 rw[V3,V3,BitVec.ofNat_toNat,BitVec.ofNat_toNat,BitVec.setWidth_eq,BitVec.setWidth_eq,Xag]
theorem Xdw (x:BitVec 32):IntKind.u32.wrap (((BitVec.ofInt IntKind.u32.bits (if IntKind.u32.signed then -1 else IntKind.u32.max) ^^^ BitVec.ofInt IntKind.u32.bits (x.toNat:Int)).toNat:Nat):Int)=((~~~x).toNat:Int):=by
 show IntKind.u32.wrap (((BitVec.ofInt 32 (4294967295:Int) ^^^ BitVec.ofInt 32 (x.toNat:Int)).toNat:Nat):Int)=((~~~x).toNat:Int)
 have e:BitVec.ofInt 32 (4294967295:Int)=BitVec.allOnes 32:=by decide
 rw[e,V3,BitVec.ofNat_toNat,BitVec.setWidth_eq,Xag,BitVec.allOnes_xor]
theorem Xcr (x:BitVec 32) {b:Int} (h:0≤b):Zr .shr .u32 (x.toNat:Int) b=some (.int .u32 ((x>>>b.toNat).toNat:Int)):=by
 have hlt:=x.isLt
 simp only[Zr,if_neg (Int.not_lt.2 h),IntKind.bits,BitVec.toNat_ushiftRight,Nat.shiftRight_eq_div_pow]
 congr 2
 have e:((2:Int) ^ min b.toNat 32)=((2 ^ min b.toNat 32:Nat):Int):=by simp
 rw[e,Int.fdiv_eq_ediv_of_nonneg _ (Int.natCast_nonneg _),← Int.natCast_ediv]
 congr 1
 rcases Nat.le_total b.toNat 32 with h1|h1
 ·rw[Nat.min_eq_left h1]
 ·rw[Nat.min_eq_right h1,Nat.div_eq_of_lt hlt,Nat.div_eq_of_lt]
  exact Nat.lt_of_lt_of_le hlt (Nat.pow_le_pow_right (by decide) h1)
theorem X3y (x:BitVec 64) {b:Int} (h:0≤b):Zr .shr .u64 (x.toNat:Int) b=some (.int .u64 ((x>>>b.toNat).toNat:Int)):=by
 have hlt:=x.isLt
 simp only[Zr,if_neg (Int.not_lt.2 h),IntKind.bits,BitVec.toNat_ushiftRight,Nat.shiftRight_eq_div_pow]
 congr 2
 have e:((2:Int) ^ min b.toNat 64)=((2 ^ min b.toNat 64:Nat):Int):=by simp
 rw[e,Int.fdiv_eq_ediv_of_nonneg _ (Int.natCast_nonneg _),← Int.natCast_ediv]
 congr 1
 rcases Nat.le_total b.toNat 64 with h1|h1
 ·rw[Nat.min_eq_left h1]
 ·rw[Nat.min_eq_right h1,Nat.div_eq_of_lt hlt,Nat.div_eq_of_lt]
  exact Nat.lt_of_lt_of_le hlt (Nat.pow_le_pow_right (by decide) h1)
theorem Xbl (x:BitVec 32) {b:Int} (h:0≤b):Zr .shl .u32 (x.toNat:Int) b=some (.int .u32 ((x<<<b.toNat).toNat:Int)):=by
 simp only[Zr,if_neg (Int.not_lt.2 h),IntKind.bits,BitVec.toNat_shiftLeft,Nat.shiftLeft_eq,Xar]
 congr 2
 have e:((2:Int) ^ min b.toNat 32)=((2 ^ min b.toNat 32:Nat):Int):=by simp
 rw[e,← Int.natCast_mul]
 rcases Nat.le_total b.toNat 32 with h1|h1
 ·rw[Nat.min_eq_left h1];omega
 ·rw[Nat.min_eq_right h1]
  have h2:x.toNat*2 ^ b.toNat % 2 ^ 32=0:=Nat.mod_eq_zero_of_dvd (Nat.dvd_mul_left_of_dvd (Nat.pow_dvd_pow 2 h1) _)
  rw[h2];omega
theorem Yl {n:Nat} (k:Int) (k':Nat) (e:k=k') (h:n+k'<4611686018427387904):IntKind.i64.wrap ((n:Int)+k)=((n+k':Nat):Int):=by
 subst e;rw[wrap_i64]<;>omega
theorem X25 {n:Nat} (k:Int) (k':Nat) (e:k=k') (h:k'≤n) (h2:n<4611686018427387904):IntKind.i64.wrap ((n:Int) - k)=((n - k':Nat):Int):=by
 subst e;rw[wrap_i64]<;>omega
theorem X95 {n:Nat} (k:Int) (k':Nat) (e:k=k') (h:k'*n<4611686018427387904):IntKind.i64.wrap (k*(n:Int))=((k'*n:Nat):Int):=by
 subst e;rw[← Int.natCast_mul,wrap_i64]<;>omega
theorem nc:((0:Nat):Int)=0∧((1:Nat):Int)=1∧((4:Nat):Int)=4∧((8:Nat):Int)=8∧((16:Nat):Int)=16∧((32:Nat):Int)=32∧((64:Nat):Int)=64:=⟨rfl,rfl,rfl,rfl,rfl,rfl,rfl⟩
theorem Xd9 (x:UInt8):IntKind.u32.wrap (x.toNat:Int)=((BitVec.ofNat 32 x.toNat).toNat:Int):=by
 have:=x.toNat_lt
 rw[Xar,BitVec.toNat_ofNat];omega
theorem Xda (x:BitVec 64):IntKind.u8.wrap (x.toNat:Int)=((UInt8.ofNat x.toNat).toNat:Int):=by
 rw[X1n,UInt8.toNat_ofNat'];omega
theorem Y7y (x:BitVec 32):IntKind.u8.wrap (x.toNat:Int)=((UInt8.ofNat x.toNat).toNat:Int):=by
 rw[X1n,UInt8.toNat_ofNat'];omega
theorem X69 {α:Type} (f:α→AV) (l:List α) (k:Nat) (d:α) (h:k<l.length):(List.drop k (List.map f l)).head? =some (f (l.getD k d)):=by
 rw[List.head?_drop,List.getElem?_map,List.getElem?_eq_getElem h,List.getD_eq_getElem?_getD,List.getElem?_eq_getElem h];rfl
theorem X0z {α:Type} (s:Nat) (f:α→AV) (l:List α) (k:Nat) (d:α) (h:k<l.length):pick false s (List.drop k (List.map f l))=some (f (l.getD k d)):=X69 f l k d h
theorem Y9 (s:Nat) (x:AV) (l:List AV):pick false s (x::l)=some x:=rfl
theorem pk1 (x0:AV):pick true 1 [x0]=some (.agg [x0]):=rfl
theorem pq1 (x0:AV) (l:List AV):pick true 1 (x0::l)=some (.agg [x0]):=by simp [pick]
theorem pk2 (x0 x1:AV):pick true 2 [x0,x1]=some (.agg [x0,x1]):=rfl
theorem pq2 (x0 x1:AV) (l:List AV):pick true 2 (x0::x1::l)=some (.agg [x0,x1]):=by simp [pick]
theorem pk3 (x0 x1 x2:AV):pick true 3 [x0,x1,x2]=some (.agg [x0,x1,x2]):=rfl
theorem pq3 (x0 x1 x2:AV) (l:List AV):pick true 3 (x0::x1::x2::l)=some (.agg [x0,x1,x2]):=by simp [pick]
theorem pk4 (x0 x1 x2 x3:AV):pick true 4 [x0,x1,x2,x3]=some (.agg [x0,x1,x2,x3]):=rfl
theorem pq4 (x0 x1 x2 x3:AV) (l:List AV):pick true 4 (x0::x1::x2::x3::l)=some (.agg [x0,x1,x2,x3]):=by simp [pick]
theorem pk5 (x0 x1 x2 x3 x4:AV):pick true 5 [x0,x1,x2,x3,x4]=some (.agg [x0,x1,x2,x3,x4]):=rfl
theorem pq5 (x0 x1 x2 x3 x4:AV) (l:List AV):pick true 5 (x0::x1::x2::x3::x4::l)=some (.agg [x0,x1,x2,x3,x4]):=by simp [pick]
theorem pk6 (x0 x1 x2 x3 x4 x5:AV):pick true 6 [x0,x1,x2,x3,x4,x5]=some (.agg [x0,x1,x2,x3,x4,x5]):=rfl
theorem pq6 (x0 x1 x2 x3 x4 x5:AV) (l:List AV):pick true 6 (x0::x1::x2::x3::x4::x5::l)=some (.agg [x0,x1,x2,x3,x4,x5]):=by simp [pick]
theorem pk7 (x0 x1 x2 x3 x4 x5 x6:AV):pick true 7 [x0,x1,x2,x3,x4,x5,x6]=some (.agg [x0,x1,x2,x3,x4,x5,x6]):=rfl
theorem pq7 (x0 x1 x2 x3 x4 x5 x6:AV) (l:List AV):pick true 7 (x0::x1::x2::x3::x4::x5::x6::l)=some (.agg [x0,x1,x2,x3,x4,x5,x6]):=by simp [pick]
theorem pk8 (x0 x1 x2 x3 x4 x5 x6 x7:AV):pick true 8 [x0,x1,x2,x3,x4,x5,x6,x7]=some (.agg [x0,x1,x2,x3,x4,x5,x6,x7]):=rfl
theorem pq8 (x0 x1 x2 x3 x4 x5 x6 x7:AV) (l:List AV):pick true 8 (x0::x1::x2::x3::x4::x5::x6::x7::l)=some (.agg [x0,x1,x2,x3,x4,x5,x6,x7]):=by simp [pick]
theorem pk9 (x0 x1 x2 x3 x4 x5 x6 x7 x8:AV):pick true 9 [x0,x1,x2,x3,x4,x5,x6,x7,x8]=some (.agg [x0,x1,x2,x3,x4,x5,x6,x7,x8]):=rfl
theorem pq9 (x0 x1 x2 x3 x4 x5 x6 x7 x8:AV) (l:List AV):pick true 9 (x0::x1::x2::x3::x4::x5::x6::x7::x8::l)=some (.agg [x0,x1,x2,x3,x4,x5,x6,x7,x8]):=by simp [pick]
theorem X9l (x0 x1 x2 x3 x4 x5 x6 x7 x8 x9:AV):pick true 10 [x0,x1,x2,x3,x4,x5,x6,x7,x8,x9]=some (.agg [x0,x1,x2,x3,x4,x5,x6,x7,x8,x9]):=rfl
theorem X9m (x0 x1 x2 x3 x4 x5 x6 x7 x8 x9:AV) (l:List AV):pick true 10 (x0::x1::x2::x3::x4::x5::x6::x7::x8::x9::l)=some (.agg [x0,x1,x2,x3,x4,x5,x6,x7,x8,x9]):=by simp [pick]
theorem X9n (x0 x1 x2 x3 x4 x5 x6 x7 x8 x9 x10:AV):pick true 11 [x0,x1,x2,x3,x4,x5,x6,x7,x8,x9,x10]=some (.agg [x0,x1,x2,x3,x4,x5,x6,x7,x8,x9,x10]):=rfl
theorem X9o (x0 x1 x2 x3 x4 x5 x6 x7 x8 x9 x10:AV) (l:List AV):pick true 11 (x0::x1::x2::x3::x4::x5::x6::x7::x8::x9::x10::l)=some (.agg [x0,x1,x2,x3,x4,x5,x6,x7,x8,x9,x10]):=by simp [pick]
theorem X9p (x0 x1 x2 x3 x4 x5 x6 x7 x8 x9 x10 x11:AV):pick true 12 [x0,x1,x2,x3,x4,x5,x6,x7,x8,x9,x10,x11]=some (.agg [x0,x1,x2,x3,x4,x5,x6,x7,x8,x9,x10,x11]):=rfl
theorem X9q (x0 x1 x2 x3 x4 x5 x6 x7 x8 x9 x10 x11:AV) (l:List AV):pick true 12 (x0::x1::x2::x3::x4::x5::x6::x7::x8::x9::x10::x11::l)=some (.agg [x0,x1,x2,x3,x4,x5,x6,x7,x8,x9,x10,x11]):=by simp [pick]
theorem E6 {n:Nat} {cs:List AV} (h:cs.length=n):pick true n cs=some (.agg cs):=by
 subst h;simp [pick]
theorem F7 {α:Type} (f:α→AV) (l:List α) (k:Nat) (x:α) (h:k<l.length):Yf (List.map f l) k [f x]=List.map f (l.set k x):=by
 have e:l.set k x=l.take k++x::l.drop (k+1):=by rw[List.set_eq_take_append_cons_drop,if_pos h]
 rw[e]
 simp only[Yf,List.length_cons,List.length_nil,Nat.zero_add,List.map_append,List.map_take,List.map_cons,List.map_drop,List.append_assoc,List.cons_append,List.nil_append]
theorem X82 (l:List AV):Yf l 0 []=l:=by simp [Yf]
theorem X83 (a x:AV) (l xs:List AV):Yf (a::l) 0 (x::xs)=x::Yf l 0 xs:=by simp [Yf]
theorem X84 (a:AV) (l xs:List AV) (i:Nat):Yf (a::l) (i+1) xs=a::Yf l i xs:=by
 simp only[Yf,List.take_succ_cons,List.cons_append]
 rw[show i+1+xs.length=(i+xs.length)+1 by omega,List.drop_succ_cons]
theorem X0 {cs xs:List AV} (h:xs.length=cs.length):Yf cs 0 xs=xs:=by
 simp [Yf,List.drop_eq_nil_of_le,h]
theorem Ie (v:Value):AV.parts (.val v)=some [.val v]:=rfl
theorem Ig (cs:List AV):AV.parts (.agg cs)=some cs:=rfl
theorem Cj (sz:Nat) (els:List (List AV)) (md:Md):AV.parts (.sl sz els md)=some [.sl sz els md]:=rfl
theorem Ih (k o l:Nat) (f:Bool):AV.parts (.bsl k o l f)=some [.bsl k o l f]:=rfl
theorem Ii (k m:Nat):AV.parts (.vsl k m)=some [.vsl k m]:=rfl
theorem X10 (f:Fn) (l:List AV):AV.parts (.fn f l)=some [.fn f l]:=rfl
theorem Ck (t:TypeId) (x:AV):AV.parts (.iface t x)=some [.iface t x]:=rfl
theorem Ij (cs:List AV):AV.parts (.ref cs)=some [.ref cs]:=rfl
theorem Ik (k o:Nat):AV.parts (.ptr k o)=some [.ptr k o]:=rfl
theorem Xf (n:Nat) (k:IntKind):(List.replicate n (Value.int k 0)).map Yq=List.replicate n (.val (.int k 0)):=by simp [X70]
theorem Yk {T:TypeId→Option TI} {σ:AState} {K:AV→List (Nat×Res)→Prop} {t e:TypeId} {ti te:TI} (ht:T t=some ti) (hd:ti.desc= .slice e) (he:T e=some te) (h1:0<te.size) (h2:te.size≤16777216) {x:AV} {ps:List AV} (hp:x.parts=some ps) (hl:ps.length=te.size):
  X1 T σ K none t 1 [(0,x)]=K (.sl te.size [ps] .full) []:=by
 have hz:(Y7 te.zero (1*te.size)).length=te.size:=by simp [Y7]
 have hr:U4 (fun i=>some (i*te.size,te.size)) (Y7 te.zero (1*te.size)) [(0,x)]=some ps:=by
  simp only[U4,hp,hl,Nat.zero_mul,Nat.zero_add,hz,Nat.le_refl,and_self,if_true,Yf,List.take_zero,List.nil_append]
  rw[List.drop_of_length_le (by rw[hz];exact Nat.le_refl _)];simp
 have hc:Yh te.size 1 ps=[ps]:=by
  simp only[Yh]
  rw[List.take_of_length_le (by omega)]
 rw[Nat.one_mul] at hr
 simp only[X1,ht,hd,he,hr,h1,Nat.one_mul,h2,true_and,hl,hc]
theorem Te {T:TypeId→Option TI} {σ:AState} {K:AV→List (Nat×Res)→Prop} {t e:TypeId} {ti te:TI} (ht:T t=some ti) (hd:ti.desc= .slice e) (he:T e=some te) (h1:te.size=1) {x y a b:AV} (hp:x.parts=some [a]) (hq:y.parts=some [b]):
  X1 T σ K none t 2 [(0,x),(1,y)]=K (.sl 1 [[a],[b]] .full) []:=by
 have hz:(Y7 te.zero 2).length=2:=by simp [Y7]
 obtain⟨z0,z1,hz2⟩:∃z0 z1,Y7 te.zero 2=[z0,z1]:=⟨_,_,rfl⟩
 have hr:U4 (fun i=>some (i*te.size,te.size)) (Y7 te.zero (2*te.size)) [(0,x),(1,y)]=some [a,b]:=by
  rw[h1,show 2*1=2 from rfl,hz2]
  simp [U4,hp,hq,Yf]
 simp only[X1,ht,hd,he,hr]
 simp [h1,Yh]
theorem af1 (z v:Value):U4 (fun i=>some (i,1)) (Y7 [z] 1) [(0,.val v)]=some [.val v]:=rfl
theorem X9r (pl:List (Nat×Nat)) (cs:List AV) (i:Nat) (x:AV) (l:List (Nat×AV)):U4 (W7 pl) cs ((i,x)::l)=match W7 pl i,x.parts with
  |some (off,size),some xs=>if xs.length=size∧off+size≤cs.length then U4 (W7 pl) (Yf cs off xs) l else none
  | _,_=>none:=rfl
theorem X85 (p:Nat×Nat) (l:List (Nat×Nat)):W7 (p::l) 0=some p:=rfl
theorem X86 (p:Nat×Nat) (l:List (Nat×Nat)) (i:Nat):W7 (p::l) (i+1)=W7 l i:=rfl
theorem af0 (f:Nat→Option (Nat×Nat)) (cs:List AV):U4 f cs []=some cs:=rfl
theorem ch0 (sz:Nat) (cs:List AV):Yh sz 0 cs=[]:=rfl
theorem rp0 (z:List Value):Y7 z 0=[]:=rfl
theorem ch1 (x:AV):Yh 1 1 [x]=[[x]]:=rfl
theorem Xah (l:List UInt8) (x:UInt8):Xo l++[[.val (.int .u8 (x.toNat:Int))]]=Xo (l++[x]):=by simp [Xo]
theorem L6 (l l':List UInt8):Xo l++Xo l'=Xo (l++l'):=by simp [Xo]
theorem Q1 (l:List UInt8) (n:Nat):(Xo l).drop n=Xo (l.drop n):=by simp [Xo]
theorem Q2 (l:List UInt8) (n:Nat):(Xo l).take n=Xo (l.take n):=by simp [Xo]
theorem Xa7 (l:List UInt8):(Xo l).flatten=l.map b8:=by
 induction l with
 |nil=>rfl
 |cons x l ih=>simp only[Xo,List.map_cons,List.flatten_cons] at ih⊢;rw[ih];rfl
theorem Wb:Xo []=[]:=rfl
theorem X5 (l:List UInt8):(Xo l).length=l.length:=by simp [Xo]
theorem Xbm {σ:AState} (l:List (Nat×AV)) (h:leL σ.fr (X4 σ.fr l)):σ.le {σ with fr:=X4 σ.fr l}:=Xb9 h
theorem Xbz {P:Program} {f:FuncId} {sz:Nat} {els:List (List AV)} {rest:List AV} {needs:List (Nat×Option Res)} {r:AV} {gives:List (Nat×Res)} (hn:els=[]→Xr P f (.sl sz [] .nil::rest) needs r gives)
  (hs:Xr P f (.sl sz els .nn::rest) needs r gives):Xr P f (.sl sz els .sh::rest) needs r gives:=fun M N vs hI hR h1 h2 h3=>by
 obtain⟨hl,hr⟩:=hR
 have h0:0<vs.size:=by rw[← hl];simp
 have hv0:vs[0]? =some vs[0]:=by simp [h0]
 have turn:∀x,R M x vs[0]→RL M (x::rest) vs:=fun x hx=>⟨hl,fun i c v hi hv=>by
  cases i with
  |zero=>simp at hi;subst hi;rw[hv0] at hv;injection hv with hv;rw[← hv];exact hx
  |succ i=>exact hr (i+1) c v (by simpa using hi) hv⟩
 have hR0:=hr 0 _ _ rfl hv0
 generalize vs[0]=v at hR0 turn
 cases hR0 with
 |nil _ _ a q1 q2=>
  cases a with
  |none=>exact hn rfl M N vs hI (turn _ (.nil _ _ none (by intro h;cases h) (fun _=>rfl))) h1 h2 h3
  |some a=>exact hs M N vs hI (turn _ (.nil _ _ (some a) (by intro _ h;cases h) (by intro h;cases h))) h1 h2 h3
 |slice _ _ _ a cap q1 q2 q3 q4 q5 q6=>exact hs M N vs hI (turn _ (.slice sz els .nn a cap q1 q2 q3 q4 q5 trivial)) h1 h2 h3
theorem Xdb {P:Program} {f:FuncId} {args args':List AV} {needs:List (Nat×Option Res)} {r:AV} {gives:List (Nat×Res)} (h:Xr P f args needs r gives) (hle:leL args' args):Xr P f args' needs r gives:=
 fun M N vs hI hR hn hN hu=>h M N vs hI (hR.le hle) hn hN hu
theorem Xc5:∀(l:List UInt8),Yh 1 l.length (l.map b8)=Xo l
 |[]=>rfl
 |x::l=>by
  have:=Xc5 l
  simp only[List.length_cons,List.map_cons,Yh,List.take_succ_cons,List.take_zero,List.drop_succ_cons,List.drop_zero,this]
  rfl
theorem Xa1 (l:List UInt8) {n:Nat} (h:l.length=n):Yh 1 n (l.map b8)=Xo l:=by subst h;exact Xc5 l
theorem Np (bs:ByteArray):∀(n i:Nat) (r:List UInt8),bs.size - i=n→ByteArray.toList.loop bs i r=r.reverse++bs.data.toList.drop i
 |0,i,r,h=>by
  unfold ByteArray.toList.loop
  rw[if_neg (by omega)]
  have:bs.data.toList.length≤i:=by simp;have:bs.size=bs.data.size:=rfl;omega
  rw[List.drop_eq_nil_of_le this,List.append_nil]
 |n+1,i,r,h=>by
  unfold ByteArray.toList.loop
  have hi:i<bs.size:=by omega
  rw[if_pos hi,Np bs n (i+1) _ (by omega)]
  have hi':i<bs.data.toList.length:=by simpa using hi
  rw[List.drop_eq_getElem_cons hi',List.reverse_cons,List.append_assoc]
  have e:bs.get! i=bs.data.toList[i]:=by
   show bs.data[i]! = _
   rw[getElem!_pos bs.data i hi];simp
  rw[e];rfl
theorem Px (l:List UInt8):(⟨l.toArray⟩:ByteArray).toList=l:=by
 unfold ByteArray.toList
 rw[Np _ _ _ _ rfl]
 simp
theorem Nq:∀{l m:List UInt8},Xo l=Xo m→l=m
 |[],[],_=>rfl
 |x::l,y::m,h=>by
  simp only[Xo,List.map_cons,List.cons.injEq,AV.val.injEq,Value.int.injEq,true_and,and_true] at h
  have e:x=y:=UInt8.toNat_inj.1 (by omega)
  rw[e,Nq (l:=l) (m:=m) h.2]
 |[],_:: _,h=>by simp [Xo] at h
 | _:: _,[],h=>by simp [Xo] at h
theorem Ya (l:List UInt8) (Q:List UInt8→Prop):(∃l',Xo l=Xo l'∧Q l')↔Q l:=
 ⟨fun⟨l',h,q⟩=>by rw[Nq h];exact q,fun q=>⟨l,rfl,q⟩⟩
theorem Z5 (a b:List UInt8):((⟨a.toArray⟩:ByteArray).toList==(⟨b.toArray⟩:ByteArray).toList)=(a==b):=by rw[Px,Px]
theorem Xqt (l:List UInt8) (i:Nat) (h:i<l.length):(Xo l).getD i []=[b8 (l.getD i 0)]:=by
 simp [Xo,List.getD_eq_getElem?_getD,h]
theorem Xc6 (x y:UInt8):Zr .xor .u8 (x.toNat:Int) (y.toNat:Int)=some (.int .u8 ((x ^^^ y).toNat:Int)):=by
 show some (Value.int .u8 (IntKind.u8.wrap (((BitVec.ofInt 8 (x.toBitVec.toNat:Int) ^^^ BitVec.ofInt 8 (y.toBitVec.toNat:Int)).toNat:Nat):Int)))= _
 rw[V3,V3,BitVec.ofNat_toNat,BitVec.ofNat_toNat,BitVec.setWidth_eq,BitVec.setWidth_eq]
 exact congrArg (fun i=>some (Value.int .u8 i)) (Xbw (x ^^^ y))
set_option linter.defProp false
def sx:=And.intro @Ti.eq_def<|And.intro @Ns.eq_def<|And.intro @Vw.eq_def<|And.intro @Io.eq_def<|And.intro @Nt.eq_def<|And.intro @Ip.eq_def<|And.intro @X6d.eq_def<|And.intro @Tj.eq_def<|And.intro @Nu.eq_def<|And.intro @L9.eq_def<|And.intro @Iq.eq_def<|And.intro @Y3f.eq_def<|And.intro @X8b<|And.intro @X6u<|And.intro @X4m<|And.intro @X6v<|And.intro @X6w<|And.intro @X9u<|And.intro @X9s<|And.intro @X9t<|And.intro @X1h<|And.intro @X8c<|And.intro @X8d<|And.intro @X8x<|And.intro @X8y<|And.intro @X8z<|And.intro @X90<|And.intro @X9x<|And.intro @X9y<|And.intro @X6x<|And.intro @X4n<|And.intro @X6y<|And.intro @X4o<|And.intro @X49<|And.intro @J0<|And.intro @X4p<|And.intro @X7c<|And.intro @X4y<|And.intro @X46<|And.intro @X47<|And.intro @Iy<|And.intro @X78<|And.intro @X8e<|And.intro @X4q<|And.intro @X6z<|And.intro @X70<|And.intro @X29<|And.intro @X1i<|And.intro @X8f<|And.intro @X71<|And.intro @X72<|And.intro @g_0<|And.intro @g_s<|And.intro @s_0<|And.intro @s_s<|And.intro @X73<|And.intro @X74<|And.intro @X75<|And.intro @X76<|And.intro @X2a<|And.intro @X77<|And.intro @X4r<|And.intro @X4s<|And.intro @fa<|And.intro @X4t<|And.intro @X4u<|And.intro @X4v<|And.intro @Y3a<|And.intro @X7b<|And.intro @X4x<|And.intro @X7a<|And.intro @X4w<|And.intro @X8g<|And.intro @X4z<|And.intro @X50<|And.intro @X7d<|And.intro @X1j<|And.intro @X51<|And.intro @X8h<|And.intro @X7e<|And.intro @X7f<|And.intro @X52<|And.intro @X8i<|And.intro @X9v<|And.intro @X7g<|And.intro @X53<|And.intro @X8j<|And.intro @X7h<|And.intro @X54<|And.intro @X55<|And.intro @X56<|And.intro @X57<|And.intro @X58<|And.intro @X8k<|And.intro @X8l<|And.intro @X1k<|And.intro @X7i<|And.intro @Jq<|And.intro @X8m<|And.intro @X59<|And.intro @X7j<|And.intro @X1l<|And.intro @X8n<|And.intro @X9w<|And.intro @X7k<|And.intro @af1<|And.intro @X9r<|And.intro @X85<|And.intro @X86<|And.intro @Ih<|And.intro @Ii<|And.intro @ch1<|And.intro @af0<|And.intro @ch0<|And.intro @rp0<|And.intro @Nat.zero_mul<|And.intro @Bool.and_false<|And.intro @Bool.and_true<|And.intro @Nat.one_ne_zero<|And.intro @X82<|And.intro @X83<|And.intro @X84<|And.intro @Y9<|And.intro @pk1<|And.intro @pq1<|And.intro @pk2<|And.intro @pq2<|And.intro @pk3<|And.intro @pq3<|And.intro @pk4<|And.intro @pq4<|And.intro @pk5<|And.intro @pq5<|And.intro @pk6<|And.intro @pq6<|And.intro @pk7<|And.intro @pq7<|And.intro @pk8<|And.intro @pq8<|And.intro @pk9<|And.intro @pq9<|And.intro @X9l<|And.intro @X9m<|And.intro @X9n<|And.intro @X9o<|And.intro @X9p<|And.intro @X9q<|And.intro @Ie<|And.intro @Ig<|And.intro @Cj<|And.intro @X10<|And.intro @Ck<|And.intro @Ij<|And.intro @Ik<|And.intro @X12<|And.intro @X8o<|And.intro @X8p<|And.intro @X8q<|And.intro @X8r<|And.intro @X8s<|And.intro @X8t<|And.intro @X8u<|And.intro @X8v<|And.intro @X8w<|And.intro @Nat.le_refl<|And.intro @Nat.zero_le<|And.intro @true_or<|And.intro @or_true<|And.intro @false_or<|And.intro @or_false<|And.intro @true_and<|And.intro @and_true<|And.intro @Bool.false_eq_true<|And.intro @Bool.true_or<|And.intro @Bool.false_or<|And.intro @Bool.or_false<|And.intro @Int.natCast_nonneg<|And.intro @Int.ofNat_lt<|And.intro @Int.toNat_natCast<|And.intro @Nat.mul_one<|And.intro @Xf<| @Nat.zero_add
def sy:=And.intro @List.nil_append.{0}<|And.intro @List.isEmpty_cons.{0}<|And.intro @List.isEmpty_nil.{0}<|And.intro @List.drop_zero.{0}<|And.intro @List.drop_succ_cons.{0}<|And.intro @Option.isSome_some.{0}<|And.intro @List.contains_nil.{0}<|And.intro @List.contains_cons.{0}<|And.intro @beq_self_eq_true.{0}<|And.intro @List.map_cons.{0,0}<|And.intro @List.map_nil.{0,0}<|And.intro @List.length_cons.{0}<|And.intro @List.length_nil.{0}<|And.intro @List.length_map.{0,0}<|And.intro @List.length_replicate.{0}<|And.intro @List.getElem?_toArray.{0}<|And.intro @List.getElem?_cons_zero.{0}<|And.intro @List.getElem?_cons_succ.{0}<|And.intro @Option.join_some.{0}<|And.intro @Option.join_none.{0}<|And.intro @decide_true<|And.intro @decide_false<| @not_false_eq_true
def sl:=And.intro @Int.cast_ofNat_Int<|And.intro @List.drop_zero.{0}<|And.intro @List.drop_succ_cons.{0}<|And.intro @List.take_succ_cons.{0}<|And.intro @List.take_zero.{0}<|And.intro @g_0<|And.intro @g_s<|And.intro @s_0<|And.intro @s_s<|And.intro @X18<|And.intro @X4a<|And.intro @Co<|And.intro @Fe<|And.intro @Py<|And.intro @Nz<|And.intro @Cp<|And.intro @J1<|And.intro @Fi<|And.intro @Cq<|And.intro @Tr<|And.intro @X19<|And.intro @X4b<|And.intro @X4c<|And.intro @Ff<|And.intro @Fg<|And.intro @Fh<|And.intro @J2<|And.intro @Tq<|And.intro @X1a<|And.intro @X4d<|And.intro @Tt<|And.intro @X4e<|And.intro @X4f<|And.intro @true_and<| @and_true
def sm:=And.intro @Int.cast_ofNat_Int<|And.intro @s_0<|And.intro @s_s<|And.intro @X1d<|And.intro @X4j<|And.intro @Jf<|And.intro @Fk<|And.intro @Xuo<|And.intro @Ct<|And.intro @Jg<|And.intro @X6j<|And.intro @X6k<|And.intro @X6l<|And.intro @X6m<|And.intro @X6n<|And.intro @X6o<|And.intro @X6p<|And.intro @X6q<|And.intro @X6r<|And.intro @X6s<|And.intro @X1e<|And.intro @X89<|And.intro @X8a<|And.intro @X4k<|And.intro @Jh<|And.intro @Fm<|And.intro @Fo<|And.intro @Ji<|And.intro @Jj<|And.intro @Jk<|And.intro @true_and<| @and_true
end Go.VS
