/- The layer of abstract values, joined. -/
import Derived.Test.YtjgbbjooeibppaaZD12
import Derived.KernelRfl
import Derived.Test.YtjgbbjooeibppaaZVsLaw
import Derived.Test.YtjgbbjooeibppaaZD2
namespace Go.Proofs.Ytjgbbjooeibppaa
set_option linter.unusedSimpArgs false
set_option linter.unusedVariables false
set_option maxHeartbeats 4000000
set_option maxRecDepth 4000
open Go Go.VS Tab
theorem Y41 {kp:Nat→Nat} {d:Dsk} {i:Nat} (h:i<d.waits.length):Y3l kp d (i+1)=lay (Y3l kp d i) d.waits[i] (kp i):=by rw[Y3l,dif_pos h]
abbrev kf (kp:List Int):Nat→Nat:=fun i=>(kp.getD i 0).toNat
theorem Yd8 {kp:List Int} (h:∀x,x∈kp→0≤x∧x<129) (i:Nat):kf kp i≤128:=by
 show(kp.getD i 0).toNat≤128
 rw[List.getD_eq_getElem?_getD]
 by_cases hi:i<kp.length
 ·rw[List.getElem?_eq_getElem hi]
  have:=h _ (List.getElem_mem hi)
  show(kp[i]).toNat≤128
  omega
 ·rw[List.getElem?_eq_none (by omega)];decide
structure DOk (d:Dsk):Prop where
 s:d.sectors.length≤Xiv
 w:d.waits.length≤Xiv
 sb:∀b,b∈d.sectors→b.length≤Xiv
 wb:∀w,w∈d.waits→w.data.length≤Xiv
theorem Xj6 (d:Dsk) (h:DOk d):Xr Try.prog 11 [Y3p d] [] (bool (Xjd d)) []:=Xn5 d h.s h.w h.sb h.wb
theorem Xki:Opens Try.prog 44 (fun l:List UInt8=>Y6 l) (fun l=>l.length≤Xiv):=
 (Cr Try.underlying44 Try.underlying5 (by kernel_rfl) (of_decide_eq_true (by kernel_rfl))).map fun l hl=>⟨l,hl,rfl⟩
theorem Yad:Opens Try.prog 76 wrC (fun w=>w.data.length≤Xiv):=
 (Zh Try.underlying76 (tot:=2) (by kernel_rfl) (.cons (s:=1) (Tv Try.underlying3) rfl (by kernel_rfl) rfl (.cons (s:=1) Xki rfl (by kernel_rfl) rfl .nil))).map
  fun p hp=>⟨⟨p.1,p.2.1⟩,hp.2.1,rfl⟩
theorem Y6z:Opens Try.prog 43 Xha DOk:=
 (Zh Try.underlying43 (tot:=2) (by kernel_rfl) (.cons (s:=1) (Zg Try.underlying40 Xki (sz:=1) (by kernel_rfl) (by decide) (of_decide_eq_true (by kernel_rfl))) rfl (by kernel_rfl) rfl
  (.cons (s:=1) (Zg Try.underlying41 Yad (sz:=2) (by kernel_rfl) (by decide) (of_decide_eq_true (by kernel_rfl))) rfl (by kernel_rfl) rfl .nil))).map
  fun p hp=>⟨⟨p.1,p.2.1⟩,⟨hp.1.1,hp.2.1.1,hp.1.2,hp.2.1.2⟩,rfl⟩
theorem Yc2:OpensArg Try.prog 43 Y3p DOk:= .agg Y6z (X4g (.inr ⟨_,Try.underlying43⟩))
def Y40:BitVec 32→Nat→List UInt8
 | _,0=>[]
 |w,k+1=>UInt8.ofNat w.toNat::Y40 (w>>>8) k
def Qt (l:List UInt8):Nat→BitVec 32
 |0=>0
 |i+1=>Qt l i|||(BitVec.ofNat 32 (l.getD i 0).toNat<<<(8*i))
def Y55 (l:List UInt8):BitVec 32:=Qt l l.length
theorem Y3i:∀(k:Nat) (w:BitVec 32),(Y40 w k).length=k
 |0,_=>rfl
 |k+1,w=>by rw[Y40,List.length_cons,Y3i k]
theorem Y8f (w:BitVec 32) (i:Nat):(BitVec.ofNat 32 (UInt8.ofNat w.toNat).toNat).getLsbD i=(decide (i<8)&&w.getLsbD i):=by
 rw[BitVec.getLsbD_ofNat,UInt8.toNat_ofNat',Nat.testBit_mod_two_pow,BitVec.testBit_toNat]
 by_cases h:i<8
 ·simp [h];omega
 ·simp [h]
theorem Y9m (w:BitVec 32):Y55 (Y40 w 4)=w:=by
 have e:Y55 (Y40 w 4)=(((0|||(BitVec.ofNat 32 (UInt8.ofNat w.toNat).toNat<<<0))|||(BitVec.ofNat 32 (UInt8.ofNat (w>>>8).toNat).toNat<<<8))|||(BitVec.ofNat 32 (UInt8.ofNat (w>>>8>>>8).toNat).toNat<<<16))|||(BitVec.ofNat 32 (UInt8.ofNat (w>>>8>>>8>>>8).toNat).toNat<<<24):=rfl
 rw[e]
 refine BitVec.eq_of_getLsbD_eq fun i hi=> ?_
 simp only[BitVec.getLsbD_or,BitVec.getLsbD_shiftLeft,Y8f,BitVec.getLsbD_ushiftRight,BitVec.getLsbD_zero,Bool.false_or]
 by_cases h1:i<8
 ·simp [h1,hi,show i<16 by omega,show i<24 by omega]
 ·by_cases h2:i<16
  ·simp [h1,h2,hi,show i<24 by omega,show i - 8<8 by omega,show 8+(i - 8)=i by omega]
  ·by_cases h3:i<24
   ·simp [h1,h2,h3,hi,show ¬i - 8<8 by omega,show i - 16<8 by omega,show 8+(8+(i - 16))=i by omega]
   ·simp [h1,h2,h3,hi,show ¬i - 8<8 by omega,show ¬i - 16<8 by omega,show i - 24<8 by omega,show 8+(8+(8+(i - 24)))=i by omega]
theorem Y9n {n:Nat} (h:n<65536):Y55 (Y40 (BitVec.ofNat 32 n) 2)=BitVec.ofNat 32 n:=by
 have e:∀w:BitVec 32,Y55 (Y40 w 2)=(0|||(BitVec.ofNat 32 (UInt8.ofNat w.toNat).toNat<<<0))|||(BitVec.ofNat 32 (UInt8.ofNat (w>>>8).toNat).toNat<<<8):=fun _=>rfl
 rw[e]
 refine BitVec.eq_of_getLsbD_eq fun i hi=> ?_
 simp only[BitVec.getLsbD_or,BitVec.getLsbD_shiftLeft,Y8f,BitVec.getLsbD_ushiftRight,BitVec.getLsbD_zero,Bool.false_or]
 by_cases h1:i<8
 ·simp [h1,hi]
 ·by_cases h2:i<16
  ·simp [h1,h2,hi,show i - 8<8 by omega,show 8+(i - 8)=i by omega]
  ·have hb:n.testBit i=false:=Nat.testBit_lt_two_pow (Nat.lt_of_lt_of_le h (Nat.pow_le_pow_right (n:=2) (by decide) (show 16≤i by omega)))
   simp only[BitVec.getLsbD_ofNat,hb,Bool.and_false]
   simp [h1,h2,show ¬i - 8<8 by omega]
def Yar (w:BitVec 32):BitVec 32:=if w&&&1=1 then(w>>>1) ^^^ 0xedb88320 else w>>>1
def Y4p (w:BitVec 32):Nat→BitVec 32
 |0=>w
 |k+1=>Yar (Y4p w k)
def Yas (i:Nat):BitVec 32:=Y4p (BitVec.ofNat 32 i) 8
def Y9k (w:BitVec 32) (l:List UInt8):Nat→BitVec 32
 |0=>w
 |i+1=>(Y9k w l i>>>8) ^^^ Yas (UInt8.ofNat (Y9k w l i).toNat ^^^ l.getD i 0).toNat
def Ybj (l:List UInt8):BitVec 32:= ~~~ Y9k (~~~ 0) l l.length
structure Rc where
 gen:BitVec 32
 text:List UInt8
def Y3q (g:BitVec 32):Nat:=g.toNat % 2*16
def Bm (r:Rc):List UInt8:=Y40 (BitVec.ofNat 32 r.text.length) 2++r.text
def Y4a (r:Rc):List UInt8:=Y40 (Ybj (Y40 r.gen 4++Bm r)) 4++Bm r
def Y3n (r:Rc):Nat:=((Y4a r).length+117) / 118
def Y5e (r:Rc) (i:Nat):List UInt8:=((Y4a r++List.replicate 118 0).drop (118*i)).take 118
def Xgh (r:Rc) (i:Nat):List UInt8:=Y40 r.gen 4++UInt8.ofNat i::UInt8.ofNat (Y3n r)::(Y5e r i++Y40 r.gen 4)
def Y3v (r:Rc):List (List UInt8):=(List.range (Y3n r)).map (Xgh r)
theorem Y4y (r:Rc):(Y4a r).length=6+r.text.length:=by
 unfold Y4a Bm
 simp only[List.length_append,Y3i];omega
theorem Y9o (r:Rc):1≤Y3n r:=by unfold Y3n;rw[Y4y];omega
theorem Y48 {r:Rc} (h:r.text.length≤1882):Y3n r≤16:=by unfold Y3n;rw[Y4y];omega
theorem Y5u (r:Rc):(Y4a r).length≤118*Y3n r:=by unfold Y3n;omega
theorem Y73 (r:Rc) {i:Nat} (h:i<Y3n r):118*i<(Y4a r).length:=by unfold Y3n at h;omega
theorem Y56 (r:Rc) {i:Nat} (h:i<Y3n r):(Y5e r i).length=118:=by
 have:=Y73 r h
 unfold Y5e
 simp only[List.length_take,List.length_drop,List.length_append,List.length_replicate];omega
theorem Y4z (r:Rc) {i:Nat} (h:i<Y3n r):(Xgh r i).length=128:=by
 unfold Xgh
 simp only[List.length_append,List.length_cons,Y3i,Y56 r h]
theorem Y3t (r:Rc):(Y3v r).length=Y3n r:=by unfold Y3v;simp
theorem Y5v (r:Rc) {i:Nat} (h:i<Y3n r):(Y3v r).getD i []=Xgh r i:=by
 unfold Y3v
 simp [List.getD_eq_getElem?_getD,h]
theorem Yat (r:Rc) (i:Nat):(Xgh r i).take 4=Y40 r.gen 4:=by
 unfold Xgh
 rw[List.take_left' (Y3i 4 _)]
theorem Y9p (r:Rc) (i:Nat):(Xgh r i).getD 5 0=UInt8.ofNat (Y3n r):=by
 unfold Xgh
 rw[List.getD_eq_getElem?_getD,List.getElem?_append_right (by rw[Y3i];omega),Y3i];rfl
theorem Y9q (r:Rc) (i:Nat):(Xgh r i).drop 6=Y5e r i++Y40 r.gen 4:=by
 unfold Xgh
 rw[List.drop_append,List.drop_of_length_le (by rw[Y3i];omega),Y3i];rfl
theorem Y9r (r:Rc) {i:Nat} (h:i<Y3n r):((Xgh r i).drop 6).take 118=Y5e r i:=by
 rw[Y9q,List.take_left' (Y56 r h)]
theorem Y5w (r:Rc):∀m,m≤Y3n r→(List.range m).flatMap (Y5e r)=(Y4a r++List.replicate 118 0).take (118*m)
 |0,_=>by simp
 |m+1,h=>by
  rw[List.range_succ,List.flatMap_append,Y5w r m (by omega),Nat.mul_succ,List.take_add]
  simp [Y5e]
theorem Y9s (r:Rc) (l:List UInt8):(((Y4a r++l).drop 4).take 2)=Y40 (BitVec.ofNat 32 r.text.length) 2:=by
 unfold Y4a Bm
 rw[List.append_assoc,List.drop_left' (Y3i 4 _),List.append_assoc,List.take_left' (Y3i 2 _)]
theorem Y9t (r:Rc) (l:List UInt8):(((Y4a r++l).drop 6).take r.text.length)=r.text:=by
 have e:(Y4a r++l).drop 6=((Y4a r++l).drop 4).drop 2:=by rw[List.drop_drop]
 rw[e]
 unfold Y4a Bm
 rw[List.append_assoc,List.drop_left' (Y3i 4 _),List.append_assoc,List.drop_left' (Y3i 2 _),List.take_left' rfl]
def Y65 (seen:List (List UInt8)) (s:Nat):Option Rc:=
 if ((seen.getD 0 []).getD 5 0).toNat<1∨16<((seen.getD 0 []).getD 5 0).toNat∨Y55 ((seen.getD 0 []).take 4)=0∨Y3q (Y55 ((seen.getD 0 []).take 4))≠s then none else
 let all:=(seen.take ((seen.getD 0 []).getD 5 0).toNat).flatMap fun b=>(b.drop 6).take 118
 if all.length - 6<(Y55 ((all.drop 4).take 2)).toNat then none else
 let r:Rc:=⟨Y55 ((seen.getD 0 []).take 4),(all.drop 6).take (Y55 ((all.drop 4).take 2)).toNat⟩
 if Y3v r=seen.take ((seen.getD 0 []).getD 5 0).toNat then some r else none
theorem Y5f {l:List (List UInt8)}:∀{m:Nat},(∀b,b∈l→b.length=128)→m≤l.length→((l.take m).flatMap fun b=>(b.drop 6).take 118).length=118*m
 |0,_,_=>by simp
 |m+1,h,hm=>by
  have hl:m<l.length:=by omega
  rw[List.take_succ_eq_append_getElem hl,List.flatMap_append,List.length_append,Y5f h (by omega)]
  have:=h _ (List.getElem_mem hl)
  simp only[List.flatMap_cons,List.flatMap_nil,List.append_nil,List.length_take,List.length_drop];omega
theorem Y8g {seen:List (List UInt8)} (h16:seen.length=16) (h128:∀b,b∈seen→b.length=128) (s:Nat) (r:Rc):
  Y65 seen s=some r↔r.gen≠0∧Y3q r.gen=s∧r.text.length≤1882∧Y3v r=seen.take (Y3n r):=by
 unfold Y65
 constructor
 ·intro h
  split at h
  ·cases h
  rename_i c
  simp only[not_or] at c
  obtain⟨c1,c2,c3,c4⟩:=c
  dsimp only at h
  generalize hm:((seen.getD 0 []).getD 5 0).toNat=m at*
  have hall:((seen.take m).flatMap fun b=>(b.drop 6).take 118).length=118*m:=Y5f h128 (by omega)
  generalize (seen.take m).flatMap (fun b=>(b.drop 6).take 118)=all at*
  split at h
  ·cases h
  rename_i c5
  split at h
  ·rename_i c6
   injection h with h
   subst h
   have hl:=congrArg List.length c6
   rw[Y3t,List.length_take] at hl
   refine⟨c3,by simpa using c4,?_,?_⟩
   ·show((all.drop 6).take _).length≤1882
    rw[List.length_take,List.length_drop];omega
   ·rw[hl,Nat.min_eq_left (by omega)];exact c6
  ·cases h
 ·rintro⟨c1,c2,c3,c4⟩
  have h1:=Y9o r
  have h2:=Y48 c3
  have e0:seen.getD 0 []=Xgh r 0:=by
   rw[← Y5v r (i:=0) (by omega),c4]
   simp only[List.getD_eq_getElem?_getD]
   rw[List.getElem?_take,if_pos (by omega)]
  have em:((Xgh r 0).getD 5 0).toNat=Y3n r:=by
   rw[Y9p,UInt8.toNat_ofNat'];omega
  rw[e0,em,Yat,Y9m,if_neg (by simp only[not_or];exact⟨by omega,by omega,c1,by simpa using c2⟩)]
  dsimp only
  have ea:(seen.take (Y3n r)).flatMap (fun b=>(b.drop 6).take 118)=(Y4a r++List.replicate 118 0).take (118*Y3n r):=by
   rw[← c4,← Y5w r _ (Nat.le_refl _)]
   unfold Y3v
   rw[List.flatMap_map]
   show((List.range (Y3n r)).flatMap fun i=>((Xgh r i).drop 6).take 118)= _
   rw[List.flatMap_def,List.flatMap_def]
   congr 1
   exact List.map_congr_left fun i hi=>Y9r r (List.mem_range.1 hi)
  obtain⟨z,hz⟩:∃z,(Y4a r++List.replicate 118 0).take (118*Y3n r)=Y4a r++z:=by
   rw[List.take_append,List.take_of_length_le (Y5u r)];exact⟨_,rfl⟩
  rw[ea,hz,Y9s,Y9n (by omega)]
  have et:(BitVec.ofNat 32 r.text.length).toNat=r.text.length:=by
   rw[BitVec.toNat_ofNat];omega
  rw[et,Y9t,if_neg (by rw[List.length_append,Y4y];omega),if_pos c4]
def Y5g (r:Rc):List Wr:=(List.range (Y3n r)).map fun i=>⟨((Y3q r.gen+i:Nat):Int),Xgh r i⟩
theorem Y3z (r:Rc):(Y5g r).length=Y3n r:=by unfold Y5g;simp
theorem Y4d (g:BitVec 32):Y3q g=0∨Y3q g=16:=by unfold Y3q;omega
theorem Y50 (g:BitVec 32):Y3q g≤16:=by unfold Y3q;omega
theorem Y66 {r:Rc} (hr:Y3n r≤16):∀w,w∈Y5g r→0≤w.at'∧w.at'<32∧w.data.length=128:=fun w hw=>by
 unfold Y5g at hw
 obtain⟨i,hi,rfl⟩:=List.mem_map.1 hw
 have hi:=List.mem_range.1 hi
 have hs:=Y50 r.gen
 refine⟨by dsimp only;omega,by dsimp only;omega,Y4z r hi⟩
def Y4o (d:Dsk) (r:Rc):Int:=if may d then(if r.gen=0 then 2 else if 1882<r.text.length then 3 else if 256<d.waits.length+Y3n r then 9 else 0) else 8
def Y4e (d:Dsk) (r:Rc):Dsk:=if Y4o d r=0 then⟨d.sectors,d.waits++Y5g r⟩ else Xhm
theorem Y5h {d:Dsk} {r:Rc}:Y4o d r=0↔may d=true∧r.gen≠0∧r.text.length≤1882∧d.waits.length+Y3n r≤256:=by
 unfold Y4o
 cases may d
 ·simp
 ·by_cases h1:r.gen=0
  ·simp [h1]
  ·by_cases h2:1882<r.text.length
   ·have h2':¬r.text.length≤1882:=by omega
    simp [h2,h2']
    split<;>decide
   ·by_cases h3:256<d.waits.length+Y3n r
    ·simp [h1,h2,h3];omega
    ·simp [h1,h2,h3];omega
theorem Y4b {d:Dsk} {r:Rc} (h:Y4o d r=0):may (Y4e d r)=true:=by
 obtain⟨h1,h2,h3,h4⟩:=Y5h.1 h
 obtain⟨d1,d2,d3,d4⟩:=(Xho d).1 h1
 unfold Y4e
 rw[if_pos h]
 refine(Xho _).2 ⟨d1,by rw[List.length_append,Y3z];exact h4,d3,fun w hw=> ?_⟩
 rcases List.mem_append.1 hw with h|h
 ·exact d4 w h
 ·exact Y66 (Y48 h3) w h
theorem Y5i {d:Dsk} (hd:may d=true) {z:Nat} (hz:z<32):Xkr d (z:Int)=(Y3l Xhc d d.waits.length).getD z []:=by
 unfold Xkr
 rw[if_pos (Xju.2 ⟨hd,by omega,by omega⟩),Int.toNat_natCast]
theorem Y7i {d:Dsk} (hd:may d=true) {z:Nat} (hz:z<32):(Xkr d (z:Int)).length=128:=by
 rw[Y5i hd hz]
 have hl:z<(Y3l Xhc d d.waits.length).length:=by rw[Xh8,((Xho d).1 hd).1];exact hz
 rw[show(Y3l Xhc d d.waits.length).getD z []=(Y3l Xhc d d.waits.length)[z] by simp [List.getD_eq_getElem?_getD,hl]]
 exact Xhb hd (fun _ _=>by simp [Xhc]) _ _ (List.getElem_mem hl)
def Y4q (d:Dsk) (s:Nat):List (List UInt8):=(List.range 16).map fun i=>Xkr d ((s+i:Nat):Int)
theorem Y7k (d:Dsk) (s:Nat):(Y4q d s).length=16:=by unfold Y4q;simp
theorem Yau (d:Dsk) (s:Nat) {i:Nat} (h:i<16):(Y4q d s).getD i []=Xkr d ((s+i:Nat):Int):=by
 unfold Y4q
 simp [List.getD_eq_getElem?_getD,h]
theorem Y6o {d:Dsk} (hd:may d=true) {s:Nat} (hs:s=0∨s=16):∀b,b∈Y4q d s→b.length=128:=fun b hb=>by
 unfold Y4q at hb
 obtain⟨i,hi,rfl⟩:=List.mem_map.1 hb
 have hi:=List.mem_range.1 hi
 exact Y7i hd (by omega)
def Y3r (d:Dsk) (s:Nat):Option Rc:=Y65 (Y4q d s) s
theorem Y4f {d:Dsk} (hd:may d=true) {s:Nat} (hs:s=0∨s=16) (r:Rc):Y3r d s=some r↔r.gen≠0∧Y3q r.gen=s∧r.text.length≤1882∧Y3v r=(Y4q d s).take (Y3n r):=
 Y8g (Y7k d s) (Y6o hd hs) s r
theorem Y4g {d:Dsk} (hd:may d=true) {s:Nat} (hs:s=0∨s=16) {r:Rc} (h:Y3r d s=some r):Y3q r.gen=s:=((Y4f hd hs r).1 h).2.1
def Y6q:Option Rc→Option Rc→List Rc
 |some a,some b=>if a.gen.toNat<b.gen.toNat then[b,a] else[a,b]
 |some a,none=>[a]
 |none,some b=>[b]
 |none,none=>[]
def Y3s (d:Dsk):List Rc:=if may d then Y6q (Y3r d 0) (Y3r d 16) else[]
theorem Y9x {a b:Option Rc} {r:Rc}:r∈Y6q a b↔a=some r∨b=some r:=by
 cases a<;>cases b<;>simp only[Y6q]<;>try split
 all_goals simp [eq_comm,or_comm]
theorem Y4h {d:Dsk} (hd:may d=true) {r:Rc}:r∈Y3s d↔Y3r d (Y3q r.gen)=some r:=by
 unfold Y3s
 rw[if_pos hd,Y9x]
 constructor
 ·rintro(h|h)
  ·rw[Y4g hd (.inl rfl) h];exact h
  ·rw[Y4g hd (.inr rfl) h];exact h
 ·intro h
  rcases Y4d r.gen with e|e<;>rw[e] at h
  ·exact .inl h
  ·exact .inr h
def Y44 (n next:Nat):Nat:=if next≤n then next+(n - next+2) / 2*2 else next
def Y8n (b:List UInt8):BitVec 32:=Y55 (b.take 4)
def Ya0 (b:List UInt8):BitVec 32:=Y55 (b.drop 124)
def Y6r (d:Dsk) (s g:Nat):Nat→Nat
 |0=>g
 |i+1=>Y44 (Ya0 (Xkr d ((s+i:Nat):Int))).toNat (Y44 (Y8n (Xkr d ((s+i:Nat):Int))).toNat (Y6r d s g i))
theorem Y7n (n g:Nat):g≤Y44 n g:=by unfold Y44;split<;>omega
theorem Y7o (d:Dsk) (s g:Nat):∀{i j},i≤j→Y6r d s g i≤Y6r d s g j:=by
 intro i j h
 induction h with
 |refl=>exact Nat.le_refl _
 |step _ ih=>exact Nat.le_trans ih (Nat.le_trans (Y7n _ _) (Y7n _ _))
def Y68 (d:Dsk) (g:BitVec 32):Nat:=Y6r d (Y3q (g+1)) (g.toNat+1) 16
def V5 (d:Dsk) (g:BitVec 32):Int:=if may d then(if 4294967295<Y68 d g then 9 else 0) else 8
def X7s (d:Dsk) (g:BitVec 32):BitVec 32:=if V5 d g=0 then BitVec.ofNat 32 (Y68 d g) else 0
theorem P4 (g:BitVec 32):Y3q (g+1)=(g.toNat+1) % 2*16:=by
 unfold Y3q
 have e:(g+1).toNat=(g.toNat+1) % 4294967296:=by rw[BitVec.toNat_add];rfl
 rw[e];omega
theorem Y69 (a b:Rc):Y6q (some a) (some b)=if a.gen.toNat<b.gen.toNat then[b,a] else[a,b]:=rfl
theorem Y51 {d:Dsk} (hd:may d=true):Y3s d=Y6q (Y3r d 0) (Y3r d 16):=by unfold Y3s;rw[if_pos hd]
theorem Ya1 {d:Dsk} (r:Rc) (h:may d=false):Y4o d r=8:=by unfold Y4o;rw[h];rfl
theorem Y8s (g:BitVec 32):Xr Try.prog 29 [w32 g] [] (i64 (Y3q g:Nat)) []:=by
 have h1:Zr .rem .u32 (g.toNat:Int) 2=some (.int .u32 ((g.toNat % 2:Nat):Int)):=by rw[X5a _ _ (by decide)];rfl
 have h2:IntKind.i64.wrap ((g.toNat % 2:Nat):Int)=((g.toNat % 2:Nat):Int):=by rw[wrap_i64]<;>omega
 have h3:IntKind.i64.wrap (((g.toNat % 2:Nat):Int)*16)=(Y3q g:Int):=by
  unfold Y3q
  rw[wrap_i64]<;>omega
 refine Xc 0 Try.func29 rfl fun n out _ _=> ?_
 simp only[Try.ntmps29,List.length_cons,List.length_nil,List.length_map,List.length_replicate,Xf,Nat.reduceAdd,Nat.reduceSub,List.replicate,List.cons_append,List.nil_append]
 repeat' (first|(with_reducible first|refine Vk fun K hK=> ?_|refine V0 ?_)|((with_reducible refine gE ?_);simp (maxSteps:=9^7) only[ss,X1,tab,simprocAttr, -List.reduceReplicate,h1,h2,h3])|((with_reducible refine Vz ?_);refine Vo rfl rfl rfl (fun _ _=>rfl) ?_<;>first|rfl|skip)|(refine hK _ ?_;clear hK K))
theorem w0:w32 0= .val (.int .u32 0):=rfl
theorem Ya2 (l:List UInt8) (md:Md) (hl:l.length≤4):Xr Try.prog 74 [.sl 1 (Xo l) md] [] (w32 (Y55 l)) []:=by
 refine Xc 0 Try.func74 rfl fun n out _ _=> ?_
 simp only[Try.ntmps74,List.length_cons,List.length_nil,List.length_map,List.length_replicate,Xf,Nat.reduceAdd,Nat.reduceSub,List.replicate,List.cons_append,List.nil_append]
 repeat' (first|(with_reducible first|refine Vk fun K hK=> ?_|refine V0 ?_)|((with_reducible refine gE ?_);simp (maxSteps:=9^7) only[ss,X1,tab,simprocAttr, -List.reduceReplicate,X5])|(refine hK _ ?_;clear hK K))
 refine Xe ?_
 refine Xl (fun m (i:Nat)=>[(2,w32 (Qt l i)),(6,i64 (i:Int)),(3,.top),(7,.top),(8,.top),(9,.top),(10,.top),(11,.top),(12,.top),(13,.top),(14,.top),(15,.top),(16,.top),(17,.top),(18,.top),(19,.top)]) (fun m i=>[]) (fun i=>out) (fun i=>i≤l.length) (fun i=>l.length - i) 0 (Nat.zero_le _) ?_ fun m i hm hi=> ?_
 ·refine X2 ?_ ?_ (by first|rfl|(simp only[Qt,w0];rfl)|simp only[Qt,w0]) rfl rfl rfl<;>simp only[X4,sl,Qt,w0]
 simp only[X4,s_0,s_s]
 have hw:=Yl (n:=i) 1 1 rfl (by omega)
 by_cases hlt:i<l.length
 ·have gi:=Xqt l i hlt
  have h8:=X95 (n:=i) 8 8 rfl (by omega)
  have hs:Zr .shl .u32 ((BitVec.ofNat 32 (l.getD i 0).toNat).toNat:Int) ((8*i:Nat):Int)=some (.int .u32 ((BitVec.ofNat 32 (l.getD i 0).toNat<<<(8*i)).toNat:Int)):=Xbl _ (by omega)
  repeat' (first|(with_reducible first|refine Vk fun K hK=> ?_|refine V0 ?_|refine Vb ?_|refine Vs ?_)|((with_reducible refine gE ?_);simp (maxSteps:=9^7) only[ss,X1,tab,simprocAttr, -List.reduceReplicate,X5,hlt,gi,Xd9,h8,hs,Xcq,hw])|(refine hK _ ?_;clear hK K)|refine Vt rfl ?_|clear hK K)
  refine⟨i+1,by omega,by omega,?_⟩
  refine Xx [] (fun n_=> ?_) (fun n_=> ?_)<;>simp only[X4,sm,X5,hlt,decide_true,Qt]
 ·obtain rfl:i=l.length:=by omega
  repeat' (first|(with_reducible first|refine Vk fun K hK=> ?_|refine V0 ?_)|((with_reducible refine gE ?_);simp (maxSteps:=9^7) only[ss,X1,tab,simprocAttr, -List.reduceReplicate,X5,hlt])|((with_reducible refine Vz ?_);refine Vo rfl rfl rfl (fun _ _=>rfl) ?_<;>first|rfl|skip)|((with_reducible refine Vx ?_);simp only[sb,reduceIte,Nat.reduceEqDiff])|(refine hK _ ?_;clear hK K)|refine Vf rfl ?_|clear hK K)
theorem Ybl (k:Nat) (w:BitVec 32):Xr Try.prog 106 [.ptr k 0] [(k,some (.box 58 [w32 w]))] (b8 (UInt8.ofNat w.toNat)) [(k,.box 58 [w32 (w>>>8)])]:=by
 have hs:Zr .shr .u32 (w.toNat:Int) 8=some (.int .u32 ((w>>>8).toNat:Int)):=Xcr w (by decide)
 refine Xc 0 Try.func106 rfl fun n out _ _=> ?_
 simp only[Try.ntmps106,List.length_cons,List.length_nil,List.length_map,List.length_replicate,Xf,Nat.reduceAdd,Nat.reduceSub,List.replicate,List.cons_append,List.nil_append]
 rename_i hneeds hgv
 obtain⟨hk,_⟩:=hneeds
 obtain⟨hkn,_⟩:=hgv
 repeat' (first|(with_reducible first|refine Vk fun K hK=> ?_|refine V0 ?_)|((with_reducible refine gE ?_);simp (maxSteps:=9^7) only[ss,X1,tab,simprocAttr, -List.reduceReplicate,hk,X8 hkn,X7 hkn,Xa hkn,Xif,Y7y,hs,X0])|((with_reducible refine Vz ?_);refine Vo rfl rfl rfl (fun _ _=>rfl) ?_<;>first|rfl|skip)|(refine hK _ ?_;clear hK K))
def Y84 (w:BitVec 32) (c i:Nat):List UInt8:=(Y40 w c).take i++List.replicate (c - i) 0
theorem Ya3 (w:BitVec 32) {c i:Nat} (h:i≤c):(Y84 w c i).length=c:=by
 unfold Y84
 rw[List.length_append,List.length_take,Y3i,List.length_replicate];omega
theorem Ybm (w:BitVec 32) (c:Nat):Y84 w c 0=List.replicate c 0:=by unfold Y84;simp
theorem Ya4 (w:BitVec 32) (c:Nat):Y84 w c c=Y40 w c:=by
 unfold Y84
 rw[List.take_of_length_le (by rw[Y3i];exact Nat.le_refl _),Nat.sub_self,List.replicate_zero,List.append_nil]
theorem Y7p:∀(c:Nat) (w:BitVec 32) (i:Nat) (h:i<(Y40 w c).length),(Y40 w c)[i]=UInt8.ofNat (w>>>(8*i)).toNat
 |0,_,i,h=>by simp [Y40] at h
 |c+1,w,0,h=>by simp [Y40]
 |c+1,w,i+1,h=>by
  have:=Y7p c (w>>>8) i (by rw[Y3i];rw[Y3i] at h;omega)
  simp only[Y40,List.getElem_cons_succ,this]
  rw[← BitVec.shiftRight_add,Nat.mul_succ,Nat.add_comm]
theorem Y8t (w:BitVec 32) {c i:Nat} (h:i<c):(Y84 w c i).set i (UInt8.ofNat (w>>>(8*i)).toNat)=Y84 w c (i+1):=by
 unfold Y84
 have hl:i<(Y40 w c).length:=by rw[Y3i];exact h
 have h1:((Y40 w c).take i).length=i:=by rw[List.length_take,Y3i];omega
 rw[List.set_append_right _ _ (by omega),h1,Nat.sub_self,show c - i=(c - (i+1))+1 by omega,List.replicate_succ,List.set_cons_zero,List.take_succ_eq_append_getElem hl,Y7p,List.append_assoc]
 rfl
theorem Xe3 (w:BitVec 32) (c:Nat) (h0:0<c) (h8:c≤8):Xr Try.prog 92 [w32 w,i64 (c:Int)] [] (.sl 1 (Xo (Y40 w c)) .full) []:=by
 refine Xc 2 Try.func92 rfl fun n out _ _=> ?_
 simp only[Try.ntmps92,List.length_cons,List.length_nil,List.length_map,List.length_replicate,Xf,Nat.reduceAdd,Nat.reduceSub,List.replicate,List.cons_append,List.nil_append]
 have hz:Y7 [Value.int .u8 0] c=(Y84 w c 0).map b8:=by
  rw[Ybm]
  simp only[Y7,List.length_cons,List.length_nil,Nat.zero_add,Nat.mod_one,List.map_replicate,List.getD_cons_zero,X70]
  rw[List.map_const',List.length_range];rfl
 repeat' (first|(with_reducible first|refine Vk fun K hK=> ?_|refine Ve [(10,none)] ?_|apply And.intro)|((with_reducible refine gE ?_);simp (maxSteps:=9^7) only[ss,X1,tab,simprocAttr, -List.reduceReplicate,hz])|(refine hK _ ?_;clear hK K)|clear hK K)
 ·omega
 ·omega
 ·omega
 refine Xe ?_
 refine Xz (fun i:Nat=>[(5,.fn (.func 106) [.ptr (n+0) 0]),(6,.bsl (n+1) 0 c true),(12,i64 (c:Int)),(13,i64 (i:Int)),(7,.top),(14,.top),(15,.top),(16,.top),(17,.top),(18,.top),(19,.top),(20,.top),(21,.top)]) (fun i=>[some (.box 58 [w32 (w>>>(8*i))]),some (.box 5 ((Y84 w c i).map b8))]) (fun i=>out) (fun i=>i≤c) (fun i=>c - i) 0 (Nat.zero_le _) ?_ fun i hi=> ?_
 ·refine X2 ?_ ?_ (by first|rfl|(simp only[Nat.mul_zero,BitVec.ushiftRight_zero,beq_self_eq_true];rfl)|simp only[Nat.mul_zero,BitVec.ushiftRight_zero,beq_self_eq_true]) rfl rfl rfl<;>simp only[X4,sl,Nat.mul_zero,BitVec.ushiftRight_zero,beq_self_eq_true]
 simp only[X4,s_0,s_s]
 have hw:=Yl (n:=i) 1 1 rfl (by omega)
 have hl:=Ya3 w hi
 by_cases hlt:i<c
 ·have hs:=F7 b8 (Y84 w c i) i (UInt8.ofNat (w>>>(8*i)).toNat) (by omega)
  rw[Y8t w hlt] at hs
  have hsh:w>>>(8*i)>>>8=w>>>(8*(i+1)):=by rw[← BitVec.shiftRight_add,Nat.mul_succ]
  have c1:=Ybl (n+0) (w>>>(8*i))
  rw[hsh] at c1
  repeat' (first|(with_reducible first|refine Vk fun K hK=> ?_|refine V0 ?_|refine Vb ?_|refine Vs ?_|apply And.intro)|((with_reducible first|refine gE ?_|refine gR ?_);simp (maxSteps:=9^7) only[ss,X1,tab,simprocAttr, -List.reduceReplicate,List.length_map,hlt,hl,hs,hw])|(refine Sb c1 (X6 _ (Nat.le_refl _) 0) (Xb _ (by simp)) (by simp) ?_)|(refine hK _ ?_;clear hK K)|refine Vt rfl ?_|clear hK K)
  ·omega
  refine⟨i+1,by omega,by omega,?_⟩
  refine X2 ?_ ?_ rfl rfl rfl rfl<;>simp only[X4,sl,hlt,decide_true]
 ·obtain rfl:i=c:=by omega
  refine Yy (Xa9 (i:=1) 1 (e:=5) (cs:=(Y84 w i i).map b8) rfl (by simp [hl,h0])) ?_
  simp only[List.map_cons,List.map_nil,AV.frz,Xcu,Xcv,Nat.add_left_cancel_iff,reduceIte,Nat.reduceEqDiff,s_0,s_s,List.drop_zero,Ya4,Xa1 _ (Y3i _ w)]
  repeat' (first|(with_reducible first|refine Vk fun K hK=> ?_|refine V0 ?_)|((with_reducible refine gE ?_);simp (maxSteps:=9^7) only[ss,X1,tab,simprocAttr, -List.reduceReplicate,hlt])|((with_reducible refine Vz ?_);refine Vo rfl rfl rfl (fun _ _=>rfl) ?_<;>first|rfl|skip)|((with_reducible refine Vx ?_);simp only[sb,reduceIte,Nat.reduceEqDiff])|(refine hK _ ?_;clear hK K)|refine Vf rfl ?_|clear hK K)
end Go.Proofs.Ytjgbbjooeibppaa
