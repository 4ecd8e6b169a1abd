/- The layer of abstract values, joined. -/
import Derived.Test.YtgpdghbmiihfbaaGreatZP5
import Derived.Test.YtgpdghbmiihfbaaGreatZD9
import Derived.KernelRfl
namespace Go.Proofs.YtgpdghbmiihfbaaGreat
set_option linter.all false
set_option maxHeartbeats 2000000
set_option maxRecDepth 4000
open Go Go.VS Tab
def Xhc:Nat->Nat:=fun _=>128
def Xau (d:Dsk) (at':Int):Int:=if may d then(if decide (0<=at')&&decide (at'<32) then 0 else 2) else 8
def Xkr (d:Dsk) (at':Int):List UInt8:=if Xau d at'=0 then(Y3l Xhc d d.waits.length).getD at'.toNat [] else[]
theorem Xju {d:Dsk} {at':Int}:Xau d at'=0↔may d=true∧0<=at'∧at'<32:=by
 unfold Xau;cases may d<;>simp
theorem Xea (d:Dsk) (at':Int) (h1:d.sectors.length<=1000) (h2:d.waits.length<=1000):Xr Tryz.prog 52 [Y3p d,i64 at'] [] (.tup [bs (Xkr d at'),i64 (Xau d at')]) []:=by
 refine Xc 1 Tryz.func52 rfl fun n out _ _=> ?_;simp only[sn,Tryz.ntmps52,simprocAttr];refine Vy fun K hK=> ?_;simp only[zA,simprocAttr,Y3p,Xha]
 (refine hK _ ?_;clear hK K)
 refine Vk fun KB hKB=> ?_;refine Vk fun K hK=>Ny Xj [] [[0],[],[],[],[]] [[],[],[],[],[]] follows (by kernel_rfl) (by decide) (by decide) (by kernel_rfl) ?_;simp only[zA,simprocAttr]
 skip
 refine X3 (Xht at' 32) ?_;simp only[zA,simprocAttr];refine X3 (Xiw d _ h1 h2) ?_;simp only[zA,simprocAttr]
 (refine hK _ ?_;clear hK K)
 by_cases h0:Xau d at'≠0
 ·have e0:(Xau d at' !=0)=true:=by simpa using h0
  have e1:Xkr d at'=[]:=by unfold Xkr;rw[if_neg h0]
  unfold Xau at e0;refine Vy fun K hK=> ?_;simp only[zA,simprocAttr,e0]
  (refine hK _ ?_;clear hK K)
  refine Wm rfl ?_;refine Vy fun K hK=> ?_;simp only[zA,simprocAttr]
  (refine hK _ ?_;clear hK K)
  apply Vz;rw[e1];exact Za (.inr rfl) rfl rfl rfl (fun _ _=>rfl) rfl rfl ((Py _ _).2 trivial) (.rfl _)
 have h0':Xau d at'=0:=by omega
 have e1:Xkr d at'=(Y3l Xhc d d.waits.length).getD at'.toNat []:=by unfold Xkr;rw[if_pos h0']
 obtain⟨hm,ha1,ha2⟩:=Xju.1 h0';have h0'':=h0';unfold Xau at h0'';refine Vy fun K hK=> ?_;simp only[zA,simprocAttr,h0'']
 (refine hK _ ?_;clear hK K)
 refine Uy rfl (Xhj (hKB _ ?_));clear hKB KB;have hl:=Xh8 Xhc d d.waits.length;have h32:=((Xho d).1 hm).1;obtain⟨z,hz⟩:∃z:Nat,at'=(z:Int):=⟨at'.toNat,by omega⟩
 subst hz;have hz32:z<(Y3l Xhc d d.waits.length).length:=by omega
 have hg:(Y3l Xhc d d.waits.length).getD z []=(Y3l Xhc d d.waits.length)[z]:=by simp [ah,hz32]
 refine Vy fun K hK=> ?_;simp only[zA,simprocAttr]
 skip
 refine X3 (Xkx d _ [] Xhc hm (hb0 _ (by decide) (by decide)) fun i hi=>⟨Nat.le_refl _,Xk2 _⟩) ?_;simp only[zA,simprocAttr,Xhe,Y3p,Xha,hz32,Xg secC (Y3l Xhc d d.waits.length) z [] hz32,secC]
 (refine hK _ ?_;clear hK K)
 apply Vz;rw[e1,h0',Int.toNat_natCast,hg];exact Za (.inr rfl) rfl rfl rfl (fun _ _=>rfl) rfl rfl (.rfl _) (.rfl _)
def Xic (d:Dsk):Dsk:=if may d then Xhe Xhc d else Xhm
theorem Xno (d:Dsk) (h1:d.sectors.length<=1000) (h2:d.waits.length<=1000):Xr Tryz.prog 33 [Y3p d] [] (.tup [Y3p (Xic d),i64 (if may d then 0 else 8)]) []:=by
 refine Xc 2 Tryz.func33 rfl fun n out _ _=> ?_;simp only[sn,Tryz.ntmps33,simprocAttr];refine Vy fun K hK=> ?_;simp only[zA,simprocAttr,Y3p,Xha]
 (refine hK _ ?_;clear hK K)
 refine Vk fun KB hKB=> ?_;refine Vy fun K hK=> ?_;simp only[zA,simprocAttr]
 skip
 refine X3 (Xjg d h1 h2) ?_;simp only[zA,simprocAttr]
 (refine hK _ ?_;clear hK K)
 by_cases hm:may d=true
 ·have e:Xic d=Xhe Xhc d:=by unfold Xic;rw[hm];rfl
  refine Vy fun K hK=> ?_;simp only[zA,simprocAttr,hm]
  (refine hK _ ?_;clear hK K)
  refine Wm rfl ?_;refine Xn Xj [] ?_;simp only[zA,simprocAttr];refine X3 (Xkx d _ [] Xhc hm (hb0 _ (by decide) (by decide)) fun i hi=>⟨Nat.le_refl _,Xk2 _⟩) ?_;simp only[zA,simprocAttr,Y3p,Xha];refine hKB _ ?_;apply Vz;refine Xp (.inr rfl) rfl rfl rfl (fun _ _=>rfl) ok39 (k:=n+1) (off:=0) rfl (Xb _ (by simp)) (X6 _ (Nat.le_refl _) 1) rfl rfl ?_;rw[e,if_pos hm];simp only[Y3p,Xha,sL]
 ·have e:Xic d=Xhm:=by unfold Xic;rw[if_neg hm]
  refine Vy fun K hK=> ?_;simp only[zA,simprocAttr,hm]
  (refine hK _ ?_;clear hK K)
  refine Uy rfl (Xhj (hKB _ ?_));apply Vz;refine Xp (.inr rfl) rfl rfl rfl (fun _ _=>rfl) ok39 (k:=n+1) (off:=0) rfl (Xb _ (by simp)) (X6 _ (Nat.le_refl _) 1) rfl rfl ?_;rw[e,if_neg hm];simp only[Y3p,Xha,Xhm,ad,sL]
def Ybc:List UInt8:=List.replicate 128 0
def Y4x:Dsk:=⟨List.replicate 32 Ybc,[]⟩
theorem Ybz (σ:AState) (K:AV->List (Nat×Res)->Prop):Tk tab σ K none 22 (.val (.int .i64 128)) (.val (.int .i64 128))=K (.sl 1 (Xo Ybc) .full) []:=by
 have e:Yh 1 128 (Y7 [Value.int .u8 0] (128*1))=Xo Ybc:=rfl;simp only[Tk,tab];simp [e]
theorem Ybi:Xr Tryz.prog 19 [] [] (Y3p Y4x) []:=by
 refine Xc 2 Tryz.func19 rfl fun n out _ _=> ?_;simp only[sn,Tryz.ntmps19,simprocAttr];refine Vy fun K hK=> ?_;simp only[zA,simprocAttr, -List.reduceReplicate]
 (refine hK _ ?_;clear hK K)
 refine Vk fun KB hKB=> ?_;refine Vy fun K hK=> ?_;simp only[zA,simprocAttr, -List.reduceReplicate]
 (refine hK _ ?_;clear hK K)
 refine Yy (Q9 (i:=1) 22 1 rfl) ?_;simp only[s_0,s_s];apply V5;refine Xwm (32) (fun i=>tr 2 8 [(1,i64 (i:Int))]) (fun i=>[some (.box 39 [.sl 1 ((List.replicate i Ybc).map secC) (.own (n+1)),.sl 0 [] .nil]),some (.row 22 1 i)]) ?_ fun i hi=> ?_
 ·refine X2 ?_ ?_ (by first|rfl|(simp only[List.replicate_zero,ad];rfl)|simp only[List.replicate_zero,ad]) rfl rfl rfl<;>simp only[sL,List.replicate_zero,ad]
 simp only[pt];refine Vy fun K hK=> ?_;simp only[zA,simprocAttr, -List.reduceReplicate]
 (refine hK _ ?_;clear hK K)
 refine Vk fun KC hKC=> ?_;refine Uz rfl (fun ht=>Xhj (hKC _ ?_)) (fun hf=>Qi (id ?_));rotate_left
 ·simp only[Qd,Z4,if_true];refine hKB _ ?_;clear hKB KB hKC KC;have hi32:i=32:=by have:=bh hf;omega
  subst hi32;apply Vz;exact Xu (.inr rfl) rfl rfl rfl (fun _ _=>rfl) ok39 (k:=n+0) (off:=0) rfl (Xb _ (by simp)) (X6 _ (Nat.le_refl _) 0) rfl (by simp only[Y3p,Xha,Y4x,ad,sL])
 clear hKC KC;have hlt:i<32:=by have:=au ht;omega
 refine Vk fun KC hKC=>Xe ?_;have lit:∀(σ:AState) (K:AV->List (Nat×Res)->Prop),X1 tab σ K none 36 1 [(0,.sl 1 (Xo Ybc) .full)]=K (.sl 1 [[.sl 1 (Xo Ybc) .full]] .full) []:=fun σ K=>Yk (T:=tab) (ti:=ti36) (te:=ti22) rfl rfl rfl (by decide) (by decide) rfl rfl;refine Ny Xj [] [[],[0],[],[],[1],[],[0]] [[],[],[],[],[1],[],[0]] follows (by kernel_rfl) (by decide) (by decide) (by kernel_rfl) ?_;simp (maxSteps:=4000000) only[sx,sy,ne_eq,eq_self,if_true,if_false,tab,Qd,Z4,reduceCtorEq,Nat.reduceBEq,Nat.reduceAdd,Nat.reduceLT,Nat.reduceLeDiff,Ybz,lit,show i+1<=9223372036854775807 by omega]
 repeat refine aa (by omega) ?_
 repeat refine aa (by omega) ?_
 refine hKC _ ?_;clear hKC KC;refine Xn Xj [] ?_;simp only[zA,simprocAttr, -List.reduceReplicate,Yl (n:=i) 1 1 rfl (by omega)];refine⟨i+1,by omega,by omega,?_⟩;rw[List.replicate_succ',cu];refine La rfl ?_ ?_<;>simp only[sL,secC,bg,ad]
def Xiu:List Nat->Nat->Nat
 |[],s=>s
 |x::l,s=>if s<=200000 then Xiu l (s+x) else s
theorem Xks:∀(l:List Nat) (s:Nat),s<=Xiu l s
 |[],s=>Nat.le_refl _
 |x::l,s=>by
  rw[Xiu];split
  ·have:=Xks l (s+x);omega
  ·exact Nat.le_refl _
theorem Xjv:∀(l:List Nat) (s:Nat),Xiu l s<=200000->∀x,x∈l->x<=200000
 |[],_,_,x,hx=>by simp at hx
 |y::l,s,h,x,hx=>by
  rw[Xiu] at h;split at h
  ·rcases bq.1 hx with rfl|hx
   ·have:=Xks l (s+x);omega
   ·exact Xjv l _ h x hx
  ·omega
theorem Xl5 (l:List Nat) {s:Nat} (h:¬s<=200000):Xiu l s=s:=by
 cases l with
 |nil=>rfl
 |cons x l=>rw[Xiu,if_neg h]
def Xjd (d:Dsk):Bool:=decide (Xiu (d.waits.map fun w=>w.data.length) (Xiu (d.sectors.map List.length) (d.sectors.length+d.waits.length))>200000)||decide (d.sectors.length+d.waits.length>600)
theorem small_of {d:Dsk} (h:Xjd d=false):Small d∧d.sectors.length+d.waits.length<=600:=by
 simp only[Xjd,ee,dk,Nat.not_lt] at h;obtain⟨h1,h2⟩:=h;have h3:=Nat.le_trans (Xks _ _) h1;exact⟨⟨by omega,by omega,fun b hb=>by have:=Xjv _ _ h3 b.length (dj.2 ⟨b,hb,rfl⟩);omega,fun w hw=>by have:=Xjv _ _ h1 w.data.length (dj.2 ⟨w,hw,rfl⟩);omega⟩,by omega⟩
def acc (l:List Nat) (s i:Nat):Nat:=s+(l.take i).sum
theorem Xjw (l:List Nat) (s i:Nat) (h:i<l.length):acc l s (i+1)=acc l s i+l[i]:=by
 rw[acc,acc,ai h,List.sum_append];simp;omega
theorem Xk9 {l:List Nat} {s i:Nat} (h:i<l.length) (hn:acc l s i<=200000) (hq:Xiu l s=Xiu (l.drop i) (acc l s i)):Xiu l s=Xiu (l.drop (i+1)) (acc l s (i+1)):=by
 rw[hq,dd h,Xiu,if_pos hn,Xjw l s i h]
theorem Xl6:∀(l:List Nat) (s:Nat),s<=281474976910656->(∀x,x∈l->x<=140737488351232)->Xiu l s<=281474976910656
 |[],s,h,_=>h
 |x::l,s,h,hx=>by
  rw[Xiu];split
  ·exact Xl6 l _ (by have:=hx x (by simp);omega) fun y hy=>hx y (by simp [hy])
  ·exact h
def Xiv:Nat:=140737488351232
theorem Xn5 (d:Dsk) (h1:d.sectors.length<=Xiv) (h2:d.waits.length<=Xiv) (h3:∀b,b∈d.sectors->b.length<=Xiv) (h4:∀w,w∈d.waits->w.data.length<=Xiv):Xr Tryz.prog 8 [Y3p d] [] (bool (Xjd d)) []:=by
 unfold Xiv at*;refine Xc 1 Tryz.func8 rfl fun n out _ _=> ?_;simp only[sn,Tryz.ntmps8,simprocAttr];obtain⟨sle,hsl⟩:∃sle,sle=d.sectors.map List.length:=⟨_,rfl⟩
 obtain⟨wl,hwl⟩:∃wl,wl=d.waits.map fun w=>w.data.length:=⟨_,rfl⟩
 have hsn:sle.length=d.sectors.length:=by rw[hsl,af]
 have hwn:wl.length=d.waits.length:=by rw[hwl,af]
 obtain⟨s0,hs0⟩:∃s0,s0=d.sectors.length+d.waits.length:=⟨_,rfl⟩
 refine Vy fun K hK=> ?_;simp only[zA,simprocAttr,Y3p,Xha]
 (refine hK _ ?_;clear hK K)
 refine Vy fun K hK=> ?_;simp only[zA,simprocAttr,Yl (n:=d.sectors.length) (d.waits.length:Int) d.waits.length rfl (by omega)]
 (refine hK _ ?_;clear hK K)
 rw[<- hs0];refine Vk fun KB hKB=> ?_;refine Vy fun K hK=> ?_;simp only[zA,simprocAttr]
 (refine hK _ ?_;clear hK K)
 refine Xsh (tp [4] (tr 13 19 [(3,i64 ((Xiu sle s0:Nat):Int))])) [some (.box 39 [.sl 1 (d.sectors.map secC) .sh,.sl 2 (d.waits.map wrC) .sh])] out (id ?_) (Xz (fun i:Nat=>(tr 13 19 [(3,i64 ((acc sle s0 i:Nat):Int)),(4,i64 (i:Int))])) (fun i=>[some (.box 39 [.sl 1 (d.sectors.map secC) .sh,.sl 2 (d.waits.map wrC) .sh])]) (fun i=>out) (fun i=>i<=d.sectors.length∧Xiu sle s0=Xiu (sle.drop i) (acc sle s0 i)) (fun i=>d.sectors.length - i) 0 ⟨ba _,?_⟩ ?_ fun i hi=> ?_);rotate_left
 ·rw[dn,acc,List.take_zero];rfl
 ·refine La rfl ?_ ?_<;>simp only[sL,acc,List.sum_nil,Nat.add_zero]
 ·obtain⟨hi,hq⟩:=hi;simp only[pt];refine Vk fun KC hKC=> ?_;by_cases hlt:i<d.sectors.length
  ·have hg:∀h,sle[i]'h=(d.sectors[i]).length:=fun h=>by simp [hsl]
   have e1:decide ((i:Int)<(d.sectors.length:Int))=true:=ay (by omega);by_cases hn:acc sle s0 i<=200000
   ·have e2:decide (((acc sle s0 i:Nat):Int)<=200000)=true:=ay (by omega);have hb:=h3 _ (ak hlt);refine Vy fun K hK=> ?_;simp only[zA,simprocAttr,hlt,e2]
    (refine hK _ ?_;clear hK K)
    refine Wm rfl (Xhj (hKC _ ?_));clear hKC KC;refine Vk fun KC hKC=>Xe ?_;refine Xn Xj [] ?_;simp only[zA,simprocAttr,hlt,Xg secC d.sectors i [] hlt,secC,X5,Yl (n:=acc sle s0 i) ((d.sectors[i]).length:Int) (d.sectors[i]).length rfl (by omega)];refine hKC _ ?_;clear hKC KC;refine Xn Xj [] ?_;simp only[zA,simprocAttr,Yl (n:=i) 1 1 rfl (by omega)];refine⟨i+1,⟨by omega,Xk9 (by omega) hn hq⟩,by omega,?_⟩;rw[Xjw sle s0 i (by omega),hg];refine La rfl ?_ ?_<;>simp only[sL]
   ·have e2:decide (((acc sle s0 i:Nat):Int)<=200000)=false:=aq (by omega);refine Vy fun K hK=> ?_;simp only[zA,simprocAttr,hlt,e2]
    (refine hK _ ?_;clear hK K)
    refine Uy rfl (Qi ?_);rw[hq,Xl5 _ hn];simp only[Qd,Z4,if_true];refine .inl ⟨by trivial,?_⟩;refine La rfl ?_ ?_<;>simp only[sL]
  ·have hil:i=d.sectors.length:=by omega
   refine Vy fun K hK=> ?_;simp only[zA,simprocAttr,hlt]
   (refine hK _ ?_;clear hK K)
   refine Uy rfl (Qi ?_);rw[hq,dm (by omega),Xiu];simp only[Qd,Z4,if_true];refine .inl ⟨by trivial,?_⟩;refine La rfl ?_ ?_<;>simp only[sL]
 refine hKB _ ?_;clear hKB KB;simp only[pt];obtain⟨s1,hs1⟩:∃s1,s1=Xiu sle s0:=⟨_,rfl⟩
 rw[<- hs1];have hb1:s1<=281474976910656:=by
  rw[hs1];refine Xl6 sle s0 (by omega) fun x hx=> ?_;rw[hsl] at hx;obtain⟨b,hb,rfl⟩:=dj.1 hx;exact h3 b hb
 refine Vk fun KB hKB=> ?_;refine Vy fun K hK=> ?_;simp only[zA,simprocAttr]
 (refine hK _ ?_;clear hK K)
 refine Xsh (tp [5] (tr 32 20 [(3,i64 ((Xiu wl s1:Nat):Int))])) [some (.box 39 [.sl 1 (d.sectors.map secC) .sh,.sl 2 (d.waits.map wrC) .sh])] out (id ?_) (Xz (fun i:Nat=>(tr 32 20 [(3,i64 ((acc wl s1 i:Nat):Int)),(5,i64 (i:Int))])) (fun i=>[some (.box 39 [.sl 1 (d.sectors.map secC) .sh,.sl 2 (d.waits.map wrC) .sh])]) (fun i=>out) (fun i=>i<=d.waits.length∧Xiu wl s1=Xiu (wl.drop i) (acc wl s1 i)) (fun i=>d.waits.length - i) 0 ⟨ba _,?_⟩ ?_ fun i hi=> ?_);rotate_left
 ·rw[dn,acc,List.take_zero];rfl
 ·refine La rfl ?_ ?_<;>simp only[sL,acc,List.sum_nil,Nat.add_zero]
 ·obtain⟨hi,hq⟩:=hi;simp only[pt];refine Vk fun KC hKC=> ?_;by_cases hlt:i<d.waits.length
  ·have hg:∀h,wl[i]'h=(d.waits[i]).data.length:=fun h=>by simp [hwl]
   by_cases hn:acc wl s1 i<=200000
   ·have e2:decide (((acc wl s1 i:Nat):Int)<=200000)=true:=ay (by omega);have hb:=h4 _ (ak hlt);refine Vy fun K hK=> ?_;simp only[zA,simprocAttr,hlt,e2]
    (refine hK _ ?_;clear hK K)
    refine Wm rfl (Xhj (hKC _ ?_));clear hKC KC;refine Vk fun KC hKC=>Xe ?_;refine Xn Xj [] ?_;simp only[zA,simprocAttr,hlt,Xg wrC d.waits i [] hlt,wrC,X5,Yl (n:=acc wl s1 i) ((d.waits[i]).data.length:Int) (d.waits[i]).data.length rfl (by omega)];refine hKC _ ?_;clear hKC KC;refine Xn Xj [] ?_;simp only[zA,simprocAttr,Yl (n:=i) 1 1 rfl (by omega)];refine⟨i+1,⟨by omega,Xk9 (by omega) hn hq⟩,by omega,?_⟩;rw[Xjw wl s1 i (by omega),hg];refine La rfl ?_ ?_<;>simp only[sL]
   ·have e2:decide (((acc wl s1 i:Nat):Int)<=200000)=false:=aq (by omega);refine Vy fun K hK=> ?_;simp only[zA,simprocAttr,hlt,e2]
    (refine hK _ ?_;clear hK K)
    refine Uy rfl (Qi ?_);rw[hq,Xl5 _ hn];simp only[Qd,Z4,if_true];refine .inl ⟨by trivial,?_⟩;refine La rfl ?_ ?_<;>simp only[sL]
  ·have hil:i=d.waits.length:=by omega
   refine Vy fun K hK=> ?_;simp only[zA,simprocAttr,hlt]
   (refine hK _ ?_;clear hK K)
   refine Uy rfl (Qi ?_);rw[hq,dm (by omega),Xiu];simp only[Qd,Z4,if_true];refine .inl ⟨by trivial,?_⟩;refine La rfl ?_ ?_<;>simp only[sL]
 refine hKB _ ?_;clear hKB KB;simp only[pt];have hgr:Xjd d=(decide (((Xiu wl s1:Nat):Int)>200000)||decide (((d.sectors.length+d.waits.length:Nat):Int)>600)):=by
  rw[Xjd,<- hsl,<- hwl,<- hs0,<- hs1,hs0]
  congr 1
  ·exact fj.2 (by omega)
  ·exact fj.2 (by omega)
 rw[hgr];cases hc:decide (((Xiu wl s1:Nat):Int)>200000) with
 |true=>
  refine Vy fun K hK=> ?_;simp only[zA,simprocAttr,hc]
  (refine hK _ ?_;clear hK K)
  apply Vz;exact Qv (.inr rfl) rfl rfl rfl (fun _ _=>rfl) rfl
 |false=>
  refine Vy fun K hK=> ?_;simp only[zA,simprocAttr,hc,Yl (n:=d.sectors.length) (d.waits.length:Int) d.waits.length rfl (by omega)]
  (refine hK _ ?_;clear hK K)
  apply Vz;exact Qv (.inr rfl) rfl rfl rfl (fun _ _=>rfl) rfl
theorem Y5b {α:Type} {p:α->α->Bool} (hp:∀x,p x x=true):∀l:List α,Fv p l l=true
 |[]=>rfl
 |x::l=>by rw[Fv,hp,Y5b hp l];rfl
theorem sameB_refl (a:Dsk):Xk0 a a=true:=by
 unfold Xk0;rw[Y5b (by intro x;simp),Y5b (by intro x;simp)];rfl
theorem Y41 {kp:Nat->Nat} {d:Dsk} {i:Nat} (h:i<d.waits.length):Y3l kp d (i+1)=lay (Y3l kp d i) d.waits[i] (kp i):=by rw[Y3l,dif_pos h]
theorem Y5c (kp kq:Nat->Nat) (d:Dsk) (m:Nat) (hk:∀i,i<m->kp i=kq i):∀i,i<=m->i<=d.waits.length->Y3l kq ⟨d.sectors,d.waits.take m⟩ i=Y3l kp d i
 |0,_,_=>rfl
 |i+1,h,h'=>by
  have h1:i<(d.waits.take m).length:=by rw[aj];omega
  have h2:i<d.waits.length:=by omega
  rw[Y41 (d:=⟨d.sectors,d.waits.take m⟩) h1,Y41 h2,Y5c kp kq d m hk i (by omega) (by omega),hk i (by omega)]
  congr 1
  simp
theorem Y5d (kp kq:Nat->Nat) (d:Dsk) (m:Nat) (hk:∀i,kp (m+i)=kq i):∀i,m+i<=d.waits.length->Y3l kq ⟨Y3l kp d m,d.waits.drop m⟩ i=Y3l kp d (m+i)
 |0,_=>rfl
 |i+1,h'=>by
  have h1:i<(d.waits.drop m).length:=by rw[bu];omega
  have h2:m+i<d.waits.length:=by omega
  rw[<- Nat.add_assoc,Y41 (d:=⟨Y3l kp d m,d.waits.drop m⟩) h1,Y41 h2,Y5d kp kq d m hk i (by omega),hk i]
  congr 1
  simp
theorem Y6m {kp:Nat->Nat} {d:Dsk} (hd:may d=true) (hk:∀i,i<d.waits.length->kp i<=128) (ws:List Wr) (hw:ws.length<=256) (hws:∀w,w∈ws->0<=w.at'∧w.at'<32∧w.data.length=128) (i:Nat):may ⟨Y3l kp d i,ws⟩=true:=
 (Xho _).2 ⟨by rw[Xh8];exact((Xho d).1 hd).1,hw,Xhb hd hk i,hws⟩
def Y40:BitVec 32->Nat->List UInt8
 | _,0=>[]
 |w,k+1=>UInt8.ofNat w.toNat::Y40 (w>>>8) k
def Qt (l:List UInt8):Nat->BitVec 32
 |0=>0
 |i+1=>Qt l i|||(BitVec.ofNat 32 (l.getD i 0).toNat<<<(8*i))
def Y55 (l:List UInt8):BitVec 32:=Qt l l.length
theorem Y3i:∀(k:Nat) (w:BitVec 32),(Y40 w k).length=k
 |0,_=>rfl
 |k+1,w=>by rw[Y40,List.length_cons,Y3i k]
theorem Y8f (w:BitVec 32) (i:Nat):(BitVec.ofNat 32 (UInt8.ofNat w.toNat).toNat).getLsbD i=(decide (i<8)&&w.getLsbD i):=by
 rw[BitVec.getLsbD_ofNat,dr,Nat.testBit_mod_two_pow,BitVec.testBit_toNat];by_cases h:i<8
 ·simp [h];omega
 ·simp [h]
theorem Y9m (w:BitVec 32):Y55 (Y40 w 4)=w:=by
 have e:Y55 (Y40 w 4)=(((0|||(BitVec.ofNat 32 (UInt8.ofNat w.toNat).toNat<<<0))|||(BitVec.ofNat 32 (UInt8.ofNat (w>>>8).toNat).toNat<<<8))|||(BitVec.ofNat 32 (UInt8.ofNat (w>>>8>>>8).toNat).toNat<<<16))|||(BitVec.ofNat 32 (UInt8.ofNat (w>>>8>>>8>>>8).toNat).toNat<<<24):=rfl
 rw[e];refine iy fun i hi=> ?_;simp only[BitVec.getLsbD_or,ir,Y8f,ik,BitVec.getLsbD_zero,eu];by_cases h1:i<8
 ·simp [h1,hi,show i<16 by omega,show i<24 by omega]
 ·by_cases h2:i<16
  ·simp [h1,h2,hi,show i<24 by omega,show i - 8<8 by omega,show 8+(i - 8)=i by omega]
  ·by_cases h3:i<24
   ·simp [h1,h2,h3,hi,show ¬i - 8<8 by omega,show i - 16<8 by omega,show 8+(8+(i - 16))=i by omega]
   ·simp [h1,h2,h3,hi,show ¬i - 8<8 by omega,show ¬i - 16<8 by omega,show i - 24<8 by omega,show 8+(8+(8+(i - 24)))=i by omega]
theorem Y9n {n:Nat} (h:n<65536):Y55 (Y40 (BitVec.ofNat 32 n) 2)=BitVec.ofNat 32 n:=by
 have e:∀w:BitVec 32,Y55 (Y40 w 2)=(0|||(BitVec.ofNat 32 (UInt8.ofNat w.toNat).toNat<<<0))|||(BitVec.ofNat 32 (UInt8.ofNat (w>>>8).toNat).toNat<<<8):=fun _=>rfl
 rw[e];refine iy fun i hi=> ?_;simp only[BitVec.getLsbD_or,ir,Y8f,ik,BitVec.getLsbD_zero,eu];by_cases h1:i<8
 ·simp [h1,hi]
 ·by_cases h2:i<16
  ·simp [h1,h2,hi,show i - 8<8 by omega,show 8+(i - 8)=i by omega]
  ·have hb:n.testBit i=false:=Nat.testBit_lt_two_pow (Nat.lt_of_lt_of_le h (Nat.pow_le_pow_right (n:=2) (by decide) (show 16<=i by omega)));simp only[BitVec.getLsbD_ofNat,hb,fy];simp [h1,h2,show ¬i - 8<8 by omega]
def Yar (w:BitVec 32):BitVec 32:=if w&&&1=1 then(w>>>1) ^^^ 0xedb88320 else w>>>1
def Y4p (w:BitVec 32):Nat->BitVec 32
 |0=>w
 |k+1=>Yar (Y4p w k)
def Yas (i:Nat):BitVec 32:=Y4p (BitVec.ofNat 32 i) 8
def Y9k (w:BitVec 32) (l:List UInt8):Nat->BitVec 32
 |0=>w
 |i+1=>(Y9k w l i>>>8) ^^^ Yas (UInt8.ofNat (Y9k w l i).toNat ^^^ l.getD i 0).toNat
def Ybj (l:List UInt8):BitVec 32:= ~~~ Y9k (~~~ 0) l l.length
structure Rc where
 gen:BitVec 32
 text:List UInt8
def Y3q (g:BitVec 32):Nat:=g.toNat % 2*16
def Bm (r:Rc):List UInt8:=Y40 (BitVec.ofNat 32 r.text.length) 2++r.text
def Y4a (r:Rc):List UInt8:=Y40 (Ybj (Y40 r.gen 4++Bm r)) 4++Bm r
def Y3n (r:Rc):Nat:=((Y4a r).length+117) / 118
def Y5e (r:Rc) (i:Nat):List UInt8:=((Y4a r++List.replicate 118 0).drop (118*i)).take 118
def Xgh (r:Rc) (i:Nat):List UInt8:=Y40 r.gen 4++UInt8.ofNat i::UInt8.ofNat (Y3n r)::(Y5e r i++Y40 r.gen 4)
def Y3v (r:Rc):List (List UInt8):=(List.range (Y3n r)).map (Xgh r)
theorem Y4y (r:Rc):(Y4a r).length=6+r.text.length:=by
 unfold Y4a Bm;simp only[ac,Y3i];omega
theorem Y9o (r:Rc):1<=Y3n r:=by unfold Y3n;rw[Y4y];omega
theorem Y48 {r:Rc} (h:r.text.length<=1882):Y3n r<=16:=by unfold Y3n;rw[Y4y];omega
theorem Y5u (r:Rc):(Y4a r).length<=118*Y3n r:=by unfold Y3n;omega
theorem Y73 (r:Rc) {i:Nat} (h:i<Y3n r):118*i<(Y4a r).length:=by unfold Y3n at h;omega
theorem Y56 (r:Rc) {i:Nat} (h:i<Y3n r):(Y5e r i).length=118:=by
 have:=Y73 r h;unfold Y5e;simp only[aj,bu,ac,d7];omega
theorem Y4z (r:Rc) {i:Nat} (h:i<Y3n r):(Xgh r i).length=128:=by
 unfold Xgh;simp only[ac,List.length_cons,Y3i,Y56 r h]
theorem Y3t (r:Rc):(Y3v r).length=Y3n r:=by unfold Y3v;simp
theorem Y5v (r:Rc) {i:Nat} (h:i<Y3n r):(Y3v r).getD i []=Xgh r i:=by
 unfold Y3v;simp [ah,h]
theorem Yat (r:Rc) (i:Nat):(Xgh r i).take 4=Y40 r.gen 4:=by
 unfold Xgh;rw[gg (Y3i 4 _)]
theorem Y9p (r:Rc) (i:Nat):(Xgh r i).getD 5 0=UInt8.ofNat (Y3n r):=by
 unfold Xgh;rw[ah,ao (by rw[Y3i];omega),Y3i];rfl
theorem Y9q (r:Rc) (i:Nat):(Xgh r i).drop 6=Y5e r i++Y40 r.gen 4:=by
 unfold Xgh;rw[List.drop_append,dm (by rw[Y3i];omega),Y3i];rfl
theorem Y9r (r:Rc) {i:Nat} (h:i<Y3n r):((Xgh r i).drop 6).take 118=Y5e r i:=by
 rw[Y9q,gg (Y56 r h)]
theorem Y5w (r:Rc):∀m,m<=Y3n r->(List.range m).flatMap (Y5e r)=(Y4a r++List.replicate 118 0).take (118*m)
 |0,_=>by simp
 |m+1,h=>by
  rw[List.range_succ,du,Y5w r m (by omega),Nat.mul_succ,List.take_add];simp [Y5e]
theorem Y9s (r:Rc) (l:List UInt8):(((Y4a r++l).drop 4).take 2)=Y40 (BitVec.ofNat 32 r.text.length) 2:=by
 unfold Y4a Bm;rw[aw,f9 (Y3i 4 _),aw,gg (Y3i 2 _)]
theorem Y9t (r:Rc) (l:List UInt8):(((Y4a r++l).drop 6).take r.text.length)=r.text:=by
 have e:(Y4a r++l).drop 6=((Y4a r++l).drop 4).drop 2:=by rw[f3]
 rw[e];unfold Y4a Bm;rw[aw,f9 (Y3i 4 _),aw,f9 (Y3i 2 _),gg rfl]
def Y65 (seen:List (List UInt8)) (s:Nat):Option Rc:=
 if ((seen.getD 0 []).getD 5 0).toNat<1∨16<((seen.getD 0 []).getD 5 0).toNat∨Y55 ((seen.getD 0 []).take 4)=0∨Y3q (Y55 ((seen.getD 0 []).take 4))≠s then none else
 let all:=(seen.take ((seen.getD 0 []).getD 5 0).toNat).flatMap fun b=>(b.drop 6).take 118
 if all.length - 6<(Y55 ((all.drop 4).take 2)).toNat then none else
 let r:Rc:=⟨Y55 ((seen.getD 0 []).take 4),(all.drop 6).take (Y55 ((all.drop 4).take 2)).toNat⟩
 if Y3v r=seen.take ((seen.getD 0 []).getD 5 0).toNat then some r else none
theorem Y5f {l:List (List UInt8)}:∀{m:Nat},(∀b,b∈l->b.length=128)->m<=l.length->((l.take m).flatMap fun b=>(b.drop 6).take 118).length=118*m
 |0,_,_=>by simp
 |m+1,h,hm=>by
  have hl:m<l.length:=by omega
  rw[ai hl,du,ac,Y5f h (by omega)];have:=h _ (ak hl);simp only[dp,ep,b9,aj,bu];omega
theorem Y8g {seen:List (List UInt8)} (h16:seen.length=16) (h128:∀b,b∈seen->b.length=128) (s:Nat) (r:Rc):
  Y65 seen s=some r↔r.gen≠0∧Y3q r.gen=s∧r.text.length<=1882∧Y3v r=seen.take (Y3n r):=by
 unfold Y65;constructor
 ·intro h;split at h
  ·cases h
  rename_i c;simp only[not_or] at c;obtain⟨c1,c2,c3,c4⟩:=c;dsimp only at h;generalize hm:((seen.getD 0 []).getD 5 0).toNat=m at*;have hall:((seen.take m).flatMap fun b=>(b.drop 6).take 118).length=118*m:=Y5f h128 (by omega);generalize (seen.take m).flatMap (fun b=>(b.drop 6).take 118)=all at*;split at h
  ·cases h
  rename_i c5;split at h
  ·rename_i c6;injection h with h
   subst h;have hl:=congrArg List.length c6;rw[Y3t,aj] at hl;refine⟨c3,by simpa using c4,?_,?_⟩
   ·show((all.drop 6).take _).length<=1882
    rw[aj,bu];omega
   ·rw[hl,Nat.min_eq_left (by omega)];exact c6
  ·cases h
 ·rintro⟨c1,c2,c3,c4⟩;have h1:=Y9o r;have h2:=Y48 c3;have e0:seen.getD 0 []=Xgh r 0:=by
   rw[<- Y5v r (i:=0) (by omega),c4];simp only[ah];rw[List.getElem?_take,if_pos (by omega)]
  have em:((Xgh r 0).getD 5 0).toNat=Y3n r:=by
   rw[Y9p,dr];omega
  rw[e0,em,Yat,Y9m,if_neg (by simp only[not_or];exact⟨by omega,by omega,c1,by simpa using c2⟩)];dsimp only;have ea:(seen.take (Y3n r)).flatMap (fun b=>(b.drop 6).take 118)=(Y4a r++List.replicate 118 0).take (118*Y3n r):=by
   rw[<- c4,<- Y5w r _ (Nat.le_refl _)];unfold Y3v;rw[List.flatMap_map]
   show((List.range (Y3n r)).flatMap fun i=>((Xgh r i).drop 6).take 118)= _
   rw[List.flatMap_def,List.flatMap_def]
   congr 1
   exact dl fun i hi=>Y9r r (c8.1 hi)
  obtain⟨z,hz⟩:∃z,(Y4a r++List.replicate 118 0).take (118*Y3n r)=Y4a r++z:=by
   rw[ip,bo (Y5u r)];exact⟨_,rfl⟩
  rw[ea,hz,Y9s,Y9n (by omega)];have et:(BitVec.ofNat 32 r.text.length).toNat=r.text.length:=by
   rw[da];omega
  rw[et,Y9t,if_neg (by rw[ac,Y4y];omega),if_pos c4]
theorem Y9u {α:Type} {l:List α} {i:Nat} (h:i<l.length) (a x:α):(l.set i a).getD i x=a:=by simp [ah,h]
theorem Y9v {α:Type} {l:List α} {i j:Nat} (h:i≠j) (a x:α):(l.set i a).getD j x=l.getD j x:=by
 simp [ah,cx h]
theorem Y8h (S:List (List UInt8)) (W ws:List Wr):Y3l Xhc ⟨S,W++ws⟩ (W++ws).length=Y3l Xhc ⟨Y3l Xhc ⟨S,W⟩ W.length,ws⟩ ws.length:=by
 have h1:=Y5c Xhc Xhc ⟨S,W++ws⟩ W.length (fun _ _=>rfl) W.length (Nat.le_refl _) (by simp);have h2:=Y5d Xhc Xhc ⟨S,W++ws⟩ W.length (fun _=>rfl) ws.length (by simp);have e1:(W++ws).take W.length=W:=gg rfl;have e2:(W++ws).drop W.length=ws:=f9 rfl;dsimp only at h1 h2;rw[e1] at h1;rw[e2] at h2;rw[ac,<- h2,<- h1]
def Y5g (r:Rc):List Wr:=(List.range (Y3n r)).map fun i=>⟨((Y3q r.gen+i:Nat):Int),Xgh r i⟩
theorem Y3z (r:Rc):(Y5g r).length=Y3n r:=by unfold Y5g;simp
theorem Y4d (g:BitVec 32):Y3q g=0∨Y3q g=16:=by unfold Y3q;omega
theorem Y50 (g:BitVec 32):Y3q g<=16:=by unfold Y3q;omega
theorem Y66 {r:Rc} (hr:Y3n r<=16):∀w,w∈Y5g r->0<=w.at'∧w.at'<32∧w.data.length=128:=fun w hw=>by
 unfold Y5g at hw;obtain⟨i,hi,rfl⟩:=dj.1 hw;have hi:=c8.1 hi;have hs:=Y50 r.gen;refine⟨by dsimp only;omega,by dsimp only;omega,Y4z r hi⟩
theorem Y6n (C:List (List UInt8)) (r:Rc) (hr:Y3n r<=16) (hm:may ⟨C,Y5g r⟩=true) (z:Nat) (hz:z<32):∀j,j<=Y3n r->(Y3l Xhc ⟨C,Y5g r⟩ j).getD z []=if Y3q r.gen<=z∧z<Y3q r.gen+j then Xgh r (z - Y3q r.gen) else C.getD z []
 |0,_=>by rw[if_neg (by omega)];rfl
 |j+1,h=>by
  have hj:j<(Y5g r).length:=by rw[Y3z];omega
  have ih:=Y6n C r hr hm z hz j (by omega);have hw:(Y5g r)[j]=⟨((Y3q r.gen+j:Nat):Int),Xgh r j⟩:=by unfold Y5g;simp
  have hs:=Y50 r.gen;have hC:C.length=32:=((Xho _).1 hm).1;rw[Y41 (d:=⟨C,Y5g r⟩) hj];unfold lay;rw[hw];dsimp only;rw[Int.toNat_natCast];by_cases e:Y3q r.gen+j=z
  ·have hzl:z<(Y3l Xhc ⟨C,Y5g r⟩ j).length:=by rw[Xh8];show z<C.length;omega
   have hrow:((Y3l Xhc ⟨C,Y5g r⟩ j).getD z []).length=128:=by
    rw[show(Y3l Xhc ⟨C,Y5g r⟩ j).getD z []=(Y3l Xhc ⟨C,Y5g r⟩ j)[z] by simp [ah,hzl]];exact Xhb hm (fun _ _=>by simp [Xhc]) _ _ (ak hzl)
   have hl:=Y4z r (i:=j) (by omega);rw[e,Y9u hzl,if_pos (by omega),show z - Y3q r.gen=j by omega];unfold laid;rw[show List.take (Xhc j) (Xgh r j)=Xgh r j from bo (by rw[hl];exact Nat.le_refl _),dm (by omega),b9]
  ·rw[Y9v e,ih];by_cases c:Y3q r.gen<=z∧z<Y3q r.gen+j
   ·rw[if_pos c,if_pos (by omega)]
   ·rw[if_neg c,if_neg (by omega)]
def Y4o (d:Dsk) (r:Rc):Int:=if may d then(if r.gen=0 then 2 else if 1882<r.text.length then 3 else if 256<d.waits.length+Y3n r then 9 else 0) else 8
def Y4e (d:Dsk) (r:Rc):Dsk:=if Y4o d r=0 then⟨d.sectors,d.waits++Y5g r⟩ else Xhm
theorem Y5h {d:Dsk} {r:Rc}:Y4o d r=0↔may d=true∧r.gen≠0∧r.text.length<=1882∧d.waits.length+Y3n r<=256:=by
 unfold Y4o;cases may d
 ·simp
 ·by_cases h1:r.gen=0
  ·simp [h1]
  ·by_cases h2:1882<r.text.length
   ·have h2':¬r.text.length<=1882:=by omega
    simp [h2,h2'];split<;>decide
   ·by_cases h3:256<d.waits.length+Y3n r
    ·simp [h1,h2,h3];omega
    ·simp [h1,h2,h3];omega
theorem Y4b {d:Dsk} {r:Rc} (h:Y4o d r=0):may (Y4e d r)=true:=by
 obtain⟨h1,h2,h3,h4⟩:=Y5h.1 h;obtain⟨d1,d2,d3,d4⟩:=(Xho d).1 h1;unfold Y4e;rw[if_pos h];refine(Xho _).2 ⟨d1,by rw[ac,Y3z];exact h4,d3,fun w hw=> ?_⟩;rcases el.1 hw with h|h
 ·exact d4 w h
 ·exact Y66 (Y48 h3) w h
theorem Y9w {d:Dsk} (hd:may d=true) {r:Rc} (hr:Y3n r<=16):may ⟨Y3l Xhc d d.waits.length,Y5g r⟩=true:=
 Y6m hd (fun _ _=>by simp [Xhc]) _ (by rw[Y3z];omega) (Y66 hr) _
theorem Y5i {d:Dsk} (hd:may d=true) {z:Nat} (hz:z<32):Xkr d (z:Int)=(Y3l Xhc d d.waits.length).getD z []:=by
 unfold Xkr;rw[if_pos (Xju.2 ⟨hd,by omega,by omega⟩),Int.toNat_natCast]
theorem Y7i {d:Dsk} (hd:may d=true) {z:Nat} (hz:z<32):(Xkr d (z:Int)).length=128:=by
 rw[Y5i hd hz];have hl:z<(Y3l Xhc d d.waits.length).length:=by rw[Xh8,((Xho d).1 hd).1];exact hz
 rw[show(Y3l Xhc d d.waits.length).getD z []=(Y3l Xhc d d.waits.length)[z] by simp [ah,hl]];exact Xhb hd (fun _ _=>by simp [Xhc]) _ _ (ak hl)
theorem Y7j {d:Dsk} {r:Rc} (h:Y4o d r=0) {z:Nat} (hz:z<32):Xkr (Y4e d r) (z:Int)=if Y3q r.gen<=z∧z<Y3q r.gen+Y3n r then Xgh r (z - Y3q r.gen) else Xkr d (z:Int):=by
 obtain⟨h1,h2,h3,h4⟩:=Y5h.1 h;rw[Y5i (Y4b h) hz,Y5i h1 hz];have e:Y4e d r=⟨d.sectors,d.waits++Y5g r⟩:=by unfold Y4e;rw[if_pos h]
 rw[e]
 show(Y3l Xhc ⟨d.sectors,d.waits++Y5g r⟩ (d.waits++Y5g r).length).getD z []= _
 rw[Y8h,Y3z];exact Y6n _ r (Y48 h3) (Y9w h1 (Y48 h3)) z hz _ (Nat.le_refl _)
def Y4q (d:Dsk) (s:Nat):List (List UInt8):=(List.range 16).map fun i=>Xkr d ((s+i:Nat):Int)
theorem Y7k (d:Dsk) (s:Nat):(Y4q d s).length=16:=by unfold Y4q;simp
theorem Yau (d:Dsk) (s:Nat) {i:Nat} (h:i<16):(Y4q d s).getD i []=Xkr d ((s+i:Nat):Int):=by
 unfold Y4q;simp [ah,h]
theorem Y6o {d:Dsk} (hd:may d=true) {s:Nat} (hs:s=0∨s=16):∀b,b∈Y4q d s->b.length=128:=fun b hb=>by
 unfold Y4q at hb;obtain⟨i,hi,rfl⟩:=dj.1 hb;have hi:=c8.1 hi;exact Y7i hd (by omega)
def Y3r (d:Dsk) (s:Nat):Option Rc:=Y65 (Y4q d s) s
theorem Y4f {d:Dsk} (hd:may d=true) {s:Nat} (hs:s=0∨s=16) (r:Rc):Y3r d s=some r↔r.gen≠0∧Y3q r.gen=s∧r.text.length<=1882∧Y3v r=(Y4q d s).take (Y3n r):=
 Y8g (Y7k d s) (Y6o hd hs) s r
theorem Y4g {d:Dsk} (hd:may d=true) {s:Nat} (hs:s=0∨s=16) {r:Rc} (h:Y3r d s=some r):Y3q r.gen=s:=((Y4f hd hs r).1 h).2.1
theorem Y6p {d:Dsk} {r:Rc} (h:Y4o d r=0):Y3r (Y4e d r) (Y3q r.gen)=some r:=by
 obtain⟨h1,h2,h3,h4⟩:=Y5h.1 h;have hm:=Y48 h3;refine(Y4f (Y4b h) (Y4d _) r).2 ⟨h2,rfl,h3,?_⟩;unfold Y3v Y4q;rw[<- iu,List.take_range,Nat.min_eq_left hm];refine dl fun i hi=> ?_;have hi:=c8.1 hi;have hs:=Y50 r.gen;rw[Y7j h (by omega),if_pos (by omega),show Y3q r.gen+i - Y3q r.gen=i by omega]
theorem Y81 {d:Dsk} {r:Rc} (h:Y4o d r=0) {s:Nat} (hs:s=0∨s=16) (hne:s≠Y3q r.gen):Y4q (Y4e d r) s=Y4q d s:=by
 obtain⟨h1,h2,h3,h4⟩:=Y5h.1 h;have hm:=Y48 h3;have hr:=Y4d r.gen;unfold Y4q;refine dl fun i hi=> ?_;have hi:=c8.1 hi;rw[Y7j h (by omega),if_neg (by omega)]
theorem Y74 {d:Dsk} {r:Rc} (h:Y4o d r=0) {s:Nat} (hs:s=0∨s=16) (hne:s≠Y3q r.gen):Y3r (Y4e d r) s=Y3r d s:=by
 unfold Y3r;rw[Y81 h hs hne]
def Y6q:Option Rc->Option Rc->List Rc
 |some a,some b=>if a.gen.toNat<b.gen.toNat then[b,a] else[a,b]
 |some a,none=>[a]
 |none,some b=>[b]
 |none,none=>[]
def Y3s (d:Dsk):List Rc:=if may d then Y6q (Y3r d 0) (Y3r d 16) else[]
theorem Y9x {a b:Option Rc} {r:Rc}:r∈Y6q a b↔a=some r∨b=some r:=by
 cases a<;>cases b<;>simp only[Y6q]<;>try split
 all_goals simp [eq_comm,or_comm]
theorem Y4h {d:Dsk} (hd:may d=true) {r:Rc}:r∈Y3s d↔Y3r d (Y3q r.gen)=some r:=by
 unfold Y3s;rw[if_pos hd,Y9x];constructor
 ·rintro(h|h)
  ·rw[Y4g hd (.inl rfl) h];exact h
  ·rw[Y4g hd (.inr rfl) h];exact h
 ·intro h;rcases Y4d r.gen with e|e<;>rw[e] at h
  ·exact .inl h
  ·exact .inr h
theorem Y67 (d:Dsk):(Y3s d).length<=2:=by
 unfold Y3s;split
 ·generalize Y3r d 0=a;generalize Y3r d 16=b;cases a<;>cases b<;>simp only[Y6q]<;>try split
  all_goals simp
 ·simp
end Go.Proofs.YtgpdghbmiihfbaaGreat
