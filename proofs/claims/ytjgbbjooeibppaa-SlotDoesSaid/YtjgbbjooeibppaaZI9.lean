/- The layer of abstract values, joined. -/
import Derived.Test.YtjgbbjooeibppaaZE4
import Derived.Test.YtjgbbjooeibppaaZD27
import Derived.Test.YtjgbbjooeibppaaZD2
import Derived.Test.YtjgbbjooeibppaaZE8
import Derived.Test.YtjgbbjooeibppaaZD5
import Derived.Test.YtjgbbjooeibppaaZD23
import Derived.Test.YtjgbbjooeibppaaZVsBox
import Derived.Test.YtjgbbjooeibppaaZI8
import Derived.Test.YtjgbbjooeibppaaZI0
import Derived.Test.YtjgbbjooeibppaaZI5
import Derived.Test.YtjgbbjooeibppaaZI3
import Derived.Test.YtjgbbjooeibppaaZVsView
namespace Go.Proofs.Ytjgbbjooeibppaa
set_option linter.unusedSimpArgs false
set_option linter.unusedVariables false
set_option maxHeartbeats 8000000
set_option maxRecDepth 8000
open Go Go.VS Tab
theorem Xi1:Small Xhm:=⟨by decide,by decide,fun b hb=>by simp [Xhm] at hb,fun w hw=>by simp [Xhm] at hw⟩
theorem X1o (d:Dsk) (hd:Small d):Xr Try.prog 12 [Y3p d] [] (Y3p d) []:=
 Xjq (m:=1) (needs:=fun B=>[(B,none)]) (gives:=fun B=>[(B,.row 76 2 d.waits.length)]) (fun B=>Xld (Xn6 B d hd) (by simp only[Y3p,Xha,X4,sl]))
  (fun B y hy=>by simp at hy;rw[hy];exact⟨rfl,Nat.le_refl _⟩) (fun B y hy=>by simp at hy;rw[hy];exact⟨Nat.le_refl _,Nat.lt_succ_self _⟩)
def Xj0 (d:Dsk):List (Option Res):=(Xis d).map bxO
theorem Xhw (s:Nat→Option Res) (B:Nat) (d:Dsk):holds (ofL s B (Xh9 d)) (Xfx B (Xj0 d)):=Q5.2 fun y hy=>by
 obtain⟨j,q,h1,h2⟩:=Xu8.1 hy
 rw[Xj0,← Xo2] at h1
 rw[h2,Xjj]
 exact Xrq (Xg8 h1).1
theorem Tl:∀(l:List (Nat×Res)) (fr:List AV) (lo:List (Option Res)) (out:Nat→Option Res) (n0 n:Nat) (df:List Deferred),Mc n0 l→AState.give ⟨fr,lo,out,n0,n,df⟩ l=⟨fr,lo,upd out l,n0,n,df⟩
 |[],_,_,_,_,_,_,_=>rfl
 |(k,r)::l,fr,lo,out,n0,n,df,h=>by
  simp only[AState.give]
  rw[if_pos h.1]
  exact Tl l fr lo _ n0 n df h.2
theorem Ycn {fr:List AV} {lo:List (Option Res)} {out:Nat→Option Res} {n0 n:Nat} {df:List Deferred} {l:List (Nat×Res)} (h:Mc n0 l) (t:Tmp) (x:AV):AState.next ⟨fr,lo,out,n0,n,df⟩ (some t) x l=⟨fr.set t x,lo,upd out l,n0,n,df⟩:=
 Tl l _ lo out n0 n df h
theorem P2 {P:Program} {σ:AState} {Kc:AV→List (Nat×Res)→Prop} {f:FuncId} {args:List AV} {x:AV} {needs:List (Nat×Option Res)} {gives:List (Nat×Res)} (h:Xr P f args needs x gives)
  (hl:∀y,y∈needs→y.1<σ.n0∧σ.out y.1=y.2∧y.2≠some .dead) (hg:Mc σ.n0 gives) (hK:Kc x gives):M8 P σ Kc f args:=by
 refine⟨_,x,_,h,Q5.2 fun y hy=> ?_,Yn.2 fun y hy=> .inl (Ht.1 hg y hy),fun y hy=>⟨.inl (hl y hy).1,(hl y hy).2.2⟩,hK⟩
 unfold AState.look
 rw[if_pos (hl y hy).1]
 exact(hl y hy).2.1
theorem Wy (s:Nat→Option Res) (t:List UInt8):RV s (bs t) (bs t):=Y4j _ fun x hx c hc=>by
 obtain⟨a,_,rfl⟩:=List.mem_map.1 hx
 simp at hc;exact⟨_,hc⟩
theorem E2 {s:Nat→Option Res} {k:Nat} {t:List UInt8} (h:t.length=0∨s k=some (.box 5 (t.map b8))):RV s (.bsl k 0 t.length false) (bs t):=by
 by_cases h0:t.length=0
 ·obtain rfl:t=[]:=List.eq_nil_of_length_eq_zero h0
  exact .bsl0 k 0 false 1
 ·refine .bsl k 0 t.length false 5 (t.map b8) 1 (Xo t) (h.resolve_left h0) (by simp) (by simp [Xo]) (fun r hr=> ?_) fun i j r c c' hi hj hc=> ?_
  ·obtain⟨a,_,rfl⟩:=List.mem_map.1 hr;rfl
  ·rw[Xo,List.getElem?_map] at hi
   cases hx:t[i]? with
   |none=>rw[hx] at hi;cases hi
   |some x=>
    rw[hx,Option.map_some] at hi
    injection hi with hi;subst hi
    match j,hj with
    |0,hj=>
     simp only[List.getElem?_cons_zero,Option.some.injEq] at hj
     subst hj
     rw[show 0+(i*1+0)=i by omega,List.getElem?_map,hx,Option.map_some] at hc
     injection hc with hc;subst hc
     exact .val _
    |j+1,hj=>simp at hj
theorem Wn {s:Nat→Option Res} {sz:Nat} {α:Type} {l:List α} {f g:Nat→α→List AV} (md:Md) (hlen:∀i x,l[i]? =some x→(f i x).length=(g i x).length)
  (h:∀(i:Nat) (x:α),l[i]? =some x→∀(j:Nat) (c c':AV),(f i x)[j]? =some c→(g i x)[j]? =some c'→RV s c c'):RV s (.sl sz (l.mapIdx f) md) (.sl sz (l.mapIdx g) .sh):=by
 refine .sl sz _ _ md (by simp) (fun i r r' hr hr'=> ?_) fun i j r r' c c' hr hr' hc hc'=> ?_
 ·rw[List.getElem?_mapIdx] at hr hr'
  cases hx:l[i]? with
  |none=>rw[hx] at hr;cases hr
  |some x=>rw[hx,Option.map_some] at hr hr';injection hr with hr;injection hr' with hr';subst hr;subst hr';exact hlen i x hx
 ·rw[List.getElem?_mapIdx] at hr hr'
  cases hx:l[i]? with
  |none=>rw[hx] at hr;cases hr
  |some x=>rw[hx,Option.map_some] at hr hr';injection hr with hr;injection hr' with hr';subst hr;subst hr';exact h i x hx j c c' hc hc'
theorem Z0 {α β:Type} (f:α→β) (l:List α):l.mapIdx (fun _ x=>f x)=l.map f:=by
 apply List.ext_getElem?;intro i;simp
theorem Yde {s:Nat→Option Res} {B:Nat} {X:Dsk} (h:holds s (Xfx B ((Xis X).map bxO))):RV s (.agg (Xjr B X)) (Y3p X):=by
 have row:∀(i:Nat) (t:List UInt8),(Xis X)[i]? =some t→t.length=0∨s (B+i)=some (.box 5 (t.map b8)):=fun i t ht=>by
  by_cases h0:t.length=0
  ·exact .inl h0
  ·right
   refine Xpz h ?_
   rw[List.getElem?_map,ht,Option.map_some,bxO,if_neg h0]
 refine .agg _ _ rfl fun i c c' hc hc'=> ?_
 match i,hc,hc' with
 |0,hc,hc'=>
  simp only[Xjr,Xha,List.getElem?_cons_zero,Option.some.injEq] at hc hc'
  subst hc;subst hc'
  rw[← Z0,Xhn]
  refine Wn _ (fun i x _=>rfl) fun i x hx j c c' hc hc'=> ?_
  match j,hc,hc' with
  |0,hc,hc'=>
   simp only[scB,Y6,List.getElem?_cons_zero,Option.some.injEq] at hc hc'
   subst hc;subst hc'
   refine E2 (row i x ?_)
   rw[Xis,List.getElem?_append_left (List.getElem?_eq_some_iff.1 hx).1];exact hx
  |j+1,hc,hc'=>simp [scB] at hc
 |1,hc,hc'=>
  simp only[Xjr,Xha,List.getElem?_cons_succ,List.getElem?_cons_zero,Option.some.injEq] at hc hc'
  subst hc;subst hc'
  rw[← Z0,Xhh]
  refine Wn _ (fun i x _=>rfl) fun i x hx j c c' hc hc'=> ?_
  match j,hc,hc' with
  |0,hc,hc'=>
   simp only[wrB,wrC,List.getElem?_cons_zero,Option.some.injEq] at hc hc'
   subst hc;subst hc'
   exact .val _
  |1,hc,hc'=>
   simp only[wrB,wrC,List.getElem?_cons_succ,List.getElem?_cons_zero,Option.some.injEq] at hc hc'
   subst hc;subst hc'
   rw[Nat.add_assoc]
   refine E2 (row (X.sectors.length+i) x.data ?_)
   rw[Xis,List.getElem?_append_right (by omega),Nat.add_sub_cancel_left,List.getElem?_map,hx];rfl
  |j+2,hc,hc'=>simp [wrB] at hc
 |i+2,hc,hc'=>simp [Xjr] at hc
theorem Ydf (s:Nat→Option Res) (X:Dsk):RV s (Y3p X) (Y3p X):=by
 refine .agg _ _ rfl fun i c c' hc hc'=> ?_
 rw[hc] at hc';injection hc' with hc';subst hc'
 match i,hc with
 |0,hc=>
  simp only[Xha,List.getElem?_cons_zero,Option.some.injEq] at hc
  subst hc
  rw[← Z0]
  refine Wn _ (fun i x _=>rfl) fun i x hx j c c' hc hc'=> ?_
  rw[hc] at hc';injection hc' with hc';subst hc'
  match j,hc with
  |0,hc=>simp only[Y6,List.getElem?_cons_zero,Option.some.injEq] at hc;subst hc;exact Wy s x
  |j+1,hc=>simp [Y6] at hc
 |1,hc=>
  simp only[Xha,List.getElem?_cons_succ,List.getElem?_cons_zero,Option.some.injEq] at hc
  subst hc
  rw[← Z0]
  refine Wn _ (fun i x _=>rfl) fun i x hx j c c' hc hc'=> ?_
  rw[hc] at hc';injection hc' with hc';subst hc'
  match j,hc with
  |0,hc=>simp only[wrC,List.getElem?_cons_zero,Option.some.injEq] at hc;subst hc;exact .val _
  |1,hc=>simp only[wrC,List.getElem?_cons_succ,List.getElem?_cons_zero,Option.some.injEq] at hc;subst hc;exact Wy s x.data
  |j+2,hc=>simp [wrC] at hc
 |i+2,hc=>simp [Xha] at hc
theorem Ycj (B:Nat) (X Y:Dsk) (hx:Small X) (hy:Small Y):Xr Try.prog 14 [.agg (Xjr B X),Y3p Y] (Xfx B ((Xis X).map bxO)) (bool (Xkt X Y)) []:=
 Xfg (Xm4 X Y hx hy) fun s hs=>⟨Yde hs,Ydf s Y,trivial⟩
def pl (ka kb:Nat):Option Rc→Option Rc→List (Nat×Rc)
 |some x,some y=>if x.gen.toNat<y.gen.toNat then[(kb,y),(ka,x)] else[(ka,x),(kb,y)]
 |some x,none=>[(ka,x)]
 |none,some y=>[(kb,y)]
 |none,none=>[]
def Bf (p:Nat×Rc):List AV:=[w32 p.2.gen,txB p.1 p.2.text]
def Yd7 (k:Nat) (a:Option Rc):Option (BitVec 32×AV):=a.map fun x=>(x.gen,txB k x.text)
theorem Ydm (ka kb:Nat) (a b:Option Rc):lsA (Yd7 ka a) (Yd7 kb b)=(pl ka kb a b).map Bf:=by
 cases a<;>cases b<;>simp only[Yd7,Option.map_some,Option.map_none,lsA,P3,pl,List.nil_append,List.append_nil]
 ·rfl
 ·rfl
 ·rfl
 ·split<;>rfl
theorem Ycx (ka kb:Nat) (a b:Option Rc):(pl ka kb a b).map Prod.snd=Y6q a b:=by
 cases a<;>cases b<;>simp only[pl]
 ·rfl
 ·rfl
 ·rfl
 ·rw[Y69];split<;>rfl
theorem Ydg (ka kb:Nat) (a b:Option Rc):(pl ka kb a b).length≤2:=by
 cases a<;>cases b<;>simp only[pl]
 ·decide
 ·simp
 ·simp
 ·split<;>simp
theorem Ydn (k:Nat) (a:Option Rc):Lk k a=wA (Yd7 k a):=by cases a<;>rfl
theorem Sm (ka kb:Nat) (d:Dsk) (h1:d.sectors.length≤1000) (h2:d.waits.length≤1000) (a b:Option Rc) (ha:a=if may d then Y3r d 0 else none) (hb:b=if may d then Y3r d 16 else none) (hab:ka+(Zn a).length≤kb):
  Xr Try.prog 24 [Y3p d] (Xev ka (Zn a)++Xev kb (Zn b)) (.tup [.sl 2 ((pl ka kb a b).map Bf) .sh,i64 (if may d then 0 else 8)]) (Y62 ka (Zn a)++Y62 kb (Zn b)):=by
 cases hm:may d with
 |true=>
  rw[hm,if_pos rfl] at ha hb
  have c0:=Ws ka d 0 hm (.inl rfl)
  have c1:=Ws kb d 16 hm (.inr rfl)
  rw[← ha,Ydn] at c0
  rw[← hb,Ydn] at c1
  have c:=S2 ka kb d h1 h2 hm (Zn a) (Zn b) (Yd7 ka a) (Yd7 kb b) c0 c1 hab
  rw[Ydm] at c
  exact c
 |false=>
  rw[hm,if_neg (by decide)] at ha hb
  subst ha;subst hb
  have c:=Y5x d h1 h2
  rw[hm,show Y3s d=[] by unfold Y3s;rw[hm];rfl] at c
  exact c
theorem Ycy (ka kb:Nat) (d:Dsk) (a b:Option Rc) (ha:a=if may d then Y3r d 0 else none) (hb:b=if may d then Y3r d 16 else none):Y3s d=(pl ka kb a b).map Prod.snd:=by
 rw[Ycx]
 unfold Y3s
 rw[ha,hb]
 cases may d<;>rfl
def nsL (L:List (Nat×Rc)):List (Nat×Option Res):=L.flatMap fun p=>if p.2.text=[] then[] else[(p.1,some (.box 5 (p.2.text.map b8)))]
theorem Ycz {s:Nat→Option Res} {L:List (Nat×Rc)} (h:holds s (nsL L)):RV s (.sl 2 (L.map Bf) .sh) (.sl 2 ((L.map Prod.snd).map rcC) .sh):=by
 rw[List.map_map,← Z0,← Z0 (rcC ∘ Prod.snd)]
 refine Wn _ (fun i x _=>rfl) fun i x hx j c c' hc hc'=> ?_
 match j,hc,hc' with
 |0,hc,hc'=>
  simp only[Bf,Function.comp,rcC,List.getElem?_cons_zero,Option.some.injEq] at hc hc'
  subst hc;subst hc';exact .val _
 |1,hc,hc'=>
  simp only[Bf,Function.comp,rcC,List.getElem?_cons_succ,List.getElem?_cons_zero,Option.some.injEq] at hc hc'
  subst hc;subst hc'
  unfold txB
  split
  ·exact Wy s _
  ·rename_i h0
   refine E2 (.inr ?_)
   exact Q5.1 h (x.1,_) (List.mem_flatMap.2 ⟨x,List.mem_of_getElem? hx,by rw[if_neg h0];exact List.mem_singleton.2 rfl⟩)
 |j+2,hc,hc'=>simp [Bf] at hc
theorem Yck (s:Nat→Option Res) (l:List Rc):RV s (.sl 2 (l.map rcC) .sh) (.sl 2 (l.map rcC) .sh):=by
 rw[← Z0]
 refine Wn _ (fun i x _=>rfl) fun i x hx j c c' hc hc'=> ?_
 rw[hc] at hc';injection hc' with hc';subst hc'
 match j,hc with
 |0,hc=>simp only[rcC,List.getElem?_cons_zero,Option.some.injEq] at hc;subst hc;exact .val _
 |1,hc=>simp only[rcC,List.getElem?_cons_succ,List.getElem?_cons_zero,Option.some.injEq] at hc;subst hc;exact Wy s _
 |j+2,hc=>simp [rcC] at hc
theorem F0 (L:List (Nat×Rc)) (hl:L.length≤1000):Xr Try.prog 28 [.sl 2 (L.map Bf) .sh,.sl 2 ((L.map Prod.snd).map rcC) .sh] (nsL L) (bool true) []:=
 Xfg (Yci (L.map Prod.snd) (by rw[List.length_map];exact hl)) fun s hs=>⟨Ycz hs,Yck s _,trivial⟩
def zR (t:List UInt8) (k:Nat):List UInt8:=List.replicate k 0++t.drop k
theorem Yco (t:List UInt8) {k:Nat} (h:k≤t.length):(zR t k).length=t.length:=by
 unfold zR
 simp only[List.length_append,List.length_replicate,List.length_drop];omega
theorem Ydo (t:List UInt8):zR t 0=t:=by simp [zR]
theorem Ydh (t:List UInt8) {k:Nat} (h:k<t.length):(zR t k).set k 0=zR t (k+1):=by
 unfold zR
 rw[List.set_append_right _ _ (by simp),List.length_replicate,Nat.sub_self,List.drop_eq_getElem_cons h,List.set_cons_zero,List.replicate_succ',List.append_assoc]
 rfl
def zG (L:List (Nat×Rc)):List (Nat×Res):=L.flatMap fun p=>if p.2.text=[] then[] else[(p.1,.box 5 ((zR p.2.text p.2.text.length).map b8))]
theorem Yd0 {L:List (Nat×Rc)} {i:Nat} (h:i<L.length) (s:Nat→Option Res):upd s (zG (L.take (i+1)))=if (L[i]).2.text=[] then upd s (zG (L.take i)) else Xw (upd s (zG (L.take i))) (L[i]).1 (.box 5 ((zR (L[i]).2.text (L[i]).2.text.length).map b8)):=by
 rw[List.take_succ_eq_append_getElem h]
 unfold zG
 rw[List.flatMap_append,Xi6]
 simp only[List.flatMap_cons,List.flatMap_nil,List.append_nil]
 split<;>rfl
theorem Ydi {L:List (Nat×Rc)} {s:Nat→Option Res} {k:Nat} (h:∀p,p∈L→p.1≠k):upd s (zG L) k=s k:=Sd _ fun y hy=>by
 obtain⟨p,hp,h2⟩:=List.mem_flatMap.1 hy
 split at h2
 ·cases h2
 ·rw[List.mem_singleton] at h2;rw[h2];exact h p hp
def Yd1 (t:List UInt8):List UInt8:=t.set 9 (t.getD 9 0+1)
theorem Tn (t:List UInt8):(Yd1 t).length=t.length:=by simp [Yd1]
theorem Yd2 (x:UInt8):IntKind.u8.wrap ((x.toNat:Int)+1)=((x+1).toNat:Int):=by
 have:=x.toNat_lt
 rw[show(x.toNat:Int)+1=((x.toNat+1:Nat):Int) by omega,X1n,UInt8.toNat_add]
 rfl
theorem Fd {d:Dsk} {r:Rc}:∀w,w∈(Y4e d r).waits→w.data.length=128:=fun w hw=>by
 unfold Y4e at hw
 by_cases h:Y4o d r=0
 ·have hm:=Y4b h
  unfold Y4e at hm
  rw[if_pos h] at hw hm
  exact(((Xho _).1 hm).2.2.2 w hw).2.2
 ·rw[if_neg h] at hw;cases hw
theorem B1 {d:Dsk} {r:Rc}:Small (Y4e d r):=by
 by_cases h:Y4o d r=0
 ·exact Y3x (Y4b h)
 ·unfold Y4e;rw[if_neg h];exact Xi1
end Go.Proofs.Ytjgbbjooeibppaa
