/- The layer of abstract values, joined. -/
import Derived.Test.YtdngdjbgmojcoaaGreatZP43
import Derived.Test.YtdngdjbgmojcoaaGreatZPR
import Derived.Test.YtdngdjbgmojcoaaGreatZVsDrawF
import Derived.Test.YtdngdjbgmojcoaaGreatZVsView
namespace Go.VS
set_option linter.unusedSimpArgs false
set_option linter.unusedVariables false
set_option maxHeartbeats 1000000
open Go Go.RowKit
def stg {α β:Type} (d:Nat) (f g:Nat→α→β) (l:List α):List β:=l.mapIdx fun i x=>if i<d then f i x else g i x
theorem V8 {α β:Type} (d:Nat) (f g:Nat→α→β) (l:List α):(stg d f g l).length=l.length:=by simp [stg]
theorem Xq0 {α β:Type} (d:Nat) (f g:Nat→α→β) (l:List α) (i:Nat):(stg d f g l)[i]? =l[i]?.map fun x=>if i<d then f i x else g i x:=by simp [stg]
theorem Y3e {α β:Type} {d:Nat} {f g:Nat→α→β} {l:List α} {i:Nat} {x:α} (h:l[i]? =some x) (hi:i<d):(stg d f g l)[i]? =some (f i x):=by rw[Xq0,h,Option.map_some,if_pos hi]
theorem Rf {α β:Type} {d:Nat} {f g:Nat→α→β} {l:List α} {i:Nat} {x:α} (h:l[i]? =some x) (hi:d≤i):(stg d f g l)[i]? =some (g i x):=by rw[Xq0,h,Option.map_some,if_neg (by omega)]
theorem Xuz {α β:Type} {d:Nat} {f g:Nat→α→β} {l:List α} {x:α} (h:l[d]? =some x):(stg d f g l).set d (f d x)=stg (d+1) f g l:=by
 apply List.ext_getElem?
 intro i
 have hl:=(List.getElem?_eq_some_iff.1 h).1
 by_cases e:i=d
 ·subst e
  rw[List.getElem?_set_self (by rw[V8];exact hl),Y3e h (Nat.lt_succ_self _)]
 ·rw[List.getElem?_set_ne (by omega),Xq0,Xq0]
  congr 1
  funext y
  by_cases h2:i<d
  ·rw[if_pos h2,if_pos (by omega)]
  ·rw[if_neg h2,if_neg (by omega)]
theorem Xwn {α β:Type} {d:Nat} {f g:Nat→α→β} {l:List α} {x:α} (h:l[d]? =some x) (e:f d x=g d x):stg d f g l=stg (d+1) f g l:=by
 rw[← Xuz h,e]
 apply List.ext_getElem?
 intro i
 have hl:=(List.getElem?_eq_some_iff.1 h).1
 by_cases e:i=d
 ·subst e;rw[List.getElem?_set_self (by rw[V8];exact hl),Rf h (Nat.le_refl _)]
 ·rw[List.getElem?_set_ne (by omega)]
theorem Xwl {α β:Type} (f g:Nat→α→β) (l:List α):stg 0 f g l=l.mapIdx g:=by simp [stg]
theorem Xqh {α β:Type} (f:Nat→α→β) (g:α→β) (l:List α):stg 0 f (fun _=>g) l=l.map g:=by
 rw[Xwl];apply List.ext_getElem?;intro i;simp
theorem A6 {α β:Type} {d:Nat} {f g:Nat→α→β} {l:List α} (h:l.length≤d):stg d f g l=l.mapIdx f:=by
 apply List.ext_getElem?
 intro i
 rw[Xq0,List.getElem?_mapIdx]
 cases hx:l[i]? with
 |none=>rfl
 |some x=>rw[Option.map_some,Option.map_some,if_pos (by have:=(List.getElem?_eq_some_iff.1 hx).1;omega)]
theorem Xqs {α:Type} {sz d:Nat} {f g:Nat→α→List AV} {l:List α} (hf:∀i x,(f i x).length=sz) (hg:∀i x,(g i x).length=sz):szL sz (stg d f g l):=fun e he=>by
 obtain⟨i,hi⟩:=List.getElem?_of_mem he
 rw[Xq0] at hi
 cases hx:l[i]? with
 |none=>rw[hx] at hi;cases hi
 |some x=>
  rw[hx,Option.map_some] at hi
  injection hi with hi
  rw[← hi]
  split
  ·exact hf i x
  ·exact hg i x
def bxR (e:TypeId) (els:List (List AV)):Option Res:=if els.length=0 then none else some (.box e els.flatten)
theorem Xg0 {e:TypeId} {els:List (List AV)} (h:0<els.length):bxR e els=some (.box e els.flatten):=if_neg (by omega)
theorem Xfl {s:Nat→Option Res} {k sz:Nat} {e:TypeId} {els els':List (List AV)} (hs:∀r,bxR e els=some r→s k=some r) (hz:szL sz els) (hz':szL sz els') (hl:els.length=els'.length)
  (h:∀(i j:Nat) (x x':List AV) (c c':AV),els[i]? =some x→els'[i]? =some x'→x[j]? =some c→x'[j]? =some c'→RV s c c'):RV s (.bsl k 0 els.length false) (.sl sz els' .sh):=by
 by_cases h0:els.length=0
 ·have e1:els'=[]:=List.eq_nil_of_length_eq_zero (by omega)
  rw[h0,e1]
  exact .bsl0 k 0 false sz
 ·refine .bsl k 0 els.length false e els.flatten sz els' (hs _ (Xg0 (by omega))) (by rw[Xre hz];omega) hl.symm hz' fun i j r c c' hi hj hc=> ?_
  have hil:i<els.length:=by rw[hl];exact(List.getElem?_eq_some_iff.1 hi).1
  have e1:=List.getElem?_eq_getElem hil
  have hjl:j<(els[i]).length:=by rw[hz _ (List.getElem_mem hil),← hz' r (List.mem_of_getElem? hi)];exact(List.getElem?_eq_some_iff.1 hj).1
  have e2:=List.getElem?_eq_getElem hjl
  have e3:=Xgp hz e1 e2
  rw[Nat.zero_add,e3] at hc
  injection hc with hc
  exact h i j _ r c c' e1 hi (by rw[e2,hc]) hj
theorem Xfm {s:Nat→Option Res} {k sz:Nat} {e:TypeId} {els:List (List AV)} (hs:∀r,bxR e els=some r→s k=some r) (hz:szL sz els) (hv:∀x,x∈els→∀c,c∈x→∃v,c= .val v):RV s (.bsl k 0 els.length false) (.sl sz els .sh):=
 Xfl hs hz hz rfl fun i j x x' c c' hi hi' hc hc'=>by
  rw[hi] at hi';injection hi' with hi';subst hi'
  rw[hc] at hc';injection hc' with hc';subst hc'
  obtain⟨v,rfl⟩:=hv x (List.mem_of_getElem? hi) c (List.mem_of_getElem? hc)
  exact .val v
def bxD (e:TypeId) (els:List (List AV)):Res:=if els.length=0 then .dead else .box e els.flatten
theorem K1 {e:TypeId} {els:List (List AV)} (h:0<els.length):bxD e els= .box e els.flatten:=if_neg (by omega)
theorem Xet {e:TypeId} {els:List (List AV)} {r:Res} (h:bxR e els=some r):bxD e els=r∧r≠ .dead:=by
 unfold bxR at h
 split at h
 ·cases h
 ·rename_i h0
  injection h with h
  subst h
  exact⟨if_neg h0,by intro h;cases h⟩
theorem Ext.killN {M:Mem} {k:Nat} (hk:M.st k=none):Ext M (M.kill k):=by
 refine⟨rfl,fun _ _ h=>h,fun _ _ _=>rfl,fun j hj=> ?_,fun j t sz m hj=> ?_,fun j t s m cs hj=>by
  have hne:j≠k:=by rintro rfl;rw[hk] at hj;cases hj
  exact .inl ⟨m,cs,by simp [Mem.kill,Xw,hne,hj],Nat.le_refl _,fun _=>⟨rfl,rfl⟩⟩⟩
 ·have hne:j≠k:=by rintro rfl;rw[hk] at hj;exact hj
  simp [Mem.kill,Xw,hne,hj]
 ·have hne:j≠k:=by rintro rfl;rw[hk] at hj;cases hj
  exact⟨m,by simp [Mem.kill,Xw,hne,hj],Nat.le_refl _,fun _=>⟨rfl,rfl⟩⟩
theorem Inv.killN {M:Mem} (hI:Inv M) {k:Nat} (hk:M.st k=none):Inv (M.kill k):=by
 have ex:=Ext.killN hk
 have hown:∀j,(M.kill k).owns j→j≠k∧M.owns j:=fun j hj=>by
  by_cases e':j=k
  ·subst e';simp [Mem.owns,Mem.kill,Xw] at hj
  ·exact⟨e',by simpa [Mem.owns,Mem.kill,Xw,e'] using hj⟩
 refine⟨hI.below,?_,fun j hj=>hI.new j (hown j hj).2,fun i j hi hj=>hI.inj i j (hown i hi).2 (hown j hj).2,hI.stb,fun j t ds hj=> ?_,fun j t sz m c hj hcap=> ?_,fun j c o' fr' hj=>(hI.pin j c o' fr' (Y1 hj (by simp))).ext ex (hI.pin j c o' fr' (Y1 hj (by simp))).1,fun i j c o' fr' o'' fr'' hi hj=>hI.pinj i j c _ _ _ _ (Y1 hi (by simp)) (Y1 hj (by simp)),fun j t sz m cs hj=>hI.vec_keep ex (Yx hj (by simp)).1 rfl rfl (fun _=>rfl) (fun _ _ h=>h)⟩
 ·obtain⟨N,hN⟩:=hI.fin
  exact⟨max N (k+1),fun j hj=>by
   have:j≠k:=by omega
   simp [Mem.kill,Xw,this,hN j (by omega)]⟩
 ·have e':j≠k:=by rintro rfl;simp [Mem.kill,Xt] at hj
  have hj':M.st j=some (.box t ds):=by simpa [Mem.kill,Xw,e'] using hj
  obtain⟨ws,g1,g2,g3,g4,g5⟩:=hI.box j t ds hj'
  exact⟨ws,g1,g2,g3,fun i c v hi hv=>(g4 i c v hi hv).ext ex,g5⟩
 ·have e':j≠k:=by rintro rfl;simp [Mem.kill,Xt] at hj
  have hj':M.st j=some (.row t sz m):=by simpa [Mem.kill,Xw,e'] using hj
  exact hI.row j t sz m c hj' hcap
theorem Xq4 {P:Program} {f:FuncId} {args:List AV} {sz k off:Nat} (h:Xr P f args [] (.sl sz [] .full) []):Xr P f args [(k,none)] (.bsl k off 0 false) [(k,.dead)]:=fun M N vs hI hR hn hN hu=>
 (h M N vs hI hR trivial hN trivial).mono fun e w' ⟨v,he,M',h1,h2,h3,h4,h5⟩=>by
  have hk:M'.st k=none:=(h4 k hu.1).trans hn.1
  obtain⟨a,rfl⟩:=Xff (.inr rfl) h5
  refine⟨_,he,M'.kill k,h1,h2.trans (Ext.killN hk),h3.killN hk,fun j hj=> ?_,.bsl0 _ _ a⟩
  show Xw M'.st k .dead j=Xw M.st k .dead j
  unfold Xw
  split
  ·rfl
  ·exact h4 j hj
theorem Xv0 {s:Nat→Option Res} {K:Nat} {l:List (Option Res)}:holds (ofL s K l) (Xfx K l):=Q5.2 fun x hx=>by
 obtain⟨j,q,h1,h2⟩:=Xu8.1 hx
 rw[h2]
 exact Xrq h1
def Xgg (l:List (Option Res)):List (Option Res):=l.map fun o=>match o with|some .dead=>none|o=>o
theorem Xen {l:List (Option Res)} {j:Nat} {r:Res} (h:l[j]? =some (some r)) (hr:r≠ .dead):(Xgg l)[j]? =some (some r):=by
 unfold Xgg
 rw[List.getElem?_map,h]
 cases r<;>first|rfl|exact(hr rfl).elim
theorem Xg8 {l:List (Option Res)} {j:Nat} {r:Res} (h:(Xgg l)[j]? =some (some r)):l[j]? =some (some r)∧r≠ .dead:=by
 unfold Xgg at h
 rw[List.getElem?_map] at h
 cases hl:l[j]? with
 |none=>rw[hl] at h;cases h
 |some o=>
  rw[hl,Option.map_some] at h
  cases o with
  |none=>simp at h
  |some q=>
   cases q<;>simp at h<;>subst h<;>exact⟨rfl,by intro h;cases h⟩
section
variable {s out:Nat→Option Res} {K k i:Nat} {L L':List (Option Res)} {r q:Res}
theorem Xmb {outs:List (Nat×Nat)} {wr:List Nat} {R:AState→Prop} {σ:AState} {d:Option Tmp} {x:AV} {z:Nat} (h3:z∈wr) (h4:100≤z) (h5:outs[z - 100]? =some (K,1))
  (h:R (AState.next σ d x [(K,q)])):Xj2 outs wr R σ d x [(K,q)]:=by
 refine⟨fun p hp=> ?_,h⟩
 rw[List.mem_singleton] at hp
 subst hp
 exact⟨z,h3,.inr ⟨h4,_,h5,Xii.2 (by dsimp only;omega)⟩⟩
end
theorem R.rvF {M M2:Mem} {s:Nat→Option Res} (hI:Inv M) (hw:M2.w=M.w) (hst:∀b o,M.stb b o→M2.stb b o)
  (hs:∀k e cs,s k=some (.box e cs)→M.st k=some (.box e cs)∧∀o,o<cs.length→M2.stb (M.β k) o) {x y:AV} (h:RV s x y):∀{v:Value},R M x v→R M2 y v:=by
 induction h with
 |val u=>intro v hR;cases hR with|val _ hl=>exact .val _ hl
 |top x=>intro v hR;exact .top v
 |agg cs cs' hl h ih=>
  intro v hR
  cases hR with
  |agg _ vs hl2 hf hc=>
   refine .agg cs' vs (hl.symm.trans hl2) hf fun i c v hi hv=> ?_
   have hil:i<cs.length:=by rw[hl];exact(List.getElem?_eq_some_iff.1 hi).1
   have e:=List.getElem?_eq_getElem hil
   exact ih i _ c e hi (hc i _ v e hv)
 |sl sz els els' md hl hr h ih=>
  intro v hR
  cases hR with
  |nil _ _ a h1 h2=>
   have:els'=[]:=List.eq_nil_of_length_eq_zero (by simpa using hl.symm)
   subst this
   exact .nil _ _ a (by intro h;cases h) (by intro h;cases h)
  |slice _ _ _ a cap hs hcap hsz hst' hc hmd=>
   rw[hl]
   refine .slice sz els' .sh a cap hs (by rw[← hl];exact hcap) (fun r hr'=> ?_) (fun o ho=> ?_) (fun i j row c v hi hj hv=> ?_) trivial
   ·obtain⟨i,hi⟩:=List.getElem?_of_mem hr'
    have hil:i<els.length:=by rw[hl];exact(List.getElem?_eq_some_iff.1 hi).1
    have e:=List.getElem?_eq_getElem hil
    rw[← hr i _ _ e hi]
    exact hsz _ (List.getElem_mem hil)
   ·exact hst _ _ (hst' o (by rw[hl];exact ho))
   ·have hil:i<els.length:=by rw[hl];exact(List.getElem?_eq_some_iff.1 hi).1
    have e:=List.getElem?_eq_getElem hil
    have hjl:j<(els[i]).length:=by rw[hr i _ _ e hi];exact(List.getElem?_eq_some_iff.1 hj).1
    have e2:=List.getElem?_eq_getElem hjl
    exact ih i j _ _ _ c e hi e2 hj (hc i j _ _ v e e2 (by rw[← hw];exact hv))
 |nil sz sz' md=>
  intro v hR
  cases hR with
  |nil _ _ a h1 h2=>exact .nil _ _ a (by intro h;cases h) (by intro h;cases h)
  |slice _ _ _ a cap hs hcap hsz hst hc hmd=>exact .slice sz' [] .sh a cap hs (Nat.zero_le _) (fun r h=>by simp at h) (fun o ho=>by simp at ho) (fun i j row c v h=>by simp at h) trivial
 |bsl k off len fl e cs sz els' hk hf hl hr h ih=>
  intro v hR
  cases hR with
  |bsl _ _ _ cap _ h1 h2 h3=>
   obtain⟨hk',hfast⟩:=hs k e cs hk
   obtain⟨vs,g1,g2,g3,g4,g5⟩:=hI.box k e cs hk'
   have hcell:∀o,M2.w.cell? ⟨M.β k,o,none⟩=vs[o]? :=fun o=>by
    rw[hw]
    simp [World.cell?,g1]
   subst hl
   refine .slice sz els' .sh _ cap rfl h2 hr (fun o ho=>hfast _ (by show off+o<cs.length;omega)) (fun i j row c v hi hj hv=> ?_) trivial
   have hil:i<els'.length:=(List.getElem?_eq_some_iff.1 hi).1
   have hjl:j<sz:=by rw[← hr _ (List.mem_of_getElem? hi)];exact(List.getElem?_eq_some_iff.1 hj).1
   have hm:(i+1)*sz≤els'.length*sz:=Nat.mul_le_mul_right _ hil
   rw[Nat.succ_mul] at hm
   have hlt:off+(i*sz+j)<cs.length:=by omega
   have e1:=List.getElem?_eq_getElem hlt
   refine ih i j row _ c hi hj e1 (g4 _ _ v e1 ?_)
   rw[← hcell];exact hv
  |bsl0 _ _ a=>
   have:els'=[]:=List.eq_nil_of_length_eq_zero hl
   subst this
   exact .nil _ _ a (by intro h;cases h) (by intro h;cases h)
 |bsl0 k off fl sz=>
  intro v hR
  cases hR with
  |bsl _ _ _ cap _ h1 h2 h3=>exact .slice sz [] .sh _ cap rfl (Nat.zero_le _) (fun r h=>by simp at h) (fun o ho=>by simp at ho) (fun i j row c v h=>by simp at h) trivial
  |bsl0 _ _ a=>exact .nil _ _ a (by intro h;cases h) (by intro h;cases h)
theorem Xq1:∀(l:List (Option Res)) (K:Nat) (M:Mem),Inv M→(∀j r,l[j]? =some (some r)→M.st (K+j)=some r)→
  ∃M2,M2.w=M.w∧Ext M M2∧Inv M2∧(∀k,k<K→M2.st k=M.st k)∧(∀b o,M.stb b o→M2.stb b o)∧∀j e cs,l[j]? =some (some (.box e cs))→∀o,o<cs.length→M2.stb (M.β (K+j)) o
 |[],K,M,hI,_=>⟨M,rfl,Ext.refl M,hI,fun _ _=>rfl,fun _ _ h=>h,fun j e cs h=>by simp at h⟩
 |x::l,K,M,hI,h=>by
  have hx:∀r,x=some r→M.st K=some r:=fun r hr=>h 0 r (by rw[hr];rfl)
  by_cases hb:∃e cs,x=some (.box e cs)
  ·obtain⟨e,cs,rfl⟩:=hb
   have hk:=hx _ rfl
   obtain⟨M2,h1,h2,h3,h4,h5,h6⟩:=Xq1 l (K+1) (M.freeze K cs.length) (hI.freeze hk) fun j r hj=>by
    have:=h (j+1) r (by simpa using hj)
    show Xw M.st K .dead (K+1+j)=some r
    rw[Zp _ _ (by omega),← this];congr 1;omega
   refine⟨M2,h1,(Ext.freeze M hk).trans h2,h3,fun k hk=> ?_,fun b o hs=>h5 b o (.inl hs),fun j e' cs' hj o ho=> ?_⟩
   ·rw[h4 k (by omega)]
    show Xw M.st K .dead k= _
    rw[Zp _ _ (by omega)]
   ·cases j with
    |zero=>
     simp at hj
     obtain⟨_,rfl⟩:=hj
     exact h5 _ o (.inr ⟨rfl,ho⟩)
    |succ j=>
     have:=h6 j e' cs' (by simpa using hj) o ho
     rw[show K+(j+1)=K+1+j from by omega]
     exact this
  ·obtain⟨M2,h1,h2,h3,h4,h5,h6⟩:=Xq1 l (K+1) M hI fun j r hj=>by
    have:=h (j+1) r (by simpa using hj)
    rw[← this];congr 1;omega
   refine⟨M2,h1,h2,h3,fun k hk=>h4 k (by omega),h5,fun j e' cs' hj o ho=> ?_⟩
   cases j with
   |zero=>
    simp at hj
    exact(hb ⟨e',cs',hj⟩).elim
   |succ j=>
    have:=h6 j e' cs' (by simpa using hj) o ho
    rw[show K+(j+1)=K+1+j from by omega]
    exact this
theorem Xwo {K:Nat} {l:List (Option Res)} {k:Nat} {r:Res} (h:ofL (fun _=>none) K l k=some r):∃j,k=K+j∧l[j]? =some (some r):=by
 by_cases h1:k<K∨K+l.length≤k
 ·rw[Xge h1] at h;cases h
 ·have hlt:k - K<l.length:=by omega
  have e:=List.getElem?_eq_getElem hlt
  refine⟨k - K,by omega,?_⟩
  have ek:k=K+(k - K):=by omega
  rw[ek] at h
  cases hx:l[k - K] with
  |none=>rw[hx] at e;rw[Xf6 e] at h;cases h
  |some q=>rw[hx] at e;rw[Xrq e] at h;rw[e,← h]
theorem Xub {P:Program} {f:FuncId} {args:List AV} {r:Nat→List AV} {r':List AV} {l:List (Option Res)} (h:∀K,Xr P f args (Xev K l) (.tup (r K)) (B3 K l)) (hv:∀K s,holds s (Xfx K (Xgg l))→rvL s (r K) r'):Xr P f args [] (.tup r') []:=fun M N vs hI hR hn hN hu=>by
 obtain⟨K,hK⟩:=hI.fin
 refine(h (max N K) M (max N K+l.length) vs hI hR (Q5.2 fun x hx=> ?_) (fun k hk=>hN k (by omega)) (Ht.2 fun x hx=> ?_)).mono fun e w' ⟨v,he,M',h1,h2,h3,h4,h5⟩=> ?_
 ·obtain⟨h0,j,r,_,hx1⟩:=Xwk.1 hx
  rw[h0,hx1]
  exact hK _ (by omega)
 ·obtain⟨j,h0,hx1⟩:=Xwj.1 hx
  have:=(List.getElem?_eq_some_iff.1 h0).1
  omega
 ·have hst:∀j r,l[j]? =some (some r)→M'.st (max N K+j)=some r:=fun j r hj=>by
   rw[h4 _ (by have:=(List.getElem?_eq_some_iff.1 hj).1;omega),K3]
   exact Xrq hj
  obtain⟨M2,g1,g2,g3,g4,g5,g6⟩:=Xq1 l (max N K) M' h3 hst
  refine⟨v,he,M2,g1.trans h1,h2.trans g2,g3,fun k hk=> ?_,?_⟩
  ·rw[g4 k (by omega),h4 k (by omega),K3,Xge (by omega)];rfl
  ·cases h5 with
   |tup _ vs hl hc=>
    obtain⟨e1,e2⟩:=Xfw (hv _ _ (Xv0 (s:=fun _=>none) (K:=max N K) (l:=Xgg l)))
    refine .tup _ _ (e1.symm.trans hl) fun i c u hi hu=> ?_
    have hil:i<(r (max N K)).length:=by rw[e1];exact(List.getElem?_eq_some_iff.1 hi).1
    have e:=List.getElem?_eq_getElem hil
    refine R.rvF h3 g1 g5 (s:=ofL (fun _=>none) (max N K) (Xgg l)) (fun k e cs hk=> ?_) (e2 i _ c e hi) (hc i _ u e hu)
    obtain⟨j,rfl,hj⟩:=Xwo hk
    obtain⟨hj',_⟩:=Xg8 hj
    exact⟨hst j _ hj',g6 j e cs hj'⟩
end Go.VS
