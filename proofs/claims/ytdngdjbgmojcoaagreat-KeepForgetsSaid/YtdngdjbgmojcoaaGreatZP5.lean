/- The layer of abstract values, joined. -/
import Derived.Test.YtdngdjbgmojcoaaGreatZPR
import Derived.Test.YtdngdjbgmojcoaaGreatZTab
namespace Go.Proofs.YtdngdjbgmojcoaaGreat.Pln
set_option linter.unusedSimpArgs false
set_option linter.unusedVariables false
set_option maxHeartbeats 1000000
set_option maxRecDepth 4000
open Go Go.VS Tab
theorem Wh (n:Int):Xr Tryz.prog 134 [i64 n] [] (bool (Uk n)) []:=by
 refine Xc 0 Tryz.func134 rfl fun n out _ _=> ?_
 simp only[sn,Tryz.ntmps134,Nat.reduceAdd,Nat.reduceSub]
 repeat' (first|(with_reducible first|refine Vk fun K hK=> ?_|refine V0 ?_)|((with_reducible refine gE ?_);simp only[zA,simprocAttr])|((with_reducible refine Vz ?_);refine Vo rfl rfl rfl (fun _ _=>rfl) ?_<;>first|rfl|(first|rfl|(simp only[g_0,g_s];refine congrArg VS.bool ?_;rw[Bool.eq_iff_iff];first|(simp [Uk] at* <;>omega)|(simp_all [Uk]<;>omega)))|skip)|((with_reducible refine Vg (fun hg=> ?_) (fun hg=> ?_))<;>(try simp only[nb] at hg)<;>simp only[zA,simprocAttr,hg])|(refine hK _ ?_;clear hK K))
theorem Di (s:Sec):Xr Tryz.prog 135 [Qh s] [] (bool (Qc s)) []:=by
 refine Xc 1 Tryz.func135 rfl fun n out _ _=> ?_
 simp only[sn,Tryz.ntmps135,Nat.reduceAdd,Nat.reduceSub]
 repeat' (first|(with_reducible first|refine Vk fun K hK=> ?_|refine V0 ?_)|((with_reducible first|refine gE ?_|refine gR ?_);simp only[zA,simprocAttr,Qh,Y6])|((with_reducible refine Vz ?_);refine Vo rfl rfl rfl (fun _ _=>rfl) ?_<;>first|rfl|(first|rfl|(simp only[g_0,g_s];refine congrArg VS.bool ?_;rw[Bool.eq_iff_iff];first|(simp [Qc,Uk] at* <;>omega)|(simp_all [Qc,Uk]<;>omega)))|skip)|(refine X3 (Wh _) ?_)|((with_reducible refine Vg (fun hg=> ?_) (fun hg=> ?_))<;>(try simp only[nb] at hg)<;>simp only[zA,simprocAttr,hg])|(refine hK _ ?_;clear hK K))
def Xuv (s:Sec) (a b:Int):Int:=if s.pt=0 then(if (a=0∧b=1)∨(a=1∧b=0) then 0 else -1) else if a=0∧(b=1∨b=2) then b else if b=0∧(a=1∨a=2) then a else -1
theorem X31 (a:Int):Xr Tryz.prog 199 [i64 a] [] (bool false) []:=by
 refine Xc 0 Tryz.func199 rfl fun n out _ _=> ?_
 simp only[sn,Tryz.ntmps199,Nat.reduceAdd,Nat.reduceSub]
 repeat' (first|(with_reducible first|refine Vk fun K hK=> ?_|refine V0 ?_)|((with_reducible refine gE ?_);simp only[zA,simprocAttr])|((with_reducible refine Vz ?_);refine Vo rfl rfl rfl (fun _ _=>rfl) ?_<;>first|rfl|(first|rfl|(simp only[g_0,g_s];refine congrArg VS.bool ?_;rw[Bool.eq_iff_iff];first|(simp [] at* <;>omega)|(simp_all []<;>omega)))|skip)|(refine hK _ ?_;clear hK K))
def Y35 (a b:Int):Int:=if a<b then -1 else if b<a then 1 else 0
theorem X80 (a b:Int):Xr Tryz.prog 180 [i64 a,i64 b] [] (i64 (Y35 a b)) []:=by
 refine Xc 0 Tryz.func180 rfl fun n out _ _=> ?_
 simp only[sn,Tryz.ntmps180,Nat.reduceAdd,Nat.reduceSub]
 repeat' (first|(with_reducible first|refine Vk fun K hK=> ?_|refine V0 ?_|refine Vs ?_)|((with_reducible first|refine gE ?_|refine gR ?_);simp only[zA,simprocAttr])|((with_reducible refine Vz ?_);refine Vo rfl rfl rfl (fun _ _=>rfl) ?_<;>first|rfl|(first|rfl|(simp only[g_0,g_s];refine congrArg i64 ?_;first|(simp [Y35] at* <;>omega)|(simp_all [Y35]<;>omega)))|skip)|(refine X3 (X31 _) ?_)|(refine hK _ ?_;clear hK K)|refine Vf rfl ?_|refine Vi rfl (fun hg=> ?_) (fun hg=> ?_))
theorem Y36 (s:Sec) (b:Int):Xr Tryz.prog 179 [Qh s,i64 b] [] (i64 (Y35 s.id b)) []:=by
 refine Xc 1 Tryz.func179 rfl fun n out _ _=> ?_
 simp only[sn,Tryz.ntmps179,Nat.reduceAdd,Nat.reduceSub]
 repeat' (first|(with_reducible first|refine Vk fun K hK=> ?_|refine V0 ?_)|((with_reducible first|refine gE ?_|refine gR ?_);simp only[zA,simprocAttr,Qh,Y6])|((with_reducible refine Vz ?_);refine Vo rfl rfl rfl (fun _ _=>rfl) ?_<;>first|rfl|(first|rfl|(simp only[g_0,g_s];refine congrArg i64 ?_;first|(simp [] at* <;>omega)|(simp_all []<;>omega)))|skip)|(refine X3 (X80 _ _) ?_)|(refine hK _ ?_;clear hK K))
theorem Xu9 (l:List (Sec)) (fid:FuncId) (caps:List AV) (p:Sec→Bool) (hb:Xd Tryz.prog fid=True) (hl:l.length≤1000000000)
  (hp:∀x,x∈l→Xr Tryz.prog fid (Qh x::caps) [] (bool (p x)) []):
  Xr Tryz.prog 200 [.sl 3 (l.map Y6) .sh,.fn (.func fid) caps] [] (i64 (idx p l)) []:=by
 refine Xc 0 Tryz.func200 rfl fun n out _ _=> ?_
 simp only[sn,Tryz.ntmps200,Nat.reduceAdd,Nat.reduceSub]
 refine Vy fun K hK=> ?_
 simp only[zA,simprocAttr]
 repeat' (first|(with_reducible refine hK _ ?_;clear hK K)|with_reducible apply And.intro)
 refine Vk fun KB hKB=> ?_
 refine Vy fun K hK=> ?_
 simp only[zA,simprocAttr]
 repeat' (first|(with_reducible refine hK _ ?_;clear hK K)|with_reducible apply And.intro)
 refine V5 ?_
 refine Xse (l.length) (fun i=>(∀j (hj:j<l.length),j<i→p l[j]=false)) (fun i=>tp [4,5] (tr 9 10 [(8,i64 (i:Int))])) (fun i=>[]) (by intros;omega) ?_ fun i hi=> ?_
 ·refine La rfl ?_ ?_<;>simp only[sL]
 obtain⟨hi,hq⟩:=hi
 simp only[pt]
 refine Vy fun K hK=> ?_
 simp only[zA,simprocAttr]
 repeat' (first|(with_reducible refine hK _ ?_;clear hK K)|with_reducible apply And.intro)
 refine Vk fun KC hKC=> ?_
 refine Uz rfl (fun ht=>Xhj (hKC _ ?_)) (fun hf=>Qi (id ?_))
 rotate_left
 ·simp only[Qd,Z4,if_true]
  refine hKB _ ?_
  clear hKB KB hKC KC
  have h_ib:i=l.length:=by have:=of_decide_eq_false hf;omega
  subst h_ib
  have e:=Kn (p:=p) (l:=l) fun i hi=>hq i hi hi
  rw[e]
  refine Vy fun K hK=> ?_
  simp only[zA,simprocAttr]
  repeat' (first|(with_reducible refine hK _ ?_;clear hK K)|with_reducible apply And.intro)
  refine Vz ?_
  exact Qv (.inr rfl) rfl rfl rfl (fun _ _=>rfl) rfl
 clear hKC KC
 have hlt:i<l.length:=by have:=of_decide_eq_true ht;omega
 refine Vk fun KC hKC=>Xe ?_
 refine Vy fun K hK=> ?_
 simp only[zA,simprocAttr]
 repeat' (first|(with_reducible refine hK _ ?_;clear hK K)|with_reducible apply And.intro)
 refine Vy fun K hK=> ?_
 simp only[zA,simprocAttr,hlt,Xg Y6 l i [] hlt,Y6,hb]
 repeat' (first|(with_reducible refine hK _ ?_;clear hK K)|with_reducible apply And.intro)
 refine X3 (hp _ (List.getElem_mem hlt)) ?_
 simp only[zA,simprocAttr]
 repeat' (first|(with_reducible refine hK _ ?_;clear hK K)|with_reducible apply And.intro)
 refine Uz rfl (fun ht=> ?_) (fun hf=>Xhj ?_)
 ·have e:=Ko hlt ht fun j hj=>hq j (by omega) hj
  refine Vy fun K hK=> ?_
  simp only[zA,simprocAttr]
  repeat' (first|(with_reducible refine hK _ ?_;clear hK K)|with_reducible apply And.intro)
  rw[← e]
  refine Vz ?_
  exact Qv (.inr rfl) rfl rfl rfl (fun _ _=>rfl) rfl
 repeat refine And.intro (by omega) ?_
 refine hKC _ ?_
 clear hKC KC
 refine Xn Xj [] ?_
 simp only[zA,simprocAttr,Yl (n:=i) 1 1 rfl (by omega)]
 refine⟨i+1,⟨by omega,?_⟩,by omega,?_⟩
 ·intro j hj hji
  by_cases h:j=i
  ·subst h;exact hf
  ·exact hq j hj (by omega)
 refine La rfl ?_ ?_<;>simp only[sL]
theorem Sl (l:List (Int×Int)) (fid:FuncId) (caps:List AV) (p:Int×Int→Bool) (hb:Xd Tryz.prog fid=True) (hl:l.length≤1000000000)
  (hp:∀x,x∈l→Xr Tryz.prog fid (jnA x::caps) [] (bool (p x)) []):
  Xr Tryz.prog 182 [.sl 2 (l.map jnC) .sh,.fn (.func fid) caps] [] (i64 (idx p l)) []:=by
 refine Xc 0 Tryz.func182 rfl fun n out _ _=> ?_
 simp only[sn,Tryz.ntmps182,Nat.reduceAdd,Nat.reduceSub]
 refine Vy fun K hK=> ?_
 simp only[zA,simprocAttr]
 (refine hK _ ?_;clear hK K)
 refine Vk fun KB hKB=> ?_
 refine Vy fun K hK=> ?_
 simp only[zA,simprocAttr]
 (refine hK _ ?_;clear hK K)
 refine V5 ?_
 refine Xse (l.length) (fun i=>(∀j (hj:j<l.length),j<i→p l[j]=false)) (fun i=>tp [4,5] (tr 9 10 [(8,i64 (i:Int))])) (fun i=>[]) (by intros;omega) ?_ fun i hi=> ?_
 ·refine La rfl ?_ ?_<;>simp only[sL]
 obtain⟨hi,hq⟩:=hi
 simp only[pt]
 refine Vy fun K hK=> ?_
 simp only[zA,simprocAttr]
 (refine hK _ ?_;clear hK K)
 refine Vk fun KC hKC=> ?_
 refine Uz rfl (fun ht=>Xhj (hKC _ ?_)) (fun hf=>Qi (id ?_))
 rotate_left
 ·simp only[Qd,Z4,if_true]
  refine hKB _ ?_
  clear hKB KB hKC KC
  have h_ib:i=l.length:=by have:=of_decide_eq_false hf;omega
  subst h_ib
  have e:=Kn (p:=p) (l:=l) fun i hi=>hq i hi hi
  rw[e]
  refine Vy fun K hK=> ?_
  simp only[zA,simprocAttr]
  (refine hK _ ?_;clear hK K)
  refine Vz ?_
  exact Qv (.inr rfl) rfl rfl rfl (fun _ _=>rfl) rfl
 clear hKC KC
 have hlt:i<l.length:=by have:=of_decide_eq_true ht;omega
 refine Vk fun KC hKC=>Xe ?_
 refine Vy fun K hK=> ?_
 simp only[zA,simprocAttr]
 (refine hK _ ?_;clear hK K)
 refine Vy fun K hK=> ?_
 simp only[zA,simprocAttr,hlt,Xg jnC l i [] hlt,jnC,hb]
 skip
 refine X3 (hp _ (List.getElem_mem hlt)) ?_
 simp only[zA,simprocAttr]
 (refine hK _ ?_;clear hK K)
 refine Uz rfl (fun ht=> ?_) (fun hf=>Xhj ?_)
 ·have e:=Ko hlt ht fun j hj=>hq j (by omega) hj
  refine Vy fun K hK=> ?_
  simp only[zA,simprocAttr]
  (refine hK _ ?_;clear hK K)
  rw[← e]
  refine Vz ?_
  exact Qv (.inr rfl) rfl rfl rfl (fun _ _=>rfl) rfl
 repeat refine And.intro (by omega) ?_
 refine hKC _ ?_
 clear hKC KC
 refine Xn Xj [] ?_
 simp only[zA,simprocAttr,Yl (n:=i) 1 1 rfl (by omega)]
 refine⟨i+1,⟨by omega,?_⟩,by omega,?_⟩
 ·intro j hj hji
  by_cases h:j=i
  ·subst h;exact hf
  ·exact hq j hj (by omega)
 refine La rfl ?_ ?_<;>simp only[sL]
theorem H3 (l:List (Int×Int×Int)) (fid:FuncId) (caps:List AV) (p:Int×Int×Int→Bool) (hb:Xd Tryz.prog fid=True) (hl:l.length≤1000000000)
  (hp:∀x,x∈l→Xr Tryz.prog fid (sgA x::caps) [] (bool (p x)) []):
  Xr Tryz.prog 184 [.sl 3 (l.map sgC) .sh,.fn (.func fid) caps] [] (i64 (idx p l)) []:=by
 refine Xc 0 Tryz.func184 rfl fun n out _ _=> ?_
 simp only[sn,Tryz.ntmps184,Nat.reduceAdd,Nat.reduceSub]
 refine Vy fun K hK=> ?_
 simp only[zA,simprocAttr]
 (refine hK _ ?_;clear hK K)
 refine Vk fun KB hKB=> ?_
 refine Vy fun K hK=> ?_
 simp only[zA,simprocAttr]
 (refine hK _ ?_;clear hK K)
 refine V5 ?_
 refine Xse (l.length) (fun i=>(∀j (hj:j<l.length),j<i→p l[j]=false)) (fun i=>tp [4,5] (tr 9 10 [(8,i64 (i:Int))])) (fun i=>[]) (by intros;omega) ?_ fun i hi=> ?_
 ·refine La rfl ?_ ?_<;>simp only[sL]
 obtain⟨hi,hq⟩:=hi
 simp only[pt]
 refine Vy fun K hK=> ?_
 simp only[zA,simprocAttr]
 (refine hK _ ?_;clear hK K)
 refine Vk fun KC hKC=> ?_
 refine Uz rfl (fun ht=>Xhj (hKC _ ?_)) (fun hf=>Qi (id ?_))
 rotate_left
 ·simp only[Qd,Z4,if_true]
  refine hKB _ ?_
  clear hKB KB hKC KC
  have h_ib:i=l.length:=by have:=of_decide_eq_false hf;omega
  subst h_ib
  have e:=Kn (p:=p) (l:=l) fun i hi=>hq i hi hi
  rw[e]
  refine Vy fun K hK=> ?_
  simp only[zA,simprocAttr]
  (refine hK _ ?_;clear hK K)
  refine Vz ?_
  exact Qv (.inr rfl) rfl rfl rfl (fun _ _=>rfl) rfl
 clear hKC KC
 have hlt:i<l.length:=by have:=of_decide_eq_true ht;omega
 refine Vk fun KC hKC=>Xe ?_
 refine Vy fun K hK=> ?_
 simp only[zA,simprocAttr]
 (refine hK _ ?_;clear hK K)
 refine Vy fun K hK=> ?_
 simp only[zA,simprocAttr,hlt,Xg sgC l i [] hlt,sgC,hb]
 skip
 refine X3 (hp _ (List.getElem_mem hlt)) ?_
 simp only[zA,simprocAttr]
 (refine hK _ ?_;clear hK K)
 refine Uz rfl (fun ht=> ?_) (fun hf=>Xhj ?_)
 ·have e:=Ko hlt ht fun j hj=>hq j (by omega) hj
  refine Vy fun K hK=> ?_
  simp only[zA,simprocAttr]
  (refine hK _ ?_;clear hK K)
  rw[← e]
  refine Vz ?_
  exact Qv (.inr rfl) rfl rfl rfl (fun _ _=>rfl) rfl
 repeat refine And.intro (by omega) ?_
 refine hKC _ ?_
 clear hKC KC
 refine Xn Xj [] ?_
 simp only[zA,simprocAttr,Yl (n:=i) 1 1 rfl (by omega)]
 refine⟨i+1,⟨by omega,?_⟩,by omega,?_⟩
 ·intro j hj hji
  by_cases h:j=i
  ·subst h;exact hf
  ·exact hq j hj (by omega)
 refine La rfl ?_ ?_<;>simp only[sL]
theorem Aw (l:List (Int×Int)) (fid:FuncId) (caps:List AV) (p:Int×Int→Bool) (hb:Xd Tryz.prog fid=True) (hl:l.length≤1000000000)
  (hp:∀x,x∈l→Xr Tryz.prog fid (jnA x::caps) [] (bool (p x)) []):
  Xr Tryz.prog 138 [.sl 2 (l.map jnC) .sh,.fn (.func fid) caps] [] (bool (l.any p)) []:=by
 refine Xc 0 Tryz.func138 rfl fun n out _ _=> ?_
 simp only[sn,Tryz.ntmps138,Nat.reduceAdd,Nat.reduceSub]
 repeat' (first|(with_reducible first|refine Vk fun K hK=> ?_|refine V0 ?_)|((with_reducible first|refine gE ?_|refine gR ?_);simp only[zA,simprocAttr])|((with_reducible refine Vz ?_);refine Vo rfl rfl rfl (fun _ _=>rfl) ?_<;>first|rfl|(rw[← X3h];rfl)|skip)|(refine X3 (Sl l fid caps p hb hl hp) ?_)|(refine hK _ ?_;clear hK K))
theorem Xez (els:List (List AV)) (hl:els.length≤1000000):Xr Tryz.prog 165 [.sl 1 els .sh] [] (.sl 1 els .sh) []:=by
 refine Xbz (fun h=> ?_) ?_
 ·subst h
  refine Xc 0 Tryz.func165 rfl fun n out _ _=> ?_
  simp only[sn,Tryz.ntmps165,Nat.reduceAdd,Nat.reduceSub]
  refine Vy fun K hK=> ?_
  simp only[zA,simprocAttr]
  repeat' (first|(with_reducible refine hK _ ?_;clear hK K)|with_reducible apply And.intro)
  refine Vk fun KB hKB=> ?_
  refine Vy fun K hK=> ?_
  simp only[zA,simprocAttr]
  repeat' (first|(with_reducible refine hK _ ?_;clear hK K)|with_reducible apply And.intro)
  refine Wm rfl ?_
  refine Vy fun K hK=> ?_
  simp only[zA,simprocAttr]
  repeat' (first|(with_reducible refine hK _ ?_;clear hK K)|with_reducible apply And.intro)
  refine Vz ?_
  exact Xv (.inr rfl) rfl rfl rfl (fun _ _=>rfl) ((Py _ _).2 trivial) rfl
 ·refine Xc 0 Tryz.func165 rfl fun n out _ _=> ?_
  simp only[sn,Tryz.ntmps165,Nat.reduceAdd,Nat.reduceSub]
  refine Vy fun K hK=> ?_
  simp only[zA,simprocAttr]
  repeat' (first|(with_reducible refine hK _ ?_;clear hK K)|with_reducible apply And.intro)
  refine Vk fun KB hKB=> ?_
  refine Vy fun K hK=> ?_
  simp only[zA,simprocAttr]
  repeat' (first|(with_reducible refine hK _ ?_;clear hK K)|with_reducible apply And.intro)
  refine Uy rfl (Xhj (hKB _ ?_))
  refine Vy fun K hK=> ?_
  simp only[zA,simprocAttr,show els.length*8≤140737488355328 by omega,show els.length≤9223372036854775807 by omega]
  repeat' (first|(with_reducible refine hK _ ?_;clear hK K)|with_reducible apply And.intro)
  refine Vz ?_
  refine Xv (.inr rfl) rfl rfl rfl (fun _ _=>rfl) ?_ rfl
  simp only[sL]
theorem X32 (a b:Int×Int):(a==b)=((a.1==b.1)&&(a.2==b.2)):=rfl
theorem Xgy (a b:Int×Int×Int):(a==b)=((a.1==b.1)&&((a.2.1==b.2.1)&&(a.2.2==b.2.2))):=rfl
theorem Mu {α:Type} [BEq α] [LawfulBEq α] {l m:List α} (h:l.length≠m.length):(l==m)=false:=by
 rw[beq_eq_false_iff_ne];rintro rfl;exact h rfl
theorem Ua {α:Type} [BEq α] [LawfulBEq α] {l m:List α} (h:l.length=m.length) (hp:∀i (hi:i<l.length) (hi':i<m.length),l[i]=m[i]):(l==m)=true:=by
 rw[beq_iff_eq];exact List.ext_getElem h hp
theorem Ut {α:Type} [BEq α] [LawfulBEq α] {l m:List α} {i:Nat} (hi:i<l.length) (hi':i<m.length) (h:l[i]≠m[i]):(l==m)=false:=by
 rw[beq_eq_false_iff_ne];rintro rfl;exact h rfl
def Pk (l:List Sec):Prop:=∀i (hi:i<l.length) j (hj:j<i),(l[j]'(by omega)).id<l[i].id
theorem X9k (n:Nat) (h:n<4611686018427387904):Zr .shr .u64 (n:Int) 1=some (.int .u64 ((n / 2:Nat):Int)):=by
 have e:=X3y (BitVec.ofNat 64 n) (b:=1) (by decide)
 have e1:(BitVec.ofNat 64 n).toNat=n:=by rw[BitVec.toNat_ofNat];omega
 rw[BitVec.toNat_ushiftRight,e1] at e
 rw[e,Nat.shiftRight_eq_div_pow];rfl
theorem X34 {a b:Int}:decide (Y35 a b<0)=decide (a<b):=by
 unfold Y35;split
 ·simp [*]
 ·split<;>simp [*]
theorem X35 {a b:Int}:(Y35 a b==0)=(a==b):=by
 unfold Y35;rw[Bool.eq_iff_iff];split
 ·simp;omega
 ·split<;>simp<;>omega
def Qz (l:List Sec) (b:Int):Nat:=l.findIdx fun s=>decide (b≤s.id)
theorem Ax {l:List Sec} {b:Int} {i:Nat} (hi:i≤l.length) (h3:∀k (hk:k<l.length),k<i→l[k].id<b) (h4:∀k (hk:k<l.length),i≤k→b≤l[k].id):Qz l b=i:=by
 unfold Qz
 rcases Nat.lt_or_ge i l.length with hlt|hge
 ·exact(List.findIdx_eq hlt).2 ⟨decide_eq_true (h4 i hlt (Nat.le_refl _)),fun j hj=>decide_eq_false (by have:=h3 j (by omega) hj;omega)⟩
 ·obtain rfl:i=l.length:=by omega
  rw[List.findIdx_eq_length]
  intro x hx
  obtain⟨j,hj,rfl⟩:=List.getElem_of_mem hx
  exact decide_eq_false (by have:=h3 j hj hj;omega)
theorem En {l:List Sec} (hr:Pk l) (b:Int):Qt l b=if Qz l b<l.length∧(l.getD (Qz l b) Xp2).id=b then some (l.getD (Qz l b) Xp2) else none:=by
 have h1:∀j (hj:j<l.length),j<Qz l b→l[j].id<b:=fun j hj hjl=>by
  have:=List.not_of_lt_findIdx (p:=fun s:Sec=>decide (b≤s.id)) hjl
  simp at this;exact this
 rcases Nat.lt_or_ge (Qz l b) l.length with hlt|hge
 ·have h2:b≤(l[Qz l b]).id:=by
   have:=List.findIdx_getElem (p:=fun s:Sec=>decide (b≤s.id)) (w:=hlt)
   exact of_decide_eq_true this
  have hd:l.getD (Qz l b) Xp2=l[Qz l b]:=by simp [List.getD_eq_getElem?_getD,hlt]
  rw[hd]
  by_cases he:(l[Qz l b]).id=b
  ·rw[if_pos ⟨hlt,he⟩]
   unfold Qt
   rw[List.find?_eq_some_iff_getElem]
   exact⟨by simpa using he,Qz l b,hlt,rfl,fun j hj=>by have:=h1 j (by omega) hj;simp;omega⟩
  ·rw[if_neg fun h=>he h.2]
   unfold Qt
   rw[List.find?_eq_none]
   intro x hx
   obtain⟨j,hj,rfl⟩:=List.getElem_of_mem hx
   rcases Nat.lt_trichotomy j (Qz l b) with h|h|h
   ·have:=h1 j hj h;simp;omega
   ·subst h;simpa using he
   ·have:=hr j hj (Qz l b) h;simp;omega
 ·rw[if_neg fun h=>by omega]
  unfold Qt
  rw[List.find?_eq_none]
  intro x hx
  obtain⟨j,hj,rfl⟩:=List.getElem_of_mem hx
  have:=h1 j hj (by omega);simp;omega
theorem H4 (l:List Sec) (b:Int) (fid:FuncId) (hb:Xd Tryz.prog fid=True) (hl:l.length≤1000000000) (hr:Pk l)
  (hp:∀x,x∈l→Xr Tryz.prog fid [Qh x,i64 b] [] (i64 (Y35 x.id b)) []):
  Xr Tryz.prog 178 [P9 l,i64 b,.fn (.func fid) []] [] (.tup [i64 (Qz l b:Int),bool (decide (Qz l b<l.length∧(l.getD (Qz l b) Xp2).id=b))]) []:=by
 refine Xc 0 Tryz.func178 rfl fun n out _ _=> ?_
 simp only[sn,Tryz.ntmps178,Nat.reduceAdd,Nat.reduceSub]
 refine Vy fun K hK=> ?_
 simp only[zA,simprocAttr]
 (refine hK _ ?_;clear hK K)
 refine Vy fun K hK=> ?_
 simp only[zA,simprocAttr]
 (refine hK _ ?_;clear hK K)
 refine Vy fun K hK=> ?_
 simp only[zA,simprocAttr]
 (refine hK _ ?_;clear hK K)
 refine Vk fun KB hKB=> ?_
 refine V5 ?_
 refine Xz (fun q:Nat×Nat=>[(9,i64 (q.1:Int)),(10,i64 (q.2:Int)),(11,.top),(15,.top),(16,.top),(17,.top),(18,.top),(19,.top),(20,.top),(21,.top),(22,.top),(23,.top),(24,.top),(25,.top),(26,.top),(27,.top),(28,.top),(29,.top),(30,.top),(31,.top),(32,.top),(33,.top),(34,.top)]) (fun q=>[]) (fun q=>out) (fun q=>q.1≤q.2∧q.2≤l.length∧(∀k (hk:k<l.length),k<q.1→l[k].id<b)∧(∀k (hk:k<l.length),q.2≤k→b≤l[k].id)) (fun q=>q.2 - q.1) (0,l.length) ⟨Nat.zero_le _,Nat.le_refl _,by intros;omega,by intros;omega⟩ ?_ fun q hq=> ?_
 ·refine La rfl ?_ ?_<;>simp only[sL]
 obtain⟨i,j⟩:=q
 obtain⟨h1,h2,h3,h4⟩:=hq
 simp only at h1 h2 h3 h4
 simp only[pt]
 refine Vk fun KC hKC=> ?_
 refine Vy fun K hK=> ?_
 simp only[zA,simprocAttr]
 (refine hK _ ?_;clear hK K)
 refine Uz rfl (fun ht=>Xhj (hKC _ ?_)) (fun hf=>Qi (id ?_))
 ·clear hKC KC
  have hij:i<j:=by have:=of_decide_eq_true ht;omega
  have e1:IntKind.i64.wrap ((i:Int)+(j:Int))=((i+j:Nat):Int):=by rw[wrap_i64]<;>omega
  have e2:IntKind.u64.wrap ((i+j:Nat):Int)=((i+j:Nat):Int):=by rw[X1m]<;>omega
  have e3:=X9k (i+j) (by omega)
  have e4:IntKind.i64.wrap (((i+j) / 2:Nat):Int)=(((i+j) / 2:Nat):Int):=by rw[wrap_i64]<;>omega
  have hlt:(i+j) / 2<l.length:=by omega
  have e5:=Yl (n:=(i+j) / 2) 1 1 rfl (by omega)
  have hb1:i≤(i+j) / 2∧(i+j) / 2<j:=by omega
  generalize (i+j) / 2=h at e3 e4 hlt e5 hb1
  refine V5 ?_
  have hg:=Xg Y6 l h [] hlt
  refine Vy fun K hK=> ?_
  simp only[zA,simprocAttr,e1,e2,e3,e4]
  (refine hK _ ?_;clear hK K)
  refine Vy fun K hK=> ?_
  simp only[zA,simprocAttr,hlt,hg,Y6,hb]
  skip
  refine X3 (hp _ (List.getElem_mem hlt)) ?_
  simp only[zA,simprocAttr,X34]
  (refine hK _ ?_;clear hK K)
  refine Uz rfl (fun ht=> ?_) (fun hf=> ?_)
  ·refine Xn Xj [] ?_
   simp only[zA,simprocAttr,e5]
   refine⟨(h+1,j),⟨by simp only;omega,h2,fun k hk hki=> ?_,h4⟩,by simp only;omega,?_⟩
   ·have:=of_decide_eq_true ht
    simp only at hki
    by_cases hkh:k=h
    ·subst hkh;exact this
    ·exact Int.lt_trans (hr h hlt k (by omega)) this
   ·refine La rfl ?_ ?_<;>simp only[sL]
  ·refine Xn Xj [] ?_
   simp only[zA,simprocAttr]
   refine⟨(i,h),⟨by simp only;omega,by simp only;omega,h3,fun k hk hki=> ?_⟩,by simp only;omega,?_⟩
   ·have:=of_decide_eq_false hf
    simp only at hki
    by_cases hkh:k=h
    ·subst hkh;omega
    ·have:=hr k hk h (by omega);omega
   ·refine La rfl ?_ ?_<;>simp only[sL]
 ·simp only[Qd,Z4,if_true]
  refine hKB _ ?_
  clear hKB KB hKC KC
  have hij:i=j:=by have:=of_decide_eq_false hf;omega
  subst hij
  have hL:Qz l b=i:=Ax h2 h3 h4
  rw[hL]
  by_cases hlt:i<l.length
  ·have hg:=Xg Y6 l i [] hlt
   have e0:l.getD i Xp2=l[i]:=by simp [List.getD_eq_getElem?_getD,hlt]
   refine Vy fun K hK=> ?_
   simp only[zA,simprocAttr,hlt,hg,Y6,hb]
   skip
   refine X3 (hp _ (List.getElem_mem hlt)) ?_
   rw[e0]
   simp only[zA,simprocAttr,X35]
   (refine hK _ ?_;clear hK K)
   repeat' ((with_reducible refine Vz ?_);refine Vp rfl rfl rfl (fun _ _=>rfl) ?_ ?_<;>first|rfl|(show AV.val (.bool _)=AV.val (.bool _);congr 2;simp [hlt,List.getElem?_eq_getElem hlt];rfl)|skip)
  ·refine Vy fun K hK=> ?_
   simp only[zA,simprocAttr,hlt]
   (refine hK _ ?_;clear hK K)
   repeat' ((with_reducible refine Vz ?_);refine Vp rfl rfl rfl (fun _ _=>rfl) ?_ ?_<;>first|rfl|(show AV.val (.bool _)=AV.val (.bool _);congr 2;simp [hlt])|skip)
theorem X36 (l:List Sec) (b:Int) (hl:l.length≤1000000000) (hr:Pk l):
  Xr Tryz.prog 136 [P9 l,i64 b] [] (.tup [i64 (Qz l b:Int),bool (decide (Qz l b<l.length∧(l.getD (Qz l b) Xp2).id=b))]) []:=by
 refine Xc 0 Tryz.func136 rfl fun n out _ _=> ?_
 simp only[sn,Tryz.ntmps136,Nat.reduceAdd,Nat.reduceSub]
 repeat' (first|(with_reducible first|refine Vk fun K hK=> ?_|refine V0 ?_)|((with_reducible first|refine gE ?_|refine gR ?_);simp only[zA,simprocAttr])|((with_reducible refine Vz ?_);refine Vp rfl rfl rfl (fun _ _=>rfl) ?_ ?_<;>first|rfl|skip)|(refine X3 (H4 l b _ (hb0 _ (by decide) (by decide)) hl hr fun x _=>Y36 x b) ?_)|(refine hK _ ?_;clear hK K))
def Xwp (s:Sec):List Int:=if s.pt=0 then[0,3,0,3,0,0,0,0,0] else[0,1,2,1,0,0,2,0,0]
theorem Y2s (k:Nat) (cs:List AV) (i:Nat) (x:AV) (l:List (Nat×AV)):U4 (fun i=>some (i*k,k)) cs ((i,x)::l)=match x.parts with
  |some xs=>if xs.length=k∧i*k+k≤cs.length then U4 (fun i=>some (i*k,k)) (Yf cs (i*k) xs) l else none
  |none=>none:=by
 simp only[U4];cases x.parts<;>rfl
theorem Y2t (cs:List AV) (i:Nat) (x:AV) (l:List (Nat×AV)):U4 (fun i=>some (i,1)) cs ((i,x)::l)=match x.parts with
  |some xs=>if xs.length=1∧i+1≤cs.length then U4 (fun i=>some (i,1)) (Yf cs i xs) l else none
  |none=>none:=by
 simp only[U4];cases x.parts<;>rfl
theorem Y2u (x:AV):List.replicate 9 x=[x,x,x,x,x,x,x,x,x]:=rfl
theorem Xxq (s:Sec):Xr Tryz.prog 202 [Qh s] [] (.agg ((Xwp s).map i64)) []:=by
 refine Xc 2 Tryz.func202 rfl fun n out _ _=> ?_
 simp only[sn,Tryz.ntmps202,Nat.reduceAdd,Nat.reduceSub]
 repeat' (first|(with_reducible first|refine Vk fun K hK=> ?_|refine V0 ?_|refine Vs ?_|apply And.intro)|((with_reducible first|refine gE ?_|refine gR ?_);simp only[zA,simprocAttr, -List.reduceReplicate,Qh,Y6,Y2s,Y2t,Y2u])|exact Vn|((with_reducible refine Vz ?_);(first|refine Xu (.inr rfl) rfl rfl rfl (fun _ _=>rfl) ok279 (k:=n+1) (off:=0) rfl (Xb _ (by simp)) (X6 _ (Nat.le_refl _) 1) rfl ?_|refine Xu (.inr rfl) rfl rfl rfl (fun _ _=>rfl) ok279 (k:=m+1) (off:=0) rfl (Xb _ (by simp)) (X6 _ hm 1) rfl ?_)<;>first|rfl|exact AV.le.rfl _|(simp only[sL];done)|(unfold Xwp;first|(rw[if_pos (by simpa using hg)];exact .rfl _)|(rw[if_neg (by simpa using hg)];exact .rfl _))|skip)|(refine hK _ ?_;clear hK K)|refine Vt rfl ?_|refine Vf rfl ?_|refine Vi rfl (fun hg=> ?_) (fun hg=> ?_)|clear hK K)
def Xwq (s:Sec) (a:Nat):List Int:=if s.pt=0 then(if a=0 then[0,3,0] else if a=1 then[3,0,0] else[0,0,0]) else(if a=0 then[0,1,2] else if a=1 then[1,0,0] else[2,0,0])
theorem Xqa (s:Sec) {a:Nat} (ha:a<3):pick true 3 (List.drop (a*3) ((Xwp s).map i64))=some (.agg ((Xwq s a).map i64)):=by
 unfold Xwp Xwq
 have:a=0∨a=1∨a=2:=by omega
 by_cases h:s.pt=0
 ·rw[if_pos h,if_pos h];rcases this with rfl|rfl|rfl<;>rfl
 ·rw[if_neg h,if_neg h];rcases this with rfl|rfl|rfl<;>rfl
theorem Xy4 (s:Sec) (a:Nat):(Xwq s a).length=3:=by unfold Xwq;repeat' split<;>try rfl
theorem Xpi (s:Sec) (a:Nat) {b:Nat} (hb:b<3):pick false 1 (List.drop b ((Xwq s a).map i64))=some (i64 ((Xwq s a).getD b 0)):=X0z 1 i64 _ b 0 (by rw[Xy4];exact hb)
theorem Xy5 (s:Sec) {a b:Nat} (ha:a<3) (hb:b<3):(((Xwq s a).getD b 0==0)=decide (Xuv s a b<0))∧(0≤Xuv s a b→((Xwq s a).getD b 0).tmod 3=Xuv s a b):=by
 have h1:a=0∨a=1∨a=2:=by omega
 have h2:b=0∨b=1∨b=2:=by omega
 unfold Xwq Xuv
 by_cases h:s.pt=0
 ·rw[if_pos h,if_pos h];rcases h1 with rfl|rfl|rfl<;>rcases h2 with rfl|rfl|rfl<;>decide
 ·rw[if_neg h,if_neg h];rcases h1 with rfl|rfl|rfl<;>rcases h2 with rfl|rfl|rfl<;>decide
def Xoq (s:Sec) (a b:Int):Int:=if Qc s∧0≤Xuv s a b then Xuv s a b else 0
def Xpj (s:Sec) (a b:Int):Int:=if Qc s then(if Xuv s a b<0 then 2 else 0) else 8
theorem Xv1 (s:Sec) (a b:Int):Xr Tryz.prog 198 [Qh s,i64 a,i64 b] [] (.tup [i64 (Xoq s a b),i64 (Xpj s a b)]) []:=by
 cases hs:Qc s with
 |false=>
  have e1:Xoq s a b=0:=by simp [Xoq,hs]
  have e2:Xpj s a b=8:=by simp [Xpj,hs]
  rw[e1,e2]
  refine Xc 1 Tryz.func198 rfl fun n out _ _=> ?_
  simp only[sn,Tryz.ntmps198,Nat.reduceAdd,Nat.reduceSub]
  repeat' (first|(with_reducible first|refine Vk fun K hK=> ?_|refine V0 ?_|refine Vs ?_|apply And.intro)|((with_reducible first|refine gE ?_|refine gR ?_);simp only[zA,simprocAttr, -List.reduceReplicate,Qh,Y6,hs])|exact Vn|((with_reducible refine Vz ?_);refine Vp rfl rfl rfl (fun _ _=>rfl) ?_ ?_<;>first|rfl|skip)|(refine X3 (Di s) ?_)|((with_reducible refine Vg (fun hg=> ?_) (fun hg=> ?_))<;>(try simp only[nb] at hg)<;>simp only[zA,simprocAttr, -List.reduceReplicate,hg,Qh,Y6,hs])|(refine hK _ ?_;clear hK K)|refine Vt rfl ?_|refine Vf rfl ?_|refine Vi rfl (fun hg=> ?_) (fun hg=> ?_)|clear hK K)
 |true=>
  have cs:=Di s
  rw[hs] at cs
  by_cases hr:0≤a∧a≤2∧0≤b∧b≤2
  ·obtain⟨na,rfl⟩:=Int.eq_ofNat_of_zero_le hr.1
   obtain⟨nb,rfl⟩:=Int.eq_ofNat_of_zero_le hr.2.2.1
   have ha:na<3:=by omega
   have hb:nb<3:=by omega
   have ha':((na:Int)<3):=by omega
   have hb':((nb:Int)<3):=by omega
   have ha1:decide ((na:Int)<0)=false:=decide_eq_false (by omega)
   have ha2:decide ((na:Int)>2)=false:=decide_eq_false (by omega)
   have hb1:decide ((nb:Int)<0)=false:=decide_eq_false (by omega)
   have hb2:decide ((nb:Int)>2)=false:=decide_eq_false (by omega)
   have hr3:=fun(k:IntKind) (x:Int)=>X5a k x (b:=3) (by decide)
   obtain⟨q1,q2⟩:=Xy5 s ha hb
   by_cases hl:Xuv s na nb<0
   ·have e1:Xoq s na nb=0:=by simp [Xoq,hs];omega
    have e2:Xpj s na nb=2:=by simp [Xpj,hs,hl]
    rw[decide_eq_true hl] at q1
    rw[e1,e2]
    refine Xc 1 Tryz.func198 rfl fun n out _ _=> ?_
    simp only[sn,Tryz.ntmps198,Nat.reduceAdd,Nat.reduceSub]
    repeat' (first|(with_reducible first|refine Vk fun K hK=> ?_|refine V0 ?_|refine Vs ?_|apply And.intro)|((with_reducible first|refine gE ?_|refine gR ?_);simp only[zA,simprocAttr, -List.reduceReplicate,Qh,Y6,ha',hb',ha1,ha2,hb1,hb2,Xqa s ha,Xpi s na hb,q1])|exact Vn|((with_reducible refine Vz ?_);refine Vp rfl rfl rfl (fun _ _=>rfl) ?_ ?_<;>first|rfl|skip)|(refine X3 (cs) ?_)|(refine X3 (Xxq s) ?_)|((with_reducible refine Vg (fun hg=> ?_) (fun hg=> ?_))<;>(try simp only[nb] at hg)<;>simp only[zA,simprocAttr, -List.reduceReplicate,hg,Qh,Y6,ha,hb,ha',hb',ha1,ha2,hb1,hb2,Xqa s ha,Xpi s na hb,q1])|(refine hK _ ?_;clear hK K)|refine Vt rfl ?_|refine Vf rfl ?_|refine Vi rfl (fun hg=> ?_) (fun hg=> ?_)|clear hK K)
   ·have e1:Xoq s na nb=Xuv s na nb:=by simp [Xoq,hs];omega
    have e2:Xpj s na nb=0:=by simp [Xpj,hs,hl]
    rw[decide_eq_false hl] at q1
    have q3:=q2 (by omega)
    rw[e1,e2]
    refine Xc 1 Tryz.func198 rfl fun n out _ _=> ?_
    simp only[sn,Tryz.ntmps198,Nat.reduceAdd,Nat.reduceSub]
    repeat' (first|(with_reducible first|refine Vk fun K hK=> ?_|refine V0 ?_|refine Vs ?_|apply And.intro)|((with_reducible first|refine gE ?_|refine gR ?_);simp only[zA,simprocAttr, -List.reduceReplicate,Qh,Y6,ha',hb',ha1,ha2,hb1,hb2,Xqa s ha,Xpi s na hb,q1,hr3,q3])|exact Vn|((with_reducible refine Vz ?_);refine Vp rfl rfl rfl (fun _ _=>rfl) ?_ ?_<;>first|rfl|skip)|(refine X3 (cs) ?_)|(refine X3 (Xxq s) ?_)|((with_reducible refine Vg (fun hg=> ?_) (fun hg=> ?_))<;>(try simp only[nb] at hg)<;>simp only[zA,simprocAttr, -List.reduceReplicate,hg,Qh,Y6,ha,hb,ha',hb',ha1,ha2,hb1,hb2,Xqa s ha,Xpi s na hb,q1,hr3,q3])|(refine hK _ ?_;clear hK K)|refine Vt rfl ?_|refine Vf rfl ?_|refine Vi rfl (fun hg=> ?_) (fun hg=> ?_)|clear hK K)
  ·have hl:Xuv s a b<0:=by
    unfold Xuv
    by_cases h0:s.pt=0
    ·rw[if_pos h0,if_neg (by omega)];decide
    ·rw[if_neg h0,if_neg (by omega),if_neg (by omega)];decide
   have e1:Xoq s a b=0:=by simp [Xoq,hs];omega
   have e2:Xpj s a b=2:=by simp [Xpj,hs,hl]
   rw[e1,e2]
   refine Xc 1 Tryz.func198 rfl fun n out _ _=> ?_
   simp only[sn,Tryz.ntmps198,Nat.reduceAdd,Nat.reduceSub]
   repeat' (first|(with_reducible first|refine Vk fun K hK=> ?_|refine V0 ?_|refine Vs ?_|apply And.intro)|((with_reducible first|refine gE ?_|refine gR ?_);simp only[zA,simprocAttr, -List.reduceReplicate,Qh,Y6])|exact Vn|((with_reducible refine Vz ?_);refine Vp rfl rfl rfl (fun _ _=>rfl) ?_ ?_<;>first|rfl|skip)|(refine X3 (cs) ?_)|((with_reducible refine Vg (fun hg=> ?_) (fun hg=> ?_))<;>(try simp only[nb] at hg)<;>simp only[zA,simprocAttr, -List.reduceReplicate,hg])|(refine hK _ ?_;clear hK K)|refine Vt rfl ?_|refine Vf rfl ?_|refine Vi rfl (fun hg=> ?_) (fun hg=> ?_)|clear hK K)
   all_goals (exfalso;simp at*;omega)
end Go.Proofs.YtdngdjbgmojcoaaGreat.Pln
