/- The layer of abstract values, joined. -/
import Derived.Test.YtdngdjbgmojcoaaGreatZPR
import Derived.Test.YtdngdjbgmojcoaaGreatZTab
namespace Go.Proofs.YtdngdjbgmojcoaaGreat.Pln
set_option linter.all false
set_option maxHeartbeats 1000000
set_option maxRecDepth 4000
open Go Go.VS Tab
attribute [local irreducible] AWp Xp0 Pg X5c Qy Lt Tp FdT Eb
theorem Wh (n:Int):Xr Tryz.prog 134 [i64 n] [] (bool (Uk n)) []:=by
 refine Xc 0 Tryz.func134 rfl fun n out _ _=> ?_;simp only[sn,Tryz.ntmps134,simprocAttr];have hg:=Nat.le_refl 0;repeat' (first|refine Vk fun K hK=> ?_|apply V0|((first|apply gE|apply gS);simp only[zA,simprocAttr,hg])|(apply Vz;refine Vo rfl rfl rfl (fun _ _=>rfl) ?_<;>first|rfl|(first|rfl|(simp only[g_0,g_s];refine congrArg VS.bool ?_;rw[ar];first|(simp [Uk] at* <;>omega)|(simp_all [Uk]<;>omega)))|skip)|((refine Vg (fun hg=> ?_) (fun hg=> ?_))<;>try simp only[nb] at hg)|(refine hK _ ?_;clear hK K))
theorem Di (s:Sec):Xr Tryz.prog 135 [Qh s] [] (bool (Qc s)) []:=by
 refine Xc 1 Tryz.func135 rfl fun n out _ _=> ?_;simp only[sn,Tryz.ntmps135,simprocAttr];have hg:=Nat.le_refl 0;repeat' (first|refine Vk fun K hK=> ?_|apply V0|((first|apply gE|apply gR|apply gS);simp only[zA,simprocAttr,hg,Qh,Y6])|(apply Vz;refine Vo rfl rfl rfl (fun _ _=>rfl) ?_<;>first|rfl|(first|rfl|(simp only[g_0,g_s];refine congrArg VS.bool ?_;rw[ar];first|(simp [Qc,Uk] at* <;>omega)|(simp_all [Qc,Uk]<;>omega)))|skip)|(refine X3 (Wh _) ?_)|((refine Vg (fun hg=> ?_) (fun hg=> ?_))<;>try simp only[nb] at hg)|(refine hK _ ?_;clear hK K))
theorem Gx (s:Sec):Xr Tryz.prog 187 [Qh s] [] (bool (Qc s)) []:=by
 refine Xc 1 Tryz.func187 rfl fun n out _ _=> ?_;simp only[sn,Tryz.ntmps187,simprocAttr];have hg:=Nat.le_refl 0;repeat' (first|refine Vk fun K hK=> ?_|apply V0|apply Vs|((first|apply gE|apply gS);simp only[zA,simprocAttr,hg,Qh,Y6])|(apply Vz;refine Vo rfl rfl rfl (fun _ _=>rfl) ?_<;>first|rfl|(first|rfl|(simp only[g_0,g_s];refine congrArg VS.bool ?_;rw[ar];first|(simp [Qc,Uk] at* <;>omega)|(simp_all [Qc,Uk]<;>omega)))|skip)|((refine Vg (fun hg=> ?_) (fun hg=> ?_))<;>try simp only[nb] at hg)|(refine hK _ ?_;clear hK K)|refine Vi rfl (fun hg=> ?_) (fun hg=> ?_))
def Xuv (s:Sec) (a b:Int):Int:=if s.pt=0 then(if (a=0∧b=1)∨(a=1∧b=0) then 0 else -1) else if a=0∧(b=1∨b=2) then b else if b=0∧(a=1∨a=2) then a else -1
theorem Yge (s:Sec) (a b:Int):Xr Tryz.prog 195 [Qh s,i64 a,i64 b] [] (i64 (Xuv s a b)) []:=by
 refine Xc 1 Tryz.func195 rfl fun n out _ _=> ?_;simp only[sn,Tryz.ntmps195,simprocAttr];have hg:=Nat.le_refl 0;repeat' (first|refine Vk fun K hK=> ?_|apply V0|apply Vs|with_reducible apply ab|((first|apply gE|apply gR|apply gS);simp only[zA,simprocAttr,hg,Qh,Y6])|exact Vn|(apply Vz;refine Vo rfl rfl rfl (fun _ _=>rfl) ?_<;>first|rfl|(first|rfl|(simp only[g_0,g_s];refine congrArg i64 ?_;first|(simp [Xuv] at* <;>omega)|(simp_all [Xuv]<;>omega)))|skip)|((refine Vg (fun hg=> ?_) (fun hg=> ?_))<;>try simp only[nb] at hg)|(refine hK _ ?_;clear hK K)|refine Vt rfl ?_|refine Vf rfl ?_|refine Vi rfl (fun hg=> ?_) (fun hg=> ?_)|clear hK K)
theorem X31 (a:Int):Xr Tryz.prog 199 [i64 a] [] (bool false) []:=by
 refine Xc 0 Tryz.func199 rfl fun n out _ _=> ?_;simp only[sn,Tryz.ntmps199,simprocAttr];repeat' (first|refine Vk fun K hK=> ?_|apply V0|(apply gE;simp only[zA,simprocAttr])|(apply Vz;refine Vo rfl rfl rfl (fun _ _=>rfl) ?_<;>first|rfl|(first|rfl|(simp only[g_0,g_s];refine congrArg VS.bool ?_;rw[ar];first|(simp [] at* <;>omega)|(simp_all []<;>omega)))|skip)|(refine hK _ ?_;clear hK K))
def Y35 (a b:Int):Int:=if a<b then -1 else if b<a then 1 else 0
theorem X80 (a b:Int):Xr Tryz.prog 180 [i64 a,i64 b] [] (i64 (Y35 a b)) []:=by
 refine Xc 0 Tryz.func180 rfl fun n out _ _=> ?_;simp only[sn,Tryz.ntmps180,simprocAttr];repeat' (first|refine Vk fun K hK=> ?_|apply V0|apply Vs|((first|apply gE|apply gR);simp only[zA,simprocAttr])|(apply Vz;refine Vo rfl rfl rfl (fun _ _=>rfl) ?_<;>first|rfl|(first|rfl|(simp only[g_0,g_s];refine congrArg i64 ?_;first|(simp [Y35] at* <;>omega)|(simp_all [Y35]<;>omega)))|skip)|(refine X3 (X31 _) ?_)|(refine hK _ ?_;clear hK K)|refine Vf rfl ?_|refine Vi rfl (fun hg=> ?_) (fun hg=> ?_))
theorem Y36 (s:Sec) (b:Int):Xr Tryz.prog 179 [Qh s,i64 b] [] (i64 (Y35 s.id b)) []:=by
 refine Xc 1 Tryz.func179 rfl fun n out _ _=> ?_;simp only[sn,Tryz.ntmps179,simprocAttr];repeat' (first|refine Vk fun K hK=> ?_|apply V0|((first|apply gE|apply gR);simp only[zA,simprocAttr,Qh,Y6])|(apply Vz;refine Vo rfl rfl rfl (fun _ _=>rfl) ?_<;>first|rfl|(first|rfl|(simp only[g_0,g_s];refine congrArg i64 ?_;first|(simp [] at* <;>omega)|(simp_all []<;>omega)))|skip)|(refine X3 (X80 _ _) ?_)|(refine hK _ ?_;clear hK K))
theorem Ycc {α:Type} (C:α->List AV) (av:α->AV) (F sz:Nat) (hq:(F=200∧sz=3)∨(F=182∧sz=2)∨(F=184∧sz=3)) (hC:∀x,(C x).length=sz) (hA:∀x,av x= .agg (C x))
  (l:List α) (fid:FuncId) (caps:List AV) (p:α->Bool) (hb:Xd Tryz.prog fid=True) (hl:l.length<=1000000000)
  (hp:∀x,x∈l->Xr Tryz.prog fid (av x::caps) [] (bool (p x)) []):Xr Tryz.prog F [.sl sz (l.map C) .sh,.fn (.func fid) caps] [] (i64 (idx p l)) []:=by
 rcases hq with ⟨rfl,e1⟩|⟨rfl,e1⟩|⟨rfl,e1⟩
 all_goals
  subst e1;have hP:=fun x=>E6 (hC x);first|refine Xc 0 Tryz.func200 rfl fun n out _ _=> ?_|refine Xc 0 Tryz.func182 rfl fun n out _ _=> ?_|refine Xc 0 Tryz.func184 rfl fun n out _ _=> ?_
  simp only[sn,Tryz.ntmps200,Tryz.ntmps182,Tryz.ntmps184,simprocAttr];refine Vy fun K hK=> ?_;simp only[zA,simprocAttr]
  (refine hK _ ?_;clear hK K)
  refine Vk fun KB hKB=> ?_;refine Vy fun K hK=> ?_;simp only[zA,simprocAttr]
  (refine hK _ ?_;clear hK K)
  apply V5;refine Xse (l.length) (fun i=>(∀j (hj:j<l.length),j<i->p l[j]=false)) (fun i=>tp [4,5] (tr 9 10 [(8,i64 (i:Int))])) (fun i=>[]) (by intros;omega) ?_ fun i hi=> ?_
  ·refine La rfl ?_ ?_<;>simp only[sL]
  obtain⟨hi,hq⟩:=hi;simp only[pt];refine Vy fun K hK=> ?_;simp only[zA,simprocAttr]
  (refine hK _ ?_;clear hK K)
  refine Vk fun KC hKC=> ?_;refine Uz rfl (fun ht=>Xhj (hKC _ ?_)) (fun hf=>Qi (id ?_));rotate_left
  ·simp only[Qd,Z4,if_true];refine hKB _ ?_;clear hKB KB hKC KC;have h_ib:i=l.length:=by have:=b7 hf;omega
   subst h_ib;have e:=Kn (p:=p) (l:=l) fun i hi=>hq i hi hi;rw[e];refine Vy fun K hK=> ?_;simp only[zA,simprocAttr]
   (refine hK _ ?_;clear hK K)
   apply Vz;exact Qv (.inr rfl) rfl rfl rfl (fun _ _=>rfl) rfl
  clear hKC KC;have hlt:i<l.length:=by have:=bf ht;omega
  refine Vk fun KC hKC=>Xe ?_;refine Vy fun K hK=> ?_;simp only[zA,simprocAttr]
  (refine hK _ ?_;clear hK K)
  refine Vy fun K hK=> ?_;simp only[zA,simprocAttr,hlt,Xg C l i [] hlt,hP,hb]
  skip
  rw[<- hA];refine X3 (hp _ (a8 hlt)) ?_;simp only[zA,simprocAttr]
  (refine hK _ ?_;clear hK K)
  refine Uz rfl (fun ht=> ?_) (fun hf=>Xhj ?_)
  ·have e:=Ko hlt ht fun j hj=>hq j (by omega) hj;refine Vy fun K hK=> ?_;simp only[zA,simprocAttr]
   (refine hK _ ?_;clear hK K)
   rw[<- e];apply Vz;exact Qv (.inr rfl) rfl rfl rfl (fun _ _=>rfl) rfl
  repeat refine ab (by omega) ?_
  refine hKC _ ?_;clear hKC KC;refine Xn Xj [] ?_;simp only[zA,simprocAttr,Yl (n:=i) 1 1 rfl (by omega)];refine⟨i+1,⟨by omega,?_⟩,by omega,?_⟩
  ·intro j hj hji;by_cases h:j=i
   ·subst h;exact hf
   ·exact hq j hj (by omega)
  refine La rfl ?_ ?_<;>simp only[sL]
theorem Xu9 (l:List (Sec)) (fid:FuncId) (caps:List AV) (p:Sec->Bool) (hb:Xd Tryz.prog fid=True) (hl:l.length<=1000000000)
  (hp:∀x,x∈l->Xr Tryz.prog fid (Qh x::caps) [] (bool (p x)) []):Xr Tryz.prog 200 [.sl 3 (l.map Y6) .sh,.fn (.func fid) caps] [] (i64 (idx p l)) []:=
 Ycc Y6 Qh _ _ (by decide) (fun _=>rfl) (fun _=>rfl) l fid caps p hb hl hp
theorem Sl (l:List (Int×Int)) (fid:FuncId) (caps:List AV) (p:Int×Int->Bool) (hb:Xd Tryz.prog fid=True) (hl:l.length<=1000000000)
  (hp:∀x,x∈l->Xr Tryz.prog fid (jnA x::caps) [] (bool (p x)) []):Xr Tryz.prog 182 [.sl 2 (l.map jnC) .sh,.fn (.func fid) caps] [] (i64 (idx p l)) []:=
 Ycc jnC jnA _ _ (by decide) (fun _=>rfl) (fun _=>rfl) l fid caps p hb hl hp
theorem H3 (l:List (Int×Int×Int)) (fid:FuncId) (caps:List AV) (p:Int×Int×Int->Bool) (hb:Xd Tryz.prog fid=True) (hl:l.length<=1000000000)
  (hp:∀x,x∈l->Xr Tryz.prog fid (sgA x::caps) [] (bool (p x)) []):Xr Tryz.prog 184 [.sl 3 (l.map sgC) .sh,.fn (.func fid) caps] [] (i64 (idx p l)) []:=
 Ycc sgC sgA _ _ (by decide) (fun _=>rfl) (fun _=>rfl) l fid caps p hb hl hp
theorem Aw (l:List (Int×Int)) (fid:FuncId) (caps:List AV) (p:Int×Int->Bool) (hb:Xd Tryz.prog fid=True) (hl:l.length<=1000000000)
  (hp:∀x,x∈l->Xr Tryz.prog fid (jnA x::caps) [] (bool (p x)) []):
  Xr Tryz.prog 138 [.sl 2 (l.map jnC) .sh,.fn (.func fid) caps] [] (bool (l.any p)) []:=by
 refine Xc 0 Tryz.func138 rfl fun n out _ _=> ?_;simp only[sn,Tryz.ntmps138,simprocAttr];repeat' (first|refine Vk fun K hK=> ?_|apply V0|((first|apply gE|apply gR);simp only[zA,simprocAttr])|(apply Vz;refine Vo rfl rfl rfl (fun _ _=>rfl) ?_<;>first|rfl|(rw[<- X3h];rfl)|skip)|(refine X3 (Sl l fid caps p hb hl hp) ?_)|(refine hK _ ?_;clear hK K))
theorem Yca (F sz:Nat) (hq:(F=165∧sz=1)∨(F=73∧sz=2)∨(F=74∧sz=3)∨(F=75∧sz=4))
  (els:List (List AV)) (hl:els.length<=1000000):Xr Tryz.prog F [.sl sz els .sh] [] (.sl sz els .sh) []:=by
 rcases hq with ⟨rfl,rfl⟩|⟨rfl,rfl⟩|⟨rfl,rfl⟩|⟨rfl,rfl⟩
 all_goals
  refine Xbz (fun h=> ?_) ?_
  ·subst h;first|refine Xc 0 Tryz.func165 rfl fun n out _ _=> ?_|refine Xc 0 Tryz.func73 rfl fun n out _ _=> ?_|refine Xc 0 Tryz.func74 rfl fun n out _ _=> ?_|refine Xc 0 Tryz.func75 rfl fun n out _ _=> ?_
   simp only[sn,Tryz.ntmps165,Tryz.ntmps73,Tryz.ntmps74,Tryz.ntmps75,simprocAttr];refine Vy fun K hK=> ?_;simp only[zA,simprocAttr]
   (refine hK _ ?_;clear hK K)
   refine Vk fun KB hKB=> ?_;refine Vy fun K hK=> ?_;simp only[zA,simprocAttr]
   (refine hK _ ?_;clear hK K)
   refine Wm rfl ?_;refine Vy fun K hK=> ?_;simp only[zA,simprocAttr]
   (refine hK _ ?_;clear hK K)
   apply Vz;exact Xv (.inr rfl) rfl rfl rfl (fun _ _=>rfl) ((Py _ _).2 trivial) rfl
  ·first|refine Xc 0 Tryz.func165 rfl fun n out _ _=> ?_|refine Xc 0 Tryz.func73 rfl fun n out _ _=> ?_|refine Xc 0 Tryz.func74 rfl fun n out _ _=> ?_|refine Xc 0 Tryz.func75 rfl fun n out _ _=> ?_
   simp only[sn,Tryz.ntmps165,Tryz.ntmps73,Tryz.ntmps74,Tryz.ntmps75,simprocAttr];have hw:∀k,k<=140->els.length*k<=140737488355328:=fun k hk=>Nat.le_trans (Nat.mul_le_mul hl hk) (by decide);refine Vy fun K hK=> ?_;simp only[zA,simprocAttr]
   (refine hK _ ?_;clear hK K)
   refine Vk fun KB hKB=> ?_;refine Vy fun K hK=> ?_;simp only[zA,simprocAttr]
   (refine hK _ ?_;clear hK K)
   refine Uy rfl (Xhj (hKB _ ?_));refine Vy fun K hK=> ?_;simp only[zA,simprocAttr,hw 8 (by decide),hw 16 (by decide),hw 24 (by decide),hw 32 (by decide),show els.length<=9223372036854775807 by omega]
   (refine hK _ ?_;clear hK K)
   apply Vz;refine Xv (.inr rfl) rfl rfl rfl (fun _ _=>rfl) ?_ rfl;simp only[sL]
theorem Xez (els:List (List AV)) (hl:els.length<=1000000):Xr Tryz.prog 165 [.sl 1 els .sh] [] (.sl 1 els .sh) []:=Yca _ _ (by decide) els hl
theorem X32 (a b:Int×Int):(a==b)=((a.1==b.1)&&(a.2==b.2)):=rfl
theorem Xgy (a b:Int×Int×Int):(a==b)=((a.1==b.1)&&((a.2.1==b.2.1)&&(a.2.2==b.2.2))):=rfl
theorem Mu {α:Type} [BEq α] [LawfulBEq α] {l m:List α} (h:l.length≠m.length):(l==m)=false:=by
 rw[dz];rintro rfl;exact h rfl
theorem Ua {α:Type} [BEq α] [LawfulBEq α] {l m:List α} (h:l.length=m.length) (hp:∀i (hi:i<l.length) (hi':i<m.length),l[i]=m[i]):(l==m)=true:=by
 rw[bq];exact ia h hp
theorem Ut {α:Type} [BEq α] [LawfulBEq α] {l m:List α} {i:Nat} (hi:i<l.length) (hi':i<m.length) (h:l[i]≠m[i]):(l==m)=false:=by
 rw[dz];rintro rfl;exact h rfl
def Pk (l:List Sec):Prop:=∀i (hi:i<l.length) j (hj:j<i),(l[j]'(by omega)).id<l[i].id
theorem X9k (n:Nat) (h:n<4611686018427387904):Zr .shr .u64 (n:Int) 1=some (.int .u64 ((n / 2:Nat):Int)):=by
 have e:=X3y (BitVec.ofNat 64 n) (b:=1) (by decide);have e1:(BitVec.ofNat 64 n).toNat=n:=by rw[fg];omega
 rw[BitVec.toNat_ushiftRight,e1] at e;rw[e,Nat.shiftRight_eq_div_pow];rfl
theorem X34 {a b:Int}:decide (Y35 a b<0)=decide (a<b):=by
 unfold Y35;split
 ·simp [*]
 ·split<;>simp [*]
theorem X35 {a b:Int}:(Y35 a b==0)=(a==b):=by
 unfold Y35;rw[ar];split
 ·simp;omega
 ·split<;>simp<;>omega
def Qz (l:List Sec) (b:Int):Nat:=l.findIdx fun s=>decide (b<=s.id)
theorem Ax {l:List Sec} {b:Int} {i:Nat} (hi:i<=l.length) (h3:∀k (hk:k<l.length),k<i->l[k].id<b) (h4:∀k (hk:k<l.length),i<=k->b<=l[k].id):Qz l b=i:=by
 unfold Qz;rcases Nat.lt_or_ge i l.length with hlt|hge
 ·exact(List.findIdx_eq hlt).2 ⟨ax (h4 i hlt (Nat.le_refl _)),fun j hj=>ak (by have:=h3 j (by omega) hj;omega)⟩
 ·obtain rfl:i=l.length:=by omega
  rw[List.findIdx_eq_length];intro x hx;obtain⟨j,hj,rfl⟩:=am hx;exact ak (by have:=h3 j hj hj;omega)
theorem En {l:List Sec} (hr:Pk l) (b:Int):Qt l b=if Qz l b<l.length∧(l.getD (Qz l b) Xp2).id=b then some (l.getD (Qz l b) Xp2) else none:=by
 have h1:∀j (hj:j<l.length),j<Qz l b->l[j].id<b:=fun j hj hjl=>by
  have:=List.not_of_lt_findIdx (p:=fun s:Sec=>decide (b<=s.id)) hjl;simp at this;exact this
 rcases Nat.lt_or_ge (Qz l b) l.length with hlt|hge
 ·have h2:b<=(l[Qz l b]).id:=by
   have:=List.findIdx_getElem (p:=fun s:Sec=>decide (b<=s.id)) (w:=hlt);exact bf this
  have hd:l.getD (Qz l b) Xp2=l[Qz l b]:=by simp [af,hlt]
  rw[hd];by_cases he:(l[Qz l b]).id=b
  ·rw[if_pos ⟨hlt,he⟩];unfold Qt;rw[f9];exact⟨by simpa using he,Qz l b,hlt,rfl,fun j hj=>by have:=h1 j (by omega) hj;simp;omega⟩
  ·rw[if_neg fun h=>he h.2];unfold Qt;rw[cx];intro x hx;obtain⟨j,hj,rfl⟩:=am hx;rcases Nat.lt_trichotomy j (Qz l b) with h|h|h
   ·have:=h1 j hj h;simp;omega
   ·subst h;simpa using he
   ·have:=hr j hj (Qz l b) h;simp;omega
 ·rw[if_neg fun h=>by omega];unfold Qt;rw[cx];intro x hx;obtain⟨j,hj,rfl⟩:=am hx;have:=h1 j hj (by omega);simp;omega
theorem H4 (l:List Sec) (b:Int) (fid:FuncId) (hb:Xd Tryz.prog fid=True) (hl:l.length<=1000000000) (hr:Pk l)
  (hp:∀x,x∈l->Xr Tryz.prog fid [Qh x,i64 b] [] (i64 (Y35 x.id b)) []):
  Xr Tryz.prog 178 [P9 l,i64 b,.fn (.func fid) []] [] (.tup [i64 (Qz l b:Int),bool (decide (Qz l b<l.length∧(l.getD (Qz l b) Xp2).id=b))]) []:=by
 refine Xc 0 Tryz.func178 rfl fun n out _ _=> ?_;simp only[sn,Tryz.ntmps178,simprocAttr];refine Vy fun K hK=> ?_;simp only[zA,simprocAttr]
 (refine hK _ ?_;clear hK K)
 refine Vy fun K hK=> ?_;simp only[zA,simprocAttr]
 (refine hK _ ?_;clear hK K)
 refine Vy fun K hK=> ?_;simp only[zA,simprocAttr]
 (refine hK _ ?_;clear hK K)
 refine Vk fun KB hKB=> ?_;apply V5;refine Xz (fun q:Nat×Nat=>[(9,i64 (q.1:Int)),(10,i64 (q.2:Int)),(11,.top),(15,.top),(16,.top),(17,.top),(18,.top),(19,.top),(20,.top),(21,.top),(22,.top),(23,.top),(24,.top),(25,.top),(26,.top),(27,.top),(28,.top),(29,.top),(30,.top),(31,.top),(32,.top),(33,.top),(34,.top)]) (fun q=>[]) (fun q=>out) (fun q=>q.1<=q.2∧q.2<=l.length∧(∀k (hk:k<l.length),k<q.1->l[k].id<b)∧(∀k (hk:k<l.length),q.2<=k->b<=l[k].id)) (fun q=>q.2 - q.1) (0,l.length) ⟨br _,Nat.le_refl _,by intros;omega,by intros;omega⟩ ?_ fun q hq=> ?_
 ·refine La rfl ?_ ?_<;>simp only[sL]
 obtain⟨i,j⟩:=q;obtain⟨h1,h2,h3,h4⟩:=hq;simp only at h1 h2 h3 h4;simp only[pt];refine Vk fun KC hKC=> ?_;refine Vy fun K hK=> ?_;simp only[zA,simprocAttr]
 (refine hK _ ?_;clear hK K)
 refine Uz rfl (fun ht=>Xhj (hKC _ ?_)) (fun hf=>Qi (id ?_))
 ·clear hKC KC;have hij:i<j:=by have:=bf ht;omega
  have e1:IntKind.i64.wrap ((i:Int)+(j:Int))=((i+j:Nat):Int):=by rw[wrap_i64]<;>omega
  have e2:IntKind.u64.wrap ((i+j:Nat):Int)=((i+j:Nat):Int):=by rw[X1m]<;>omega
  have e3:=X9k (i+j) (by omega);have e4:IntKind.i64.wrap (((i+j) / 2:Nat):Int)=(((i+j) / 2:Nat):Int):=by rw[wrap_i64]<;>omega
  have hlt:(i+j) / 2<l.length:=by omega
  have e5:=Yl (n:=(i+j) / 2) 1 1 rfl (by omega);have hb1:i<=(i+j) / 2∧(i+j) / 2<j:=by omega
  generalize (i+j) / 2=h at e3 e4 hlt e5 hb1;apply V5;have hg:=Xg Y6 l h [] hlt;refine Vy fun K hK=> ?_;simp only[zA,simprocAttr,e1,e2,e3,e4]
  (refine hK _ ?_;clear hK K)
  refine Vy fun K hK=> ?_;simp only[zA,simprocAttr,hlt,hg,Y6,hb]
  skip
  refine X3 (hp _ (a8 hlt)) ?_;simp only[zA,simprocAttr,X34]
  (refine hK _ ?_;clear hK K)
  refine Uz rfl (fun ht=> ?_) (fun hf=> ?_)
  ·refine Xn Xj [] ?_;simp only[zA,simprocAttr,e5];refine⟨(h+1,j),⟨by simp only;omega,h2,fun k hk hki=> ?_,h4⟩,by simp only;omega,?_⟩
   ·have:=bf ht;simp only at hki;by_cases hkh:k=h
    ·subst hkh;exact this
    ·exact Int.lt_trans (hr h hlt k (by omega)) this
   ·refine La rfl ?_ ?_<;>simp only[sL]
  ·refine Xn Xj [] ?_;simp only[zA,simprocAttr];refine⟨(i,h),⟨by simp only;omega,by simp only;omega,h3,fun k hk hki=> ?_⟩,by simp only;omega,?_⟩
   ·have:=b7 hf;simp only at hki;by_cases hkh:k=h
    ·subst hkh;omega
    ·have:=hr k hk h (by omega);omega
   ·refine La rfl ?_ ?_<;>simp only[sL]
 ·simp only[Qd,Z4,if_true];refine hKB _ ?_;clear hKB KB hKC KC;have hij:i=j:=by have:=b7 hf;omega
  subst hij;have hL:Qz l b=i:=Ax h2 h3 h4;rw[hL];by_cases hlt:i<l.length
  ·have hg:=Xg Y6 l i [] hlt;have e0:l.getD i Xp2=l[i]:=by simp [af,hlt]
   refine Vy fun K hK=> ?_;simp only[zA,simprocAttr,hlt,hg,Y6,hb]
   skip
   refine X3 (hp _ (a8 hlt)) ?_;rw[e0];simp only[zA,simprocAttr,X35]
   (refine hK _ ?_;clear hK K)
   repeat' (apply Vz;refine Vp rfl rfl rfl (fun _ _=>rfl) ?_ ?_<;>first|rfl|(show AV.val (.bool _)=AV.val (.bool _);congr 2;simp [hlt,ah hlt];rfl)|skip)
  ·refine Vy fun K hK=> ?_;simp only[zA,simprocAttr,hlt]
   (refine hK _ ?_;clear hK K)
   repeat' (apply Vz;refine Vp rfl rfl rfl (fun _ _=>rfl) ?_ ?_<;>first|rfl|(show AV.val (.bool _)=AV.val (.bool _);congr 2;simp [hlt])|skip)
theorem X36 (l:List Sec) (b:Int) (hl:l.length<=1000000000) (hr:Pk l):
  Xr Tryz.prog 136 [P9 l,i64 b] [] (.tup [i64 (Qz l b:Int),bool (decide (Qz l b<l.length∧(l.getD (Qz l b) Xp2).id=b))]) []:=by
 refine Xc 0 Tryz.func136 rfl fun n out _ _=> ?_;simp only[sn,Tryz.ntmps136,simprocAttr];repeat' (first|refine Vk fun K hK=> ?_|apply V0|((first|apply gE|apply gR);simp only[zA,simprocAttr])|(apply Vz;refine Vp rfl rfl rfl (fun _ _=>rfl) ?_ ?_<;>first|rfl|skip)|(refine X3 (H4 l b _ (hb0 _ (by decide) (by decide)) hl hr fun x _=>Y36 x b) ?_)|(refine hK _ ?_;clear hK K))
def Xwp (s:Sec):List Int:=if s.pt=0 then[0,3,0,3,0,0,0,0,0] else[0,1,2,1,0,0,2,0,0]
theorem Y2s (k:Nat) (cs:List AV) (i:Nat) (x:AV) (l:List (Nat×AV)):U4 (fun i=>some (i*k,k)) cs ((i,x)::l)=match x.parts with
  |some xs=>if xs.length=k∧i*k+k<=cs.length then U4 (fun i=>some (i*k,k)) (Yf cs (i*k) xs) l else none
  |none=>none:=by
 simp only[U4];cases x.parts<;>rfl
theorem Y2t (cs:List AV) (i:Nat) (x:AV) (l:List (Nat×AV)):U4 (fun i=>some (i,1)) cs ((i,x)::l)=match x.parts with
  |some xs=>if xs.length=1∧i+1<=cs.length then U4 (fun i=>some (i,1)) (Yf cs i xs) l else none
  |none=>none:=by
 simp only[U4];cases x.parts<;>rfl
theorem Y2u (x:AV):List.replicate 9 x=[x,x,x,x,x,x,x,x,x]:=rfl
theorem Xxq (s:Sec):Xr Tryz.prog 202 [Qh s] [] (.agg ((Xwp s).map i64)) []:=by
 refine Xc 2 Tryz.func202 rfl fun n out _ _=> ?_;simp only[sn,Tryz.ntmps202,simprocAttr];repeat' (first|refine Vk fun K hK=> ?_|apply V0|apply Vs|with_reducible apply ab|((first|apply gE|apply gR);simp only[zA,simprocAttr, -List.reduceReplicate,Qh,Y6,Y2s,Y2t,Y2u])|exact Vn|(apply Vz;(first|refine Xu (.inr rfl) rfl rfl rfl (fun _ _=>rfl) ok279 (k:=n+1) (off:=0) rfl (Xb _ (by simp)) (X6 _ (Nat.le_refl _) 1) rfl ?_|refine Xu (.inr rfl) rfl rfl rfl (fun _ _=>rfl) ok279 (k:=m+1) (off:=0) rfl (Xb _ (by simp)) (X6 _ hm 1) rfl ?_)<;>first|rfl|exact AV.le.rfl _|(simp only[sL];done)|(unfold Xwp;first|(rw[if_pos (by simpa using hg)];exact .rfl _)|(rw[if_neg (by simpa using hg)];exact .rfl _))|skip)|(refine hK _ ?_;clear hK K)|refine Vt rfl ?_|refine Vf rfl ?_|refine Vi rfl (fun hg=> ?_) (fun hg=> ?_)|clear hK K)
def Xwq (s:Sec) (a:Nat):List Int:=if s.pt=0 then(if a=0 then[0,3,0] else if a=1 then[3,0,0] else[0,0,0]) else(if a=0 then[0,1,2] else if a=1 then[1,0,0] else[2,0,0])
theorem Xqa (s:Sec) {a:Nat} (ha:a<3):pick true 3 (List.drop (a*3) ((Xwp s).map i64))=some (.agg ((Xwq s a).map i64)):=by
 unfold Xwp Xwq;have:a=0∨a=1∨a=2:=by omega
 by_cases h:s.pt=0
 ·rw[if_pos h,if_pos h];rcases this with rfl|rfl|rfl<;>rfl
 ·rw[if_neg h,if_neg h];rcases this with rfl|rfl|rfl<;>rfl
theorem Xy4 (s:Sec) (a:Nat):(Xwq s a).length=3:=by unfold Xwq;repeat' split<;>try rfl
theorem Xpi (s:Sec) (a:Nat) {b:Nat} (hb:b<3):pick false 1 (List.drop b ((Xwq s a).map i64))=some (i64 ((Xwq s a).getD b 0)):=X0z 1 i64 _ b 0 (by rw[Xy4];exact hb)
theorem Xy5 (s:Sec) {a b:Nat} (ha:a<3) (hb:b<3):(((Xwq s a).getD b 0==0)=decide (Xuv s a b<0))∧(0<=Xuv s a b->((Xwq s a).getD b 0).tmod 3=Xuv s a b):=by
 have h1:a=0∨a=1∨a=2:=by omega
 have h2:b=0∨b=1∨b=2:=by omega
 unfold Xwq Xuv;by_cases h:s.pt=0
 ·rw[if_pos h,if_pos h];rcases h1 with rfl|rfl|rfl<;>rcases h2 with rfl|rfl|rfl<;>decide
 ·rw[if_neg h,if_neg h];rcases h1 with rfl|rfl|rfl<;>rcases h2 with rfl|rfl|rfl<;>decide
def Xoq (s:Sec) (a b:Int):Int:=if Qc s∧0<=Xuv s a b then Xuv s a b else 0
def Xpj (s:Sec) (a b:Int):Int:=if Qc s then(if Xuv s a b<0 then 2 else 0) else 8
theorem Xv1 (s:Sec) (a b:Int):Xr Tryz.prog 198 [Qh s,i64 a,i64 b] [] (.tup [i64 (Xoq s a b),i64 (Xpj s a b)]) []:=by
 cases hs:Qc s with
 |false=>
  have e1:Xoq s a b=0:=by simp [Xoq,hs]
  have e2:Xpj s a b=8:=by simp [Xpj,hs]
  rw[e1,e2];refine Xc 1 Tryz.func198 rfl fun n out _ _=> ?_;simp only[sn,Tryz.ntmps198,simprocAttr];have hg:=Nat.le_refl 0;repeat' (first|refine Vk fun K hK=> ?_|apply V0|apply Vs|with_reducible apply ab|((first|apply gE|apply gR|apply gS);simp only[zA,simprocAttr, -List.reduceReplicate,Qh,Y6,hs])|exact Vn|(apply Vz;refine Vp rfl rfl rfl (fun _ _=>rfl) ?_ ?_<;>first|rfl|skip)|(refine X3 (Di s) ?_)|((refine Vg (fun hg=> ?_) (fun hg=> ?_))<;>try simp only[nb] at hg)|(refine hK _ ?_;clear hK K)|refine Vt rfl ?_|refine Vf rfl ?_|refine Vi rfl (fun hg=> ?_) (fun hg=> ?_)|clear hK K)
 |true=>
  have cs:=Di s;rw[hs] at cs;by_cases hr:0<=a∧a<=2∧0<=b∧b<=2
  ·obtain⟨na,rfl⟩:=bj hr.1;obtain⟨nb,rfl⟩:=bj hr.2.2.1;have ha:na<3:=by omega
   have hb:nb<3:=by omega
   have ha':((na:Int)<3):=by omega
   have hb':((nb:Int)<3):=by omega
   have ha1:decide ((na:Int)<0)=false:=ak (by omega);have ha2:decide ((na:Int)>2)=false:=ak (by omega);have hb1:decide ((nb:Int)<0)=false:=ak (by omega);have hb2:decide ((nb:Int)>2)=false:=ak (by omega);have hr3:=fun(k:IntKind) (x:Int)=>X5a k x (b:=3) (by decide);obtain⟨q1,q2⟩:=Xy5 s ha hb;by_cases hl:Xuv s na nb<0
   ·have e1:Xoq s na nb=0:=by simp [Xoq,hs];omega
    have e2:Xpj s na nb=2:=by simp [Xpj,hs,hl]
    rw[ax hl] at q1;rw[e1,e2];refine Xc 1 Tryz.func198 rfl fun n out _ _=> ?_;simp only[sn,Tryz.ntmps198,simprocAttr];have hg:=Nat.le_refl 0;repeat' (first|refine Vk fun K hK=> ?_|apply V0|apply Vs|with_reducible apply ab|((first|apply gE|apply gR|apply gS);simp only[zA,simprocAttr, -List.reduceReplicate,Qh,Y6,ha',hb',ha1,ha2,hb1,hb2,Xqa s ha,Xpi s na hb,q1])|exact Vn|(apply Vz;refine Vp rfl rfl rfl (fun _ _=>rfl) ?_ ?_<;>first|rfl|skip)|(refine X3 (cs) ?_)|(refine X3 (Xxq s) ?_)|((refine Vg (fun hg=> ?_) (fun hg=> ?_))<;>try simp only[nb] at hg)|(refine hK _ ?_;clear hK K)|refine Vt rfl ?_|refine Vf rfl ?_|refine Vi rfl (fun hg=> ?_) (fun hg=> ?_)|clear hK K)
   ·have e1:Xoq s na nb=Xuv s na nb:=by simp [Xoq,hs];omega
    have e2:Xpj s na nb=0:=by simp [Xpj,hs,hl]
    rw[ak hl] at q1;have q3:=q2 (by omega);rw[e1,e2];refine Xc 1 Tryz.func198 rfl fun n out _ _=> ?_;simp only[sn,Tryz.ntmps198,simprocAttr];have hg:=Nat.le_refl 0;repeat' (first|refine Vk fun K hK=> ?_|apply V0|apply Vs|with_reducible apply ab|((first|apply gE|apply gR|apply gS);simp only[zA,simprocAttr, -List.reduceReplicate,Qh,Y6,ha',hb',ha1,ha2,hb1,hb2,Xqa s ha,Xpi s na hb,q1,hr3,q3])|exact Vn|(apply Vz;refine Vp rfl rfl rfl (fun _ _=>rfl) ?_ ?_<;>first|rfl|skip)|(refine X3 (cs) ?_)|(refine X3 (Xxq s) ?_)|((refine Vg (fun hg=> ?_) (fun hg=> ?_))<;>try simp only[nb] at hg)|(refine hK _ ?_;clear hK K)|refine Vt rfl ?_|refine Vf rfl ?_|refine Vi rfl (fun hg=> ?_) (fun hg=> ?_)|clear hK K)
  ·have hl:Xuv s a b<0:=by
    unfold Xuv;by_cases h0:s.pt=0
    ·rw[if_pos h0,if_neg (by omega)];decide
    ·rw[if_neg h0,if_neg (by omega),if_neg (by omega)];decide
   have e1:Xoq s a b=0:=by simp [Xoq,hs];omega
   have e2:Xpj s a b=2:=by simp [Xpj,hs,hl]
   rw[e1,e2];refine Xc 1 Tryz.func198 rfl fun n out _ _=> ?_;simp only[sn,Tryz.ntmps198,simprocAttr];have hg:=Nat.le_refl 0;repeat' (first|refine Vk fun K hK=> ?_|apply V0|apply Vs|with_reducible apply ab|((first|apply gE|apply gR|apply gS);simp only[zA,simprocAttr, -List.reduceReplicate,hg,Qh,Y6])|exact Vn|(apply Vz;refine Vp rfl rfl rfl (fun _ _=>rfl) ?_ ?_<;>first|rfl|skip)|(refine X3 (cs) ?_)|((refine Vg (fun hg=> ?_) (fun hg=> ?_))<;>try simp only[nb] at hg)|(refine hK _ ?_;clear hK K)|refine Vt rfl ?_|refine Vf rfl ?_|refine Vi rfl (fun hg=> ?_) (fun hg=> ?_)|clear hK K)
   all_goals (exfalso;simp at*;omega)
end Go.Proofs.YtdngdjbgmojcoaaGreat.Pln
