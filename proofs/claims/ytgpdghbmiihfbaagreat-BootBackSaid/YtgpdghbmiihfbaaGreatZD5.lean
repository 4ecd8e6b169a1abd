/- The layer of abstract values, joined. -/
import Derived.Test.YtgpdghbmiihfbaaGreatZP5
import Derived.Test.YtgpdghbmiihfbaaGreatZP46
import Derived.Test.YtgpdghbmiihfbaaGreatZQ5
import Derived.Test.YtgpdghbmiihfbaaGreatZP49
import Derived.Test.YtgpdghbmiihfbaaGreatZQ8
namespace Go.Proofs.YtgpdghbmiihfbaaGreat.Pln
set_option linter.all false
set_option maxHeartbeats 8000000
set_option maxRecDepth 4000
open Go Go.VS Tab
attribute [local irreducible] AWp Xp0 Pg X5c Qy Lt Tp FdT Eb
theorem Y8d (h:Hs) (hs:SmH h):Xr Tryz.prog 34 [hsA h] [] (hsA h) []:=by
 have k1:=Xds h.key (by have:=hs.key;omega);have k2:=Xds h.buf (by have:=hs.buf;omega);have p1:=Y59 h.plan hs.plan;have p2:=Y59 h.back hs.back;have p3:=Y59 h.next hs.next;have s1:=Yai h.st hs.st;simp only[plA,plC,stA,stC] at p1 p2 p3 s1;refine Xc 3 Tryz.func34 rfl fun n out _ _=> ?_;simp only[sn,Tryz.ntmps34,simprocAttr];repeat' (first|refine Vk fun K hK=> ?_|apply V0|refine Vd 2 [] [[],[0],[],[],[0],[],[],[2],[],[2]] [[],[],[],[],[],[],[],[2],[],[2]] (by kernel_rfl) (by decide) (by decide) (by kernel_rfl) ?_|refine Vd 3 [] [[],[0],[],[],[0],[],[],[0],[],[],[2],[],[2],[],[2]] [[],[],[],[],[],[],[],[],[],[],[2],[],[2],[],[2]] (by kernel_rfl) (by decide) (by decide) (by kernel_rfl) ?_|((first|apply gE|apply gR|apply gD|apply gF);simp only[zA,simprocAttr,hsA,hsC,X0,Y1g])|(apply Vz;(first|refine Xu (.inr rfl) rfl rfl rfl (fun _ _=>rfl) ok35 (k:=n+1) (off:=0) rfl (Xb _ (by simp)) (X6 _ (Nat.le_refl _) 1) rfl ?_|refine Xu (.inr rfl) rfl rfl rfl (fun _ _=>rfl) ok35 (k:=m+1) (off:=0) rfl (Xb _ (by simp)) (X6 _ hm 1) rfl ?_)<;>first|rfl|exact AV.le.rfl _|(simp only[sL,ti35,ad,hsA,hsC,X0,Y1g];done)|(exact AV.le.rfl _)|(simp only[sL,hsA,hsC,X0,Y1g];done)|rfl|skip)|(refine X3 (k1) ?_)|(refine X3 (k2) ?_)|(refine X3 (p1) ?_)|(refine X3 (p2) ?_)|(refine X3 (p3) ?_)|(refine X3 (s1) ?_)|(refine hK _ ?_;clear hK K))
def Y54 (h:Hs):Hs:=if h.halt then h else⟨h.key,h.plan,h.back,h.high,Xjm h.plan h.st,[],Aq,false⟩
theorem Yaq (a b:Hs) (ha:SmH a):Xr Tryz.prog 24 [hsA a,hsA b] [] (bool (Sy a.plan b.plan&&(Sy a.back b.back&&(Sy a.next b.next&&(a.high==b.high&&(a.halt==b.halt&&(Xqz a.st b.st&&(a.key==b.key&&a.buf==b.buf)))))))) []:=by
 have p1:=Xgf a.plan b.plan ha.plan;have p2:=Xgf a.back b.back ha.back;have p3:=Xgf a.next b.next ha.next;have s1:=Xyr a.st b.st ha.st;have k1:=Xl7 a.key b.key;have k2:=Xl7 a.buf b.buf;simp only[plA,plC,stA,stC] at p1 p2 p3 s1;generalize Sy a.plan b.plan=A1 at*;generalize Sy a.back b.back=A2 at*;generalize Sy a.next b.next=A3 at*;generalize Xqz a.st b.st=A4 at*;generalize (a.key==b.key)=A5 at*;generalize (a.buf==b.buf)=A6 at*;refine Xc 2 Tryz.func24 rfl fun n out _ _=> ?_;simp only[sn,Tryz.ntmps24,simprocAttr];have hg:=Nat.le_refl 0;repeat' (first|refine Vk fun K hK=> ?_|apply V0|((first|apply gE|apply gR|apply gS);simp only[zA,simprocAttr,hg,hsA,hsC])|(apply Vz;refine Vo rfl rfl rfl (fun _ _=>rfl) ?_<;>first|rfl|(simp only[g_0,g_s];refine congrArg VS.bool ?_;simp_all;done)|skip)|(refine X3 (p1) ?_)|(refine X3 (p2) ?_)|(refine X3 (p3) ?_)|(refine X3 (s1) ?_)|(refine X3 (k1) ?_)|(refine X3 (k2) ?_)|((refine Vg (fun hg=> ?_) (fun hg=> ?_))<;>try simp only[nb] at hg)|(refine hK _ ?_;clear hK K))
theorem Y8e (a b:Hs) (ha:SmH a):Xr Tryz.prog 27 [hsA a,hsA b] [] (bool (Sy a.plan b.plan&&(Sy a.back b.back&&(a.high==b.high&&(a.halt==b.halt&&Xzl a.st b.st))))) []:=by
 have p1:=Xgf a.plan b.plan ha.plan;have p2:=Xgf a.back b.back ha.back;have s1:=Y3d a.st b.st ha.st;simp only[plA,plC,stA,stC] at p1 p2 s1;generalize Sy a.plan b.plan=A1 at*;generalize Sy a.back b.back=A2 at*;generalize Xzl a.st b.st=A4 at*;refine Xc 2 Tryz.func27 rfl fun n out _ _=> ?_;simp only[sn,Tryz.ntmps27,simprocAttr];have hg:=Nat.le_refl 0;repeat' (first|refine Vk fun K hK=> ?_|apply V0|((first|apply gE|apply gR|apply gS);simp only[zA,simprocAttr,hg,hsA,hsC])|(apply Vz;refine Vo rfl rfl rfl (fun _ _=>rfl) ?_<;>first|rfl|(simp only[g_0,g_s];refine congrArg VS.bool ?_;simp_all;done)|skip)|(refine X3 (p1) ?_)|(refine X3 (p2) ?_)|(refine X3 (s1) ?_)|((refine Vg (fun hg=> ?_) (fun hg=> ?_))<;>try simp only[nb] at hg)|(refine hK _ ?_;clear hK K))
theorem Y5a {h:Hs} (hx:SmX h) (hb:Y6l h=true):SmH h:=by
 have s0:∀p:Pl,Xp3 p=true->Sm p:=fun p h=>by rw[Xqe.1 h];exact Xob
 have s1:∀p:Pl,(Xo3 p==0)=true->Sm p:=fun p h=>X20 (Xoa (by simpa using h)).1;unfold Y6l at hb;cases hh:h.halt with
 |true=>
  rw[hh] at hb;simp only[if_true,Yb5,ag] at hb;exact⟨s0 _ hb.2.1,s0 _ hb.2.2.1,s0 _ hb.2.2.2.1,hx.st,hx.key,hx.buf⟩
 |false=>
  rw[hh] at hb;simp only[bf,if_false,Y6h,Xy6,Yb4,ag,c9] at hb;obtain⟨_,_,b1,_,_,_,_,b2,b3⟩:=hb;exact⟨s1 _ b1,b2.elim (s0 _) fun h=>s1 _ h.1,b3.elim (s0 _) (s1 _),hx.st,hx.key,hx.buf⟩
theorem Y7h (h:Hs) (hx:SmX h) (hb:Y6l h=true):Xr Tryz.prog 23 [hsA h] [] (.tup [hsA (Y54 h),i64 0]) []:=by
 have hs:=Y5a hx hb;have c1:=Y4t h hx;have c2:=Y8d h hs;rw[show Yah h=0 from if_pos hb] at c1;unfold Y54;cases hh:h.halt with
 |true=>
  simp only[if_true];simp only[hsA,hsC,hh] at c1 c2;refine Xc 4 Tryz.func23 rfl fun n out _ _=> ?_;simp only[sn,Tryz.ntmps23,simprocAttr];repeat' (first|refine Vk fun K hK=> ?_|apply V0|apply Vs|((first|apply gE|apply gR);simp only[zA,simprocAttr,hsA,hsC,X0,hh,Y1g])|(apply Vz;(first|refine Xp (.inr rfl) rfl rfl rfl (fun _ _=>rfl) ok35 (k:=n+1) (off:=0) rfl (Xb _ (by simp)) (X6 _ (Nat.le_refl _) 1) rfl rfl ?_|refine Xp (.inr rfl) rfl rfl rfl (fun _ _=>rfl) ok35 (k:=m+1) (off:=0) rfl (Xb _ (by simp)) (X6 _ hm 1) rfl rfl ?_)<;>first|rfl|exact AV.le.rfl _|(simp only[sL,hsA,hsC,hh];done)|(exact AV.le.rfl _)|(simp only[sL,hsA,hsC,X0,hh,Int.reduceBNe,Y1g];done)|rfl|skip)|(refine X3 (c1) ?_)|(refine X3 (c2) ?_)|(refine hK _ ?_;clear hK K)|refine Vt rfl ?_|refine Vf rfl ?_)
 |false=>
  simp only[bf,if_false];have hE:Xrz h.plan h.st=0:=by
   unfold Y6l at hb;rw[hh] at hb;simp only[bf,if_false,Y6h,ag,cv] at hb;exact hb.2.2.2.2.2.2.1
  have c3:=Xyu h.plan h.st hs.plan hs.st hE;simp only[hsA,hsC,hh,Aq,ad,Wb] at c1 c2⊢;simp only[plA,plC,stA,stC] at c3;refine Xc 4 Tryz.func23 rfl fun n out _ _=> ?_;simp only[sn,Tryz.ntmps23,simprocAttr];repeat' (first|refine Vk fun K hK=> ?_|apply V0|apply Vs|((first|apply gE|apply gR);simp only[zA,simprocAttr,X0,Y1g])|(apply Vz;(first|refine Xp (.inr rfl) rfl rfl rfl (fun _ _=>rfl) ok35 (k:=n+1) (off:=0) rfl (Xb _ (by simp)) (X6 _ (Nat.le_refl _) 1) rfl rfl ?_|refine Xp (.inr rfl) rfl rfl rfl (fun _ _=>rfl) ok35 (k:=m+1) (off:=0) rfl (Xb _ (by simp)) (X6 _ hm 1) rfl rfl ?_)<;>first|rfl|exact AV.le.rfl _|(simp only[sL];done)|(exact AV.le.rfl _)|(simp only[sL,hsA,hsC,X0,hh,Int.reduceBNe,Y1g];done)|rfl|skip)|(refine X3 (c1) ?_)|(refine X3 (c2) ?_)|(refine X3 (c3) ?_)|(refine hK _ ?_;clear hK K)|refine Vf rfl ?_)
end Go.Proofs.YtgpdghbmiihfbaaGreat.Pln
namespace Go.Proofs.YtgpdghbmiihfbaaGreat
set_option linter.all false
set_option maxHeartbeats 1000000
set_option maxRecDepth 4000
open Go Go.VS Tab
theorem Xua {α β:Type} (g:α->β) (l:List α) (i:Nat) (h:i<l.length):(l.take i).map g++[g l[i]]=(l.take (i+1)).map g:=by
 rw[ai h,cu];rfl
theorem Xm6 (k:Nat) (l:List Wr) (fid:FuncId) (caps:List AV) (val:Wr->AV) (g:Wr->List AV) (hb:Xd Tryz.prog fid=True) (hl:l.length<=1000000)
  (hg:∀x,(val x).parts=some (g x)) (hgl:∀x,(g x).length=1) (hp:∀x,x∈l->Xr Tryz.prog fid (wrA x::caps) [] (val x) []):
  Xr Tryz.prog 70 [.sl 2 (l.map wrC) .sh,.fn (.func fid) caps] [(k,none)] (.sl 1 (l.map g) (.own k)) [(k,.row 22 1 l.length)]:=by
 refine Xc 1 Tryz.func70 rfl fun n out _ _=> ?_;simp only[sn,Tryz.ntmps70,simprocAttr];rename_i hneeds hgv;obtain⟨hk,_⟩:=hneeds;obtain⟨hkn,_⟩:=hgv;refine Vy fun K hK=> ?_;simp only[zA,simprocAttr]
 (refine hK _ ?_;clear hK K)
 refine Vk fun KB hKB=> ?_;refine Vy fun K hK=> ?_;simp only[zA,simprocAttr]
 (refine hK _ ?_;clear hK K)
 refine Yy (X3x (k:=k) 22 1 (by rw[X7 hkn];trivial) (by rw[X8 hkn];exact hk)) ?_;rw[X79 hkn];apply V5;refine Xl (fun m (i:Nat)=>tp [6] (tr 10 10 [(9,i64 (i:Int)),(4,.sl 1 ((l.take i).map g) (.own k))])) (fun m i=>[none]) (fun i=>Xw out k (.row 22 1 i)) (fun i=>i<=l.length) (fun i=>l.length - i) 0 (ba _) ?_ fun m i hm hi=> ?_
 ·refine X2 ?_ ?_ (by first|rfl|(simp only[List.take_zero,ad];rfl)|simp only[List.take_zero,ad]) rfl rfl rfl<;>simp only[sL,ad]
 simp only[pt];refine Vy fun K hK=> ?_;simp only[zA,simprocAttr]
 (refine hK _ ?_;clear hK K)
 refine Vk fun KC hKC=> ?_;refine Uz rfl (fun ht=>Xhj (hKC _ ?_)) (fun hf=>Qi (id ?_));rotate_left
 ·simp only[Qd,Z4,if_true];refine hKB _ ?_;clear hKB KB hKC KC;have h_ib:i=l.length:=by have:=bh hf;omega
  subst h_ib;rw[bm];apply Vz;exact Qv (.inr rfl) rfl rfl rfl (fun _ _=>rfl) rfl
 clear hKC KC;have hlt:i<l.length:=by have:=au ht;omega
 refine Vk fun KC hKC=>Xe ?_;refine Vy fun K hK=> ?_;simp only[zA,simprocAttr,Xi hm,hlt,Xg wrC l i [] hlt,X0,wrC]
 (refine hK _ ?_;clear hK K)
 have lit:∀(σ:AState) (K:AV->List (Nat×Res)->Prop),X1 tab σ K none 36 1 [(0,val l[i])]=K (.sl 1 [g l[i]] .full) []:=fun σ K=>Yk (T:=tab) (ti:=ti36) (te:=ti22) rfl rfl rfl (by decide) (by decide) (hg _) (hgl _);refine Xn Xj [] ?_;simp only[zB,simprocAttr,Xi hm,hb];refine X3 (hp _ (ak hlt)) ?_;simp only[zB,simprocAttr,lit,X8 hkn,X7 hkn,Cz hkn,Xt,Jp,aj,Nat.min_eq_left hi,show i+1<=9223372036854775807 by omega,Xua g l i hlt]
 repeat refine aa (by omega) ?_
 refine hKC _ ?_;clear hKC KC;refine Xn Xj [] ?_;simp only[zA,simprocAttr,Yl (n:=i) 1 1 rfl (by omega)];refine⟨i+1,by omega,by omega,?_⟩;refine Xx [false] ?_ ?_<;>intro n_<;>simp only[sM]
theorem Xm7 (k:Nat) (l:List Wr) (fid:FuncId) (caps:List AV) (val:Wr->AV) (g:Wr->List AV) (hb:Xd Tryz.prog fid=True) (hl:l.length<=1000000)
  (hg:∀x,(val x).parts=some (g x)) (hgl:∀x,(g x).length=1) (hp:∀x,x∈l->Xr Tryz.prog fid (wrA x::caps) [] (val x) []):
  Xr Tryz.prog 74 [.sl 2 (l.map wrC) .sh,.fn (.func fid) caps] [(k,none)] (.sl 1 (l.map g) (.own k)) [(k,.row 3 1 l.length)]:=by
 refine Xc 1 Tryz.func74 rfl fun n out _ _=> ?_;simp only[sn,Tryz.ntmps74,simprocAttr];rename_i hneeds hgv;obtain⟨hk,_⟩:=hneeds;obtain⟨hkn,_⟩:=hgv;refine Vy fun K hK=> ?_;simp only[zA,simprocAttr]
 (refine hK _ ?_;clear hK K)
 refine Vk fun KB hKB=> ?_;refine Vy fun K hK=> ?_;simp only[zA,simprocAttr]
 (refine hK _ ?_;clear hK K)
 refine Yy (X3x (k:=k) 3 1 (by rw[X7 hkn];trivial) (by rw[X8 hkn];exact hk)) ?_;rw[X79 hkn];apply V5;refine Xl (fun m (i:Nat)=>tp [6] (tr 10 10 [(9,i64 (i:Int)),(4,.sl 1 ((l.take i).map g) (.own k))])) (fun m i=>[none]) (fun i=>Xw out k (.row 3 1 i)) (fun i=>i<=l.length) (fun i=>l.length - i) 0 (ba _) ?_ fun m i hm hi=> ?_
 ·refine X2 ?_ ?_ (by first|rfl|(simp only[List.take_zero,ad];rfl)|simp only[List.take_zero,ad]) rfl rfl rfl<;>simp only[sL,ad]
 simp only[pt];refine Vy fun K hK=> ?_;simp only[zA,simprocAttr]
 (refine hK _ ?_;clear hK K)
 refine Vk fun KC hKC=> ?_;refine Uz rfl (fun ht=>Xhj (hKC _ ?_)) (fun hf=>Qi (id ?_));rotate_left
 ·simp only[Qd,Z4,if_true];refine hKB _ ?_;clear hKB KB hKC KC;have h_ib:i=l.length:=by have:=bh hf;omega
  subst h_ib;rw[bm];apply Vz;exact Qv (.inr rfl) rfl rfl rfl (fun _ _=>rfl) rfl
 clear hKC KC;have hlt:i<l.length:=by have:=au ht;omega
 refine Vk fun KC hKC=>Xe ?_;refine Vy fun K hK=> ?_;simp only[zA,simprocAttr,Xi hm,hlt,Xg wrC l i [] hlt,X0,wrC]
 (refine hK _ ?_;clear hK K)
 have lit:∀(σ:AState) (K:AV->List (Nat×Res)->Prop),X1 tab σ K none 99 1 [(0,val l[i])]=K (.sl 1 [g l[i]] .full) []:=fun σ K=>Yk (T:=tab) (ti:=ti99) (te:=ti3) rfl rfl rfl (by decide) (by decide) (hg _) (hgl _);refine Xn Xj [] ?_;simp only[zB,simprocAttr,Xi hm,hb];refine X3 (hp _ (ak hlt)) ?_;simp only[zB,simprocAttr,lit,X8 hkn,X7 hkn,Cz hkn,Xt,Jp,aj,Nat.min_eq_left hi,show i+1<=9223372036854775807 by omega,Xua g l i hlt]
 repeat refine aa (by omega) ?_
 refine hKC _ ?_;clear hKC KC;refine Xn Xj [] ?_;simp only[zA,simprocAttr,Yl (n:=i) 1 1 rfl (by omega)];refine⟨i+1,by omega,by omega,?_⟩;refine Xx [false] ?_ ?_<;>intro n_<;>simp only[sM]
theorem Xkc (k:Nat) (l:List Wr) (fid:FuncId) (caps:List AV) (val:Wr->AV) (g:Wr->List AV) (hb:Xd Tryz.prog fid=True) (hl:l.length<=1000000)
  (hg:∀x,(val x).parts=some (g x)) (hgl:∀x,(g x).length=2) (hp:∀x,x∈l->Xr Tryz.prog fid (wrA x::caps) [] (val x) []):
  Xr Tryz.prog 93 [.sl 2 (l.map wrC) .sh,.fn (.func fid) caps] [(k,none)] (.sl 2 (l.map g) (.own k)) [(k,.row 76 2 l.length)]:=by
 refine Xc 1 Tryz.func93 rfl fun n out _ _=> ?_;simp only[sn,Tryz.ntmps93,simprocAttr];rename_i hneeds hgv;obtain⟨hk,_⟩:=hneeds;obtain⟨hkn,_⟩:=hgv;refine Vy fun K hK=> ?_;simp only[zA,simprocAttr]
 (refine hK _ ?_;clear hK K)
 refine Vk fun KB hKB=> ?_;refine Vy fun K hK=> ?_;simp only[zA,simprocAttr]
 (refine hK _ ?_;clear hK K)
 refine Yy (X3x (k:=k) 76 2 (by rw[X7 hkn];trivial) (by rw[X8 hkn];exact hk)) ?_;rw[X79 hkn];apply V5;refine Xl (fun m (i:Nat)=>tp [6] (tr 10 10 [(9,i64 (i:Int)),(4,.sl 2 ((l.take i).map g) (.own k))])) (fun m i=>[none]) (fun i=>Xw out k (.row 76 2 i)) (fun i=>i<=l.length) (fun i=>l.length - i) 0 (ba _) ?_ fun m i hm hi=> ?_
 ·refine X2 ?_ ?_ (by first|rfl|(simp only[List.take_zero,ad];rfl)|simp only[List.take_zero,ad]) rfl rfl rfl<;>simp only[sL,ad]
 simp only[pt];refine Vy fun K hK=> ?_;simp only[zA,simprocAttr]
 (refine hK _ ?_;clear hK K)
 refine Vk fun KC hKC=> ?_;refine Uz rfl (fun ht=>Xhj (hKC _ ?_)) (fun hf=>Qi (id ?_));rotate_left
 ·simp only[Qd,Z4,if_true];refine hKB _ ?_;clear hKB KB hKC KC;have h_ib:i=l.length:=by have:=bh hf;omega
  subst h_ib;rw[bm];apply Vz;exact Qv (.inr rfl) rfl rfl rfl (fun _ _=>rfl) rfl
 clear hKC KC;have hlt:i<l.length:=by have:=au ht;omega
 refine Vk fun KC hKC=>Xe ?_;refine Vy fun K hK=> ?_;simp only[zA,simprocAttr,Xi hm,hlt,Xg wrC l i [] hlt,X0,wrC]
 (refine hK _ ?_;clear hK K)
 have lit:∀(σ:AState) (K:AV->List (Nat×Res)->Prop),X1 tab σ K none 37 1 [(0,val l[i])]=K (.sl 2 [g l[i]] .full) []:=fun σ K=>Yk (T:=tab) (ti:=ti37) (te:=ti76) rfl rfl rfl (by decide) (by decide) (hg _) (hgl _);refine Xn Xj [] ?_;simp only[zB,simprocAttr,Xi hm,hb];refine X3 (hp _ (ak hlt)) ?_;simp only[zB,simprocAttr,lit,X8 hkn,X7 hkn,Cz hkn,Xt,Jp,aj,Nat.min_eq_left hi,show i+1<=9223372036854775807 by omega,Xua g l i hlt]
 repeat refine aa (by omega) ?_
 refine hKC _ ?_;clear hKC KC;refine Xn Xj [] ?_;simp only[zA,simprocAttr,Yl (n:=i) 1 1 rfl (by omega)];refine⟨i+1,by omega,by omega,?_⟩;refine Xx [false] ?_ ?_<;>intro n_<;>simp only[sM]
def Fv {α β:Type} (p:α->β->Bool):List α->List β->Bool
 |[],[]=>true
 |x::l,y::m=>p x y&&Fv p l m
 | _,_=>false
theorem Rj {α β:Type} {p:α->β->Bool}:∀{l:List α} {m:List β},l.length≠m.length->Fv p l m=false
 |[],[],h=>(h rfl).elim
 |x::l,y::m,h=>by rw[Fv,Rj (by simpa using h),fy]
 |[],_:: _,_=>rfl
 | _:: _,[],_=>rfl
theorem Xo4 {α β:Type} {p:α->β->Bool}:∀{l:List α} {m:List β},l.length=m.length->(∀i (hi:i<l.length) (hi':i<m.length),p l[i] m[i]=true)->Fv p l m=true
 |[],[],_,_=>rfl
 |x::l,y::m,h,hp=>by
  rw[Fv,Xo4 (by simpa using h) fun i hi hi'=>hp (i+1) (by simpa using hi) (by simpa using hi'),ef];exact hp 0 (by simp) (by simp)
 |[],_:: _,h,_=>by simp at h
 | _:: _,[],h,_=>by simp at h
theorem Xo5 {α β:Type} {p:α->β->Bool}:∀{l:List α} {m:List β} {i:Nat} (hi:i<l.length) (hi':i<m.length),p l[i] m[i]=false->Fv p l m=false
 |x::l,y::m,0,_,_,h=>by
  have h':p x y=false:=h;simp [Fv,h']
 |x::l,y::m,i+1,hi,hi',h=>by
  have h':=Xo5 (p:=p) (l:=l) (m:=m) (i:=i) (by simpa using hi) (by simpa using hi') h;simp [Fv,h']
 |[],_,_,hi,_,_=>by simp at hi
 | _:: _,[],_,_,hi',_=>by simp at hi'
theorem Xjy (l m':List (Wr)) (fid:FuncId) (caps:List AV) (p:Wr->Wr->Bool) (hb:Xd Tryz.prog fid=True) (hl:l.length<=1000000000)
  (hp:∀x,x∈l->∀y,y∈m'->Xr Tryz.prog fid (wrA x::wrA y::caps) [] (bool (p x y)) []):
  Xr Tryz.prog 59 [.sl 2 (l.map wrC) .sh,.sl 2 (m'.map wrC) .sh,.fn (.func fid) caps] [] (bool (Fv p l m')) []:=by
 refine Xc 2 Tryz.func59 rfl fun n out _ _=> ?_;simp only[sn,Tryz.ntmps59,simprocAttr];refine Vy fun K hK=> ?_;simp only[zA,simprocAttr]
 (refine hK _ ?_;clear hK K)
 refine Vk fun KA hKA=> ?_;refine Vy fun K hK=> ?_;simp only[zA,simprocAttr]
 (refine hK _ ?_;clear hK K)
 refine Uz rfl (fun ht=> ?_) (fun hf=>Xhj (hKA _ ?_))
 ·have e:=Rj (p:=p) (l:=l) (m:=m') (by intro h;rw[h] at ht;simp at ht);rw[e];refine Vy fun K hK=> ?_;simp only[zA,simprocAttr]
  (refine hK _ ?_;clear hK K)
  apply Vz;exact Qv (.inr rfl) rfl rfl rfl (fun _ _=>rfl) rfl
 clear hKA KA;have hlen:l.length=m'.length:=by
  have h1:((l.length:Int) !=(m'.length:Int))=false:=hf;simp at h1;omega
 refine Vk fun KB hKB=> ?_;refine Vy fun K hK=> ?_;simp only[zA,simprocAttr]
 (refine hK _ ?_;clear hK K)
 apply V5;refine Xpw (l.length) (fun i=>(∀j (hj:j<l.length) (hj':j<m'.length),j<i->p l[j] m'[j]=true)) (fun m i=>tr 18 14 (tr 6 4 [(17,i64 (i:Int))])) (fun m i=>[none,none]) (by intros;omega) ?_ fun m i hm hi=> ?_
 ·refine La rfl ?_ ?_<;>simp only[sL]
 obtain⟨hi,hq⟩:=hi;simp only[pt];refine Vy fun K hK=> ?_;simp only[zA,simprocAttr]
 (refine hK _ ?_;clear hK K)
 refine Vk fun KC hKC=> ?_;refine Uz rfl (fun ht=>Xhj (hKC _ ?_)) (fun hf=>Qi (id ?_));rotate_left
 ·simp only[Qd,Z4,if_true];refine hKB _ ?_;clear hKB KB hKC KC;have h_ib:i=l.length:=by have:=bh hf;omega
  subst h_ib;have e:=Xo4 (p:=p) hlen fun i hi hi'=>hq i hi hi' hi;rw[e];refine Vy fun K hK=> ?_;simp only[zA,simprocAttr]
  (refine hK _ ?_;clear hK K)
  apply Vz;exact Qv (.inr rfl) rfl rfl rfl (fun _ _=>rfl) rfl
 clear hKC KC;have hlt:i<l.length:=by have:=au ht;omega
 refine Vk fun KC hKC=>Xe ?_;have hlt':i<m'.length:=by omega
 refine Vy fun K hK=> ?_;simp only[zA,simprocAttr,Xi hm,hlt,Xg wrC l i [] hlt,X0,wrC]
 (refine hK _ ?_;clear hK K)
 refine Vy fun K hK=> ?_;simp only[zA,simprocAttr,Xi hm,hlt',Xg wrC m' i [] hlt',X0,wrC]
 (refine hK _ ?_;clear hK K)
 refine Vy fun K hK=> ?_;simp only[zA,simprocAttr,Xi hm,hb]
 skip
 refine X3 (hp _ (ak hlt) _ (ak hlt')) ?_;simp only[zA,simprocAttr]
 (refine hK _ ?_;clear hK K)
 refine Uz rfl (fun ht=> ?_) (fun hf=>Xhj ?_)
 ·have e:=Xo5 hlt hlt' (by simpa using ht);refine Vy fun K hK=> ?_;simp only[zA,simprocAttr]
  (refine hK _ ?_;clear hK K)
  rw[<- e];apply Vz;exact Qv (.inr rfl) rfl rfl rfl (fun _ _=>rfl) rfl
 repeat refine aa (by omega) ?_
 refine hKC _ ?_;clear hKC KC;refine Xn Xj [] ?_;simp only[zA,simprocAttr,Yl (n:=i) 1 1 rfl (by omega)];refine⟨i+1,⟨by omega,?_⟩,by omega,?_⟩
 ·intro j hj hj' hji;by_cases h:j=i
  ·subst h;simpa using hf
  ·exact hq j hj hj' (by omega)
 refine Xx [false,false] ?_ ?_<;>intro n_<;>simp only[sM]
theorem Xjz (l m':List (List UInt8)) (fid:FuncId) (caps:List AV) (p:List UInt8->List UInt8->Bool) (hb:Xd Tryz.prog fid=True) (hl:l.length<=1000000000)
  (hp:∀x,x∈l->∀y,y∈m'->Xr Tryz.prog fid (bs x::bs y::caps) [] (bool (p x y)) []):
  Xr Tryz.prog 60 [.sl 1 (l.map secC) .sh,.sl 1 (m'.map secC) .sh,.fn (.func fid) caps] [] (bool (Fv p l m')) []:=by
 refine Xc 0 Tryz.func60 rfl fun n out _ _=> ?_;simp only[sn,Tryz.ntmps60,simprocAttr];refine Vy fun K hK=> ?_;simp only[zA,simprocAttr]
 (refine hK _ ?_;clear hK K)
 refine Vk fun KA hKA=> ?_;refine Vy fun K hK=> ?_;simp only[zA,simprocAttr]
 (refine hK _ ?_;clear hK K)
 refine Uz rfl (fun ht=> ?_) (fun hf=>Xhj (hKA _ ?_))
 ·have e:=Rj (p:=p) (l:=l) (m:=m') (by intro h;rw[h] at ht;simp at ht);rw[e];refine Vy fun K hK=> ?_;simp only[zA,simprocAttr]
  (refine hK _ ?_;clear hK K)
  apply Vz;exact Qv (.inr rfl) rfl rfl rfl (fun _ _=>rfl) rfl
 clear hKA KA;have hlen:l.length=m'.length:=by
  have h1:((l.length:Int) !=(m'.length:Int))=false:=hf;simp at h1;omega
 refine Vk fun KB hKB=> ?_;refine Vy fun K hK=> ?_;simp only[zA,simprocAttr]
 (refine hK _ ?_;clear hK K)
 apply V5;refine Xse (l.length) (fun i=>(∀j (hj:j<l.length) (hj':j<m'.length),j<i->p l[j] m'[j]=true)) (fun i=>tr 18 14 (tr 6 4 [(17,i64 (i:Int))])) (fun i=>[]) (by intros;omega) ?_ fun i hi=> ?_
 ·refine La rfl ?_ ?_<;>simp only[sL]
 obtain⟨hi,hq⟩:=hi;simp only[pt];refine Vy fun K hK=> ?_;simp only[zA,simprocAttr]
 (refine hK _ ?_;clear hK K)
 refine Vk fun KC hKC=> ?_;refine Uz rfl (fun ht=>Xhj (hKC _ ?_)) (fun hf=>Qi (id ?_));rotate_left
 ·simp only[Qd,Z4,if_true];refine hKB _ ?_;clear hKB KB hKC KC;have h_ib:i=l.length:=by have:=bh hf;omega
  subst h_ib;have e:=Xo4 (p:=p) hlen fun i hi hi'=>hq i hi hi' hi;rw[e];refine Vy fun K hK=> ?_;simp only[zA,simprocAttr]
  (refine hK _ ?_;clear hK K)
  apply Vz;exact Qv (.inr rfl) rfl rfl rfl (fun _ _=>rfl) rfl
 clear hKC KC;have hlt:i<l.length:=by have:=au ht;omega
 refine Vk fun KC hKC=>Xe ?_;have hlt':i<m'.length:=by omega
 refine Vy fun K hK=> ?_;simp only[zA,simprocAttr,hlt,Xg secC l i [] hlt,secC]
 (refine hK _ ?_;clear hK K)
 refine Vy fun K hK=> ?_;simp only[zA,simprocAttr,hlt',Xg secC m' i [] hlt',secC]
 (refine hK _ ?_;clear hK K)
 refine Vy fun K hK=> ?_;simp only[zA,simprocAttr,hb]
 skip
 refine X3 (hp _ (ak hlt) _ (ak hlt')) ?_;simp only[zA,simprocAttr]
 (refine hK _ ?_;clear hK K)
 refine Uz rfl (fun ht=> ?_) (fun hf=>Xhj ?_)
 ·have e:=Xo5 hlt hlt' (by simpa using ht);refine Vy fun K hK=> ?_;simp only[zA,simprocAttr]
  (refine hK _ ?_;clear hK K)
  rw[<- e];apply Vz;exact Qv (.inr rfl) rfl rfl rfl (fun _ _=>rfl) rfl
 repeat refine aa (by omega) ?_
 refine hKC _ ?_;clear hKC KC;refine Xn Xj [] ?_;simp only[zA,simprocAttr,Yl (n:=i) 1 1 rfl (by omega)];refine⟨i+1,⟨by omega,?_⟩,by omega,?_⟩
 ·intro j hj hj' hji;by_cases h:j=i
  ·subst h;simpa using hf
  ·exact hq j hj hj' (by omega)
 refine La rfl ?_ ?_<;>simp only[sL]
theorem Xna (x y:Wr):Xr Tryz.prog 58 [wrA x,wrA y] [] (bool (x.at'==y.at'&&x.data==y.data)) []:=by
 refine Xc 2 Tryz.func58 rfl fun n out _ _=> ?_;simp only[sn,Tryz.ntmps58,simprocAttr];refine Vy fun K hK=> ?_;simp only[zA,simprocAttr,wrA,wrC]
 (refine hK _ ?_;clear hK K)
 by_cases h:x.at'=y.at'
 ·have e:(x.at'==y.at')=true:=by simp [h]
  rw[e,cy];refine Vy fun K hK=> ?_;simp only[zA,simprocAttr,e]
  skip
  refine X3 (Xl7 _ _) ?_;simp only[zA,simprocAttr]
  (refine hK _ ?_;clear hK K)
  apply Vz;exact Qv (.inr rfl) rfl rfl rfl (fun _ _=>rfl) rfl
 ·have e:(x.at'==y.at')=false:=by simp [h]
  rw[e,dh];refine Vy fun K hK=> ?_;simp only[zA,simprocAttr,e]
  (refine hK _ ?_;clear hK K)
  apply Vz;exact Qv (.inr rfl) rfl rfl rfl (fun _ _=>rfl) rfl
def Xk0 (a b:Dsk):Bool:=Fv (fun x y=>x.at'==y.at'&&x.data==y.data) a.waits b.waits&&Fv (fun x y=>x==y) a.sectors b.sectors
theorem Xe9 (a b:Dsk) (h1:a.waits.length<=1000000) (h2:a.sectors.length<=1000000):Xr Tryz.prog 25 [Y3p a,Y3p b] [] (bool (Xk0 a b)) []:=by
 refine Xc 2 Tryz.func25 rfl fun n out _ _=> ?_;simp only[sn,Tryz.ntmps25,simprocAttr];refine Vy fun K hK=> ?_;simp only[zA,simprocAttr,Y3p,Xha]
 (refine hK _ ?_;clear hK K)
 refine Vy fun K hK=> ?_;simp only[zA,simprocAttr]
 (refine hK _ ?_;clear hK K)
 refine Vy fun K hK=> ?_;simp only[zA,simprocAttr]
 skip
 refine X3 (Xjy a.waits b.waits _ [] (fun x y=>x.at'==y.at'&&x.data==y.data) (hb0 _ (by decide) (by decide)) (by omega) fun x _ y _=>Xna x y) ?_;simp only[zA,simprocAttr];cases hw:Fv (fun x y:Wr=>x.at'==y.at'&&x.data==y.data) a.waits b.waits with
 |false=>
  have e:Xk0 a b=false:=by unfold Xk0;rw[hw];rfl
  simp only[zA,simprocAttr]
  (refine hK _ ?_;clear hK K)
  rw[e];apply Vz;exact Qv (.inr rfl) rfl rfl rfl (fun _ _=>rfl) rfl
 |true=>
  have e:Xk0 a b=Fv (fun x y=>x==y) a.sectors b.sectors:=by unfold Xk0;rw[hw];rfl
  simp only[zA,simprocAttr];refine X3 (Xjz a.sectors b.sectors _ [] (fun x y=>x==y) (hb0 _ (by decide) (by decide)) (by omega) fun x _ y _=>Xl7 x y) ?_;simp only[zA,simprocAttr]
  (refine hK _ ?_;clear hK K)
  rw[e];apply Vz;exact Qv (.inr rfl) rfl rfl rfl (fun _ _=>rfl) rfl
theorem Xl9 (k:Nat) (l:List (List UInt8)) (fid:FuncId) (caps:List AV) (val:List UInt8->AV) (g:List UInt8->List AV) (hb:Xd Tryz.prog fid=True) (hl:l.length<=1000000)
  (hg:∀x,(val x).parts=some (g x)) (hgl:∀x,(g x).length=1) (hp:∀x,x∈l->Xr Tryz.prog fid (bs x::caps) [] (val x) []):
  Xr Tryz.prog 92 [.sl 1 (l.map secC) .sh,.fn (.func fid) caps] [(k,none)] (.sl 1 (l.map g) (.own k)) [(k,.row 22 1 l.length)]:=by
 refine Xc 0 Tryz.func92 rfl fun n out _ _=> ?_;simp only[sn,Tryz.ntmps92,simprocAttr];rename_i hneeds hgv;obtain⟨hk,_⟩:=hneeds;obtain⟨hkn,_⟩:=hgv;refine Vy fun K hK=> ?_;simp only[zA,simprocAttr]
 (refine hK _ ?_;clear hK K)
 refine Vk fun KB hKB=> ?_;refine Vy fun K hK=> ?_;simp only[zA,simprocAttr]
 (refine hK _ ?_;clear hK K)
 refine Yy (X3x (k:=k) 22 1 (by rw[X7 hkn];trivial) (by rw[X8 hkn];exact hk)) ?_;rw[X79 hkn];apply V5;refine Xz (fun i:Nat=>tp [6] (tr 10 10 [(9,i64 (i:Int)),(4,.sl 1 ((l.take i).map g) (.own k))])) (fun i=>[]) (fun i=>Xw out k (.row 22 1 i)) (fun i=>i<=l.length) (fun i=>l.length - i) 0 (ba _) ?_ fun i hi=> ?_
 ·refine X2 ?_ ?_ (by first|rfl|(simp only[List.take_zero,ad];rfl)|simp only[List.take_zero,ad]) rfl rfl rfl<;>simp only[sL,ad]
 simp only[pt];refine Vy fun K hK=> ?_;simp only[zA,simprocAttr]
 (refine hK _ ?_;clear hK K)
 refine Vk fun KC hKC=> ?_;refine Uz rfl (fun ht=>Xhj (hKC _ ?_)) (fun hf=>Qi (id ?_));rotate_left
 ·simp only[Qd,Z4,if_true];refine hKB _ ?_;clear hKB KB hKC KC;have h_ib:i=l.length:=by have:=bh hf;omega
  subst h_ib;rw[bm];apply Vz;exact Qv (.inr rfl) rfl rfl rfl (fun _ _=>rfl) rfl
 clear hKC KC;have hlt:i<l.length:=by have:=au ht;omega
 refine Vk fun KC hKC=>Xe ?_;refine Vy fun K hK=> ?_;simp only[zA,simprocAttr,hlt,Xg secC l i [] hlt,secC]
 (refine hK _ ?_;clear hK K)
 have lit:∀(σ:AState) (K:AV->List (Nat×Res)->Prop),X1 tab σ K none 36 1 [(0,val l[i])]=K (.sl 1 [g l[i]] .full) []:=fun σ K=>Yk (T:=tab) (ti:=ti36) (te:=ti22) rfl rfl rfl (by decide) (by decide) (hg _) (hgl _);refine Xn Xj [] ?_;simp only[zB,simprocAttr,hb];refine X3 (hp _ (ak hlt)) ?_;simp only[zB,simprocAttr,lit,X8 hkn,X7 hkn,Cz hkn,Xt,Jp,aj,Nat.min_eq_left hi,show i+1<=9223372036854775807 by omega,Xua g l i hlt]
 repeat refine aa (by omega) ?_
 refine hKC _ ?_;clear hKC KC;refine Xn Xj [] ?_;simp only[zA,simprocAttr,Yl (n:=i) 1 1 rfl (by omega)];refine⟨i+1,by omega,by omega,?_⟩;refine La rfl ?_ ?_<;>simp only[sL]
theorem Xm8 {α:Type} (g:α->List AV) (l:List α) (i:Nat) (h:i<l.length):(l.take i).flatMap g++g l[i]=(l.take (i+1)).flatMap g:=by
 rw[ai h,du];simp
theorem Xkf (k:Nat) (l:List (List UInt8)) (fid:FuncId) (caps:List AV) (val:List UInt8->AV) (g:List UInt8->List AV) (hb:Xd Tryz.prog fid=True) (hl:l.length<=1000000) (h0:0<l.length)
  (hg:∀x,(val x).parts=some (g x)) (hgl:∀x,(g x).length=1) (hp:∀x,x∈l->Xr Tryz.prog fid (bs x::caps) [] (val x) []):
  Xr Tryz.prog 92 [.sl 1 (l.map secC) .sh,.fn (.func fid) caps] [(k,none)] (.bsl k 0 l.length false) [(k,.box 22 (l.flatMap g))]:=by
 refine Xc 1 Tryz.func92 rfl fun n out _ _=> ?_;simp only[sn,Tryz.ntmps92,simprocAttr];rename_i hneeds hgv;obtain⟨hk,_⟩:=hneeds;obtain⟨hkn,_⟩:=hgv;refine Vy fun K hK=> ?_;simp only[zA,simprocAttr]
 (refine hK _ ?_;clear hK K)
 refine Vk fun KB hKB=> ?_;refine Vy fun K hK=> ?_;simp only[zA,simprocAttr]
 (refine hK _ ?_;clear hK K)
 refine Yy (Xnt (i:=0) (t:=4) (sz:=1) 22 rfl rfl (.inl rfl)) ?_;simp only[s_0,s_s];apply V5;refine Xwm (l.length) (fun i=>tp [6] (tr 10 10 [(9,i64 (i:Int)),(4,.vsl (n+0) i)])) (fun i=>[some (.vec 22 1 i ((l.take i).flatMap g))]) ?_ fun i hi=> ?_
 ·refine X2 ?_ ?_ (by first|rfl|(simp only[List.take_zero,ep];rfl)|simp only[List.take_zero,ep]) rfl rfl rfl<;>simp only[sL,ep]
 simp only[pt];refine Vy fun K hK=> ?_;simp only[zA,simprocAttr]
 (refine hK _ ?_;clear hK K)
 refine Vk fun KC hKC=> ?_;refine Uz rfl (fun ht=>Xhj (hKC _ ?_)) (fun hf=>Qi (id ?_));rotate_left
 ·simp only[Qd,Z4,if_true];refine hKB _ ?_;clear hKB KB hKC KC;have h_ib:i=l.length:=by have:=bh hf;omega
  subst h_ib;rw[bm];refine Yy (Xf9 (i:=0) (m:=l.length) (sz:=1) (e:=22) (cs:=l.flatMap g) rfl h0) ?_;simp only[bg,ad,AV.bxv,s_0,s_s,reduceCtorEq,if_true,if_false,Nat.reduceEqDiff,reduceIte,and_self];refine Yy (Ja (i:=0) (k:=k) rfl (by exact hkn) (by exact hk)) ?_;simp only[bg,ad,Option.map_some,Res.ren1,AV.ren1,reduceIte,Xoe,s_0];apply Vz;exact Qv (.inr rfl) rfl rfl rfl (fun _ _=>rfl) rfl
 clear hKC KC;have hlt:i<l.length:=by have:=au ht;omega
 refine Vk fun KC hKC=>Xe ?_;refine Vy fun K hK=> ?_;simp only[zA,simprocAttr,hlt,Xg secC l i [] hlt,secC]
 (refine hK _ ?_;clear hK K)
 have lit:∀(σ:AState) (K:AV->List (Nat×Res)->Prop),X1 tab σ K none 36 1 [(0,val l[i])]=K (.sl 1 [g l[i]] .full) []:=fun σ K=>Yk (T:=tab) (ti:=ti36) (te:=ti22) rfl rfl rfl (by decide) (by decide) (hg _) (hgl _);refine Xn Xj [] ?_;simp only[zB,simprocAttr,hb];refine X3 (hp _ (ak hlt)) ?_;simp only[zB,simprocAttr,lit,show i+1<=9223372036854775807 by omega,List.flatten_cons,List.flatten_nil,b9,Xm8 g l i hlt]
 repeat refine aa (by omega) ?_
 refine hKC _ ?_;clear hKC KC;refine Xn Xj [] ?_;simp only[zA,simprocAttr,Yl (n:=i) 1 1 rfl (by omega)];refine⟨i+1,by omega,by omega,?_⟩;refine La rfl ?_ ?_<;>simp only[sL]
end Go.Proofs.YtgpdghbmiihfbaaGreat
