/- The layer of abstract values, joined: KA. -/
import Derived.Test.YtdngdjbgmojcoaaGreatZPR
import Derived.Test.YtdngdjbgmojcoaaGreatZVsBits
namespace Go.Proofs.YtdngdjbgmojcoaaGreat.Pln
set_option linter.all false
set_option maxHeartbeats 1000000
open Go Go.VS
def Ur:Nat->Nat->List UInt8
 |0,_=>[]
 |f+1,n=>if n<128 then[UInt8.ofNat n] else UInt8.ofNat (n % 128+128)::Ur f (n / 128)
def Y3m (n:Int):List UInt8:=if 0<=n∧n<=2147483647 then Ur 5 n.toNat else[]
def R1:List UInt8->Nat->Nat->Option (Nat×Nat)
 |[],_,_=>none
 |c::l,i,acc=>if i=5 then none else
  if 128<=c.toNat then R1 l (i+1) (acc+c.toNat % 128*128 ^ i) else
  if (c=0∧0<i)∨2147483647<acc+c.toNat % 128*128 ^ i then none else some (acc+c.toNat % 128*128 ^ i,i+1)
def Jt (l:List UInt8):Option (Nat×Nat):=R1 l 0 0
theorem G6:∀(f n i acc:Nat) (y:List UInt8),0<f->n<128 ^ f->i+f<=5->(0<i->0<n)->acc+n*128 ^ i<=2147483647->R1 (Ur f n++y) i acc=some (acc+n*128 ^ i,i+(Ur f n).length)
 |0,n,i,acc,y,h0,_,_,_,_=>by omega
 |f+1,n,i,acc,y,_,h,h5,hp,hm=>by
  unfold Ur;by_cases hn:n<128
  ·have hc:(UInt8.ofNat n).toNat=n:=by rw[de];omega
   have hz:¬(UInt8.ofNat n=0∧0<i):=fun⟨e,hi⟩=>by
    have:=congrArg UInt8.toNat e;rw[hc] at this;have h1:=hp hi;have e0:(0:UInt8).toNat=0:=rfl;omega
   rw[if_pos hn,List.cons_append,R1,if_neg (by omega),hc,if_neg (by omega),fo hn,if_neg (by rintro(h|h);exact hz h;omega)];rfl
  ·have hc:(UInt8.ofNat (n % 128+128)).toNat=n % 128+128:=by rw[de];omega
   have hf:0<f:=by
    rcases fh f with h0|h0
    ·subst h0;omega
    ·exact h0
   have hd:n / 128<128 ^ f:=by rw[fu (by decide),<- Nat.pow_succ];exact h
   have hs:acc+(n % 128+128) % 128*128 ^ i+n / 128*128 ^ (i+1)=acc+n*128 ^ i:=by
    have e1:(n % 128+128) % 128=n % 128:=by omega
    have e2:n / 128*128 ^ (i+1)=n / 128*128*128 ^ i:=by rw[Nat.pow_succ,Nat.mul_assoc,Nat.mul_comm 128]
    rw[e1,e2,Nat.add_assoc,<- Nat.add_mul]
    congr 2
    omega
   rw[if_neg hn,List.cons_append,R1,if_neg (by omega),hc,if_pos (by omega),G6 f (n / 128) (i+1) _ y hf hd (by omega) (fun _=>by omega) (by rw[hs];exact hm),hs,List.length_cons]
   congr 2
   omega
theorem Jx {n:Int} (h:0<=n∧n<=2147483647) (y:List UInt8):Jt (Y3m n++y)=some (n.toNat,(Y3m n).length):=by
 unfold Jt Y3m;rw[if_pos h,G6 5 n.toNat 0 0 y (by decide) (by omega) (by decide) (by intro h;omega) (by omega)];simp
abbrev Rd (α:Type):=List UInt8->Nat×Bool->α×(Nat×Bool)
def rdN:Rd Int:=fun b s=>if s.2=true then(-1,s) else match Jt (b.drop s.1) with
 |none=>(-1,(s.1,true))
 |some r=>((r.1:Int),(s.1+r.2,false))
def rdB {α β:Type} (f:Rd α) (g:α->Rd β):Rd β:=fun b s=>g (f b s).1 b (f b s).2
def rdP {α:Type} (v:α):Rd α:=fun _ s=>(v,s)
def rdK {α:Type} (one:Rd α):Nat->Rd (List α)
 |0=>rdP []
 |k+1=>rdB one fun v=>rdB (rdK one k) fun l=>rdP (v::l)
def rdL {α:Type} (one:Rd α):Rd (List α):=rdB rdN fun n=>if n<=99 then rdK one n.toNat else rdP []
def Wq {α:Type} (f:Rd α) (e:List UInt8) (v:α):Prop:=∀x y:List UInt8,f (x++(e++y)) (x.length,false)=(v,(x.length+e.length,false))
theorem R2 {α:Type} (v:α):Wq (rdP v) [] v:=fun _ _=>rfl
theorem Yu {α β:Type} {f:Rd α} {g:α->Rd β} {e1 e2:List UInt8} {v:α} {u:β} (h1:Wq f e1 v) (h2:Wq (g v) e2 u):Wq (rdB f g) (e1++e2) u:=fun x y=>by
 unfold rdB;have a:=h1 x (e2++y);have b:=h2 (x++e1) y;rw[aq,a];rw[aq,ac] at b;dsimp only;rw[b,ac,Nat.add_assoc]
theorem Zm {n:Int} (h:0<=n∧n<=2147483647):Wq rdN (Y3m n) n:=fun x y=>by
 unfold rdN;have e:List.drop x.length (x++(Y3m n++y))=Y3m n++y:=fw rfl;dsimp only;rw[if_neg (by decide),e,Jx h];dsimp only;rw[ib h.1]
theorem G7 {α:Type} {one:Rd α} {enc:α->List UInt8}:∀{l:List α},(∀v,v∈l->Wq one (enc v) v)->Wq (rdK one l.length) (l.flatMap enc) l
 |[],_=>R2 []
 |v::l,h=>by
  have h1:=h v (cy ..);have h2:=G7 (one:=one) (enc:=enc) (l:=l) fun u hu=>h u (bz _ hu);rw[bw];have h3:=Yu (g:=fun l=>rdP (v::l)) h2 (R2 _);rw[a9] at h3;exact Yu h1 h3
theorem K0 {α:Type} {one:Rd α} {enc:α->List UInt8} {l:List α} (hl:l.length<=99) (h:∀v,v∈l->Wq one (enc v) v):Wq (rdL one) (Y3m l.length++l.flatMap enc) l:=by
 refine Yu (Zm ⟨by omega,by omega⟩) ?_;rw[if_pos (by omega),Int.toNat_natCast];exact G7 h
def Ug (j:Int×Int):List UInt8:=Y3m j.1++Y3m j.2
def Ee (g:Int×Int×Int):List UInt8:=Y3m g.1++(Y3m g.2.1++Y3m g.2.2)
def D4 (s:Sec):List UInt8:=Y3m s.id++(Y3m s.pt++s.ends.flatMap Ug)
def Zz {α:Type} (enc:α->List UInt8) (l:List α):List UInt8:=Y3m l.length++l.flatMap enc
def Ef (r:Rt):List UInt8:=Y3m r.id++(Y3m r.entry++(Y3m r.ex++(Zz Y3m r.path++(Zz Y3m r.over++(Zz Ug r.flanks++Y3m r.timer)))))
def Wg (p:Pl):List UInt8:=Y3m p.ver++(Y3m p.par++(Zz D4 p.secs++(Zz Ug p.pts++(Zz Ee p.sgs++Zz Ef p.rts))))
def Kd:Rd (Int×Int):=rdB rdN fun a=>rdB rdN fun b=>rdP (a,b)
def G8:Rd (Int×Int×Int):=rdB rdN fun a=>rdB rdN fun b=>rdB rdN fun c=>rdP (a,b,c)
def Ft:Rd Sec:=rdB rdN fun a=>rdB rdN fun q=>rdB Kd fun j1=>rdB Kd fun j2=>if 0<q then rdB Kd fun j3=>rdP ⟨a,q,[j1,j2,j3]⟩ else rdP ⟨a,q,[j1,j2]⟩
def B4:Rd Rt:=rdB rdN fun a=>rdB rdN fun en=>rdB rdN fun ex=>rdB (rdL rdN) fun path=>rdB (rdL rdN) fun over=>rdB (rdL Kd) fun fl=>rdB rdN fun t=>rdP ⟨a,en,ex,path,over,fl,t⟩
def X7u:Rd Pl:=rdB rdN fun v=>rdB rdN fun w=>rdB (rdL Ft) fun secs=>rdB (rdL Kd) fun pts=>rdB (rdL G8) fun sgs=>rdB (rdL B4) fun rts=>rdP ⟨v,w,secs,pts,sgs,rts⟩
def nOk (n:Int):Prop:=0<=n∧n<=2147483647
theorem Ke {α β:Type} {f:Rd α} {g:α->β} {e:List UInt8} {v:α} (h:Wq f e v):Wq (rdB f fun v=>rdP (g v)) e (g v):=by
 have:=Yu (g:=fun v=>rdP (g v)) h (R2 _);rwa [a9] at this
theorem R3 {j:Int×Int} (h1:nOk j.1) (h2:nOk j.2):Wq Kd (Ug j) j:=Yu (Zm h1) (Ke (Zm h2))
theorem X2e {g:Int×Int×Int} (h1:nOk g.1) (h2:nOk g.2.1) (h3:nOk g.2.2):Wq G8 (Ee g) g:=Yu (Zm h1) (Yu (Zm h2) (Ke (Zm h3)))
theorem X2f {s:Sec} (h1:nOk s.id) (h2:nOk s.pt) (h3:∀j,j∈s.ends->nOk j.1∧nOk j.2) (hl:s.ends.length=if 0<s.pt then 3 else 2):Wq Ft (D4 s) s:=by
 obtain⟨a,q,l⟩:=s;dsimp only at h1 h2 h3 hl;refine Yu (Zm h1) (Yu (Zm h2) ?_);dsimp only;by_cases hq:0<q
 ·rw[if_pos hq] at hl
  match l,hl,h3 with
  |[j1,j2,j3],_,h3=>
   have r:=fun j hj=>R3 (h3 j hj).1 (h3 j hj).2;rw[show[j1,j2,j3].flatMap Ug=Ug j1++(Ug j2++Ug j3) by simp];refine Yu (r j1 (by simp)) (Yu (r j2 (by simp)) ?_);rw[if_pos hq];exact Ke (r j3 (by simp))
 ·rw[if_neg hq] at hl
  match l,hl,h3 with
  |[j1,j2],_,h3=>
   have r:=fun j hj=>R3 (h3 j hj).1 (h3 j hj).2;rw[show[j1,j2].flatMap Ug=Ug j1++(Ug j2++[]) by simp];refine Yu (r j1 (by simp)) (Yu (r j2 (by simp)) ?_);rw[if_neg hq];exact R2 _
theorem X2g {r:Rt} (h1:nOk r.id) (h2:nOk r.entry) (h3:nOk r.ex) (h4:∀n,n∈r.path->nOk n) (h5:∀n,n∈r.over->nOk n) (h6:∀j,j∈r.flanks->nOk j.1∧nOk j.2) (h7:nOk r.timer)
  (l4:r.path.length<=99) (l5:r.over.length<=99) (l6:r.flanks.length<=99):Wq B4 (Ef r) r:=
 Yu (Zm h1) (Yu (Zm h2) (Yu (Zm h3) (Yu (K0 l4 fun n hn=>Zm (h4 n hn)) (Yu (K0 l5 fun n hn=>Zm (h5 n hn)) (Yu (K0 l6 fun j hj=>R3 (h6 j hj).1 (h6 j hj).2) (Ke (Zm h7)))))))
def nS (n:Int):Prop:=0<=n∧n<=127
theorem nS.ok {n:Int} (h:nS n):nOk n:=⟨h.1,by have:=h.2;omega⟩
theorem Sg {n:Int} (h:Uk n=true):nS n:=by
 unfold Uk at h;simp only[ad,ao] at h;exact⟨by omega,by omega⟩
theorem X7m:nS 0:=⟨by decide,by decide⟩
theorem B9 {l:List Sec} (h:Uq l=true):l.length<=16∧∀s,s∈l->Uk s.id=true∧Qc s=true∧(List.range s.ends.length).all (Yb l s)=true:=by
 unfold Uq at h;simp only[ad,ao] at h;obtain⟨⟨h1,h2⟩,h3⟩:=h;refine⟨h1,fun s hs=> ?_⟩;obtain⟨i,hi,rfl⟩:=am hs;have:=Z3.1 h2 i hi;unfold okS at this;simp only[ad] at this;exact⟨this.1.1.1,this.1.1.2,az.1 h3 _ hs⟩
theorem Ba {l:List Sec} {n:Int} {s:Sec} (h:Qt l n=some s):s∈l∧s.id=n:=by
 unfold Qt at h;exact⟨bg h,by have:=dg h;simpa using this⟩
theorem Kf {s:Sec} (h:Qc s=true):nS s.pt∧s.ends.length=(if 0<s.pt then 3 else 2):=by
 unfold Qc at h;rw[ck,ad,ad,ao,ao,ao] at h;rcases h with ⟨h1,h2⟩|⟨h1,h2⟩
 ·rw[h1,if_neg (by decide)];exact⟨X7m,h2⟩
 ·have h3:=h1;unfold Uk at h3;simp only[ad,ao] at h3;rw[if_pos (by omega)];exact⟨Sg h1,h2⟩
theorem X2h {l:List Sec} (h:Uq l=true) {s:Sec} (hs:s∈l):∀j,j∈s.ends->nS j.1∧nS j.2:=fun j hj=>by
 obtain⟨_,h2⟩:=B9 h;obtain⟨i,hi,rfl⟩:=am hj;have:=az.1 (h2 s hs).2.2 i (dq.2 hi);have e:s.ends.getD i (0,0)=s.ends[i]:=by simp [af,hi]
 unfold Yb at this;rw[e,ck,ao] at this;rcases this with h0|h0
 ·rw[h0];exact⟨X7m,X7m⟩
 ·cases hg:Qt l s.ends[i].1 with
  |none=>rw[hg] at h0;cases h0
  |some t=>
   rw[hg] at h0;obtain⟨ht,hid⟩:=Ba hg;obtain⟨n1,n2,_⟩:=h2 t ht;have n3:=(Kf n2).2;simp only[ad,ao] at h0;obtain⟨⟨⟨x1,x2⟩,_⟩,_⟩:=h0;refine⟨hid▸Sg n1,x1,?_⟩;split at n3<;>omega
theorem R4 {l:List Int} (h:Ue Ye l=true):∀n,n∈l->Uk n=true:=fun n hn=>by
 obtain⟨i,hi,rfl⟩:=am hn;have:=Z3.1 h i hi;unfold Ye at this;rw[ad] at this;exact this.1
theorem D5 {l:List Sec} (h:Uq l=true) {n:Int} (hs:(Qt l n).isSome=true):nS n:=by
 cases hg:Qt l n with
 |none=>rw[hg] at hs;cases hs
 |some t=>
  obtain⟨ht,hid⟩:=Ba hg;exact hid▸Sg ((B9 h).2 t ht).1
structure Nums (p:Pl):Prop where
 ver:nOk p.ver
 par:nOk p.par
 sl:p.secs.length<=16
 s:∀s,s∈p.secs->nS s.id∧nS s.pt∧(∀j,j∈s.ends->nS j.1∧nS j.2)∧s.ends.length=if 0<s.pt then 3 else 2
 pl:p.pts.length<=6
 q:∀x,x∈p.pts->nS x.1∧nS x.2
 gl:p.sgs.length<=10
 g:∀g,g∈p.sgs->nS g.1∧nS g.2.1∧nS g.2.2
 rl:p.rts.length<=16
 r:∀r,r∈p.rts->nS r.id∧nS r.entry∧nS r.ex∧(∀n,n∈r.path->nS n)∧(∀n,n∈r.over->nS n)∧(∀j,j∈r.flanks->nS j.1∧nS j.2)∧nS r.timer∧r.path.length<=6∧r.over.length<=2∧r.flanks.length<=3
theorem Us {p:Pl} (h:Uf p=true):Nums p:=by
 unfold Uf at h;simp only[ad,ao] at h;obtain⟨⟨⟨⟨⟨⟨h1,h2⟩,h3⟩,h4⟩,h5⟩,h6⟩,h7⟩:=h;obtain⟨s1,s2⟩:=B9 h2;unfold Kq at h1;simp only[ad,ao] at h1;unfold Ul at h3;simp only[ad,ao] at h3;unfold Qu at h4;simp only[ad,ao] at h4;have sgN:∀g,g∈p.sgs->nS g.1:=fun g hg=>Sg (R4 h4.1.1 _ (eu.2 ⟨g,hg,rfl⟩));have ptN:∀x,x∈p.pts->nS x.1:=fun x hx=>Sg (R4 h3.1.1.1 _ (eu.2 ⟨x,hx,rfl⟩));refine⟨⟨by omega,by omega⟩,⟨by omega,by omega⟩,s1,fun s hs=> ?_,h3.1.1.2,fun x hx=> ?_,h4.1.2,fun g hg=> ?_,h6,fun r hr=> ?_⟩
 ·obtain⟨n1,n2,_⟩:=s2 s hs;exact⟨Sg n1,(Kf n2).1,X2h h2 hs,(Kf n2).2⟩
 ·refine⟨ptN x hx,?_⟩;have:=az.1 h3.2 x hx;unfold okP at this;refine D5 h2 ?_;cases hg:Qt p.secs x.2 with
  |none=>rw[hg] at this;cases this
  |some t=>rfl
 ·obtain⟨i,hi,rfl⟩:=am hg;have:=Z3.1 h4.2 i hi;unfold okG at this;rw[ad] at this;cases hq:Qt p.secs p.sgs[i].2.1 with
  |none=>rw[hq] at this;cases this.1
  |some t=>
   rw[hq] at this;have h8:=this.1;simp only[ad,ao] at h8;obtain⟨ht,hid⟩:=Ba hq;obtain⟨n1,n2,_⟩:=s2 t ht;have n3:=(Kf n2).2;refine⟨sgN _ hg,hid▸Sg n1,h8.1,?_⟩;split at n3<;>omega
 ·have h8:=az.1 h7 r hr;unfold okR at h8;cases hq:Xpe p.sgs r.entry with
  |none=>rw[hq] at h8;cases h8
  |some en=>
   rw[hq] at h8;simp only[ad,ao] at h8;obtain⟨⟨⟨⟨⟨⟨⟨⟨⟨x1,_⟩,x3⟩,x4⟩,x5⟩,x6⟩,x7⟩,x8⟩,x9⟩,x10⟩:=h8;have ge:∀{n:Int} {e:Int×Int×Int},Xpe p.sgs n=some e->nS n:=fun{n e} hg=>by
    unfold Xpe at hg;have hm:=bg hg;have hid:=dg hg;have hid:e.1=n:=by simpa using hid
    exact hid▸sgN e hm
   have hL:∀n,n∈r.path++r.over->nS n:=fun n hn=>by
    obtain⟨i,hi,rfl⟩:=am hn;have:=Z3.1 x9 i hi;unfold okL at this;simp only[ad] at this;exact D5 h2 this.1.1
   refine⟨Sg (R4 h5 _ (eu.2 ⟨r,hr,rfl⟩)),ge hq,?_,fun n hn=>hL n (List.mem_append_left _ hn),fun n hn=>hL n (List.mem_append_right _ hn),fun j hj=> ?_,⟨by omega,by omega⟩,x4,x5,x6⟩
   ·rw[ck,ao,ad] at x1;rcases x1 with x1|x1
    ·rw[x1];exact X7m
    ·cases hg:Xpe p.sgs r.ex with
     |none=>rw[hg] at x1;cases x1.1
     |some e=>exact ge hg
   ·obtain⟨i,hi,rfl⟩:=am hj;have:=Z3.1 x10 i hi;unfold okF at this;simp only[ad,ck,bq] at this;refine⟨?_,?_⟩
    ·cases hg:Bt p.pts r.flanks[i].1 with
     |none=>rw[hg] at this;cases this.1.1
     |some e=>
      unfold Bt at hg;have hm:=bg hg;have hid:e.1=r.flanks[i].1:=by have:=dg hg;simpa using this
      exact hid▸ptN e hm
    ·rcases this.2 with h|h<;>rw[h]<;>exact⟨by decide,by decide⟩
theorem Eg {p:Pl} (h:Uf p=true):Wq X7u (Wg p) p:=by
 obtain⟨v,w,sl,s,pl,q,gl,g,rl,r⟩:=Us h;refine Yu (Zm v) (Yu (Zm w) (Yu (K0 (by omega) fun x hx=> ?_) (Yu (K0 (by omega) fun x hx=> ?_) (Yu (K0 (by omega) fun x hx=> ?_) (Ke (K0 (by omega) fun x hx=> ?_))))))
 ·obtain⟨a,b,c,e⟩:=s x hx;exact X2f a.ok b.ok (fun j hj=>⟨(c j hj).1.ok,(c j hj).2.ok⟩) e
 ·exact R3 (q x hx).1.ok (q x hx).2.ok
 ·exact X2e (g x hx).1.ok (g x hx).2.1.ok (g x hx).2.2.ok
 ·obtain⟨a,b,c,d,e,f,t,l1,l2,l3⟩:=r x hx;exact X2g a.ok b.ok c.ok (fun n hn=>(d n hn).ok) (fun n hn=>(e n hn).ok) (fun j hj=>⟨(f j hj).1.ok,(f j hj).2.ok⟩) t.ok (by omega) (by omega) (by omega)
def V6 (b:List UInt8):Pl×(Nat×Bool):=X7u b (0,false)
theorem G9 {p:Pl} (h:Uf p=true) (more:List UInt8):V6 (Wg p++more)=(p,((Wg p).length,false)):=by
 have:=Eg h [] more;unfold V6;simpa using this
def Aq:Pl:=⟨0,0,[],[],[],[]⟩
def Sh (q:Pl) (s:Nat×Bool) (written:List UInt8) (b:List UInt8):Bool:= !s.2&&decide (s.1=b.length)&&Uf q&&(written==b)
def Z6 (b:List UInt8):Bool:=Sh (V6 b).1 (V6 b).2 (Wg (V6 b).1) b
theorem Eh {p:Pl} (h:Uf p=true) (more:List UInt8):Z6 (Wg p++more)=(decide (more=[])):=by
 unfold Z6 Sh;rw[G9 h more];cases more with
 |nil=>simp [h]
 |cons x l=>simp
theorem Xu7 {p:Pl} (h:Uf p=true):(V6 (Wg p)).1=p:=by
 have:=G9 h [];rw[a9] at this;rw[this]
theorem Kg {b:List UInt8} (h:Z6 b=true):Uf (V6 b).1=true∧Wg (V6 b).1=b:=by
 unfold Z6 Sh at h;simp only[ad,bq] at h;exact⟨h.1.2,h.2⟩
theorem Mj:∀(f n:Nat),(Ur f n).length<=f
 |0,_=>Nat.le_refl 0
 |f+1,n=>by
  unfold Ur;split
  ·simp
  ·have:=Mj f (n / 128);rw[List.length_cons];omega
theorem R5 (n:Int):(Y3m n).length<=5:=by
 unfold Y3m;split
 ·exact Mj 5 _
 ·simp
theorem D6 {n:Int} (h:n<=127):(Y3m n).length<=1:=by
 unfold Y3m;split
 ·unfold Ur;rw[if_pos (by omega)];simp
 ·simp
theorem R6 {α:Type} {f:α->List UInt8} {m:Nat}:∀{l:List α},(∀x,x∈l->(f x).length<=m)->(l.flatMap f).length<=l.length*m
 |[],_=>by simp
 |x::l,h=>by
  have h1:=h x (cy ..);have h2:=R6 (f:=f) (m:=m) (l:=l) fun y hy=>h y (bz _ hy);rw[bw,ac,List.length_cons,e9];omega
theorem K4 {α:Type} {f:α->List UInt8} {m k:Nat} {l:List α} (hl:l.length<=k) (hk:k<=127) (h:∀x,x∈l->(f x).length<=m):(Zz f l).length<=1+k*m:=by
 unfold Zz;have h1:=D6 (n:=(l.length:Int)) (by omega);have h2:=R6 h;have h3:=cj m hl;rw[ac];omega
theorem R7 {p:Pl} (h:Uf p=true):(Wg p).length<=700:=by
 obtain⟨v,w,sl,s,pl,q,gl,g,rl,r⟩:=Us h;have z:∀{n:Int},nS n->(Y3m n).length<=1:=fun h=>D6 h.2;have e1:(Zz D4 p.secs).length<=1+16*8:=K4 sl (by decide) fun x hx=>by
  obtain⟨a,b,c,e⟩:=s x hx;have h1:=z a;have h2:=z b;have h3:=R6 (f:=Ug) (m:=2) (l:=x.ends) fun j hj=>by
   have h4:=z (c j hj).1;have h5:=z (c j hj).2;unfold Ug;rw[ac];omega
  unfold D4;rw[ac,ac];split at e<;>omega
 have e2:(Zz Ug p.pts).length<=1+6*2:=K4 pl (by decide) fun j hj=>by
  have h4:=z (q j hj).1;have h5:=z (q j hj).2;unfold Ug;rw[ac];omega
 have e3:(Zz Ee p.sgs).length<=1+10*3:=K4 gl (by decide) fun j hj=>by
  have h4:=z (g j hj).1;have h5:=z (g j hj).2.1;have h6:=z (g j hj).2.2;unfold Ee;rw[ac,ac];omega
 have e4:(Zz Ef p.rts).length<=1+16*21:=K4 rl (by decide) fun x hx=>by
  obtain⟨a,b,c,d,e,f,t,l1,l2,l3⟩:=r x hx;have h1:=z a;have h2:=z b;have h3:=z c;have h4:(Zz Y3m x.path).length<=1+6*1:=K4 l1 (by decide) fun n hn=>z (d n hn);have h5:(Zz Y3m x.over).length<=1+2*1:=K4 l2 (by decide) fun n hn=>z (e n hn);have h6:(Zz Ug x.flanks).length<=1+3*2:=K4 l3 (by decide) fun j hj=>by
   have h4:=z (f j hj).1;have h5:=z (f j hj).2;unfold Ug;rw[ac];omega
  have h7:=z t;unfold Ef;simp only[ac];omega
 have h1:=R5 p.ver;have h2:=R5 p.par;unfold Wg;simp only[ac];omega
theorem X9e {a b k:Nat} (h:a<2 ^ k) (hb:2 ^ k*b+a<9223372036854775808):Zr .or .i64 (a:Int) ((2 ^ k*b:Nat):Int)=some (.int .i64 ((2 ^ k*b+a:Nat):Int)):=by
 show some (Value.int .i64 (IntKind.i64.wrap (((BitVec.ofInt 64 (a:Int)|||BitVec.ofInt 64 ((2 ^ k*b:Nat):Int)).toNat:Nat):Int)))= _
 rw[V3,V3,BitVec.toNat_or,fg,fg,fo (by omega),fo (by omega),Nat.or_comm,<- Nat.two_pow_add_eq_or_of_lt h,wrap_i64 (by omega) (by omega)]
theorem X9f (c:UInt8):Zr .and .u8 (c.toNat:Int) 127=some (.int .u8 ((c.toNat % 128:Nat):Int)):=by
 have hc:=c.toNat_lt
 show some (Value.int .u8 (IntKind.u8.wrap (((BitVec.ofInt 8 (c.toNat:Int)&&&BitVec.ofInt 8 ((127:Nat):Int)).toNat:Nat):Int)))= _
 rw[V3,V3,BitVec.toNat_and,fg,fg,fo (by omega),show 127 % 2 ^ 8=2 ^ 7 - 1 by decide,Nat.and_two_pow_sub_one_eq_mod,Se (by omega) (by omega)]
theorem X9g {m i:Nat} (hm:m<128) (hi:i<=4):Zr .shl .i64 (m:Int) ((7*i:Nat):Int)=some (.int .i64 ((2 ^ (7*i)*m:Nat):Int)):=by
 have e:(((7*i:Nat):Int)<0)=False:=ef (by omega);have e2:min ((7*i:Nat):Int).toNat IntKind.i64.bits=7*i:=by
  rw[Int.toNat_natCast]
  show min (7*i) 64=7*i
  omega
 have e3:((2:Int) ^ (7*i))=((2 ^ (7*i):Nat):Int):=by simp
 have hp:2 ^ (7*i)<=2 ^ 28:=Nat.pow_le_pow_right (by decide) (by omega);have hb:m*2 ^ (7*i)<=128*2 ^ 28:=Nat.mul_le_mul (by omega) hp;simp only[Zr,e,if_false];rw[e2,e3,<- Int.natCast_mul,Nat.mul_comm m] at*;rw[wrap_i64 (by omega) (by omega)]
theorem X7v {a:Nat} (h:a<128):Zr .or .u8 (a:Int) 128=some (.int .u8 ((UInt8.ofNat (a+128)).toNat:Int)):=by
 have hx:(UInt8.ofNat (a+128)).toNat=a+128:=by rw[de];omega
 rw[hx]
 show some (Value.int .u8 (IntKind.u8.wrap (((BitVec.ofInt 8 (a:Int)|||BitVec.ofInt 8 ((128:Nat):Int)).toNat:Nat):Int)))= _
 rw[V3,V3,BitVec.toNat_or,fg,fg,fo (by omega),show 128 % 2 ^ 8=2 ^ 7*1 by decide,Nat.or_comm,<- Nat.two_pow_add_eq_or_of_lt (i:=7) h,Se (by omega) (by omega)]
 congr 2;omega
def K5 (l:List UInt8):Nat->Nat
 |0=>0
 |i+1=>K5 l i+(l.getD i 0).toNat % 128*128 ^ i
theorem Bb (l:List UInt8):∀i,K5 l i<128 ^ i
 |0=>by simp [K5]
 |i+1=>by
  have h:=Bb l i;have h2:(l.getD i 0).toNat % 128*128 ^ i<=127*128 ^ i:=cj _ (by omega)
  show K5 l i+ _<128 ^ (i+1)
  rw[Nat.pow_succ];omega
theorem Ga (l:List UInt8):∀i,i<=l.length->(∀j,j<i->128<=(l.getD j 0).toNat)->i<=5->Jt l=R1 (l.drop i) i (K5 l i)
 |0,_,_,_=>by simp [Jt,K5]
 |i+1,h,hj,h5=>by
  rw[Ga l i (by omega) (fun j hji=>hj j (by omega)) (by omega)];have hl:i<l.length:=by omega
  have e:l.getD i 0=l[i]:=by simp [af,hl]
  rw[cd hl,R1,if_neg (by omega),if_pos (by rw[<- e];exact hj i (by omega)),<- e];rfl
end Go.Proofs.YtdngdjbgmojcoaaGreat.Pln
