/- The layer of abstract values, joined. -/
import Derived.Test.YtgpdghbmiihfbaaGreatZP5
import Derived.Test.YtgpdghbmiihfbaaGreatZQD
import Derived.Test.YtgpdghbmiihfbaaGreatZQE
import Derived.Test.YtgpdghbmiihfbaaGreatZVsLaw
namespace Go.Proofs.YtgpdghbmiihfbaaGreat.Pln
set_option linter.all false
set_option maxHeartbeats 16000000
set_option maxRecDepth 8000
open Go Go.VS Tab
attribute [local irreducible] AWp Xp0 Pg X5c Qy Lt Tp FdT Eb
def mn (n:Nat):Nat:=min n 1000
theorem Yam (n:Nat):(if (1000:Int)<(n:Int) then(1000:Int) else(n:Int))=((mn n:Nat):Int):=by unfold mn;split<;>omega
theorem Y6y (n:Nat):mn n<=1000:=by unfold mn;omega
def Y8c (l:List Sec):Nat:=(l.map fun s=>mn s.ends.length).sum
def Y85 (l:List Rt):Nat:=(l.map fun r=>mn r.path.length+mn r.over.length+mn r.flanks.length).sum
theorem Y92 {l:List Sec} {i:Nat} (h:i<l.length):Y8c (l.take (i+1))=Y8c (l.take i)+mn l[i].ends.length:=by
 unfold Y8c;rw[ai h,cu,List.sum_append];simp
theorem Y93 {l:List Rt} {i:Nat} (h:i<l.length):Y85 (l.take (i+1))=Y85 (l.take i)+(mn l[i].path.length+mn l[i].over.length+mn l[i].flanks.length):=by
 unfold Y85;rw[ai h,cu,List.sum_append];simp
theorem Y79:∀l:List Sec,Y8c l<=1000*l.length
 |[]=>Nat.le_refl 0
 |s::l=>by
  have h:=Y79 l;unfold Y8c at h⊢;have:=Y6y s.ends.length;simp only[bg,List.sum_cons,List.length_cons];omega
theorem Y94:∀l:List Rt,Y85 l<=3000*l.length
 |[]=>Nat.le_refl 0
 |r::l=>by
  have h:=Y94 l;unfold Y85 at h⊢;have h1:=Y6y r.path.length;have h2:=Y6y r.over.length;have h3:=Y6y r.flanks.length;simp only[bg,List.sum_cons,List.length_cons];omega
def Y7a (p:Pl):Prop:=100<p.secs.length∨100<p.pts.length∨100<p.sgs.length∨100<p.rts.length
instance (p:Pl):Decidable (Y7a p):=by unfold Y7a;infer_instance
def Y4l (p:Pl):Bool:=decide (Y7a p)||decide (1000<Y8c p.secs+Y85 p.rts)
theorem Y4m (p:Pl):Xr Tryz.prog 63 [plA p] [] (bool (Y4l p)) []:=by
 unfold Y4l;by_cases hH:Y7a p
 ·rw[ay hH,ft];unfold Y7a at hH;refine Xc 1 Tryz.func63 rfl fun n out _ _=> ?_;simp only[sn,Tryz.ntmps63,simprocAttr];have hg:=Nat.le_refl 0;repeat' (first|refine Vk fun K hK=> ?_|apply V0|apply Vs|((first|apply gE|apply gS);simp only[zA,simprocAttr,hg,plA,plC])|(apply Vz;refine Vo rfl rfl rfl (fun _ _=>rfl) ?_<;>first|rfl|skip)|((refine Vg (fun hg=> ?_) (fun hg=> ?_))<;>try simp only[nb] at hg)|(refine hK _ ?_;clear hK K)|refine Vt rfl ?_|refine Vi rfl (fun hg=> ?_) (fun hg=> ?_))
  all_goals (exfalso;simp only[gt_iff_lt,am,dk] at*;omega)
 ·rw[aq hH,eu];unfold Y7a at hH;have g1:((p.secs.length:Int)>100)=False:=dc (by omega);have g2:((p.pts.length:Int)>100)=False:=dc (by omega);have g3:((p.sgs.length:Int)>100)=False:=dc (by omega);have g4:((p.rts.length:Int)>100)=False:=dc (by omega);refine Xc 1 Tryz.func63 rfl fun n out _ _=> ?_;simp only[sn,Tryz.ntmps63,simprocAttr];have hg:=Nat.le_refl 0;repeat' (first|refine Vk fun K hK=> ?_|apply V0|apply Vs|((first|apply gE|apply gS);simp only[zA,simprocAttr,plA,plC,g1,g2,g3,g4])|(refine hK _ ?_;clear hK K)|refine Vf rfl ?_)
  apply V5;refine Xwm (p.secs.length) (fun i=>tr 28 17 [(3,i64 ((Y8c (p.secs.take i):Nat):Int)),(4,i64 (i:Int))]) (fun i=>[some (.box 28 (plC p))]) ?_ fun i hi=> ?_
  ·refine X2 ?_ ?_ (by first|rfl|(simp only[plC,List.take_zero,Y8c,ad,List.sum_nil];rfl)|simp only[plC,List.take_zero,Y8c,ad,List.sum_nil]) rfl rfl rfl<;>simp only[sL,plC,Y8c,ad,List.sum_nil]
  simp only[pt];have hw:=Yl (n:=i) 1 1 rfl (by omega);by_cases hlt:i<p.secs.length
  ·have gi:=Xg secC p.secs i [] hlt;have hlt':(i:Int)<(p.secs.length:Int):=by omega
   have us:=Y92 hlt;have ul:=Y79 (p.secs.take i);rw[aj] at ul;have m1:=Y6y p.secs[i].ends.length;have ha:=Yl (n:=Y8c (p.secs.take i)) (mn p.secs[i].ends.length:Int) (mn p.secs[i].ends.length) rfl (by omega);repeat' (first|refine Vk fun K hK=> ?_|apply V0|apply Vr|apply Vs|((first|apply gE|apply gS);simp only[zA,simprocAttr,plC,hlt,hlt',gi,secC,hw,Yam,ha])|(refine hK _ ?_;clear hK K)|refine Vt rfl ?_|clear hK K)
   refine⟨i+1,by omega,by omega,?_⟩;rw[<- us];refine La rfl ?_ ?_<;>simp only[sL]
  ·obtain rfl:i=p.secs.length:=by omega
   rw[bm];clear hw;have ul:=Y79 p.secs;obtain⟨S,hS⟩:∃S,S=Y8c p.secs:=⟨_,rfl⟩
   rw[<- hS] at ul⊢;repeat' (first|refine Vk fun K hK=> ?_|apply V0|((first|apply gE|apply gS);simp only[zA,simprocAttr,plC,Int.lt_irrefl])|(apply Vx;simp only[sb])|(refine hK _ ?_;clear hK K)|refine Vf rfl ?_|clear hK K)
   apply V5;refine Xwm (p.rts.length) (fun i=>tr 45 35 [(3,i64 ((S+Y85 (p.rts.take i):Nat):Int)),(5,i64 (i:Int))]) (fun i=>[some (.box 28 (plC p))]) ?_ fun i hi=> ?_
   ·refine X2 ?_ ?_ (by first|rfl|(simp only[plC,List.take_zero,Y85,ad,List.sum_nil,Nat.add_zero];rfl)|simp only[plC,List.take_zero,Y85,ad,List.sum_nil,Nat.add_zero]) rfl rfl rfl<;>simp only[sL,plC,Y85,ad,List.sum_nil,Nat.add_zero]
   simp only[pt];have hw:=Yl (n:=i) 1 1 rfl (by omega);by_cases hlt2:i<p.rts.length
   ·have gi:=Xg rtC p.rts i [] hlt2;have hlt':(i:Int)<(p.rts.length:Int):=by omega
    have us:=Y93 hlt2;have ur:=Y94 (p.rts.take i);rw[aj] at ur;have m1:=Y6y p.rts[i].path.length;have m2:=Y6y p.rts[i].over.length;have m3:=Y6y p.rts[i].flanks.length;have a1:=Yl (n:=S+Y85 (p.rts.take i)) (mn p.rts[i].path.length:Int) (mn p.rts[i].path.length) rfl (by omega);have a2:=Yl (n:=S+Y85 (p.rts.take i)+mn p.rts[i].path.length) (mn p.rts[i].over.length:Int) (mn p.rts[i].over.length) rfl (by omega);have a3:=Yl (n:=S+Y85 (p.rts.take i)+mn p.rts[i].path.length+mn p.rts[i].over.length) (mn p.rts[i].flanks.length:Int) (mn p.rts[i].flanks.length) rfl (by omega);repeat' (first|refine Vk fun K hK=> ?_|apply V0|apply Vr|apply Vs|refine Vd 11 [] [[],[],[0],[],[],[],[],[],[],[],[],[0],[],[],[],[],[],[],[],[],[0],[],[],[],[],[],[],[],[]] [[],[],[],[],[],[],[],[],[],[],[],[],[],[],[],[],[],[],[],[],[],[],[],[],[],[],[],[],[]] (by kernel_rfl) (by decide) (by decide) (by kernel_rfl) ?_|((first|apply gE|apply gD|apply gS);simp only[zA,simprocAttr,plC,hlt2,hlt',gi,rtC,hw,Yam,a1,a2,a3])|(refine hK _ ?_;clear hK K)|refine Vt rfl ?_|clear hK K)
    refine⟨i+1,by omega,by omega,?_⟩;rw[us,<- Nat.add_assoc,<- Nat.add_assoc,<- Nat.add_assoc];refine La rfl ?_ ?_<;>simp only[sL]
   ·obtain rfl:i=p.rts.length:=by omega
    rw[bm];repeat' (first|refine Vk fun K hK=> ?_|apply V0|((first|apply gE|apply gS);simp only[zA,simprocAttr,plC,Int.lt_irrefl])|(apply Vz;refine Vo rfl rfl rfl (fun _ _=>rfl) ?_<;>first|rfl|(refine congrArg VS.bool ?_;refine fj.2 ?_;omega)|skip)|(apply Vx;simp only[sb])|(refine hK _ ?_;clear hK K)|refine Vf rfl ?_|clear hK K)
def Y60 (h:Hs):Bool:=decide ((h.key.length:Int)>1000)||(decide ((h.buf.length:Int)>5000)||(Y4l h.plan||(Y4l h.back||(Y4l h.next||Xs7 h.st))))
theorem Y95 (h:Hs):Xr Tryz.prog 28 [hsA h] [] (bool (Y60 h)) []:=by
 have c1:=Y4m h.plan;have c2:=Y4m h.back;have c3:=Y4m h.next;have c4:=Xvl h.st;unfold Y60;simp only[plA,plC,stA,stC] at c1 c2 c3 c4;generalize Y4l h.plan=A1 at*;generalize Y4l h.back=A2 at*;generalize Y4l h.next=A3 at*;generalize Xs7 h.st=A4 at*;refine Xc 1 Tryz.func28 rfl fun n out _ _=> ?_;simp only[sn,Tryz.ntmps28,simprocAttr];have hg:=Nat.le_refl 0;repeat' (first|refine Vk fun K hK=> ?_|apply V0|((first|apply gE|apply gR|apply gS);simp only[zA,simprocAttr,hg,hsA,hsC,X5])|(apply Vz;refine Vo rfl rfl rfl (fun _ _=>rfl) ?_<;>first|rfl|(simp only[g_0,g_s];refine congrArg VS.bool ?_;simp only[*,eu,ft])|skip)|(refine X3 (c1) ?_)|(refine X3 (c2) ?_)|(refine X3 (c3) ?_)|(refine X3 (c4) ?_)|((refine Vg (fun hg=> ?_) (fun hg=> ?_))<;>try simp only[nb] at hg)|(refine hK _ ?_;clear hK K))
def Y7v (b:Bx):Bool:=Y60 b.house||Xjd b.disk
theorem Y96 (b:Bx) (hd:DOk b.disk):Xr Tryz.prog 7 [bxA b] [] (bool (Y7v b)) []:=by
 have c1:=Y95 b.house;have c2:=Xj6 b.disk hd;unfold Y7v;simp only[hsA,hsC,Y3p,Xha] at c1 c2;generalize Y60 b.house=A1 at*;generalize Xjd b.disk=A2 at*;refine Xc 1 Tryz.func7 rfl fun n out _ _=> ?_;simp only[sn,Tryz.ntmps7,simprocAttr];have hg:=Nat.le_refl 0;repeat' (first|refine Vk fun K hK=> ?_|apply V0|((first|apply gE|apply gR|apply gS);simp only[zA,simprocAttr,hg,bxA,bxC])|(apply Vz;refine Vo rfl rfl rfl (fun _ _=>rfl) ?_<;>first|rfl|(simp only[g_0,g_s];refine congrArg VS.bool ?_;simp only[*,eu,ft])|skip)|(refine X3 (c1) ?_)|(refine X3 (c2) ?_)|((refine Vg (fun hg=> ?_) (fun hg=> ?_))<;>try simp only[nb] at hg)|(refine hK _ ?_;clear hK K))
theorem Y97 {p:Pl} (hg:Y4l p=false) (hb:∀r,r∈p.rts->r.path.length<=reachBytes∧r.over.length<=reachBytes∧r.flanks.length<=reachBytes):SmV p:=by
 unfold Y4l at hg;rw[ee] at hg;have h1:=bh hg.1;unfold Y7a at h1;refine⟨by omega,by omega,by omega,by omega,fun r hr=> ?_⟩;have:=hb r hr;unfold reachBytes at this;omega
def HsB (h:Hs):Prop:=∀r,(r∈h.plan.rts∨r∈h.back.rts∨r∈h.next.rts)->r.path.length<=reachBytes∧r.over.length<=reachBytes∧r.flanks.length<=reachBytes
theorem Ybq {h:Hs} (hg:Y60 h=false) (hb:HsB h):SmX h:=by
 unfold Y60 Xs7 at hg;simp only[ee,dk] at hg;obtain⟨g1,g2,g3,g4,g5,⟨g6,g7⟩,g8⟩:=hg;exact⟨Y97 g3 fun r hr=>hb r (.inl hr),Y97 g4 fun r hr=>hb r (.inr (.inl hr)),Y97 g5 fun r hr=>hb r (.inr (.inr hr)),⟨by omega,by omega,by omega⟩,by omega,by omega⟩
def Y98 (a b:Hs):Bool:=Sy a.plan b.plan&&(Sy a.back b.back&&(Sy a.next b.next&&(a.high==b.high&&(a.halt==b.halt&&(Xqz a.st b.st&&(a.key==b.key&&a.buf==b.buf))))))
theorem Y86 (a:Hs):Y98 a a=true:=by
 unfold Y98 Xqz;simp only[Xqe.2 rfl,fw,jf]
theorem Y7w (s:St):Xzl s s=true:=by
 unfold Xzl;rw[Xva.2 rfl,Xvb.2 rfl];rfl
theorem Y7b (a:Hs) (hs:SmH a):Xr Tryz.prog 24 [hsA a,hsA a] [] (bool true) []:=by
 have h:=Yaq a a hs;have e:=Y86 a;unfold Y98 at e;rw[e] at h;exact h
theorem Y7c:Xr Tryz.prog 4 [] [] (bool true) []:=by
 have ca:=Y5q;have c1:=Y9g;have c2:=Ybi;have sn:Small Y4x:=Y3x Y4u;have k1:Y3y Y4x [1]=0∧Y3u Y4x [1]=⟨Y3w [1],Y4x,0⟩:=by
  have e:Y3y Y4x [1]=0:=by unfold Y3y;rw[if_neg (by decide),if_pos ⟨Y4u,rfl⟩]
  exact⟨e,by unfold Y3u;rw[if_pos e,Y7x];rfl⟩
 have k2:Y3y Y4x []=3∧Y3u Y4x []=Y4r:=by
  have e:Y3y Y4x []=3:=by unfold Y3y;rw[if_pos (by decide)]
  exact⟨e,by unfold Y3u;rw[e,if_neg (by decide)]⟩
 have c3:=Xdb (args':=[Y3p Y4x,.sl 1 [[b8 1]] .full]) (Y5p Y4x [1] sn (by decide)) ⟨.rfl _,by simp only[by1,Wb,sL],trivial⟩;have c4:=Xdb (args':=[Y3p Y4x,.sl 0 [] .nil]) (Y5p Y4x [] sn (by decide)) ⟨.rfl _,.nil 0 1 .sh (by intro h;cases h),trivial⟩;have c5:=Xdb (args':=[.agg nbC]) (Y6x Y4r ⟨Xob.wide.v,Xob.wide.v,Xob.wide.v,⟨by decide,by decide,by decide⟩,by decide,by decide⟩ (by decide) (by decide)) ⟨Y6f,trivial⟩;rw[show Y43 Y4r=8 by kernel_rfl] at c5;obtain⟨g1,g2,g3,g4,_⟩:=Y9f;have c6:=Y6x ⟨bx1.house,bx1.disk,4294967295⟩ (by rw[g2];exact Yap.x) (Y3x g3).s (Y3x g3).w;have k6:Y43 ⟨bx1.house,bx1.disk,4294967295⟩=9:=by
  have hr:Y4s ⟨bx1.house,bx1.disk,4294967295⟩=true:=Y42.2 ⟨by rw[g2];exact Y9e,by rw[g2];rfl,g3,g4⟩;unfold Y43;rw[if_pos hr];unfold YtgpdghbmiihfbaaGreat.nextE;rw[g3,if_pos rfl,if_pos];have:=Y7o bx1.disk (Y3q ((4294967295:BitVec 32)+1)) ((4294967295:BitVec 32).toNat+1) (ba 16);exact this
 rw[k6] at c6;rw[k1.1,k1.2] at c3;rw[k2.1,k2.2] at c4;generalize bx1=X at*;generalize Y3o Y4r=Y at*;generalize Y4r=Z at*;generalize Y3o ⟨X.house,X.disk,4294967295⟩=W at*;have h1:(Y3w [1]).halt=true:=rfl;generalize Y3w [1]=H at*;generalize Y4x=D at*;simp only[Y3p,Xha,bxA,bxC,nbC] at c1 c2 c3 c4 c5 c6;refine Xc 5 Tryz.func4 rfl fun n out _ _=> ?_;simp only[Tryz.ntmps4,simprocAttr];repeat' (first|refine Vk fun K hK=> ?_|apply V0|apply Vs|((first|apply gE|apply gR);simp only[zA,simprocAttr,X0,h1])|(apply Vz;refine Vo rfl rfl rfl (fun _ _=>rfl) ?_<;>first|rfl|skip)|(refine X3 (ca) ?_)|(refine X3 (c1) ?_)|(refine X3 (c2) ?_)|(refine X3 (c3) ?_)|(refine X3 (c4) ?_)|(refine X3 (c5) ?_)|(refine X3 (c6) ?_)|(refine hK _ ?_;clear hK K)|refine Vf rfl ?_)
end Go.Proofs.YtgpdghbmiihfbaaGreat.Pln
namespace Go.Proofs.YtgpdghbmiihfbaaGreat.Pln
set_option linter.all false
open Go Go.VS Tab
theorem Yac:Opens Tryz.prog 35 hsC HsB:=
 (Zh Tryz.underlying35 (tot:=25) (by kernel_rfl)
  (.cons (s:=1) Xvn rfl (by kernel_rfl) rfl (.cons (s:=6) Y5r rfl (by kernel_rfl) rfl (.cons (s:=6) Y5r rfl (by kernel_rfl) rfl (.cons (s:=1) Zb rfl (by kernel_rfl) rfl (.cons (s:=3) Xx3 rfl (by kernel_rfl) rfl
  (.cons (s:=1) Xvn rfl (by kernel_rfl) rfl (.cons (s:=6) Y5r rfl (by kernel_rfl) rfl (.cons (s:=1) (Xun Tryz.underlying4) rfl (by kernel_rfl) rfl .nil))))))))).map
  fun p hp=>⟨⟨p.1,p.2.1,p.2.2.1,p.2.2.2.1,p.2.2.2.2.1,p.2.2.2.2.2.1,p.2.2.2.2.2.2.1,p.2.2.2.2.2.2.2.1⟩,fun r hr=>hr.elim (hp.2.1 r) fun hr=>hr.elim (hp.2.2.1 r) (hp.2.2.2.2.2.2.1 r),rfl⟩
theorem Xki:Opens Tryz.prog 22 (fun l:List UInt8=>YtgpdghbmiihfbaaGreat.secC l) (fun l=>l.length<=Xiv):=
 (Cr Tryz.underlying22 Tryz.underlying5 (by kernel_rfl) (au (by kernel_rfl))).map fun l hl=>⟨l,hl,rfl⟩
theorem Yad:Opens Tryz.prog 76 wrC (fun w=>w.data.length<=Xiv):=
 (Zh Tryz.underlying76 (tot:=2) (by kernel_rfl) (.cons (s:=1) Zb rfl (by kernel_rfl) rfl (.cons (s:=1) Xki rfl (by kernel_rfl) rfl .nil))).map
  fun p hp=>⟨⟨p.1,p.2.1⟩,hp.2.1,rfl⟩
theorem Y6z:Opens Tryz.prog 39 Xha DOk:=
 (Zh Tryz.underlying39 (tot:=2) (by kernel_rfl) (.cons (s:=1) (Zg Tryz.underlying36 Xki (sz:=1) (by kernel_rfl) (by decide) (au (by kernel_rfl))) rfl (by kernel_rfl) rfl
  (.cons (s:=1) (Zg Tryz.underlying37 Yad (sz:=2) (by kernel_rfl) (by decide) (au (by kernel_rfl))) rfl (by kernel_rfl) rfl .nil))).map
  fun p hp=>⟨⟨p.1,p.2.1⟩,⟨hp.1.1,hp.2.1.1,hp.1.2,hp.2.1.2⟩,rfl⟩
theorem Yae:Opens Tryz.prog 42 bxC (fun b=>DOk b.disk∧HsB b.house):=
 (Zh Tryz.underlying42 (tot:=28) (by kernel_rfl) (.cons (s:=25) Yac rfl (by kernel_rfl) rfl (.cons (s:=2) Y6z rfl (by kernel_rfl) rfl (.cons (s:=1) (Y9j Tryz.underlying40) rfl (by kernel_rfl) rfl .nil)))).map
  fun p hp=>⟨⟨p.1,p.2.1,p.2.2.1⟩,⟨hp.2.1,hp.1⟩,rfl⟩
theorem Yc7:OpensArg Tryz.prog 42 bxA (fun b=>DOk b.disk∧HsB b.house):= .agg Yae (X4g (.inr ⟨_,Tryz.underlying42⟩))
theorem Yc2:OpensArg Tryz.prog 39 Y3p DOk:= .agg Y6z (X4g (.inr ⟨_,Tryz.underlying39⟩))
theorem Yc3:OpensArg Tryz.prog 22 bs (fun l=>l.length<=Xiv):=J8 Tryz.underlying22 Tryz.underlying5 (by kernel_rfl) (au (by kernel_rfl))
end Go.Proofs.YtgpdghbmiihfbaaGreat.Pln
namespace Go.Proofs.YtgpdghbmiihfbaaGreat.Pln
set_option linter.all false
set_option maxHeartbeats 32000000
set_option maxRecDepth 8000
open Go Go.VS Tab
attribute [local irreducible] AWp Xp0 Pg X5c Qy Lt Tp FdT Eb
theorem Yb2 (p:Pl) {s:St} (h:SmS s):SmS (Xjm p s):=⟨by simpa [Xjm] using h.t,by simpa [Xjm] using h.w,by simpa [Xjm] using h.l⟩
theorem Ybr {h:Hs} (hs:SmH h):SmH (Y54 h):=by
 unfold Y54;split
 ·exact hs
 ·exact⟨hs.plan,hs.back,Xob,Yb2 _ hs.st,hs.key,ba _⟩
theorem Ybf (b:Bx) (hd:DOk b.disk) (hb:HsB b.house):Xr Tryz.prog 5 [bxA b] [] (bool true) []:=by
 have ca:=Y5q;have cg:=Y96 b hd;cases hG:Y7v b with
 |true=>
  rw[hG] at cg;simp only[bxA,bxC] at cg;refine Xc 10 Tryz.func5 rfl fun n out _ _=> ?_;simp only[sn,Tryz.ntmps5,simprocAttr];have hg:=Nat.le_refl 0;repeat' (first|refine Vk fun K hK=> ?_|apply V0|((first|apply gE|apply gR|apply gS);simp only[zA,simprocAttr,bxA,bxC])|(apply Vz;(try refine Or.inr ⟨(by intro h;cases h),?_⟩);refine Vo rfl rfl rfl (fun _ _=>rfl) ?_<;>first|rfl|skip)|(refine X3 (ca) ?_)|(refine X3 (cg) ?_)|(refine hK _ ?_;clear hK K)|refine Vt rfl ?_)
 |false=>
  rw[hG] at cg;unfold Y7v at hG;rw[ee] at hG;have hx:=Ybq hG.1 hb;obtain⟨hsm,_⟩:=YtgpdghbmiihfbaaGreat.small_of hG.2;have cf:=Y5x b.disk hsm.s hsm.w;have cs:=Y6x b hx hsm.s hsm.w;clear hG;by_cases hE:Y43 b=0
  ·have hr:Y4s b=true:=by
    by_cases h:Y4s b=true
    ·exact h
    ·unfold Y43 at hE;rw[if_neg h] at hE;cases hE
   have R:=Y42.1 hr;rw[hE] at cs;rw[R.may,if_pos rfl] at cf;by_cases hT:∃a l,Y3s b.disk=a::l∧b.gen.toNat<a.gen.toNat
   ·obtain⟨a,l,hL,hlt⟩:=hT;have hlt':((b.gen.toNat:Int)<(a.gen.toNat:Int))=True:=eq_true (by omega);have hltN:=eq_true hlt;have hz:decide ((0:Int)<((l.length+1:Nat):Int))=true:=ay (by omega);have hz2:(0<l.length+1)=True:=eq_true (by omega);have e0:((rcC a::l.map rcC:List (List AV))).getD 0 []=[w32 a.gen,bs a.text]:=rfl;rw[hL] at cf;generalize Y3o b=S at*;simp only[bxA,bxC,Y3p,Xha,bg] at cg cf cs;refine Xc 10 Tryz.func5 rfl fun n out _ _=> ?_;simp only[sn,Tryz.ntmps5,simprocAttr];have hg:=Nat.le_refl 0;repeat' (first|refine Vk fun K hK=> ?_|apply V0|apply Vs|refine Vd 8 [] [[],[],[],[],[],[],[],[],[],[0],[],[]] [[],[],[],[],[],[],[],[],[],[],[],[]] (by kernel_rfl) (by decide) (by decide) (by kernel_rfl) ?_|((first|apply gE|apply gR|apply gD|apply gS|refine gS2 ?_);simp only[zA,simprocAttr,sg,bxA,bxC,X0,e0,gt_iff_lt,hlt',hz,hz2])|(apply Vz;(try refine Or.inr ⟨(by intro h;cases h),?_⟩);refine Vo rfl rfl rfl (fun _ _=>rfl) ?_<;>first|rfl|skip)|(refine X3 (ca) ?_)|(refine X3 (cg) ?_)|(refine X3 (cf) ?_)|(refine X3 (cs) ?_)|(refine hK _ ?_;clear hK K)|refine Vt rfl ?_|refine Vf rfl ?_)
   ·have ht:∀o,o∈Y3s b.disk->o.gen.toNat<=b.gen.toNat:=fun o ho=>by
     cases hL:Y3s b.disk with
     |nil=>rw[hL] at ho;cases ho
     |cons a l=>
      have h1:=Y7u R.may hL ho;have h2:¬b.gen.toNat<a.gen.toNat:=fun h=>hT ⟨a,l,hL,h⟩;omega
    obtain⟨_,e1,m1,w1,t1,bt⟩:=Y5o hE ht;obtain⟨s2,h2,l2,_,k1,k2⟩:=Y8z R.stg R.halt;obtain⟨be,bb⟩:=bt b.house.key k1 k2;rw[Y58 R.halt] at bb;have hs:=Y5a hx R.stg;have hi:=Ybr hs;have cn:=Y5z b.disk b.gen hsm.s hsm.w;have cI:=Y7h b.house hx R.stg;have gE:YtgpdghbmiihfbaaGreat.nextE b.disk b.gen=0:=by rw[<- hE];exact(if_pos hr).symm
    have gG:(Y3o b).gen=X7s b.disk b.gen:=by rw[e1]
    have gH:(Y3o b).house=b.house:=by rw[e1]
    have sD:Small (Y3o b).disk:=Y3x m1;have cB:=Y5p (Y3o b).disk b.house.key sD (by omega);have cS:=Y7b (Y54 b.house) hi;have cT:=Y7b b.house hs;have cU:=Xe9 (Y3o b).disk (Y3o b).disk (by have:=sD.w;omega) (by have:=sD.s;omega);have c2:=Y6x ⟨Y54 b.house,(Y3o b).disk,X7s b.disk b.gen⟩ hi.x sD.s sD.w;rw[YtgpdghbmiihfbaaGreat.sameB_refl] at cU;rw[be,bb,gG] at cB;rw[gE] at cn;rw[gG] at t1;have hX:Y43 ⟨Y54 b.house,(Y3o b).disk,X7s b.disk b.gen⟩=0∨Y43 ⟨Y54 b.house,(Y3o b).disk,X7s b.disk b.gen⟩=9:=by
     have hr2:Y4s ⟨Y54 b.house,(Y3o b).disk,X7s b.disk b.gen⟩=true:=Y42.2 ⟨s2,h2,m1,w1⟩;unfold Y43;rw[if_pos hr2];unfold YtgpdghbmiihfbaaGreat.nextE;rw[m1,if_pos rfl];split
     ·exact .inr rfl
     ·exact .inl rfl
    have cB2:Y43 ⟨Y54 b.house,(Y3o b).disk,X7s b.disk b.gen⟩=0->Xr Tryz.prog 13 [Y3p (Y3o ⟨Y54 b.house,(Y3o b).disk,X7s b.disk b.gen⟩).disk,bs b.house.key] [] (.tup [bxA ⟨Y54 b.house,(Y3o ⟨Y54 b.house,(Y3o b).disk,X7s b.disk b.gen⟩).disk,(Y3o ⟨Y54 b.house,(Y3o b).disk,X7s b.disk b.gen⟩).gen⟩,i64 0]) []:=fun h0=>by
     obtain⟨_,_,m2,_,_,bt2⟩:=Y5o h0 t1;obtain⟨be2,bb2⟩:=bt2 b.house.key k1 k2;have c:=Y5p (Y3o ⟨Y54 b.house,(Y3o b).disk,X7s b.disk b.gen⟩).disk b.house.key (Y3x m2) (by omega);rw[be2,bb2,show Y3k (Xrr (Y54 b.house)) b.house.key=Y54 b.house from by rw[l2];exact Y58 R.halt] at c;exact c
    have key:∀L:List Rc,(L=[]∨∃a l,L=a::l∧b.gen.toNat>=a.gen.toNat)->Xr Tryz.prog 21 [Y3p b.disk] [] (.tup [.sl 2 (L.map rcC) .sh,i64 0]) []->Xr Tryz.prog 5 [bxA b] [] (bool true) []:=fun L hL cf=>by
     rw[e1] at cs cB cU c2 cB2 hX;dsimp only at cs cB cU c2 cB2 hX;generalize Xic (Y4e b.disk (Y7s b))=D1 at*;generalize X7s b.disk b.gen=G at*;generalize Y54 b.house=I at*;generalize Y43 ⟨I,D1,G⟩=E at*;generalize Y3o ⟨I,D1,G⟩=Z at*;clear t1 bt s2 h2 l2 be bb m1 w1 gE gG gH sD hE hr;simp only[hsA,hsC,Y3p,Xha,bxA,bxC] at cg cf cs cn cI cB cS cT cU c2 cB2;refine Xc 10 Tryz.func5 rfl fun n out _ _=> ?_;simp only[sn,Tryz.ntmps5,simprocAttr];have hg:=Nat.le_refl 0;repeat' (first|refine Vk fun K hK=> ?_|apply V0|apply Vs|((first|apply gE|apply gR|apply gS);simp only[zA,simprocAttr,bxA,bxC,Y8b])|(refine X3 (ca) ?_)|(refine X3 (cg) ?_)|(refine X3 (cf) ?_)|(refine hK _ ?_;clear hK K)|refine Vf rfl ?_)
     refine X3 cs ?_;simp only[zA,simprocAttr]
     (refine hK _ ?_;clear hK K)
     refine Vk fun KB hKB=> ?_;repeat' (first|refine Vk fun K hK=> ?_|apply V0|apply Vs|((first|apply gE|apply gS);simp only[zA,simprocAttr])|(refine hK _ ?_;clear hK K)|refine Vf rfl ?_)
     refine hKB _ ?_;clear hKB KB;refine Qf [(68,bool false),(2,.top),(57,.top),(58,.top),(59,.top),(60,.top),(61,.top),(62,.top),(63,.top),(64,.top),(65,.top),(66,.top),(67,.top),(69,.top)] [some (.box 42 (bxC b)),some (.box 42 (bxC ⟨b.house,D1,G⟩)),none,none,none,none,none,none,none,none] out (id ?_) ?_;rotate_left
     ·rcases hL with rfl|⟨a,l,rfl,hle⟩
      ·repeat' (first|refine Vk fun K hK=> ?_|apply Vs|refine Vd 8 [] [[],[],[],[],[],[],[],[],[],[0],[],[]] [[],[],[],[],[],[],[],[],[],[],[],[]] (by kernel_rfl) (by decide) (by decide) (by kernel_rfl) ?_|((first|apply gD|apply gS|refine gS2 ?_);simp only[zA,simprocAttr,sg,bxC])|(refine hK _ ?_;clear hK K)|refine Vf rfl ?_|(refine Or.inl ⟨rfl,?_⟩;refine La rfl ?_ ?_<;>simp only[sL,bxC,ad]))
      ·have hle':((b.gen.toNat:Int)<(a.gen.toNat:Int))=False:=dc (by omega);have hleN:(b.gen.toNat<a.gen.toNat)=False:=dc (by omega);have hz:decide ((0:Int)<((l.length+1:Nat):Int))=true:=ay (by omega);have hz2:(0<l.length+1)=True:=eq_true (by omega);have e0:((rcC a::l.map rcC:List (List AV))).getD 0 []=[w32 a.gen,bs a.text]:=rfl;repeat' (first|refine Vk fun K hK=> ?_|apply Vs|refine Vd 8 [] [[],[],[],[],[],[],[],[],[],[0],[],[]] [[],[],[],[],[],[],[],[],[],[],[],[]] (by kernel_rfl) (by decide) (by decide) (by kernel_rfl) ?_|((first|apply gD|apply gS|refine gS2 ?_);simp only[zA,simprocAttr,sg,bxC,e0,gt_iff_lt,hle',hz,hz2])|(refine hK _ ?_;clear hK K)|refine Vf rfl ?_|(refine Or.inl ⟨rfl,?_⟩;refine La rfl ?_ ?_<;>simp only[sL,bxC,bg]))
     simp only[pt];rcases hX with rfl|rfl
     ·have cB2:=cB2 rfl;repeat' (first|refine Vk fun K hK=> ?_|apply V0|apply Vs|((first|apply gE|apply gR|apply gS);simp only[zA,simprocAttr,bxC,X0,Y91,Y8b,i9])|(apply Vz;(try refine Or.inr ⟨(by intro h;cases h),?_⟩);refine Vo rfl rfl rfl (fun _ _=>rfl) ?_<;>first|rfl|skip)|(refine X3 (cn) ?_)|(refine X3 (cI) ?_)|(refine X3 (cB) ?_)|(refine X3 (cS) ?_)|(refine X3 (cT) ?_)|(refine X3 (cU) ?_)|(refine X3 (c2) ?_)|(refine X3 (cB2) ?_)|(refine hK _ ?_;clear hK K)|refine Vf rfl ?_)
     ·clear cB2;repeat' (first|refine Vk fun K hK=> ?_|apply V0|apply Vs|((first|apply gE|apply gR|apply gS);simp only[zA,simprocAttr,bxC,X0,Y91,Y8b,i9])|(apply Vz;(try refine Or.inr ⟨(by intro h;cases h),?_⟩);refine Vo rfl rfl rfl (fun _ _=>rfl) ?_<;>first|rfl|skip)|(refine X3 (cn) ?_)|(refine X3 (cI) ?_)|(refine X3 (cB) ?_)|(refine X3 (cS) ?_)|(refine X3 (cT) ?_)|(refine X3 (cU) ?_)|(refine X3 (c2) ?_)|(refine hK _ ?_;clear hK K)|refine Vt rfl ?_|refine Vf rfl ?_)
    refine key (Y3s b.disk) ?_ cf;cases hL:Y3s b.disk with
    |nil=>exact .inl rfl
    |cons a l=>exact .inr ⟨a,l,rfl,ht a (by rw[hL];exact db)⟩
  ·have hE':(Y43 b !=0)=true:=by simpa using hE
   have hEz:(Y43 b==0)=false:=by simpa using hE
   have eS:Y3o b=Y4r:=by unfold Y3o;rw[if_neg hE]
   rw[eS] at cs;have hk:Y4r.house.key=[]:=rfl;generalize Y4r=A at*;generalize Y43 b=E at*;generalize Y3s b.disk=L at*;simp only[bxA,bxC,Y3p,Xha] at cg cf cs;refine Xc 10 Tryz.func5 rfl fun n out _ _=> ?_;simp only[sn,Tryz.ntmps5,simprocAttr];have hg:=Nat.le_refl 0;repeat' (first|refine Vk fun K hK=> ?_|apply V0|apply Vs|((first|apply gE|apply gR|apply gS);simp only[zA,simprocAttr,hg,bxA,bxC,X0,hE',hEz,hk,Y8b])|(apply Vz;(try refine Or.inr ⟨(by intro h;cases h),?_⟩);refine Vo rfl rfl rfl (fun _ _=>rfl) ?_<;>first|rfl|skip)|(refine X3 (ca) ?_)|(refine X3 (cg) ?_)|(refine X3 (cf) ?_)|(refine X3 (cs) ?_)|((refine Vg (fun hg=> ?_) (fun hg=> ?_))<;>try simp only[nb] at hg)|(refine hK _ ?_;clear hK K)|refine Vt rfl ?_|refine Vf rfl ?_)
theorem Yc4 (k:List UInt8):(AV.val (.string ⟨k.toArray⟩))= .val (.string ⟨k.toArray⟩):=rfl
theorem Ybg (d:Dsk) (one two:List UInt8) (hd:DOk d) (ho:one.length<=Xiv) (ht:two.length<=Xiv):Xr Tryz.prog 6 [Y3p d,bs one,bs two] [] (bool true) []:=by
 have ca:=Y5q;have cg:=Xj6 d hd;simp only[Y3p,Xha] at cg;by_cases hG:Xjd d=true∨1000<one.length∨1000<two.length
 ·generalize Xjd d=G at*;refine Xc 4 Tryz.func6 rfl fun n out _ _=> ?_;simp only[sn,Tryz.ntmps6,simprocAttr];have hg:=Nat.le_refl 0;repeat' (first|refine Vk fun K hK=> ?_|apply V0|apply Vs|((first|apply gE|apply gR|apply gS);simp only[zA,simprocAttr,hg,Y3p,Xha,X5])|(apply Vz;refine Vo rfl rfl rfl (fun _ _=>rfl) ?_<;>first|rfl|skip)|(refine X3 (ca) ?_)|(refine X3 (cg) ?_)|((refine Vg (fun hg=> ?_) (fun hg=> ?_))<;>try simp only[nb] at hg)|(refine hK _ ?_;clear hK K)|refine Vt rfl ?_|refine Vf rfl ?_)
  all_goals (exfalso;simp only[gt_iff_lt,am,dk] at*;rcases hG with h|h|h<;>simp_all<;>omega)
 ·simp only[not_or,Bool.not_eq_true] at hG;obtain⟨g1,g2,g3⟩:=hG;have l1:((one.length:Int)>1000)=False:=dc (by omega);have l2:((two.length:Int)>1000)=False:=dc (by omega);rw[g1] at cg;obtain⟨hsm,_⟩:=YtgpdghbmiihfbaaGreat.small_of g1;have cA:=Y5p d one hsm (by omega);have cB:=Y5p d two hsm (by omega);by_cases e1:Y3y d one=0
  ·by_cases e2:Y3y d two=0
   ·obtain⟨k1,k2,k3,hm,hw⟩:1<=one.length∧one.length<=64∧two.length<=64∧may d=true∧d.waits=[]:=by
     unfold Y3y at e1 e2;split at e1
     ·cases e1
     ·split at e2
      ·cases e2
      ·split at e1
       ·rename_i h1 h2 h3;exact⟨by omega,by omega,by omega,h3.1,h3.2⟩
       ·cases e1
    have fA:Y3u d one=Y53 one d (Y3s d):=if_pos e1;have fB:Y3u d two=Y53 two d (Y3s d):=if_pos e2;have cU:=Xe9 d d (by have:=hsm.w;omega) (by have:=hsm.s;omega);rw[YtgpdghbmiihfbaaGreat.sameB_refl] at cU;rw[e1,fA] at cA;rw[e2,fB] at cB;obtain⟨j,j1,j2,j3,j4⟩:=Y6e d (Y3s d);by_cases hj:j<(Y3s d).length
    ·obtain⟨ok,jb⟩:=j4 hj;have hg:=Y90 (ak hj);rw[jb] at cA cB;generalize (Y3s d)[j]=r at*;obtain⟨s1,s2⟩:=Y6c ok k1 k2;have sm:=Xyd r.text;have q1:SmH (Y3k (Xof r.text) one):=⟨sm.plan,sm.back,sm.next,sm.st,by show one.length<=1000;omega,sm.buf⟩
     have c1:=Y4t (Y3k (Xof r.text) one) q1.x;have c2:=Y8e (Y3k (Xof r.text) one) (Y3k (Xof r.text) two) q1;have c3:=Y7h (Y3k (Xof r.text) one) q1.x s1;have eI:Y54 (Y3k (Xof r.text) one)=Y3k (Xof r.text) one:=by
      rw[<- Y58 s2]
      show Y3k (Xrr (Xof r.text)) one= _
      rw[Y5n ok]
     have c4:=Y7b (Y3k (Xof r.text) one) q1;rw[show Yah _=0 from if_pos s1] at c1;rw[eI] at c3;have e3:(Sy (Y3k (Xof r.text) one).plan (Y3k (Xof r.text) two).plan&&(Sy (Y3k (Xof r.text) one).back (Y3k (Xof r.text) two).back&&((Y3k (Xof r.text) one).high==(Y3k (Xof r.text) two).high&&((Y3k (Xof r.text) one).halt==(Y3k (Xof r.text) two).halt&&Xzl (Y3k (Xof r.text) one).st (Y3k (Xof r.text) two).st))))=true:=by
      simp only[Y3k,Xqe.2 rfl,fw,Y7w,jf]
     rw[e3] at c2;have y1:(Y3k (Xof r.text) one).key=one:=rfl;have y2:(Y3k (Xof r.text) two).key=two:=rfl;have y3:((r.gen.toNat:Int)>0)=True:=eq_true (by
      have:r.gen.toNat≠0:=fun h=>hg (jc h);omega)
     clear e3 eI sm j4;generalize Y3k (Xof r.text) one=A at*;generalize Y3k (Xof r.text) two=B at*;simp only[hsA,hsC,Y3p,Xha,bxA,bxC,y1,y2,s2] at cA cB c1 c2 c3 c4 cU;refine Xc 4 Tryz.func6 rfl fun n out _ _=> ?_;simp only[sn,Tryz.ntmps6,simprocAttr];have hg:=Nat.le_refl 0;repeat' (first|refine Vk fun K hK=> ?_|apply V0|apply Vs|((first|apply gE|apply gR|apply gS);simp only[zA,simprocAttr,Y3p,Xha,X5,l1,l2,X0,y3,Y91,Ya,Z5,i9])|(apply Vz;refine Vo rfl rfl rfl (fun _ _=>rfl) ?_<;>first|rfl|skip)|(refine X3 (ca) ?_)|(refine X3 (cg) ?_)|(refine X3 (cA) ?_)|(refine X3 (cB) ?_)|(refine X3 (c1) ?_)|(refine X3 (c2) ?_)|(refine X3 (c3) ?_)|(refine X3 (c4) ?_)|(refine X3 (cU) ?_)|(refine hK _ ?_;clear hK K)|refine Vf rfl ?_)
    ·have jh:=j3 (by omega);rw[jh] at cA cB;have c1:=Y4t (Y3w one) ⟨Xob.wide.v,Xob.wide.v,Xob.wide.v,⟨ba _,ba _,ba _⟩,by show one.length<=1000;omega,ba _⟩;rw[show Yah _=0 from if_pos (Yab k2)] at c1;have c2:=Y8e (Y3w one) (Y3w two) ⟨Xob,Xob,Xob,⟨ba _,ba _,ba _⟩,by show one.length<=1000;omega,ba _⟩;have e3:(Sy (Y3w one).plan (Y3w two).plan&&(Sy (Y3w one).back (Y3w two).back&&((Y3w one).high==(Y3w two).high&&((Y3w one).halt==(Y3w two).halt&&Xzl (Y3w one).st (Y3w two).st))))=true:=by
      simp only[Y3w,Xqe.2 rfl,fw,Y7w,jf]
     rw[e3] at c2;have y1:(Y3w one).key=one:=rfl;have y2:(Y3w two).key=two:=rfl;have y3:(Y3w one).halt=true:=rfl;have y4:(Y3w one).plan.ver=0:=rfl;have y5:(Y3w one).st.tr=[]:=rfl;clear e3;generalize Y3w one=A at*;generalize Y3w two=B at*;simp only[hsA,hsC,Y3p,Xha,bxA,bxC,y1,y2,y3,y4,y5,ad] at cA cB c1 c2 cU;refine Xc 4 Tryz.func6 rfl fun n out _ _=> ?_;simp only[sn,Tryz.ntmps6,simprocAttr];have hg:=Nat.le_refl 0;repeat' (first|refine Vk fun K hK=> ?_|apply V0|apply Vs|((first|apply gE|apply gR|apply gS);simp only[zA,simprocAttr,Y3p,Xha,X5,l1,l2,X0,Y91,Ya,Z5,i9])|(apply Vz;refine Vo rfl rfl rfl (fun _ _=>rfl) ?_<;>first|rfl|skip)|(refine X3 (ca) ?_)|(refine X3 (cg) ?_)|(refine X3 (cA) ?_)|(refine X3 (cB) ?_)|(refine X3 (c1) ?_)|(refine X3 (c2) ?_)|(refine X3 (cU) ?_)|(refine hK _ ?_;clear hK K)|refine Vt rfl ?_|refine Vf rfl ?_)
   ·have e2':(Y3y d two !=0)=true:=by simpa using e2
    rw[e1] at cA;generalize Y3u d one=A at*;generalize Y3u d two=B at*;generalize Y3y d two=E at*;simp only[Y3p,Xha,bxA,bxC] at cA cB;refine Xc 4 Tryz.func6 rfl fun n out _ _=> ?_;simp only[sn,Tryz.ntmps6,simprocAttr];have hg:=Nat.le_refl 0;repeat' (first|refine Vk fun K hK=> ?_|apply V0|apply Vs|((first|apply gE|apply gR|apply gS);simp only[zA,simprocAttr,Y3p,Xha,X5,l1,l2,X0,e2'])|(apply Vz;refine Vo rfl rfl rfl (fun _ _=>rfl) ?_<;>first|rfl|skip)|(refine X3 (ca) ?_)|(refine X3 (cg) ?_)|(refine X3 (cA) ?_)|(refine X3 (cB) ?_)|(refine hK _ ?_;clear hK K)|refine Vt rfl ?_|refine Vf rfl ?_)
  ·have e1':(Y3y d one !=0)=true:=by simpa using e1
   have e1z:(Y3y d one==0)=false:=by simpa using e1
   have eA:Y3u d one=Y4r:=by unfold Y3u;rw[if_neg e1]
   rw[eA] at cA;have hk:Y4r.house.key=[]:=rfl;generalize Y4r=A at*;generalize Y3u d two=B at*;generalize Y3y d one=E at*;generalize Y3y d two=E2 at*;simp only[Y3p,Xha,bxA,bxC] at cA cB;refine Xc 4 Tryz.func6 rfl fun n out _ _=> ?_;simp only[sn,Tryz.ntmps6,simprocAttr];have hg:=Nat.le_refl 0;repeat' (first|refine Vk fun K hK=> ?_|apply V0|apply Vs|((first|apply gE|apply gR|apply gS);simp only[zA,simprocAttr,Y3p,Xha,X5,l1,l2,X0,e1',e1z,hk])|(apply Vz;refine Vo rfl rfl rfl (fun _ _=>rfl) ?_<;>first|rfl|skip)|(refine X3 (ca) ?_)|(refine X3 (cg) ?_)|(refine X3 (cA) ?_)|(refine X3 (cB) ?_)|(refine hK _ ?_;clear hK K)|refine Vt rfl ?_|refine Vf rfl ?_)
end Go.Proofs.YtgpdghbmiihfbaaGreat.Pln
