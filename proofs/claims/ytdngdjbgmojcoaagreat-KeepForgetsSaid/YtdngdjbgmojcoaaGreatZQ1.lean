/- The layer of abstract values, joined. -/
import Derived.Test.YtdngdjbgmojcoaaGreatZPR
import Derived.Test.YtdngdjbgmojcoaaGreatZVsLaw
import Derived.Test.YtdngdjbgmojcoaaGreatZTab
import Derived.Test.YtdngdjbgmojcoaaGreatZQ0
namespace Go.Proofs.YtdngdjbgmojcoaaGreat.Pln
set_option linter.unusedSimpArgs false
set_option linter.unusedVariables false
open Go Go.VS Tab
theorem Zb:Opens Tryz.prog 3 Ym (fun a=>(Lit.int .i64 a).wf=true):=Tv Tryz.underlying3
theorem Pp:Opens Tryz.prog 61 (fun l:List Int=>[X62 l]) (fun _=>True):=
 (Zg Tryz.underlying61 Zb (sz:=1) (by kernel_rfl) (by decide) (of_decide_eq_true (by kernel_rfl))).map fun l hl=>⟨l,trivial,rfl⟩
theorem X0f:Opens Tryz.prog 138 jnC (fun _=>True):=
 (Zh Tryz.underlying138 (tot:=2) (by kernel_rfl) (.cons (s:=1) Zb rfl (by kernel_rfl) rfl (.cons (s:=1) Zb rfl (by kernel_rfl) rfl .nil))).map
  fun p hp=>⟨(p.1,p.2.1),trivial,rfl⟩
theorem X0g:Opens Tryz.prog 79 jnC (fun _=>True):=
 (Zh Tryz.underlying79 (tot:=2) (by kernel_rfl) (.cons (s:=1) Zb rfl (by kernel_rfl) rfl (.cons (s:=1) Zb rfl (by kernel_rfl) rfl .nil))).map
  fun p hp=>⟨(p.1,p.2.1),trivial,rfl⟩
theorem X0h:Opens Tryz.prog 142 jnC (fun _=>True):=
 (Zh Tryz.underlying142 (tot:=2) (by kernel_rfl) (.cons (s:=1) Zb rfl (by kernel_rfl) rfl (.cons (s:=1) Zb rfl (by kernel_rfl) rfl .nil))).map
  fun p hp=>⟨(p.1,p.2.1),trivial,rfl⟩
theorem X0i:Opens Tryz.prog 92 sgC (fun _=>True):=
 (Zh Tryz.underlying92 (tot:=3) (by kernel_rfl) (.cons (s:=1) Zb rfl (by kernel_rfl) rfl (.cons (s:=1) Zb rfl (by kernel_rfl) rfl (.cons (s:=1) Zb rfl (by kernel_rfl) rfl .nil)))).map
  fun p hp=>⟨(p.1,p.2.1,p.2.2.1),trivial,rfl⟩
theorem Hr:Opens Tryz.prog 75 Y6 (fun _=>True):=
 (Zh Tryz.underlying75 (tot:=3) (by kernel_rfl) (.cons (s:=1) Zb rfl (by kernel_rfl) rfl (.cons (s:=1) Zb rfl (by kernel_rfl) rfl
  (.cons (s:=1) (Zg Tryz.underlying73 X0f (sz:=2) (by kernel_rfl) (by decide) (of_decide_eq_true (by kernel_rfl))) rfl (by kernel_rfl) rfl .nil)))).map
  fun p hp=>⟨⟨p.1,p.2.1,p.2.2.1⟩,trivial,rfl⟩
theorem X0j:Opens Tryz.prog 82 rtC (fun _=>True):=
 (Zh Tryz.underlying82 (tot:=7) (by kernel_rfl) (.cons (s:=1) Zb rfl (by kernel_rfl) rfl (.cons (s:=1) Zb rfl (by kernel_rfl) rfl (.cons (s:=1) Zb rfl (by kernel_rfl) rfl
  (.cons (s:=1) Pp rfl (by kernel_rfl) rfl (.cons (s:=1) Pp rfl (by kernel_rfl) rfl
  (.cons (s:=1) (Zg Tryz.underlying80 X0h (sz:=2) (by kernel_rfl) (by decide) (of_decide_eq_true (by kernel_rfl))) rfl (by kernel_rfl) rfl
  (.cons (s:=1) Zb rfl (by kernel_rfl) rfl .nil)))))))).map
  fun p hp=>⟨⟨p.1,p.2.1,p.2.2.1,p.2.2.2.1,p.2.2.2.2.1,p.2.2.2.2.2.1,p.2.2.2.2.2.2.1⟩,trivial,rfl⟩
theorem X0k:Opens Tryz.prog 28 plC (fun _=>True):=
 (Zh Tryz.underlying28 (tot:=6) (by kernel_rfl) (.cons (s:=1) Zb rfl (by kernel_rfl) rfl (.cons (s:=1) Zb rfl (by kernel_rfl) rfl
  (.cons (s:=1) (Zg Tryz.underlying23 Hr (sz:=3) (by kernel_rfl) (by decide) (of_decide_eq_true (by kernel_rfl))) rfl (by kernel_rfl) rfl
  (.cons (s:=1) (Zg Tryz.underlying24 X0g (sz:=2) (by kernel_rfl) (by decide) (of_decide_eq_true (by kernel_rfl))) rfl (by kernel_rfl) rfl
  (.cons (s:=1) (Zg Tryz.underlying25 X0i (sz:=3) (by kernel_rfl) (by decide) (of_decide_eq_true (by kernel_rfl))) rfl (by kernel_rfl) rfl
  (.cons (s:=1) (Zg Tryz.underlying26 X0j (sz:=7) (by kernel_rfl) (by decide) (of_decide_eq_true (by kernel_rfl))) rfl (by kernel_rfl) rfl .nil))))))).map
  fun p hp=>⟨⟨p.1,p.2.1,p.2.2.1,p.2.2.2.1,p.2.2.2.2.1,p.2.2.2.2.2.1⟩,trivial,rfl⟩
theorem Xv2:OpensArg Tryz.prog 22 (fun l:List UInt8=> .sl 1 (Xo l) .sh) (fun l=>l.length≤reachBytes):=J8 Tryz.underlying22 Tryz.underlying5 (by kernel_rfl) (of_decide_eq_true (by kernel_rfl))
theorem Xx0:Opens Tryz.prog 77 tkC (fun _=>True):=
 (Zh Tryz.underlying77 (tot:=2) (by kernel_rfl) (.cons (s:=1) Zb rfl (by kernel_rfl) rfl (.cons (s:=1) (X1c Tryz.underlying5) rfl (by kernel_rfl) rfl .nil))).map
  fun p hp=>⟨(p.1,p.2.1),trivial,rfl⟩
theorem Xx1:Opens Tryz.prog 63 sgC (fun _=>True):=
 (Zh Tryz.underlying63 (tot:=3) (by kernel_rfl) (.cons (s:=1) Zb rfl (by kernel_rfl) rfl (.cons (s:=1) Zb rfl (by kernel_rfl) rfl (.cons (s:=1) Zb rfl (by kernel_rfl) rfl .nil)))).map
  fun p hp=>⟨(p.1,p.2.1,p.2.2.1),trivial,rfl⟩
theorem Xx2:Opens Tryz.prog 65 lkC (fun _=>True):=
 (Zh Tryz.underlying65 (tot:=4) (by kernel_rfl) (.cons (s:=1) Zb rfl (by kernel_rfl) rfl (.cons (s:=1) (X1c Tryz.underlying5) rfl (by kernel_rfl) rfl (.cons (s:=1) Zb rfl (by kernel_rfl) rfl (.cons (s:=1) Zb rfl (by kernel_rfl) rfl .nil))))).map
  fun p hp=>⟨(p.1,p.2.1,p.2.2.1,p.2.2.2.1),trivial,rfl⟩
theorem Xx3:Opens Tryz.prog 33 stC (fun _=>True):=
 (Zh Tryz.underlying33 (tot:=3) (by kernel_rfl)
  (.cons (s:=1) (Zg Tryz.underlying29 Xx0 (sz:=2) (by kernel_rfl) (by decide) (of_decide_eq_true (by kernel_rfl))) rfl (by kernel_rfl) rfl
  (.cons (s:=1) (Zg Tryz.underlying30 Xx1 (sz:=3) (by kernel_rfl) (by decide) (of_decide_eq_true (by kernel_rfl))) rfl (by kernel_rfl) rfl
  (.cons (s:=1) (Zg Tryz.underlying31 Xx2 (sz:=4) (by kernel_rfl) (by decide) (of_decide_eq_true (by kernel_rfl))) rfl (by kernel_rfl) rfl .nil)))).map
  fun p hp=>⟨⟨p.1,p.2.1,p.2.2.1⟩,trivial,rfl⟩
theorem Xvn:Opens Tryz.prog 22 (fun l:List UInt8=>[.sl 1 (Xo l) .sh]) (fun l=>l.length≤reachBytes):=Cr Tryz.underlying22 Tryz.underlying5 (by kernel_rfl) (of_decide_eq_true (by kernel_rfl))
theorem Xyf:Opens Tryz.prog 35 hsC (fun _=>True):=
 (Zh Tryz.underlying35 (tot:=25) (by kernel_rfl)
  (.cons (s:=1) Xvn rfl (by kernel_rfl) rfl (.cons (s:=6) X0k rfl (by kernel_rfl) rfl (.cons (s:=6) X0k rfl (by kernel_rfl) rfl (.cons (s:=1) Zb rfl (by kernel_rfl) rfl (.cons (s:=3) Xx3 rfl (by kernel_rfl) rfl
  (.cons (s:=1) Xvn rfl (by kernel_rfl) rfl (.cons (s:=6) X0k rfl (by kernel_rfl) rfl (.cons (s:=1) (Xun Tryz.underlying4) rfl (by kernel_rfl) rfl .nil))))))))).map
  fun p hp=>⟨⟨p.1,p.2.1,p.2.2.1,p.2.2.2.1,p.2.2.2.2.1,p.2.2.2.2.2.1,p.2.2.2.2.2.2.1,p.2.2.2.2.2.2.2.1⟩,trivial,rfl⟩
theorem Y1h:OpensArg Tryz.prog 35 hsA (fun _=>True):= .agg Xyf (X4g (.inr ⟨_,Tryz.underlying35⟩))
end Go.Proofs.YtdngdjbgmojcoaaGreat.Pln
namespace Go.Proofs.YtdngdjbgmojcoaaGreat.Pln
set_option linter.unusedSimpArgs false
set_option linter.unusedVariables false
set_option maxHeartbeats 1000000
open Go Go.VS
theorem Xuc {c:List (Int×Int)} {g:Gp} {w:Wy} {l l':Int×UInt8×Int×Int} (h1:l'.1=l.1) (h2:l'.2.1=l.2.1) (h3:l'.2.2.1=l.2.2.1):Xi0 c g (w,l')=Xi0 c g (w,l):=by
 obtain⟨a,b,d,e⟩:=l
 obtain⟨a',b',d',e'⟩:=l'
 dsimp only at h1 h2 h3
 subst h1 h2 h3
 rfl
theorem Xtg {c:List (Int×Int)}:∀(ws:List Wy) (l l':List (Int×UInt8×Int×Int)) (g:Gp),l.length=l'.length→(∀(i:Nat) (x y:Int×UInt8×Int×Int),l[i]? =some x→l'[i]? =some y→y.1=x.1∧y.2.1=x.2.1∧y.2.2.1=x.2.2.1)→(ws.zip l').foldl (Xi0 c) g=(ws.zip l).foldl (Xi0 c) g
 |[],_,_,_,_,_=>by simp
 |w::ws,[],[],g,_,_=>rfl
 |w::ws,x::l,y::l',g,hl,h=>by
  obtain⟨h1,h2,h3⟩:=h 0 x y rfl rfl
  rw[List.zip_cons_cons,List.zip_cons_cons,List.foldl_cons,List.foldl_cons,Xuc h1 h2 h3]
  exact Xtg ws l l' _ (by simpa using hl) fun i x y hx hy=>h (i+1) x y (by simpa using hx) (by simpa using hy)
 |w::ws,[],_:: _,_,hl,_=>by simp at hl
 |w::ws,_:: _,[],_,hl,_=>by simp at hl
theorem Xq2 (p:Pl) (i:Nat) (l:Int×UInt8×Int×Int):(Xr0 p i l).1=l.1∧(Xr0 p i l).2.1=l.2.1∧(Xr0 p i l).2.2.1=l.2.2.1:=by
 unfold Xr0
 split<;>exact⟨rfl,rfl,rfl⟩
theorem Xsp (s:List (Int×Int×Int)):Xjs (s.map Xpo)=Xjs s:=by
 unfold Xjs
 rw[List.foldl_map]
 rfl
theorem Xv5 (p:Pl) (s:St):Xpg p (Xjm p s)=Xpg p s:=by
 unfold Xpg
 rw[show(Xjm p s).sw=s.sw.map Xpo from rfl,Xsp]
 refine Xtg _ _ _ _ (by simp [Xjm]) fun i x y hx hy=> ?_
 have e:(Xjm p s).lk[i]? =some (Xr0 p i x):=by simp [Xjm,hx]
 rw[e] at hy
 injection hy with hy
 subst hy
 exact Xq2 p i x
theorem Xv6:∀{s:List (Int×Int×Int)} {l:List (Int×Int)},Fv Xuw s l=true→Fv Xuw (s.map Xpo) l=true
 |[],[],_=>rfl
 |w::s,x::l,h=>by
  rw[Fv,Bool.and_eq_true] at h
  rw[List.map_cons,Fv,Bool.and_eq_true]
  refine⟨?_,Xv6 h.2⟩
  have h1:=h.1
  unfold Xuw at h1⊢
  simp only[Bool.and_eq_true] at h1⊢
  exact⟨h1.1,rfl,h1.2.2⟩
 |[],_:: _,h=>by simp [Fv] at h
 | _:: _,[],h=>by simp [Fv] at h
theorem Xz6:∀(l:List Sec),Fv Xvr (l.map atT) l=true
 |[]=>rfl
 |x::l=>by
  rw[List.map_cons,Fv,Xz6 l]
  unfold Xvr atT
  simp
theorem Xwr {l:Int×UInt8×Int×Int} {r:Rt} (h:Xsm l r=true):Xsm (Xrg l r) r=true:=by
 obtain⟨a,ph,g,t⟩:=l
 unfold Xrg
 dsimp only
 split
 ·rename_i ht
  unfold Xsm Xr7 at h⊢
  simp only[Bool.and_eq_true,beq_iff_eq] at h⊢
  obtain⟨h1,h2⟩:=h
  refine⟨h1,?_⟩
  split at h2
  ·simp only[Bool.and_eq_true,beq_iff_eq] at h2
   omega
  ·rename_i p0
   rw[if_neg p0]
   split at h2
   ·simp only[Bool.and_eq_true,beq_iff_eq] at h2
    omega
   ·rename_i p2
    rw[if_neg p2]
    split at h2
    ·rename_i p3
     rw[if_pos p3]
     simp only[Bool.and_eq_true,beq_iff_eq,decide_eq_true_eq] at h2⊢
     omega
    ·rename_i p3
     rw[if_neg p3]
     split at h2
     ·rename_i p4
      rw[if_pos p4]
      simp only[Bool.and_eq_true,beq_iff_eq,decide_eq_true_eq] at h2⊢
      omega
     ·cases h2
 ·exact h
theorem Xv7:∀{s:List (Int×UInt8×Int×Int)} {l:List Rt},Fv Xsm s l=true→Fv Xsm (List.zipWith Xrg s l) l=true
 |[],[],_=>rfl
 |w::s,x::l,h=>by
  rw[Fv,Bool.and_eq_true] at h
  rw[List.zipWith_cons_cons,Fv,Xwr h.1,Xv7 h.2];rfl
 |[],_:: _,h=>by simp [Fv] at h
 | _:: _,[],h=>by simp [Fv] at h
theorem Xws {p:Pl} {s:St} (h:Xrz p s=0):Xrz p (Xjm p s)=0:=by
 obtain⟨s1,s2,s3,s4,s5⟩:=Xp8 h
 have e:Xqm p (Xjm p s)=true:=by
  unfold Xqm Xog
  rw[Xv5,s5,Xs4 p s (Xov s4),Xv7 s4,show(Xjm p s).sw=s.sw.map Xpo from rfl,Xv6 s3,show(Xjm p s).tr=s.tr.map Xuh from rfl,Xqj s2,Xz6]
  rfl
 unfold Xrz
 rw[if_pos s1,e];rfl
theorem Xv8 (p:Pl) (s:St):swN (Xjm p s).sw=swN s.sw∧lkN (Xjm p s).lk=lkN s.lk:=by
 refine⟨by simp only[swN,Xjm,List.map_map];rfl,?_⟩
 unfold lkN
 rw[List.flatMap_def,List.flatMap_def]
 congr 1
 apply List.ext_getElem?
 intro i
 simp only[Xjm,List.getElem?_map,List.getElem?_mapIdx]
 cases s.lk[i]? with
 |none=>rfl
 |some x=>
  obtain⟨h1,h2,h3⟩:=Xq2 p i x
  simp only[Option.map_some,h2,h3]
theorem Xxr {h o:Hs} (h1:o.plan=h.plan) (h2:o.back=h.back) (h3:o.high=h.high) (h4:swN o.st.sw=swN h.st.sw) (h5:lkN o.st.lk=lkN h.st.lk):Xp7 o=Xp7 h:=by
 unfold Xp7 Xpf Xrf
 rw[h1,h2,h3,h4,h5]
theorem Xya {h:Hs} (hc:Xo9 h=true):Xo9 (Xrr h)=true∧Xp7 (Xrr h)=Xp7 h:=by
 obtain⟨c1,c2,c3,c4⟩:=Xor.1 hc
 obtain⟨e1,e2⟩:=Xv8 h.plan h.st
 exact⟨Xor.2 ⟨rfl,c2,c3,Xws c4⟩,Xxr rfl rfl rfl e1 e2⟩
theorem Xpk {h:Hs} (hc:Xo9 h=true):Xod (Xp7 h)=true∧Xof (Xp7 h)=Xrr h:=by
 have h1:=Xy9 hc [] []
 obtain⟨h2,h3⟩:=Xya hc
 simp only[List.nil_append,List.append_nil,List.length_nil] at h1
 have h4:Xod (Xp7 h)=true:=by
  unfold Xod
  rw[h1]
  simp [h2,h3]
 exact⟨h4,by unfold Xof;rw[if_pos h4,h1]⟩
theorem Xwt {b:List UInt8} (h:Xod b=true):Xo9 (Xof b)=true∧Xp7 (Xof b)=b:=by
 unfold Xof
 rw[if_pos h]
 unfold Xod at h
 simp only[Bool.and_eq_true,beq_iff_eq] at h
 exact h.2
theorem Xv9 {α β:Type} {p:α→β→Bool}:∀{l:List α} {m:List β} {i:Nat},Fv p l m=true→∀(h:i<l.length) (h':i<m.length),p l[i] m[i]=true
 |x::l,y::m,0,h,_,_=>by rw[Fv,Bool.and_eq_true] at h;exact h.1
 |x::l,y::m,i+1,h,h1,h2=>by
  rw[Fv,Bool.and_eq_true] at h
  exact Xv9 h.2 (by simpa using h1) (by simpa using h2)
 |[],_,_,_,h,_=>by simp at h
 | _:: _,[],_,_,_,h=>by simp at h
theorem Xsq {h:Hs} (hc:Xo9 h=true):(Xp7 h).length≤1500:=by
 obtain⟨c1,c2,c3,c4⟩:=Xor.1 hc
 obtain⟨s1,s2,s3,s4,_⟩:=Xp8 c4
 have hm:=(Xoa s1).1
 have n1:=Us hm
 have t1:=R7 hm
 have t2:(Xpf h).length≤700:=by
  unfold Xpf
  cases hn:Xp3 h.back with
  |true=>rw[if_pos rfl];simp
  |false=>
   rw[if_neg (by decide)]
   rcases c2 with c2|c2
   ·rw[hn] at c2;cases c2
   ·exact R7 (Xoa c2.1).1
 have w:∀t:List UInt8,t.length≤700→(Xoh t).length≤702:=fun t ht=>by
  unfold Xoh
  have:(Y2 (t.length:Int)).length≤2:=by
   unfold Y2
   rw[if_pos (by omega),Int.toNat_natCast]
   unfold Ur
   split
   ·simp
   ·unfold Ur
    rw[if_pos (by omega)];simp
  rw[List.length_append];omega
 have w1:=w _ t1
 have w2:=w _ t2
 have l1:=Xov s3
 have l2:=Xov s4
 have z1:=R5 h.high
 have z2:((swN h.st.sw).flatMap Y2).length≤(swN h.st.sw).length*5:=R6 fun x _=>R5 x
 have z3:(h.st.lk.flatMap Xy8).length≤h.st.lk.length*2:=R6 fun l hl=>by
  obtain⟨i,hi,rfl⟩:=List.getElem_of_mem hl
  have hi':i<h.plan.rts.length:=by omega
  have hk:Xsm h.st.lk[i] h.plan.rts[i]=true:=Xv9 s4 hi hi'
  obtain⟨p1,p2⟩:=Xte hm (List.getElem_mem hi')
  obtain⟨_,e2,e3,e4⟩:=Xqi hk (by omega) p1
  have f1:=D6 (n:=(h.st.lk[i].2.1.toNat:Int)) (by omega)
  have f2:=D6 e3.2
  rw[Xy8,List.length_append];omega
 have n2:=n1.pl
 have n3:=n1.rl
 unfold Xp7 Xrf
 rw[List.flatMap_cons,List.flatMap_append,Xrh]
 simp only[List.length_append]
 have:(swN h.st.sw).length=h.st.sw.length:=by simp [swN]
 omega
theorem Xva:∀{s t:List (Int×Int×Int)},Fv Y1j s t=true↔s.map Xpo=t.map Xpo
 |[],[]=>by simp [Fv]
 |w::s,x::t=>by
  rw[Fv,Bool.and_eq_true,Xva,List.map_cons,List.map_cons,List.cons.injEq]
  refine and_congr_left fun _=> ?_
  unfold Y1j Xpo
  simp
 |[],_:: _=>by simp [Fv]
 | _:: _,[]=>by simp [Fv]
def Xwu (l:Int×UInt8×Int×Int):Int×UInt8×Int:=(l.1,l.2.1,l.2.2.1)
theorem Xvb:∀{s t:List (Int×UInt8×Int×Int)},Fv Y1k s t=true↔s.map Xwu=t.map Xwu
 |[],[]=>by simp [Fv]
 |w::s,x::t=>by
  rw[Fv,Bool.and_eq_true,Xvb,List.map_cons,List.map_cons,List.cons.injEq]
  refine and_congr_left fun _=> ?_
  unfold Y1k Xwu
  simp
 |[],_:: _=>by simp [Fv]
 | _:: _,[]=>by simp [Fv]
theorem Xs5 (p:Pl) (s:St):(Xjm p s).lk.map Xwu=s.lk.map Xwu:=by
 apply List.ext_getElem?
 intro i
 simp only[Xjm,List.getElem?_map,List.getElem?_mapIdx]
 cases s.lk[i]? with
 |none=>rfl
 |some x=>
  obtain⟨h1,h2,h3⟩:=Xq2 p i x
  simp only[Option.map_some,Xwu,h1,h2,h3]
theorem Xvc (s:List (Int×UInt8×Int×Int)):lkN s=(s.map Xwu).flatMap fun l=>[(l.2.1.toNat:Int),l.2.2]:=by
 rw[List.flatMap_map];rfl
theorem Xth (s:List (Int×Int×Int)):swN s=(s.map Xpo).map fun w=>w.2.2:=by
 rw[List.map_map];rfl
theorem apart {h o:Hs} (hc:Xo9 h=true) (ho:Xo9 o=true):(Xp7 h==Xp7 o)=(Sy h.plan o.plan&&(Sy h.back o.back&&(h.high==o.high&&Xzl h.st o.st))):=by
 rw[Bool.eq_iff_iff]
 unfold Xzl
 simp only[beq_iff_eq,Bool.and_eq_true,Xqe,Xva,Xvb]
 constructor
 ·intro e
  have h1:=(Xpk hc).2
  have h2:=(Xpk ho).2
  rw[e,h2] at h1
  unfold Xrr at h1
  injection h1 with _ g1 g2 g3 g4
  have g5:=congrArg St.sw g4
  have g6:(Xjm o.plan o.st).lk.map Xwu=(Xjm h.plan h.st).lk.map Xwu:=by rw[g4]
  rw[Xs5,Xs5] at g6
  exact⟨g1.symm,g2.symm,g3.symm,g5.symm,g6.symm⟩
 ·rintro⟨g1,g2,g3,g4,g5⟩
  exact(Xxr g1.symm g2.symm g3.symm (by rw[Xth,Xth,g4]) (by rw[Xvc,Xvc,g5])).symm
end Go.Proofs.YtdngdjbgmojcoaaGreat.Pln
