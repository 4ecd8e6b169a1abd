/- The layer of abstract values, joined. -/
import Derived.Test.YtgpdghbmiihfbaaGreatZP5
import Derived.Test.YtgpdghbmiihfbaaGreatZP49
import Derived.Test.YtgpdghbmiihfbaaGreatZP46
import Derived.Test.YtgpdghbmiihfbaaGreatZVsDraw
import Derived.Test.YtgpdghbmiihfbaaGreatZS8
import Derived.Test.YtgpdghbmiihfbaaGreatZVsBits
import Derived.Test.YtgpdghbmiihfbaaGreatZTab
import Derived.Test.YtgpdghbmiihfbaaGreatZQE
import Derived.Test.YtgpdghbmiihfbaaGreatZQ3
namespace Go.Proofs.YtgpdghbmiihfbaaGreat.Pln
set_option linter.all false
set_option maxHeartbeats 8000000
set_option maxRecDepth 4000
open Go Go.VS Tab
attribute [local irreducible] AWp Xp0 Pg X5c Qy Lt Tp FdT Eb
theorem Xgv {k:Nat} (o:Nat->Option Res):Qe [100] 0 [k] o k=o k:=by simp [Qe]
theorem Xgl (k:Nat) (r:Rt) (h:r.path.length<=20∧r.over.length<=20∧r.flanks.length<=20):Xr Tryz.prog 151 [rtA r] [(k,none)] (.agg (rtX k r)) [(k,bxD 3 (r.path.map Ym))]:=by
 have c1:=Xes k (r.path.map Ym) (by simp;omega);rw[af] at c1;have c2:=Xez (r.over.map Ym) (by simp;omega);have c3:=Xfc (r.flanks.map jnC) (by simp;omega);generalize bxD 3 (r.path.map Ym)=q at*;refine Xc 2 Tryz.func151 rfl fun n out _ _=> ?_;simp only[sn,Tryz.ntmps151,simprocAttr];rename_i hneeds hgv;obtain⟨hk,_⟩:=hneeds;obtain⟨hkn,_⟩:=hgv;have hoN:[k].Nodup:=by simp
 have hoL:∀j,j∈[k]->j<n:=fun j hj=>by simp at hj;subst hj;exact hkn
 refine Vy fun K hK=> ?_;simp only[zA,simprocAttr,rtA,rtC]
 (refine hK _ ?_;clear hK K)
 refine Vk fun K hK=>Xik Xj [] [k] [[],[0],[100],[],[0],[],[],[0],[],[],[0],[],[0],[],[0]] [[],[],[100],[],[],[],[],[],[],[],[0],[],[0],[],[0]] hoN hoL follows (by kernel_rfl) (by decide) (by decide) (by kernel_rfl) ?_;simp only[zA,simprocAttr,so]
 skip
 refine Sb c1 (by rw[X8 hkn,Xgv];exact hk) (by rw[X7 hkn];trivial) (by simp) ?_;simp only[zA,simprocAttr,so,X3z (show([100]:List Nat).contains 100=true from rfl),Xa hkn]
 skip
 refine X3 c2 ?_;simp only[zA,simprocAttr,so]
 skip
 refine X3 c3 ?_;simp only[zA,simprocAttr,so]
 (refine hK _ ?_;clear hK K)
 refine Vy fun K hK=> ?_;simp only[zA,simprocAttr,X0]
 (refine hK _ ?_;clear hK K)
 refine Yd (Xu (.inr rfl) rfl rfl rfl (fun j _=>by rfl) ok161 (k:=n+1) (off:=0) rfl (Xb _ (by simp)) (X6 _ (Nat.le_refl _) 1) rfl ?_);exact AV.le.rfl _
theorem Xeo (s:Nat->Option Res) (k:Nat) (r:Res) (j:Nat):Xw s k r j=if j=k then some r else s j:=rfl
theorem Xg4 (B:Nat) (p:Pl) (hs:Sm p):Xr Tryz.prog 85 [plA p] (Xev B (Y4k B p p.secs.length p.rts.length)) (.agg (tC B p)) (Y62 B (Y4k B p p.secs.length p.rts.length)):=by
 have q1:=hs.secs;have q2:=hs.pts;have q3:=hs.sgs;have q4:=hs.rts;have c1:=Xfa (p.pts.map jnC) (by simp;omega);have c2:=Xfb (p.sgs.map sgC) (by simp;omega);have c3:=Xer B (p.secs.map secC) (by simp;omega);have c4:=Xf1 (B+1) (p.rts.map rtC) (by simp;omega);rw[af] at c3 c4;refine Xc 4 Tryz.func85 rfl fun n out _ _=> ?_;simp only[sn,Tryz.ntmps85,simprocAttr];rename_i hneeds hgv;have hBn:B<n:=Xgt hgv;have hB1n:B+1<n:=Xgu hgv;have hB:out B=none:=Y4i hneeds (j:=0) (r:=bxD 154 _) rfl;have hB1:out (B+1)=none:=Y4i hneeds (j:=1) (r:=bxD 161 _) rfl;have hoN:[B,B+1].Nodup:=by simp
 have hoL:∀j,j∈[B,B+1]->j<n:=fun j hj=>by
  simp only[bq,bv,or_false] at hj;rcases hj with rfl|rfl
  ·exact hBn
  ·exact hB1n
 have out0:Xw (Xw out B (bxD 154 (p.secs.map secC))) (B+1) (bxD 161 (p.rts.map rtC))=ofL out B (Y4k B p 0 0):=by
  rw[<- Xqh (Xgh (B+2)) secC p.secs,<- Xqh (rtB (B+2+p.secs.length)) rtC p.rts,<- K3]
  show _=upd (Xw (Xw out B _) (B+1) _) (Y62 (B+1+1) (sE 0 p++sT 0 p))
  rw[K3,Xfh];intro x hx;rw[sE,sT,Xqh _ (fun _=>none),Xqh _ (fun _=>none),el,dj,dj] at hx;rcases hx with ⟨_,_,h⟩|⟨_,_,h⟩<;>exact h.symm
 refine Vy fun K hK=> ?_;simp only[zA,simprocAttr,plA,plC]
 (refine hK _ ?_;clear hK K)
 refine Vk fun K hK=>Ny Xj [] [[],[0],[],[],[0],[],[],[0],[],[0]] [[],[],[],[],[],[],[],[0],[],[0]] follows (by kernel_rfl) (by decide) (by decide) (by kernel_rfl) ?_;simp only[zA,simprocAttr]
 skip
 refine X3 c1 ?_;simp only[zA,simprocAttr]
 skip
 refine X3 c2 ?_;simp only[zA,simprocAttr]
 (refine hK _ ?_;clear hK K)
 refine Vk fun K hK=>Xik Xj [] [B,B+1] [[],[0],[100],[],[0],[101],[],[0],[],[0]] [[],[],[100],[],[],[101],[],[0],[],[0]] hoN hoL follows (by kernel_rfl) (by decide) (by decide) (by kernel_rfl) ?_;simp only[zA,simprocAttr,so]
 skip
 refine Sb c3 (by rw[X8 hBn];simp only[Qe,if_true,show([100]:List Nat).contains (100+0)=true from rfl];exact hB) (by rw[X7 hBn];trivial) (by simp) ?_;simp only[zA,simprocAttr,so,X3z (show([100]:List Nat).contains 100=true from rfl),Xa hBn]
 skip
 refine Sb c4 (by rw[X8 hB1n];simp only[Qe,show(B+1=B)=False from dc (by omega),if_true,if_false,show([101]:List Nat).contains (100+(0+1))=true from rfl,Xeo];exact hB1) (by rw[X7 hB1n];trivial) (by simp) ?_;simp only[zA,simprocAttr,so,X40 (show([101]:List Nat).contains 101=true from rfl),Xa hB1n,out0]
 (refine hK _ ?_;clear hK K)
 refine Vk fun KA hKA=> ?_;refine Vy fun K hK=> ?_;simp only[zA,simprocAttr]
 (refine hK _ ?_;clear hK K)
 apply V5;refine Xl (fun m (i:Nat)=>tp [3,4] (tr 27 13 [(26,i64 (i:Int)),(1,.ptr (m+0) 0),(2,.ptr (m+1) 0)])) (fun m i=>[some (.box 28 (tC B p)),some (.box 28 [i64 0,i64 0,.sl 0 [] .nil,.sl 0 [] .nil,.sl 0 [] .nil,.sl 0 [] .nil]),none,none]) (fun i=>ofL out B (Y4k B p i 0)) (fun i=>i<=p.secs.length) (fun i=>p.secs.length - i) 0 (ba _) ?_ fun m i hm hi=> ?_
 ·refine X2 ?_ ?_ (by first|rfl|(simp only[tC];rfl)|simp only[tC]) rfl rfl rfl<;>simp only[sL,tC]
 simp only[pt];have hw:=Yl (n:=i) 1 1 rfl (by omega);by_cases hlt:i<p.secs.length
 ·obtain⟨s,hsE⟩:∃s,s=p.secs[i]:=⟨_,rfl⟩
  have gs:p.secs[i]? =some s:=by rw[hsE];exact ae hlt
  have hse:=hs.ends s (bl gs);have z3:szL 3 (sS B i p):=Xqs (fun _ _=>rfl) (fun _ _=>rfl);have gi:(sS B i p)[i]? =some (secC s):=Rf gs (Nat.le_refl _);have gp:pick true 3 ((sS B i p).flatten.drop (i*3))=some (.agg (secC s)):=Xfj z3 gi;have gw:Yf (sS B i p).flatten (i*3+2) [.bsl (B+2+i) 0 s.ends.length false]=(sS B (i+1) p).flatten:=by
   rw[Xul z3 gi (j:=2) (c:= .sl 2 (s.ends.map jnC) .sh) rfl];exact congrArg List.flatten (Xuz gs)
  have gl:(sS B i p).flatten.length=p.secs.length*3:=by rw[Xre z3,V8]
  have hEl:i<(sE i p).length:=by rw[V8];exact hlt
  have hBi:B+2+i<n:=Xgr hgv (r:=bxD 167 (s.ends.map jnC)) (Y3e gs hlt);have oB:ofL out B (Y4k B p i 0) B=some (.box 154 (sS B i p).flatten):=Xh4 (by rw[V8];omega);have oN:ofL out B (Y4k B p i 0) (B+2+i)=none:=by
   have h1:(Y4k B p i 0)[2+i]? =some none:=by rw[Y4k,Xfo hEl];exact Rf gs (Nat.le_refl _)
   have h2:(Y4k B p p.secs.length p.rts.length)[2+i]? =some (Xgw s):=by rw[Y4k,Xfo (by rw[V8];exact hlt)];exact Y3e gs hlt
   rw[Nat.add_assoc,Xf6 h1];exact Y4i hneeds h2
  have oS:Xw (Xw (ofL out B (Y4k B p i 0)) (B+2+i) (bxD 167 (s.ends.map jnC))) B (.box 154 (sS B (i+1) p).flatten)=ofL out B (Y4k B p (i+1) 0):=by
   rw[Y4k,Xfs hEl,Xgi (by rw[V8];omega)];exact congrArg (fun E=>ofL out B (Y47 _ _ E _)) (Xuz gs)
  have cj:=Xf2 (B+2+i) (s.ends.map jnC) (by simp;omega);rw[af] at cj;generalize ofL out B (Y4k B p i 0)=O at*;obtain⟨O',hO'⟩:∃O',O'=ofL out B (Y4k B p (i+1) 0):=⟨_,rfl⟩
  rw[<- hO'] at oS;generalize bxD 167 (s.ends.map jnC)=q at*;generalize (sS B i p).flatten=F at*;generalize (sS B (i+1) p).flatten=F' at*;have ne1:(B+2+i=B)=False:=dc (by omega);have ne2:(B=B+2+i)=False:=dc (by omega);have hoN:[B,B+2+i].Nodup:=by simp;omega
  have hoL:∀j,j∈[B,B+2+i]->j<n:=fun j hj=>by
   simp only[bq,bv,or_false] at hj;rcases hj with rfl|rfl
   ·exact hBn
   ·exact hBi
  refine Vy fun K hK=> ?_;simp only[zA,simprocAttr,hlt]
  (refine hK _ ?_;clear hK K)
  refine Vk fun KC hKC=>Wm rfl (Xhj (hKC _ ?_));clear hKC KC;refine Vk fun KD hKD=>Xe ?_;refine Vy fun K hK=> ?_;simp only[zA,simprocAttr,Xi hm,tC,secC,X8 hBn,X7 hBn,oB,gp,X0];repeat' (first|(refine hK _ ?_;clear hK K)|with_reducible apply aa)
  ·omega
  refine Xik Xj [] [B,B+2+i] [[],[0],[],[],[2],[101],[],[],[100]] [[],[],[],[],[],[101],[],[],[100]] hoN hoL follows (by kernel_rfl) (by decide) (by decide) (by kernel_rfl) ?_;simp only[zA,simprocAttr,so,Xi hm,tC];refine Sb cj (by rw[X8 hBi];simp only[Qe,ne1,if_true,if_false,show([101]:List Nat).contains (100+(0+1))=true from rfl];exact oN) (by rw[X7 hBi];trivial) (by simp) ?_;have oB2:Qe [100] 0 [B,B+2+i] (Xw O (B+2+i) q) B=some (.box 154 F):=by
   simp only[Qe,if_true,show([100]:List Nat).contains (100+0)=true from rfl,Xeo,ne2,if_false];exact oB
  have gle:i*3+2+1<=F.length:=by omega
  simp only[zA,simprocAttr,so,X3z (show([100]:List Nat).contains 100=true from rfl),X40 (show([101]:List Nat).contains 101=true from rfl),Xa hBi,Xa hBn,X8 hBn,X7 hBn,oB2,gw,gle,oS];repeat' apply aa
  ·omega
  refine hKD _ ?_;clear hKD KD;repeat' (first|(apply V0)|(apply gE;simp only[zA,simprocAttr,hw]))
  refine⟨i+1,by omega,by omega,?_⟩;rw[hO'];refine Xx [true,true,false,false] ?_ ?_<;>intro n_<;>simp only[sM,tC]
 obtain rfl:i=p.secs.length:=by omega
 clear hw;refine Vy fun K hK=> ?_;simp only[zA,simprocAttr,hlt]
 (refine hK _ ?_;clear hK K)
 refine Vk fun KC hKC=>Uy rfl (Qi ?_);simp only[Qd,Z4,if_true,if_false,reduceIte,Nat.reduceEqDiff];refine hKA _ ?_;clear hKA KA hKC KC;refine Vk fun KA hKA=> ?_;refine Vy fun K hK=> ?_;simp only[zA,simprocAttr,Xi hm,tC]
 (refine hK _ ?_;clear hK K)
 apply V5;refine Xl (fun m (i:Nat)=>tp [5,6] (tr 44 11 [(43,i64 (i:Int)),(1,.ptr (m+0) 0),(2,.ptr (m+1) 0)])) (fun m i=>[some (.box 28 (tC B p)),some (.box 28 [i64 0,i64 0,.sl 0 [] .nil,.sl 0 [] .nil,.sl 0 [] .nil,.sl 0 [] .nil]),none,none]) (fun i=>ofL out B (Y4k B p p.secs.length i)) (fun i=>i<=p.rts.length) (fun i=>p.rts.length - i) 0 (ba _) ?_ fun m i hm hi=> ?_
 ·refine X2 ?_ ?_ (by first|rfl|(simp only[tC];rfl)|simp only[tC]) rfl rfl rfl<;>simp only[sL,tC]
 simp only[pt];have hw:=Yl (n:=i) 1 1 rfl (by omega);by_cases hlt2:i<p.rts.length
 ·obtain⟨r,hrE⟩:∃r,r=p.rts[i]:=⟨_,rfl⟩
  have gs:p.rts[i]? =some r:=by rw[hrE];exact ae hlt2
  have z7:szL 7 (sR B i p):=Xqs (fun _ _=>rfl) (fun _ _=>rfl);have gi:(sR B i p)[i]? =some (rtC r):=Rf gs (Nat.le_refl _);have gp:pick true 7 ((sR B i p).flatten.drop (i*7))=some (.agg (rtC r)):=Xfj z7 gi;have gw:Yf (sR B i p).flatten (i*7) (rtX (B+2+p.secs.length+i) r)=(sR B (i+1) p).flatten:=by
   rw[Xfk z7 gi rfl];exact congrArg List.flatten (Xuz gs)
  have gl:(sR B i p).flatten.length=p.rts.length*7:=by rw[Xre z7,V8]
  have hEl:(sE p.secs.length p).length=p.secs.length:=V8 _ _ _ _;have hTl:i<(sT i p).length:=by rw[V8];exact hlt2
  have hBi:B+2+p.secs.length+i<n:=Xgs hEl hgv (r:=bxD 3 (r.path.map Ym)) (Y3e gs hlt2);have oB:ofL out B (Y4k B p p.secs.length i) (B+1)=some (.box 161 (sR B i p).flatten):=Xgz (by rw[V8];omega);have oN:ofL out B (Y4k B p p.secs.length i) (B+2+p.secs.length+i)=none:=by
   have h1:(Y4k B p p.secs.length i)[2+(sE p.secs.length p).length+i]? =some none:=by rw[Y4k,Xfp];exact Rf gs (Nat.le_refl _)
   have h2:(Y4k B p p.secs.length p.rts.length)[2+(sE p.secs.length p).length+i]? =some (Xg2 r):=by rw[Y4k,Xfp];exact Y3e gs hlt2
   rw[show B+2+p.secs.length+i=B+(2+(sE p.secs.length p).length+i) from by rw[hEl];omega,Xf6 h1];exact Y4i hneeds h2
  have oS:Xw (Xw (ofL out B (Y4k B p p.secs.length i)) (B+2+p.secs.length+i) (bxD 3 (r.path.map Ym))) (B+1) (.box 161 (sR B (i+1) p).flatten)=ofL out B (Y4k B p p.secs.length (i+1)):=by
   rw[Y4k,Xft hEl hTl,Xfq (by rw[V8];omega)];exact congrArg (fun T=>ofL out B (Y47 _ _ _ T)) (Xuz gs)
  have cj:=Xgl (B+2+p.secs.length+i) r (hs.rt r (bl gs));have l7:(rtX (B+2+p.secs.length+i) r).length=7:=rfl;obtain⟨O',hO'⟩:∃O',O'=ofL out B (Y4k B p p.secs.length (i+1)):=⟨_,rfl⟩
  rw[<- hO'] at oS;generalize ofL out B (Y4k B p p.secs.length i)=O at*;generalize bxD 3 (r.path.map Ym)=q at*;generalize (sR B i p).flatten=F at*;generalize (sR B (i+1) p).flatten=F' at*;generalize rtX (B+2+p.secs.length+i) r=X at*;have ne1:(B+2+p.secs.length+i=B+1)=False:=dc (by omega);have ne2:(B+1=B+2+p.secs.length+i)=False:=dc (by omega);have hoN:[B+1,B+2+p.secs.length+i].Nodup:=by simp;omega
  have hoL:∀j,j∈[B+1,B+2+p.secs.length+i]->j<n:=fun j hj=>by
   simp only[bq,bv,or_false] at hj;rcases hj with rfl|rfl
   ·exact hB1n
   ·exact hBi
  refine Vy fun K hK=> ?_;simp only[zA,simprocAttr,hlt2]
  (refine hK _ ?_;clear hK K)
  refine Vk fun KC hKC=>Wm rfl (Xhj (hKC _ ?_));clear hKC KC;refine Vk fun KD hKD=>Xe ?_;refine Vy fun K hK=> ?_;simp only[zA,simprocAttr,Xi hm,tC,rtC,X8 hB1n,X7 hB1n,oB,gp,X0];repeat' (first|(refine hK _ ?_;clear hK K)|with_reducible apply aa)
  ·omega
  refine Xik Xj [] [B+1,B+2+p.secs.length+i] [[],[0],[],[2],[101],[],[100]] [[],[],[],[],[101],[],[100]] hoN hoL follows (by kernel_rfl) (by decide) (by decide) (by kernel_rfl) ?_;simp only[zA,simprocAttr,so,Xi hm,tC];refine Sb cj (by rw[X8 hBi];simp only[Qe,ne1,if_true,if_false,show([101]:List Nat).contains (100+(0+1))=true from rfl];exact oN) (by rw[X7 hBi];trivial) (by simp) ?_;have oB2:Qe [100] 0 [B+1,B+2+p.secs.length+i] (Xw O (B+2+p.secs.length+i) q) (B+1)=some (.box 161 F):=by
   simp only[Qe,if_true,show([100]:List Nat).contains (100+0)=true from rfl,Xeo,ne2,if_false];exact oB
  have gle:i*7+7<=F.length:=by omega
  simp only[zA,simprocAttr,so,X3z (show([100]:List Nat).contains 100=true from rfl),X40 (show([101]:List Nat).contains 101=true from rfl),Xa hBi,Xa hB1n,X8 hB1n,X7 hB1n,oB2,gw,gle,l7,oS];repeat' apply aa
  ·omega
  refine hKD _ ?_;clear hKD KD;repeat' (first|(apply V0)|(apply gE;simp only[zA,simprocAttr,hw]))
  refine⟨i+1,by omega,by omega,?_⟩;rw[hO'];refine Xx [true,true,false,false] ?_ ?_<;>intro n_<;>simp only[sM,tC]
 obtain rfl:i=p.rts.length:=by omega
 refine Vy fun K hK=> ?_;simp only[zA,simprocAttr,hlt2]
 (refine hK _ ?_;clear hK K)
 refine Vk fun KC hKC=>Uy rfl (Qi ?_);simp only[Qd,Z4,if_true,if_false,reduceIte,Nat.reduceEqDiff];refine hKA _ ?_;clear hKA KA hKC KC;repeat' (first|refine Vk fun K hK=> ?_|apply V0|(apply gE;simp only[zA,simprocAttr,Xi hm,tC,X0])|(refine hK _ ?_;clear hK K))
 refine Yd (Xu (.inr rfl) rfl rfl rfl (fun j _=>by rw[K3]) ok28 (k:=m+1) (off:=0) rfl (Xb _ (by simp)) (X6 _ hm 1) rfl ?_);exact AV.le.rfl _
end Go.Proofs.YtgpdghbmiihfbaaGreat.Pln
namespace Go.Proofs.YtgpdghbmiihfbaaGreat.Pln
set_option linter.all false
set_option maxHeartbeats 8000000
set_option maxRecDepth 4000
open Go Go.VS Tab
theorem Y59 (p:Pl) (hs:Sm p):Xr Tryz.prog 85 [plA p] [] (plA p) []:=
 Y63 (r:=fun B=> .agg (tC B p)) (l:=fun B=>Y4k B p p.secs.length p.rts.length) (fun B=>Xg4 B p hs) fun _ _ h=>Xgj h
theorem Yai (s:St) (hS:SmS s):Xr Tryz.prog 86 [stA s] [] (stA s) []:=
 Y9b (r:=fun B=> .agg (stX B s)) (l:=[some (tkR (s.tr.map tkC)),some (swR (s.sw.map sgC)),some (lkR (s.lk.map lkC))]) (fun B=>Xyt B s hS) fun _ _ h=>Xxb h
end Go.Proofs.YtgpdghbmiihfbaaGreat.Pln
namespace Go.Proofs.YtgpdghbmiihfbaaGreat
set_option linter.all false
set_option maxHeartbeats 1000000
open Go Go.VS Tab
def idx {α:Type} (p:α->Bool) (l:List α):Int:=match l.findIdx? p with
 |some i=>i
 |none=> -1
theorem Kn {α:Type} {p:α->Bool} {l:List α} (h:∀i (hi:i<l.length),p l[i]=false):idx p l= -1:=by
 have:l.findIdx? p=none:=by
  rw[f6];intro x hx;obtain⟨i,hi,rfl⟩:=az hx;exact h i hi
 rw[idx,this]
theorem Ko {α:Type} {p:α->Bool} {l:List α} {i:Nat} (hi:i<l.length) (hp:p l[i]=true) (h:∀j (hj:j<i),p (l[j]'(by omega))=false):idx p l=i:=by
 have:l.findIdx? p=some i:=by
  rw[dy];exact⟨hi,hp,fun j hj=>by simp [h j hj]⟩
 rw[idx,this]
theorem X3h {α:Type} (p:α->Bool) (l:List α):decide (idx p l>=0)=l.any p:=by
 unfold idx;cases h:l.findIdx? p with
 |none=>
  rw[f6] at h;have:l.any p=false:=by rw[gq];intro x hx;simp [h x hx]
  rw[this];rfl
 |some i=>
  rw[dy] at h;obtain⟨hi,hp,_⟩:=h;have:l.any p=true:=io.2 ⟨_,ak hi,hp⟩;rw[this];simp
theorem Xg {α β:Type} (f:α->β) (l:List α) (i:Nat) (d:β) (h:i<l.length):(l.map f).getD i d=f l[i]:=by
 simp [ah,h]
theorem Xj3 {α:Type} (f:α->List AV) (cell:α->AV) (l:List α) (fid:FuncId) (caps:List AV) (p:α->Bool) (hb:Xd Tryz.prog fid=True) (hl:l.length<=1000000000)
  (hcell:∀x,pick false 1 (f x)=some (cell x)) (hp:∀x,x∈l->Xr Tryz.prog fid (cell x::caps) [] (bool (p x)) []):
  Xr Tryz.prog 134 [.sl 1 (l.map f) .sh,.fn (.func fid) caps] [] (i64 (idx p l)) []:=by
 refine Xc 0 Tryz.func134 rfl fun n out _ _=> ?_;simp only[sn,Tryz.ntmps134,simprocAttr];refine Vy fun K hK=> ?_;simp only[zA,simprocAttr]
 (refine hK _ ?_;clear hK K)
 refine Vk fun KB hKB=> ?_;refine Vy fun K hK=> ?_;simp only[zA,simprocAttr]
 (refine hK _ ?_;clear hK K)
 apply V5;refine Xse (l.length) (fun i=>(∀j (hj:j<l.length),j<i->p l[j]=false)) (fun i=>tp [4,5] (tr 9 10 [(8,i64 (i:Int))])) (fun i=>[]) (by intros;omega) ?_ fun i hi=> ?_
 ·refine La rfl ?_ ?_<;>simp only[sL]
 obtain⟨hi,hq⟩:=hi;simp only[pt];refine Vy fun K hK=> ?_;simp only[zA,simprocAttr]
 (refine hK _ ?_;clear hK K)
 refine Vk fun KC hKC=> ?_;refine Uz rfl (fun ht=>Xhj (hKC _ ?_)) (fun hf=>Qi (id ?_));rotate_left
 ·simp only[Qd,Z4,if_true];refine hKB _ ?_;clear hKB KB hKC KC;have h_ib:i=l.length:=by have:=bh hf;omega
  subst h_ib;have e:=Kn (p:=p) (l:=l) fun i hi=>hq i hi hi;rw[e];refine Vy fun K hK=> ?_;simp only[zA,simprocAttr]
  (refine hK _ ?_;clear hK K)
  apply Vz;exact Qv (.inr rfl) rfl rfl rfl (fun _ _=>rfl) rfl
 clear hKC KC;have hlt:i<l.length:=by have:=au ht;omega
 refine Vk fun KC hKC=>Xe ?_;refine Vy fun K hK=> ?_;simp only[zA,simprocAttr]
 (refine hK _ ?_;clear hK K)
 refine Vy fun K hK=> ?_;simp only[zA,simprocAttr,hlt,Xg f l i [] hlt,hcell,hb]
 skip
 refine X3 (hp _ (ak hlt)) ?_;simp only[zA,simprocAttr]
 (refine hK _ ?_;clear hK K)
 refine Uz rfl (fun ht=> ?_) (fun hf=>Xhj ?_)
 ·have e:=Ko hlt ht fun j hj=>hq j (by omega) hj;refine Vy fun K hK=> ?_;simp only[zA,simprocAttr]
  (refine hK _ ?_;clear hK K)
  rw[<- e];apply Vz;exact Qv (.inr rfl) rfl rfl rfl (fun _ _=>rfl) rfl
 repeat refine aa (by omega) ?_
 refine hKC _ ?_;clear hKC KC;refine Xn Xj [] ?_;simp only[zA,simprocAttr,Yl (n:=i) 1 1 rfl (by omega)];refine⟨i+1,⟨by omega,?_⟩,by omega,?_⟩
 ·intro j hj hji;by_cases h:j=i
  ·subst h;exact hf
  ·exact hq j hj (by omega)
 refine La rfl ?_ ?_<;>simp only[sL]
theorem Xig {α:Type} (f:α->List AV) (cell:α->AV) (l:List α) (fid:FuncId) (caps:List AV) (p:α->Bool) (hb:Xd Tryz.prog fid=True) (hl:l.length<=1000000000)
  (hcell:∀x,pick false 1 (f x)=some (cell x)) (hp:∀x,x∈l->Xr Tryz.prog fid (cell x::caps) [] (bool (p x)) []):
  Xr Tryz.prog 71 [.sl 1 (l.map f) .sh,.fn (.func fid) caps] [] (bool (l.any p)) []:=by
 refine Xc 0 Tryz.func71 rfl fun n out _ _=> ?_;simp only[sn,Tryz.ntmps71,simprocAttr];refine Vy fun K hK=> ?_;simp only[zA,simprocAttr]
 (refine hK _ ?_;clear hK K)
 refine Vy fun K hK=> ?_;simp only[zA,simprocAttr]
 skip
 refine X3 (Xj3 f cell l fid caps p hb hl hcell hp) ?_;simp only[zA,simprocAttr]
 (refine hK _ ?_;clear hK K)
 rw[X3h];apply Vz;exact Qv (.inr rfl) rfl rfl rfl (fun _ _=>rfl) rfl
theorem Xj4 {α:Type} (f:α->List AV) (cell:α->AV) (l:List α) (fid:FuncId) (caps:List AV) (p:α->Bool) (hb:Xd Tryz.prog fid=True) (hl:l.length<=1000000000)
  (hcell:∀x,pick false 1 (f x)=some (cell x)) (hp:∀x,x∈l->Xr Tryz.prog fid (cell x::caps) [] (bool (p x)) []):
  Xr Tryz.prog 135 [.sl 1 (l.map f) .sh,.fn (.func fid) caps] [] (i64 (idx p l)) []:=by
 refine Xc 0 Tryz.func135 rfl fun n out _ _=> ?_;simp only[sn,Tryz.ntmps135,simprocAttr];refine Vy fun K hK=> ?_;simp only[zA,simprocAttr]
 (refine hK _ ?_;clear hK K)
 refine Vk fun KB hKB=> ?_;refine Vy fun K hK=> ?_;simp only[zA,simprocAttr]
 (refine hK _ ?_;clear hK K)
 apply V5;refine Xse (l.length) (fun i=>(∀j (hj:j<l.length),j<i->p l[j]=false)) (fun i=>tp [4,5] (tr 9 10 [(8,i64 (i:Int))])) (fun i=>[]) (by intros;omega) ?_ fun i hi=> ?_
 ·refine La rfl ?_ ?_<;>simp only[sL]
 obtain⟨hi,hq⟩:=hi;simp only[pt];refine Vy fun K hK=> ?_;simp only[zA,simprocAttr]
 (refine hK _ ?_;clear hK K)
 refine Vk fun KC hKC=> ?_;refine Uz rfl (fun ht=>Xhj (hKC _ ?_)) (fun hf=>Qi (id ?_));rotate_left
 ·simp only[Qd,Z4,if_true];refine hKB _ ?_;clear hKB KB hKC KC;have h_ib:i=l.length:=by have:=bh hf;omega
  subst h_ib;have e:=Kn (p:=p) (l:=l) fun i hi=>hq i hi hi;rw[e];refine Vy fun K hK=> ?_;simp only[zA,simprocAttr]
  (refine hK _ ?_;clear hK K)
  apply Vz;exact Qv (.inr rfl) rfl rfl rfl (fun _ _=>rfl) rfl
 clear hKC KC;have hlt:i<l.length:=by have:=au ht;omega
 refine Vk fun KC hKC=>Xe ?_;refine Vy fun K hK=> ?_;simp only[zA,simprocAttr]
 (refine hK _ ?_;clear hK K)
 refine Vy fun K hK=> ?_;simp only[zA,simprocAttr,hlt,Xg f l i [] hlt,hcell,hb]
 skip
 refine X3 (hp _ (ak hlt)) ?_;simp only[zA,simprocAttr]
 (refine hK _ ?_;clear hK K)
 refine Uz rfl (fun ht=> ?_) (fun hf=>Xhj ?_)
 ·have e:=Ko hlt ht fun j hj=>hq j (by omega) hj;refine Vy fun K hK=> ?_;simp only[zA,simprocAttr]
  (refine hK _ ?_;clear hK K)
  rw[<- e];apply Vz;exact Qv (.inr rfl) rfl rfl rfl (fun _ _=>rfl) rfl
 repeat refine aa (by omega) ?_
 refine hKC _ ?_;clear hKC KC;refine Xn Xj [] ?_;simp only[zA,simprocAttr,Yl (n:=i) 1 1 rfl (by omega)];refine⟨i+1,⟨by omega,?_⟩,by omega,?_⟩
 ·intro j hj hji;by_cases h:j=i
  ·subst h;exact hf
  ·exact hq j hj (by omega)
 refine La rfl ?_ ?_<;>simp only[sL]
theorem Xhl {α:Type} (f:α->List AV) (cell:α->AV) (l:List α) (fid:FuncId) (caps:List AV) (p:α->Bool) (hb:Xd Tryz.prog fid=True) (hl:l.length<=1000000000)
  (hcell:∀x,pick false 1 (f x)=some (cell x)) (hp:∀x,x∈l->Xr Tryz.prog fid (cell x::caps) [] (bool (p x)) []):
  Xr Tryz.prog 73 [.sl 1 (l.map f) .sh,.fn (.func fid) caps] [] (bool (l.any p)) []:=by
 refine Xc 0 Tryz.func73 rfl fun n out _ _=> ?_;simp only[sn,Tryz.ntmps73,simprocAttr];refine Vy fun K hK=> ?_;simp only[zA,simprocAttr]
 (refine hK _ ?_;clear hK K)
 refine Vy fun K hK=> ?_;simp only[zA,simprocAttr]
 skip
 refine X3 (Xj4 f cell l fid caps p hb hl hcell hp) ?_;simp only[zA,simprocAttr]
 (refine hK _ ?_;clear hK K)
 rw[X3h];apply Vz;exact Qv (.inr rfl) rfl rfl rfl (fun _ _=>rfl) rfl
abbrev bs (l:List UInt8):AV:= .sl 1 (Xo l) .sh
structure Wr where
 at':Int
 data:List UInt8
structure Dsk where
 sectors:List (List UInt8)
 waits:List Wr
def secC (b:List UInt8):List AV:=[bs b]
def wrC (w:Wr):List AV:=[i64 w.at',bs w.data]
def Xha (d:Dsk):List AV:=[.sl 1 (d.sectors.map secC) .sh,.sl 2 (d.waits.map wrC) .sh]
def wrA (w:Wr):AV:= .agg (wrC w)
def Y3p (d:Dsk):AV:= .agg (Xha d)
def Ym (n:Int):List AV:=[i64 n]
theorem X0b (b:List UInt8):pick false 1 (secC b)=some (bs b):=rfl
theorem Xj7 (n:Int):pick false 1 (Ym n)=some (i64 n):=rfl
theorem Xds (l:List UInt8) (hl:l.length<=100000000):Xr Tryz.prog 39 [bs l] [] (bs l) []:=by
 refine Xbz (fun h=> ?_) ?_
 ·obtain rfl:l=[]:=by simpa [Xo] using h
  refine Xc 0 Tryz.func39 rfl fun n out _ _=> ?_;simp only[sn,Tryz.ntmps39,simprocAttr];refine Vy fun K hK=> ?_;simp only[zA,simprocAttr]
  (refine hK _ ?_;clear hK K)
  refine Vk fun KB hKB=> ?_;refine Vy fun K hK=> ?_;simp only[zA,simprocAttr]
  (refine hK _ ?_;clear hK K)
  refine Wm rfl ?_;refine Vy fun K hK=> ?_;simp only[zA,simprocAttr]
  (refine hK _ ?_;clear hK K)
  apply Vz;exact Xv (.inr rfl) rfl rfl rfl (fun _ _=>rfl) ((Py _ _).2 trivial) rfl
 ·refine Xc 0 Tryz.func39 rfl fun n out _ _=> ?_;simp only[sn,Tryz.ntmps39,simprocAttr];refine Vy fun K hK=> ?_;simp only[zA,simprocAttr]
  (refine hK _ ?_;clear hK K)
  refine Vk fun KB hKB=> ?_;refine Vy fun K hK=> ?_;simp only[zA,simprocAttr]
  (refine hK _ ?_;clear hK K)
  refine Uy rfl (Xhj (hKB _ ?_));refine Vy fun K hK=> ?_;simp only[zA,simprocAttr,X5,show l.length<=140737488355328 by omega,show l.length<=9223372036854775807 by omega]
  (refine hK _ ?_;clear hK K)
  apply Vz;refine Xv (.inr rfl) rfl rfl rfl (fun _ _=>rfl) (.sh _ _ _) rfl
theorem Xl7 (a b:List UInt8):Xr Tryz.prog 57 [bs a,bs b] [] (bool (a==b)) []:=by
 refine Xc 0 Tryz.func57 rfl fun n out _ _=> ?_;simp only[sn,Tryz.ntmps57,simprocAttr];refine Vy fun K hK=> ?_;simp only[zA,simprocAttr]
 (refine hK _ ?_;clear hK K)
 refine Vy fun K hK=> ?_;simp only[zA,simprocAttr,Ya,Z5]
 (refine hK _ ?_;clear hK K)
 apply Vz;exact Qv (.inr rfl) rfl rfl rfl (fun _ _=>rfl) rfl
end Go.Proofs.YtgpdghbmiihfbaaGreat
namespace Go.Proofs.YtgpdghbmiihfbaaGreat.Pln
set_option linter.all false
set_option maxHeartbeats 1000000
open Go Go.VS
theorem Xuc {c:List (Int×Int)} {g:Gp} {w:Wy} {l l':Int×UInt8×Int×Int} (h1:l'.1=l.1) (h2:l'.2.1=l.2.1) (h3:l'.2.2.1=l.2.2.1):Xi0 c g (w,l')=Xi0 c g (w,l):=by
 obtain⟨a,b,d,e⟩:=l;obtain⟨a',b',d',e'⟩:=l';dsimp only at h1 h2 h3;subst h1 h2 h3;rfl
theorem Xtg {c:List (Int×Int)}:∀(ws:List Wy) (l l':List (Int×UInt8×Int×Int)) (g:Gp),l.length=l'.length->(∀(i:Nat) (x y:Int×UInt8×Int×Int),l[i]? =some x->l'[i]? =some y->y.1=x.1∧y.2.1=x.2.1∧y.2.2.1=x.2.2.1)->(ws.zip l').foldl (Xi0 c) g=(ws.zip l).foldl (Xi0 c) g
 |[],_,_,_,_,_=>by simp
 |w::ws,[],[],g,_,_=>rfl
 |w::ws,x::l,y::l',g,hl,h=>by
  obtain⟨h1,h2,h3⟩:=h 0 x y rfl rfl;rw[List.zip_cons_cons,List.zip_cons_cons,List.foldl_cons,List.foldl_cons,Xuc h1 h2 h3];exact Xtg ws l l' _ (by simpa using hl) fun i x y hx hy=>h (i+1) x y (by simpa using hx) (by simpa using hy)
 |w::ws,[],_:: _,_,hl,_=>by simp at hl
 |w::ws,_:: _,[],_,hl,_=>by simp at hl
theorem Xq2 (p:Pl) (i:Nat) (l:Int×UInt8×Int×Int):(Xr0 p i l).1=l.1∧(Xr0 p i l).2.1=l.2.1∧(Xr0 p i l).2.2.1=l.2.2.1:=by
 unfold Xr0;split<;>exact⟨rfl,rfl,rfl⟩
theorem Xsp (s:List (Int×Int×Int)):Xjs (s.map Xpo)=Xjs s:=by
 unfold Xjs;rw[List.foldl_map];rfl
theorem Xv5 (p:Pl) (s:St):Xpg p (Xjm p s)=Xpg p s:=by
 unfold Xpg;rw[show(Xjm p s).sw=s.sw.map Xpo from rfl,Xsp];refine Xtg _ _ _ _ (by simp [Xjm]) fun i x y hx hy=> ?_;have e:(Xjm p s).lk[i]? =some (Xr0 p i x):=by simp [Xjm,hx]
 rw[e] at hy;injection hy with hy
 subst hy;exact Xq2 p i x
theorem Xv6:∀{s:List (Int×Int×Int)} {l:List (Int×Int)},Fv Xuw s l=true->Fv Xuw (s.map Xpo) l=true
 |[],[],_=>rfl
 |w::s,x::l,h=>by
  rw[Fv,ag] at h;rw[bg,Fv,ag];refine⟨?_,Xv6 h.2⟩;have h1:=h.1;unfold Xuw at h1⊢;simp only[ag] at h1⊢;exact⟨h1.1,rfl,h1.2.2⟩
 |[],_:: _,h=>by simp [Fv] at h
 | _:: _,[],h=>by simp [Fv] at h
theorem Xz6:∀(l:List Sec),Fv Xvr (l.map atT) l=true
 |[]=>rfl
 |x::l=>by
  rw[bg,Fv,Xz6 l];unfold Xvr atT;simp
theorem Xwr {l:Int×UInt8×Int×Int} {r:Rt} (h:Xsm l r=true):Xsm (Xrg l r) r=true:=by
 obtain⟨a,ph,g,t⟩:=l;unfold Xrg;dsimp only;split
 ·rename_i ht;unfold Xsm Xr7 at h⊢;simp only[ag,cv] at h⊢;obtain⟨h1,h2⟩:=h;refine⟨h1,?_⟩;split at h2
  ·simp only[ag,cv] at h2;omega
  ·rename_i p0;rw[if_neg p0];split at h2
   ·simp only[ag,cv] at h2;omega
   ·rename_i p2;rw[if_neg p2];split at h2
    ·rename_i p3;rw[if_pos p3];simp only[ag,cv,am] at h2⊢;omega
    ·rename_i p3;rw[if_neg p3];split at h2
     ·rename_i p4;rw[if_pos p4];simp only[ag,cv,am] at h2⊢;omega
     ·cases h2
 ·exact h
theorem Xv7:∀{s:List (Int×UInt8×Int×Int)} {l:List Rt},Fv Xsm s l=true->Fv Xsm (List.zipWith Xrg s l) l=true
 |[],[],_=>rfl
 |w::s,x::l,h=>by
  rw[Fv,ag] at h;rw[List.zipWith_cons_cons,Fv,Xwr h.1,Xv7 h.2];rfl
 |[],_:: _,h=>by simp [Fv] at h
 | _:: _,[],h=>by simp [Fv] at h
theorem Xws {p:Pl} {s:St} (h:Xrz p s=0):Xrz p (Xjm p s)=0:=by
 obtain⟨s1,s2,s3,s4,s5⟩:=Xp8 h;have e:Xqm p (Xjm p s)=true:=by
  unfold Xqm Xog;rw[Xv5,s5,Xs4 p s (Xov s4),Xv7 s4,show(Xjm p s).sw=s.sw.map Xpo from rfl,Xv6 s3,show(Xjm p s).tr=s.tr.map Xuh from rfl,Xqj s2,Xz6];rfl
 unfold Xrz;rw[if_pos s1,e];rfl
theorem Xv8 (p:Pl) (s:St):swN (Xjm p s).sw=swN s.sw∧lkN (Xjm p s).lk=lkN s.lk:=by
 refine⟨by simp only[swN,Xjm,fu];rfl,?_⟩;unfold lkN;rw[List.flatMap_def,List.flatMap_def]
 congr 1
 apply dw;intro i;simp only[Xjm,bw,jj];cases s.lk[i]? with
 |none=>rfl
 |some x=>
  obtain⟨h1,h2,h3⟩:=Xq2 p i x;simp only[Option.map_some,h2,h3]
theorem Xxr {h o:Hs} (h1:o.plan=h.plan) (h2:o.back=h.back) (h3:o.high=h.high) (h4:swN o.st.sw=swN h.st.sw) (h5:lkN o.st.lk=lkN h.st.lk):Xp7 o=Xp7 h:=by
 unfold Xp7 Xpf Xrf;rw[h1,h2,h3,h4,h5]
theorem Xya {h:Hs} (hc:Xo9 h=true):Xo9 (Xrr h)=true∧Xp7 (Xrr h)=Xp7 h:=by
 obtain⟨c1,c2,c3,c4⟩:=Xor.1 hc;obtain⟨e1,e2⟩:=Xv8 h.plan h.st;exact⟨Xor.2 ⟨rfl,c2,c3,Xws c4⟩,Xxr rfl rfl rfl e1 e2⟩
theorem Xpk {h:Hs} (hc:Xo9 h=true):Xod (Xp7 h)=true∧Xof (Xp7 h)=Xrr h:=by
 have h1:=Xy9 hc [] [];obtain⟨h2,h3⟩:=Xya hc;simp only[List.nil_append,b9,List.length_nil] at h1;have h4:Xod (Xp7 h)=true:=by
  unfold Xod;rw[h1];simp [h2,h3]
 exact⟨h4,by unfold Xof;rw[if_pos h4,h1]⟩
theorem Xwt {b:List UInt8} (h:Xod b=true):Xo9 (Xof b)=true∧Xp7 (Xof b)=b:=by
 unfold Xof;rw[if_pos h];unfold Xod at h;simp only[ag,cv] at h;exact h.2
theorem Xv9 {α β:Type} {p:α->β->Bool}:∀{l:List α} {m:List β} {i:Nat},Fv p l m=true->∀(h:i<l.length) (h':i<m.length),p l[i] m[i]=true
 |x::l,y::m,0,h,_,_=>by rw[Fv,ag] at h;exact h.1
 |x::l,y::m,i+1,h,h1,h2=>by
  rw[Fv,ag] at h;exact Xv9 h.2 (by simpa using h1) (by simpa using h2)
 |[],_,_,_,h,_=>by simp at h
 | _:: _,[],_,_,_,h=>by simp at h
theorem Xsq {h:Hs} (hc:Xo9 h=true):(Xp7 h).length<=1500:=by
 obtain⟨c1,c2,c3,c4⟩:=Xor.1 hc;obtain⟨s1,s2,s3,s4,_⟩:=Xp8 c4;have hm:=(Xoa s1).1;have n1:=Us hm;have t1:=R7 hm;have t2:(Xpf h).length<=700:=by
  unfold Xpf;cases hn:Xp3 h.back with
  |true=>rw[if_pos rfl];simp
  |false=>
   rw[if_neg (by decide)];rcases c2 with c2|c2
   ·rw[hn] at c2;cases c2
   ·exact R7 (Xoa c2.1).1
 have w:∀t:List UInt8,t.length<=700->(Xoh t).length<=702:=fun t ht=>by
  unfold Xoh;have:(Y3m (t.length:Int)).length<=2:=by
   unfold Y3m;rw[if_pos (by omega),Int.toNat_natCast];unfold Ur;split
   ·simp
   ·unfold Ur;rw[if_pos (by omega)];simp
  rw[ac];omega
 have w1:=w _ t1;have w2:=w _ t2;have l1:=Xov s3;have l2:=Xov s4;have z1:=R5 h.high;have z2:((swN h.st.sw).flatMap Y3m).length<=(swN h.st.sw).length*5:=R6 fun x _=>R5 x;have z3:(h.st.lk.flatMap Xy8).length<=h.st.lk.length*2:=R6 fun l hl=>by
  obtain⟨i,hi,rfl⟩:=az hl;have hi':i<h.plan.rts.length:=by omega
  have hk:Xsm h.st.lk[i] h.plan.rts[i]=true:=Xv9 s4 hi hi';obtain⟨p1,p2⟩:=Xte hm (ak hi');obtain⟨_,e2,e3,e4⟩:=Xqi hk (by omega) p1;have f1:=D6 (n:=(h.st.lk[i].2.1.toNat:Int)) (by omega);have f2:=D6 e3.2;rw[Xy8,ac];omega
 have n2:=n1.pl;have n3:=n1.rl;unfold Xp7 Xrf;rw[dp,du,Xrh];simp only[ac];have:(swN h.st.sw).length=h.st.sw.length:=by simp [swN]
 omega
theorem Xva:∀{s t:List (Int×Int×Int)},Fv Y1j s t=true↔s.map Xpo=t.map Xpo
 |[],[]=>by simp [Fv]
 |w::s,x::t=>by
  rw[Fv,ag,Xva,bg,bg,List.cons.injEq];refine and_congr_left fun _=> ?_;unfold Y1j Xpo;simp
 |[],_:: _=>by simp [Fv]
 | _:: _,[]=>by simp [Fv]
def Xwu (l:Int×UInt8×Int×Int):Int×UInt8×Int:=(l.1,l.2.1,l.2.2.1)
theorem Xvb:∀{s t:List (Int×UInt8×Int×Int)},Fv Y1k s t=true↔s.map Xwu=t.map Xwu
 |[],[]=>by simp [Fv]
 |w::s,x::t=>by
  rw[Fv,ag,Xvb,bg,bg,List.cons.injEq];refine and_congr_left fun _=> ?_;unfold Y1k Xwu;simp
 |[],_:: _=>by simp [Fv]
 | _:: _,[]=>by simp [Fv]
theorem Xs5 (p:Pl) (s:St):(Xjm p s).lk.map Xwu=s.lk.map Xwu:=by
 apply dw;intro i;simp only[Xjm,bw,jj];cases s.lk[i]? with
 |none=>rfl
 |some x=>
  obtain⟨h1,h2,h3⟩:=Xq2 p i x;simp only[Option.map_some,Xwu,h1,h2,h3]
theorem Xvc (s:List (Int×UInt8×Int×Int)):lkN s=(s.map Xwu).flatMap fun l=>[(l.2.1.toNat:Int),l.2.2]:=by
 rw[List.flatMap_map];rfl
theorem Xth (s:List (Int×Int×Int)):swN s=(s.map Xpo).map fun w=>w.2.2:=by
 rw[fu];rfl
theorem apart {h o:Hs} (hc:Xo9 h=true) (ho:Xo9 o=true):(Xp7 h==Xp7 o)=(Sy h.plan o.plan&&(Sy h.back o.back&&(h.high==o.high&&Xzl h.st o.st))):=by
 rw[bp];unfold Xzl;simp only[cv,ag,Xqe,Xva,Xvb];constructor
 ·intro e;have h1:=(Xpk hc).2;have h2:=(Xpk ho).2;rw[e,h2] at h1;unfold Xrr at h1;injection h1 with _ g1 g2 g3 g4
  have g5:=congrArg St.sw g4;have g6:(Xjm o.plan o.st).lk.map Xwu=(Xjm h.plan h.st).lk.map Xwu:=by rw[g4]
  rw[Xs5,Xs5] at g6;exact⟨g1.symm,g2.symm,g3.symm,g5.symm,g6.symm⟩
 ·rintro⟨g1,g2,g3,g4,g5⟩;exact(Xxr g1.symm g2.symm g3.symm (by rw[Xth,Xth,g4]) (by rw[Xvc,Xvc,g5])).symm
end Go.Proofs.YtgpdghbmiihfbaaGreat.Pln
namespace Go.Proofs.YtgpdghbmiihfbaaGreat.Pln
set_option linter.all false
set_option maxHeartbeats 8000000
set_option maxRecDepth 4000
open Go Go.VS Tab
attribute [local irreducible] AWp Xp0 Pg X5c Qy Lt Tp FdT Eb
def rdC (b:List UInt8) (s:Nat×Bool):List AV:=[.sl 1 (Xo b) .sh,i64 (s.1:Int),bool s.2]
def rdR (b:List UInt8) (s:Nat×Bool):Res:= .box 228 (rdC b s)
theorem Xs6 {b:List UInt8} {s:Nat×Bool} (h:s.1<=b.length):(rdZ b s).2.1<=b.length:=by
 unfold rdZ rdN;split
 ·exact h
 ·cases hg:Jt (b.drop s.1) with
  |none=>exact h
  |some r=>
   have h1:=(Xsu hg).1;rw[bu] at h1;dsimp only;omega
theorem Xyc (b:List UInt8) (a:Nat):rdZ b (a,true)=(0,(a,true)):=rfl
theorem Xti {b:List UInt8} {a:Nat} (h:Jt (b.drop a)=none):rdZ b (a,false)=(0,(a,true)):=by
 simp [rdZ,rdN,h]
theorem Xtj {b:List UInt8} {a:Nat} {r:Nat×Nat} (h:Jt (b.drop a)=some r):rdZ b (a,false)=((r.1:Int),(a+r.2,false)):=by
 simp [rdZ,rdN,h]
theorem Xqc (k:Nat) (b:List UInt8) (hb:b.length<=1000000) (s:Nat×Bool) (hs:s.1<=b.length):Xr Tryz.prog 167 [.ptr k 0] [(k,some (rdR b s))] (i64 (rdZ b s).1) [(k,rdR b (rdZ b s).2)]:=by
 obtain⟨a,o⟩:=s;have cG:=Xqg b a .sh hs hb;dsimp only at hs⊢;cases o with
 |true=>
  rw[Xyc];generalize (X1x b a).1=x at*;generalize (X1x b a).2.1=y at*;generalize (X1x b a).2.2=z at*;refine Xc 0 Tryz.func167 rfl fun n out _ _=> ?_;simp only[sn,Tryz.ntmps167,simprocAttr];have hg:=Nat.le_refl 0;rename_i hneeds hgv;obtain⟨hk,_⟩:=hneeds;obtain⟨hkn,_⟩:=hgv;have hoN:[k].Nodup:=by simp
  have hoL:∀j,j∈[k]->j<n:=fun j hj=>by simp at hj;subst hj;exact hkn
  refine Vy fun K hK=> ?_;simp only[zA,simprocAttr];repeat' (first|(refine hK _ ?_;clear hK K)|with_reducible apply aa)
  refine Vk fun K hK=>Xik Xj [] [k] [[],[],[],[100],[],[],[],[100],[],[],[],[],[],[],[],[]] [[],[],[],[],[],[],[],[],[],[],[],[],[],[],[],[]] hoN hoL follows (by kernel_rfl) (by decide) (by decide) (by kernel_rfl) ?_;simp only[zA,simprocAttr,so,rdR,rdC,X8 hkn,X7 hkn,hk];repeat' (first|(refine hK _ ?_;clear hK K)|with_reducible apply aa)
  refine X3 cG ?_;simp only[zA,simprocAttr,so];repeat' (first|(refine hK _ ?_;clear hK K)|with_reducible apply aa)
  repeat' (first|refine Vk fun K hK=> ?_|apply V0|apply Vs|with_reducible apply aa|((first|apply gE|apply gR|apply gS);simp only[zA,simprocAttr,rdR,rdC,hk,X8 hkn,X7 hkn,Xa hkn,Xif,X0])|exact Vn|(apply Vz;refine Vo rfl rfl rfl (fun _ _=>rfl) ?_<;>first|rfl|skip)|((refine Vg (fun hg=> ?_) (fun hg=> ?_))<;>try simp only[nb] at hg)|(refine hK _ ?_;clear hK K)|refine Vt rfl ?_|refine Vf rfl ?_|refine Vi rfl (fun hg=> ?_) (fun hg=> ?_)|clear hK K)
 |false=>
  cases hg:Jt (b.drop a) with
  |none=>
   rw[Xti hg];rw[Gn hg] at cG;refine Xc 0 Tryz.func167 rfl fun n out _ _=> ?_;simp only[sn,Tryz.ntmps167,simprocAttr];have hg:=Nat.le_refl 0;rename_i hneeds hgv;obtain⟨hk,_⟩:=hneeds;obtain⟨hkn,_⟩:=hgv;have hoN:[k].Nodup:=by simp
   have hoL:∀j,j∈[k]->j<n:=fun j hj=>by simp at hj;subst hj;exact hkn
   refine Vy fun K hK=> ?_;simp only[zA,simprocAttr];repeat' (first|(refine hK _ ?_;clear hK K)|with_reducible apply aa)
   refine Vk fun K hK=>Xik Xj [] [k] [[],[],[],[100],[],[],[],[100],[],[],[],[],[],[],[],[]] [[],[],[],[],[],[],[],[],[],[],[],[],[],[],[],[]] hoN hoL follows (by kernel_rfl) (by decide) (by decide) (by kernel_rfl) ?_;simp only[zA,simprocAttr,so,rdR,rdC,X8 hkn,X7 hkn,hk];repeat' (first|(refine hK _ ?_;clear hK K)|with_reducible apply aa)
   refine X3 cG ?_;simp only[zA,simprocAttr,so];repeat' (first|(refine hK _ ?_;clear hK K)|with_reducible apply aa)
   repeat' (first|refine Vk fun K hK=> ?_|apply V0|apply Vs|with_reducible apply aa|((first|apply gE|apply gR|apply gS);simp only[zA,simprocAttr,rdR,rdC,hk,X8 hkn,X7 hkn,Xa hkn,Xif,X0])|exact Vn|(apply Vz;refine Vo rfl rfl rfl (fun _ _=>rfl) ?_<;>first|rfl|skip)|((refine Vg (fun hg=> ?_) (fun hg=> ?_))<;>try simp only[nb] at hg)|(refine hK _ ?_;clear hK K)|refine Vt rfl ?_|refine Vf rfl ?_|refine Vi rfl (fun hg=> ?_) (fun hg=> ?_)|clear hK K)
  |some r=>
   have eT:X1x b a=((r.1:Int),((a+r.2:Nat):Int),0):=by unfold X1x;rw[hg]
   rw[eT] at cG;rw[Xtj hg];refine Xc 0 Tryz.func167 rfl fun n out _ _=> ?_;simp only[sn,Tryz.ntmps167,simprocAttr];have hg:=Nat.le_refl 0;rename_i hneeds hgv;obtain⟨hk,_⟩:=hneeds;obtain⟨hkn,_⟩:=hgv;have hoN:[k].Nodup:=by simp
   have hoL:∀j,j∈[k]->j<n:=fun j hj=>by simp at hj;subst hj;exact hkn
   refine Vy fun K hK=> ?_;simp only[zA,simprocAttr];repeat' (first|(refine hK _ ?_;clear hK K)|with_reducible apply aa)
   refine Vk fun K hK=>Xik Xj [] [k] [[],[],[],[100],[],[],[],[100],[],[],[],[],[],[],[],[]] [[],[],[],[],[],[],[],[],[],[],[],[],[],[],[],[]] hoN hoL follows (by kernel_rfl) (by decide) (by decide) (by kernel_rfl) ?_;simp only[zA,simprocAttr,so,rdR,rdC,X8 hkn,X7 hkn,hk];repeat' (first|(refine hK _ ?_;clear hK K)|with_reducible apply aa)
   refine X3 cG ?_;simp only[zA,simprocAttr,so];repeat' (first|(refine hK _ ?_;clear hK K)|with_reducible apply aa)
   repeat' (first|refine Vk fun K hK=> ?_|apply V0|apply Vs|with_reducible apply aa|((first|apply gE|apply gR|apply gS);simp only[zA,simprocAttr,rdR,rdC,hk,X8 hkn,X7 hkn,Xa hkn,Xif,X0])|exact Vn|(apply Vz;refine Vo rfl rfl rfl (fun _ _=>rfl) ?_<;>first|rfl|skip)|((refine Vg (fun hg=> ?_) (fun hg=> ?_))<;>try simp only[nb] at hg)|(refine hK _ ?_;clear hK K)|refine Vt rfl ?_|refine Vf rfl ?_|refine Vi rfl (fun hg=> ?_) (fun hg=> ?_)|clear hK K)
   exact Yd (Qv (.inr rfl) rfl rfl rfl (fun j _=>by rw[Jp];rfl) rfl)
end Go.Proofs.YtgpdghbmiihfbaaGreat.Pln
