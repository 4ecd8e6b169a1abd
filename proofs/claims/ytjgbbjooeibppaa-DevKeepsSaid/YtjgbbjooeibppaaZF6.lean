/-
 The law DevKeeps.
-/
import Derived.Test.YtjgbbjooeibppaaZGA
import Derived.Test.YtjgbbjooeibppaaZF5
import Derived.Test.YtjgbbjooeibppaaZF4
import Derived.Test.YtjgbbjooeibppaaZD32
namespace Go.Proofs.Ytjgbbjooeibppaa
set_option linter.unusedVariables false
set_option linter.unusedSimpArgs false
open Go Go.VS Tab
set_option maxHeartbeats 8000000
set_option maxRecDepth 4000
theorem X1o (d : Dsk) (hd : Small d) : Xr Try.prog 12 [A2 d] [] (A2 d) [] :=
 Xjq (m := 1) (needs := fun B => [(B, none)]) (gives := fun B => [(B, .row 76 2 d.waits.length)]) (fun B => Xld (Xn6 B d hd) (by simp only [A2, Xha, E1, sl]))
  (fun B y hy => by simp at hy; rw [hy]; exact ⟨rfl, Nat.le_refl _⟩) (fun B y hy => by simp at hy; rw [hy]; exact ⟨Nat.le_refl _, Nat.lt_succ_self _⟩)
def Xj0 (d : Dsk) : List (Option Res) := (Xis d).map bxO
def Xhi (d : Dsk) : List (Option Res) := ((Xis d).map Xiy).map bxO
theorem Xlo (d : Dsk) : (Xj0 d).length = (Xh9 d).length := by rw [Xjj]; simp [Xj0, Xj5]
theorem Xiz (d : Dsk) : (Xhi d).length = (Xh9 d).length := by rw [Xjj]; simp [Xhi, Xj5]
theorem Xhw (s : Nat → Option Res) (B : Nat) (d : Dsk) : holds (ofL s B (Xh9 d)) (Xfx B (Xj0 d)) := Q5.2 fun y hy => by
 obtain ⟨j, q, h1, h2⟩ := A4.1 hy
 rw [Xj0, ← Xo2] at h1
 rw [h2, Xjj]
 exact C4 (Xg8 h1).1
theorem Xhx (d : Dsk) : ∀ y, y ∈ Xj0 d → y ≠ some .dead := fun y hy => by
 simp only [Xj0, List.mem_map] at hy
 obtain ⟨r, _, rfl⟩ := hy
 unfold bxO
 split <;> simp
theorem A1 {n B : Nat} {d : Dsk} (h : Mc n (Xhj B (Xh9 d))) : Mc n (Xhj B (Xj0 d)) ∧ Mc n (Xhj B (Xhi d)) := by
 have hlt := Xih h (Xhv d)
 constructor <;>
 ·refine Ht.2 fun y hy => ?_
  obtain ⟨j, h1, h2⟩ := A3.1 hy
  have := (List.getElem?_eq_some_iff.1 h1).1
  rw [h2]
  refine hlt j ?_
  first | rwa [Xlo] at this | rwa [Xiz] at this
theorem Xhy {s o : Nat → Option Res} {B : Nat} {d : Dsk} (h : ∀ j, B ≤ j → s j = o j) : ∀ j, B + (Xh9 d).length ≤ j → ofL (ofL s B (Xh9 d)) B (Xhi d) j = o j := fun j hj => by
 rw [Xge (by rw [Xiz]; omega), Xge (by omega)]
 exact h j (by omega)
theorem Xhz {s o : Nat → Option Res} {B B' : Nat} {L : List (Option Res)} (h : ∀ j, B ≤ j → s j = o j) (hB : B ≤ B') (hn : holds o (Xev B' L)) : holds s (Xev B' L) := Q5.2 fun y hy => by
 obtain ⟨_, j, q, h1, h2⟩ := C3.1 hy
 rw [h _ (by rw [h2]; omega)]
 exact Q5.1 hn y hy
def Xi0 (B : Nat) (d : Dsk) : List (Nat × Res) := Xhj B (Xh9 d) ++ Xhj B (Xhi d)
theorem Xi8 (s : Nat → Option Res) (B : Nat) (d : Dsk) : ofL (ofL s B (Xh9 d)) B (Xhi d) = upd s (Xi0 B d) := by
 rw [Xi0, Xi6, K3, K3]
theorem Xi9 {B : Nat} {d : Dsk} : ∀ y, y ∈ Xi0 B d → B ≤ y.1 ∧ y.1 < B + (Xh9 d).length := fun y hy => by
 rw [Xi0, List.mem_append] at hy
 rcases hy with hy | hy
 ·obtain ⟨j, h1, h2⟩ := A3.1 hy
  have := (List.getElem?_eq_some_iff.1 h1).1
  omega
 ·obtain ⟨j, h1, h2⟩ := A3.1 hy
  have := (List.getElem?_eq_some_iff.1 h1).1
  rw [Xiz] at this
  omega
theorem Xia (B : Nat) (d : Dsk) (hd : Small d) : Xr Try.prog 15 [.agg [.sl 1 (Xhn B d) .sh, .sl 2 (Xhh B d) .sh]] (Xfx B (Xj0 d)) (.tup []) (Xhj B (Xhi d)) := Xns B d hd
theorem Xnz (n : Nat) : Yh 1 n (Y7 [Value.int .i64 0] n) = (List.replicate n (0 : Int)).map Ym := by
 have e : Y7 [Value.int .i64 0] n = (List.replicate n (0 : Int)).map i64 := by
  apply List.ext_getElem
  ·simp [Y7]
  ·intro i h1 h2
   simp [Y7, Nat.mod_one, X70]
 rw [e]
 clear e
 induction n with
 | zero => rfl
 | succ n ih =>
  rw [List.replicate_succ, List.map_cons, List.map_cons]
  show (i64 0 :: _).take 1 :: Yh 1 n ((i64 0 :: _).drop 1) = _
  rw [List.take_succ_cons, List.take_zero, List.drop_succ_cons, List.drop_zero, ih]
  rfl
def Xnf (B : Nat) (d : Dsk) (a : Int) : List (Nat × Option Res) := if Xau d a = 0 then Xev B (Xh9 (Xhe Xhc d)) else []
def Xmv (d : Dsk) (a : Int) : List UInt8 := (A0 Xhc d d.waits.length).getD a.toNat []
def Xl0 (B : Nat) (d : Dsk) (a : Int) : List (Nat × Res) := if Xau d a = 0 then Xhj B (Xh9 (Xhe Xhc d)) ++ [(B + a.toNat, .box 5 ((Xiy (Xmv d a)).map b8))] else []
theorem Xmw (d o : Dsk) (a : Int) (b : List UInt8) (hd : DOk d) (ho : DOk o) (gd : Xjd d = false) (go' : Xjd o = false) (wd : W64 d) (wo : W64 o) (hb : b.length ≤ 10000) (B B2 B3 B4 B5 B6 : Nat) (X2 X3 X4 X5 : Dsk)
  (e2 : X2 = Xhr d a b) (e3 : X3 = Xic d) (e4 : X4 = Xhq d (List.replicate d.waits.length 0)) (e5 : X5 = Xhg d a 0 1)
  (q2 : B2 = B + (Xh9 d).length) (q3 : B3 = B2 + (Xh9 X2).length) (q4 : B4 = B3 + (Xh9 X3).length) (q5 : B5 = B4 + (Xh9 X4).length) (q6 : B6 = B5 + (Xh9 X5).length) :
  Xr Try.prog 4 [A2 d, A2 o, i64 a, bs b] (Xev B (Xh9 d) ++ (Xev B2 (Xh9 X2) ++ (Xev B3 (Xh9 X3) ++ (Xev B4 (Xh9 X4) ++ (Xev B5 (Xh9 X5) ++ Xnf B6 d a))))) (bool true)
   (Xi0 B d ++ (Xi0 B2 X2 ++ (Xi0 B3 X3 ++ (Xi0 B4 X4 ++ (Xi0 B5 X5 ++ Xl0 B6 d a))))) := by
 obtain ⟨hsm, hsw⟩ := X0a gd
 obtain ⟨hso, _⟩ := X0a go'
 have hds := hsm.s
 have hdw := hsm.w
 have cg1 := Xj6 d hd
 have cg2 := Xj6 o ho
 rw [gd] at cg1
 rw [go'] at cg2
 have ctw := X1o d hsm
 have cs1 := Xe9 d o (by omega) (by omega)
 have cs2 := Xm4 d o hsm hso
 rw [Xln d o hsm hso wd wo] at cs2
 have cs3 := Xe9 d d (by omega) (by omega)
 rw [(Xkm d d).2 rfl] at cs3
 have cs4 := Xm4 d d hsm hsm
 rw [Xjo] at cs4
 have s2 : Small X2 := by rw [e2]; exact Xkb hsm (by omega)
 have s3 : Small X3 := by rw [e3]; exact Xku hsm
 have s4 : Small X4 := by rw [e4]; exact Xke hsm
 have s5 : Small X5 := by rw [e5]; exact Xkd hsm
 have t1 := Xia B d hsm
 have t2 := Xia B2 X2 s2
 have t3 := Xia B3 X3 s3
 have t4 := Xia B4 X4 s4
 have t5 := Xia B5 X5 s5
 have w2 := Xms B2 d a b hsm (by omega)
 have w3 := Xne B3 d hsm.s hsm.w
 have w4 := Xmt B4 d (List.replicate d.waits.length 0) hsm.s hsm.w (by simp; omega)
 have w5 := Xmu B5 d hsm a 0 1
 rw [← e2] at w2
 rw [← e3] at w3
 rw [← e4] at w4
 rw [← e5] at w5
 have e1 : decide ((b.length : Int) > 10000) = false := decide_eq_false (by omega)
 have e1' : decide (10000 < b.length) = false := by simp; omega
 generalize Xk0 d o = P1 at *
 simp only [A2, Xha, Xjr] at *
 refine Xc 8 Try.func4 rfl fun n out _ _ => ?_
 simp only [Try.ntmps4, List.length_cons, List.length_nil, List.length_map, List.length_replicate, Xf, Nat.reduceAdd, Nat.reduceSub, List.replicate, List.cons_append, List.nil_append]
 rename_i hneeds hgv
 simp only [Xji] at hneeds
 simp only [Xiq, Xi0] at hgv
 obtain ⟨n1, n2, n3, n4, n5, n6⟩ := hneeds
 obtain ⟨⟨u1, _⟩, ⟨u2, _⟩, ⟨u3, _⟩, ⟨u4, _⟩, ⟨u5, _⟩, u6⟩ := hgv
 have lt1 := Xih u1 (Xhv d)
 have w1 := Xnd (n + 7) B d (by have := lt1 ((Xh9 d).length - 1); omega) hsm
 simp only [A2, Xha, Xjr] at w1
 repeat' (first | (with_reducible first | refine Vk fun K hK => ?_ | refine V0 ?_ | refine Vb ?_ | refine Vc ?_ | refine Vr ?_ | refine Vs ?_ | apply And.intro | refine Vd 3 [] [[0],[],[],[],[2],[2],[]] [[],[],[],[],[2],[2],[]] (by kernel_rfl) (by decide) (by decide) (by kernel_rfl) ?_ | refine Vq (by kernel_rfl) ?_) | ((with_reducible first | refine gE ?_ | refine gR ?_ | refine gD ?_ | refine gF ?_); simp (maxSteps:=9^7) only [ss, X1, tab, simprocAttr, -List.reduceReplicate, A2, Xha, Sm, e1, e1', bne_self_eq_false, Bool.not_true, Ya, Z5, X0, W0 (Nat.le_refl n), Xg7 u1, Xg7 (A1 u1).2]) | exact Vn | ((with_reducible refine Vz ?_); refine Vo rfl rfl rfl (fun _ _ => rfl) ?_ <;> first | rfl | skip) | (refine Pl (cg1) ?_) | (refine Pl (cg2) ?_) | (refine Pl (ctw) ?_) | (refine Pl (cs1) ?_) | (refine Pl (cs2) ?_) | (refine Pl (cs3) ?_) | (refine Xhu w1 (X6 _ (Nat.le_refl _) 7) (Xb _ (by simp)) u1 n1 ?_) | (refine Xi7 t1 (A1 u1).1 (A1 u1).2 (Xhx d) (Xhw _ _ _) ?_) | ((with_reducible refine Vg (fun hg => ?_) (fun hg => ?_)) <;> (try simp only [nb] at hg) <;> simp (maxSteps:=9^7) only [ss, X1, tab, simprocAttr, -List.reduceReplicate, hg, A2, Xha, Sm, e1, e1', bne_self_eq_false, Bool.not_true, Ya, Z5, X0, W0 (Nat.le_refl n), Xg7 u1, Xg7 (A1 u1).2]) | ((with_reducible refine Vx ?_); simp only [sb, reduceIte, Nat.reduceEqDiff]) | (refine hK _ ?_; clear hK K) | refine Vt rfl ?_ | refine Vf rfl ?_ | refine Vi rfl (fun hg => ?_) (fun hg => ?_) | clear hK K)
 have o1 : ∀ j, B2 ≤ j → ofL (ofL out B (Xh9 d)) B (Xhi d) j = out j := by rw [q2]; exact Xhy (fun j _ => rfl)
 have p1 : ofL (ofL out B (Xh9 d)) B (Xhi d) = upd out (Xi0 B d) := Xi8 _ _ _
 generalize ofL (ofL out B (Xh9 d)) B (Xhi d) = O1 at o1 p1 ⊢
 have h2 : holds O1 (Xev B2 (Xh9 X2)) := Xhz o1 (Nat.le_refl _) n2
 repeat' (first | (with_reducible first | refine Vk fun K hK => ?_ | refine V0 ?_ | refine Vb ?_ | refine Vc ?_ | refine Vr ?_ | refine Vs ?_ | apply And.intro | refine Vq (by kernel_rfl) ?_) | ((with_reducible first | refine gE ?_ | refine gR ?_); simp (maxSteps:=9^7) only [ss, X1, tab, simprocAttr, -List.reduceReplicate, A2, Xha, Sm, Ya, Z5, X0, Xg7 u2, Xg7 (A1 u2).2]) | exact Vn | ((with_reducible refine Vz ?_); refine Vo rfl rfl rfl (fun _ _ => rfl) ?_ <;> first | rfl | skip) | (refine Xg1 w2 u2 h2 ?_) | (refine Xi7 t2 (A1 u2).1 (A1 u2).2 (Xhx X2) (Xhw _ _ _) ?_) | ((with_reducible refine Vg (fun hg => ?_) (fun hg => ?_)) <;> (try simp only [nb] at hg) <;> simp (maxSteps:=9^7) only [ss, X1, tab, simprocAttr, -List.reduceReplicate, hg, A2, Xha, Sm, Ya, Z5, X0, Xg7 u2, Xg7 (A1 u2).2]) | ((with_reducible refine Vx ?_); simp only [sb, reduceIte, Nat.reduceEqDiff]) | (refine hK _ ?_; clear hK K) | refine Vt rfl ?_ | refine Vf rfl ?_ | refine Vi rfl (fun hg => ?_) (fun hg => ?_) | clear hK K)
 have o2 : ∀ j, B3 ≤ j → ofL (ofL O1 B2 (Xh9 X2)) B2 (Xhi X2) j = out j := by rw [q3]; exact Xhy (o1)
 have p2 : ofL (ofL O1 B2 (Xh9 X2)) B2 (Xhi X2) = upd O1 (Xi0 B2 X2) := Xi8 _ _ _
 generalize ofL (ofL O1 B2 (Xh9 X2)) B2 (Xhi X2) = O2 at o2 p2 ⊢
 have h3 : holds O2 (Xev B3 (Xh9 X3)) := Xhz o2 (Nat.le_refl _) n3
 repeat' (first | (with_reducible first | refine Vk fun K hK => ?_ | refine V0 ?_ | refine Vb ?_ | refine Vc ?_ | refine Vr ?_ | refine Vs ?_ | apply And.intro) | ((with_reducible first | refine gE ?_ | refine gR ?_); simp (maxSteps:=9^7) only [ss, X1, tab, simprocAttr, -List.reduceReplicate, A2, Xha, Sm, Ya, Z5, X0, Xg7 u3, Xg7 (A1 u3).2]) | exact Vn | ((with_reducible refine Vz ?_); refine Vo rfl rfl rfl (fun _ _ => rfl) ?_ <;> first | rfl | skip) | (refine Xg1 w3 u3 h3 ?_) | (refine Xi7 t3 (A1 u3).1 (A1 u3).2 (Xhx X3) (Xhw _ _ _) ?_) | ((with_reducible refine Vg (fun hg => ?_) (fun hg => ?_)) <;> (try simp only [nb] at hg) <;> simp (maxSteps:=9^7) only [ss, X1, tab, simprocAttr, -List.reduceReplicate, hg, A2, Xha, Sm, Ya, Z5, X0, Xg7 u3, Xg7 (A1 u3).2]) | ((with_reducible refine Vx ?_); simp only [sb, reduceIte, Nat.reduceEqDiff]) | (refine hK _ ?_; clear hK K) | refine Vt rfl ?_ | refine Vf rfl ?_ | refine Vi rfl (fun hg => ?_) (fun hg => ?_) | clear hK K)
 have o3 : ∀ j, B4 ≤ j → ofL (ofL O2 B3 (Xh9 X3)) B3 (Xhi X3) j = out j := by rw [q4]; exact Xhy (o2)
 have p3 : ofL (ofL O2 B3 (Xh9 X3)) B3 (Xhi X3) = upd O2 (Xi0 B3 X3) := Xi8 _ _ _
 generalize ofL (ofL O2 B3 (Xh9 X3)) B3 (Xhi X3) = O3 at o3 p3 ⊢
 have h4 : holds O3 (Xev B4 (Xh9 X4)) := Xhz o3 (Nat.le_refl _) n4
 have hoA : Xj1 n [(B4, (Xh9 X4).length)] := Xkp (Xih u4 (Xhv X4))
 have y1 : 8 * (d.waits.length : Int) ≤ 281474976710656 := by omega
 have y2 : (d.waits.length : Int) ≤ 9223372036854775807 := by omega
 have w4' := Xdb (args' := [.agg [.sl 1 (d.sectors.map Y6) .sh, .sl 2 (d.waits.map wrC) .sh], .sl 1 ((List.replicate d.waits.length (0 : Int)).map Ym) .full]) w4 ⟨.rfl _, .sh _ _ _, trivial⟩
 refine Xib Xj [] [(B4, (Xh9 X4).length)] [[2], [], [2], [], [], [100], [], [], [], [5], [5], []] [[], [], [], [], [], [100], [], [], [], [5], [5], []] hoA follows (by kernel_rfl) (by decide) (by decide) (by kernel_rfl) ?_
 simp (maxSteps:=9^7) only [ss, X1, tab, simprocAttr, -List.reduceReplicate, sf, A2, Xha, List.length_map, y1, y2, Xnz, Int.le_refl]
 refine Xg1 w4' ?_ ?_ ?_
 ·exact u4
 ·exact Xix h4 (x := 100) (by decide) (by decide) rfl
 refine Xma (z := 100) ?_ ?_ ?_ ?_
 ·decide
 ·decide
 ·rfl
 rw [Xg7 u4]
 simp (maxSteps:=9^7) only [ss, X1, tab, simprocAttr, -List.reduceReplicate, sf]
 repeat' (first | (with_reducible refine hK _ ?_; clear hK K) | with_reducible apply And.intro)
 repeat' (first | (with_reducible first | refine Vk fun K hK => ?_ | refine V0 ?_ | refine Vb ?_ | refine Vc ?_ | refine Vr ?_ | refine Vs ?_ | apply And.intro | refine Vq (by kernel_rfl) ?_) | ((with_reducible first | refine gE ?_ | refine gR ?_); simp (maxSteps:=9^7) only [ss, X1, tab, simprocAttr, -List.reduceReplicate, A2, Xha, Sm, Ya, Z5, X0, Xg7 (A1 u4).2]) | exact Vn | ((with_reducible refine Vz ?_); refine Vo rfl rfl rfl (fun _ _ => rfl) ?_ <;> first | rfl | skip) | (refine Xi7 t4 (A1 u4).1 (A1 u4).2 (Xhx X4) (Xhw _ _ _) ?_) | ((with_reducible refine Vg (fun hg => ?_) (fun hg => ?_)) <;> (try simp only [nb] at hg) <;> simp (maxSteps:=9^7) only [ss, X1, tab, simprocAttr, -List.reduceReplicate, hg, A2, Xha, Sm, Ya, Z5, X0, Xg7 (A1 u4).2]) | ((with_reducible refine Vx ?_); simp only [sb, reduceIte, Nat.reduceEqDiff]) | (refine hK _ ?_; clear hK K) | refine Vt rfl ?_ | refine Vf rfl ?_ | refine Vi rfl (fun hg => ?_) (fun hg => ?_) | clear hK K)
 have o4 : ∀ j, B5 ≤ j → ofL (ofL O3 B4 (Xh9 X4)) B4 (Xhi X4) j = out j := by rw [q5]; exact Xhy (o3)
 have p4 : ofL (ofL O3 B4 (Xh9 X4)) B4 (Xhi X4) = upd O3 (Xi0 B4 X4) := Xi8 _ _ _
 generalize ofL (ofL O3 B4 (Xh9 X4)) B4 (Xhi X4) = O4 at o4 p4 ⊢
 have h5 : holds O4 (Xev B5 (Xh9 X5)) := Xhz o4 (Nat.le_refl _) n5
 repeat' (first | (with_reducible first | refine Vk fun K hK => ?_ | refine V0 ?_ | refine Vb ?_ | refine Vc ?_ | refine Vr ?_ | refine Vs ?_ | apply And.intro | refine Vq (by kernel_rfl) ?_) | ((with_reducible first | refine gE ?_ | refine gR ?_); simp (maxSteps:=9^7) only [ss, X1, tab, simprocAttr, -List.reduceReplicate, A2, Xha, Sm, Ya, Z5, X0, Xg7 u5, Xg7 (A1 u5).2]) | exact Vn | ((with_reducible refine Vz ?_); refine Vo rfl rfl rfl (fun _ _ => rfl) ?_ <;> first | rfl | skip) | (refine Xg1 w5 u5 h5 ?_) | (refine Xi7 t5 (A1 u5).1 (A1 u5).2 (Xhx X5) (Xhw _ _ _) ?_) | ((with_reducible refine Vg (fun hg => ?_) (fun hg => ?_)) <;> (try simp only [nb] at hg) <;> simp (maxSteps:=9^7) only [ss, X1, tab, simprocAttr, -List.reduceReplicate, hg, A2, Xha, Sm, Ya, Z5, X0, Xg7 u5, Xg7 (A1 u5).2]) | ((with_reducible refine Vx ?_); simp only [sb, reduceIte, Nat.reduceEqDiff]) | (refine hK _ ?_; clear hK K) | refine Vt rfl ?_ | refine Vf rfl ?_ | refine Vi rfl (fun hg => ?_) (fun hg => ?_) | clear hK K)
 have o5 : ∀ j, B6 ≤ j → ofL (ofL O4 B5 (Xh9 X5)) B5 (Xhi X5) j = out j := by rw [q6]; exact Xhy (o4)
 have p5 : ofL (ofL O4 B5 (Xh9 X5)) B5 (Xhi X5) = upd O4 (Xi0 B5 X5) := Xi8 _ _ _
 generalize ofL (ofL O4 B5 (Xh9 X5)) B5 (Xhi X5) = O5 at o5 p5 ⊢
 have fin : ∀ g, upd out (Xi0 B d ++ (Xi0 B2 X2 ++ (Xi0 B3 X3 ++ (Xi0 B4 X4 ++ (Xi0 B5 X5 ++ g))))) = upd O5 g := fun g => by
  rw [Xi6, Xi6, Xi6, Xi6, Xi6, ← p1, ← p2, ← p3, ← p4, ← p5]
 by_cases hR : Xau d a = 0
 ·obtain ⟨hm, ha1, ha2⟩ := Xju.1 hR
  obtain ⟨z, rfl⟩ := Int.eq_ofNat_of_zero_le ha1
  rw [Xnf, if_pos hR] at n6
  have eG : Xl0 B6 d (z : Int) = Xhj B6 (Xh9 (Xhe Xhc d)) ++ [(B6 + z, .box 5 ((Xiy (Xmv d z)).map b8))] := by
   rw [Xl0, if_pos hR, Int.toNat_natCast]
  rw [eG, Xiq] at u6
  have u7 := u6.1
  have hZ : B6 + z < n := u6.2.1
  have h6 : holds O5 (Xev B6 (Xh9 (Xhe Xhc d))) := Xhz o5 (Nat.le_refl _) n6
  have r6 := X2u B6 z d hsm.s hsm.w hR
  have hl := Xh8 Xhc d d.waits.length
  have h32 := ((Xho d).1 hm).1
  have hzl : z < (A0 Xhc d d.waits.length).length := by omega
  obtain ⟨rr, hrr⟩ : ∃ rr, rr = Xmv d z := ⟨_, rfl⟩
  have er : (A0 Xhc d d.waits.length)[z] = rr := by rw [hrr, Xmv, Int.toNat_natCast, List.getD_eq_getElem?_getD, List.getElem?_eq_getElem hzl]; rfl
  have rl : rr.length = 128 := by rw [← er]; exact Xhb hm (fun i _ => Nat.le_refl _) _ _ (List.getElem_mem hzl)
  have oB : ofL O5 B6 (Xh9 (Xhe Xhc d)) (B6 + z) = some (.box 5 (rr.map b8)) := by
   refine C4 ?_
   rw [← Xir (by omega), ← er]
   show (Xj5 (A0 Xhc d d.waits.length) ++ Xkq [])[z]? = _
   rw [List.getElem?_append_left (by rw [Xhk]; exact hzl), Xj5, List.getElem?_map, List.getElem?_eq_getElem hzl]; rfl
  simp only [A2, Xha] at r6
  have fin' : upd O5 (Xl0 B6 d z) = Xw (ofL O5 B6 (Xh9 (Xhe Xhc d))) (B6 + z) (.box 5 ((Xhd 128 rr).map b8)) := by
   rw [eG, Xi6, K3, ← hrr, Xiy, rl]; rfl
  generalize Xh9 (Xhe Xhc d) = F6 at *
  repeat' (first | (with_reducible first | refine Vk fun K hK => ?_ | refine V0 ?_ | refine Vb ?_ | refine Vc ?_ | refine Vr ?_ | refine Vs ?_ | apply And.intro | refine Vq (by kernel_rfl) ?_) | ((with_reducible first | refine gE ?_ | refine gR ?_); simp (maxSteps:=9^7) only [ss, X1, tab, simprocAttr, -List.reduceReplicate, A2, Xha, Sm, Ya, Z5, X0, Xg7 u7]) | exact Vn | ((with_reducible refine Vz ?_); refine Vo rfl rfl rfl (fun _ _ => rfl) ?_ <;> first | rfl | skip) | (refine Xg1 r6 u7 h6 ?_) | ((with_reducible refine Vg (fun hg => ?_) (fun hg => ?_)) <;> (try simp only [nb] at hg) <;> simp (maxSteps:=9^7) only [ss, X1, tab, simprocAttr, -List.reduceReplicate, hg, A2, Xha, Sm, Ya, Z5, X0, Xg7 u7]) | ((with_reducible refine Vx ?_); simp only [sb, reduceIte, Nat.reduceEqDiff]) | (refine hK _ ?_; clear hK K) | refine Vt rfl ?_ | refine Vf rfl ?_ | refine Vi rfl (fun hg => ?_) (fun hg => ?_) | clear hK K)
  have o0 : Xw (ofL O5 B6 F6) (B6 + z) (.box 5 ((Xhd 0 rr).map b8)) = ofL O5 B6 F6 := by rw [Xmc]; exact Qb oB
  generalize ofL O5 B6 F6 = O6 at *
  refine Xe ?_
  refine Xz (fun k : Nat => [(21, i64 (k : Int)), (94, .top), (95, .top), (96, .top), (97, .top), (98, .top), (99, .top), (100, .top), (101, .top), (102, .top), (103, .top), (104, .top), (105, .top), (106, .top), (107, .top)]) (fun k => [some (.box 43 [.sl 1 (d.sectors.map Y6) .sh, .sl 2 (d.waits.map wrC) .sh]), some (.box 43 [.sl 1 (o.sectors.map Y6) .sh, .sl 2 (o.waits.map wrC) .sh]), some (.box 43 [.sl 1 (d.sectors.map Y6) .sh, .sl 2 (d.waits.map wrC) .sh]), some (.box 43 [.sl 1 (Xhn B2 X2) .sh, .sl 2 (Xhh B2 X2) .sh]), some (.box 43 [.sl 1 (Xhn B3 X3) .sh, .sl 2 (Xhh B3 X3) .sh]), some (.box 43 [.sl 1 (Xhn B4 X4) .sh, .sl 2 (Xhh B4 X4) .sh]), some (.box 43 [.sl 1 (Xhn B5 X5) .sh, .sl 2 (Xhh B5 X5) .sh]), some (.row 76 2 d.waits.length)]) (fun k => Xw O6 (B6 + z) (.box 5 ((Xhd k rr).map b8))) (fun k => k ≤ 128) (fun k => 128 - k) 0 (Nat.zero_le _) ?_ fun k hk => ?_
  ·refine Rt ?_ ?_ (by first | rfl | (simp only [o0]; rfl) | simp only [o0]) rfl rfl rfl <;> simp only [E1, sl, o0]
  simp only [E1, s_0, s_s]
  have hwk := Yl (n := k) 1 1 rfl (by omega)
  by_cases hlk : k < 128
  ·have hlk' : (k : Int) < 128 := by omega
   have hkr : k < rr.length := by omega
   have gx : rr[k]? = some rr[k] := List.getElem?_eq_getElem hkr
   have gt : (Xhd k rr).getD k 0 = rr[k] := by rw [List.getD_eq_getElem?_getD, Xhd, Rf gx (Nat.le_refl _)]; rfl
   have gp := X0z 1 b8 (Xhd k rr) k 0 (by rw [Xhp]; exact hkr)
   rw [gt] at gp
   have gs := F7 b8 (Xhd k rr) k (~~~ rr[k]) (by rw [Xhp]; exact hkr)
   have gn : (Xhd k rr).set k (~~~ rr[k]) = Xhd (k + 1) rr := Xjm gx
   rw [gn] at gs
   have gl : ((Xhd k rr).map b8).length = 128 := by rw [List.length_map, Xhp, rl]
   generalize (Xhd k rr).map b8 = G at *
   obtain ⟨G', hG'⟩ : ∃ G', G' = (Xhd (k + 1) rr).map b8 := ⟨_, rfl⟩
   rw [← hG'] at gs
   repeat' (first | (with_reducible first | refine Vk fun K hK => ?_ | refine V0 ?_ | refine Vb ?_ | refine Vc ?_ | refine Vr ?_ | refine Vs ?_ | apply And.intro | refine Vq (by kernel_rfl) ?_) | ((with_reducible first | refine gE ?_ | refine gR ?_); simp (maxSteps:=9^7) only [ss, X1, tab, simprocAttr, -List.reduceReplicate, hlk, hlk', decide_true, X8 hZ, X7 hZ, Xa hZ, Xt, Jp, gp, gs, gl, hwk, Xmr]) | exact Vn | ((with_reducible refine Vz ?_); refine Vo rfl rfl rfl (fun _ _ => rfl) ?_ <;> first | rfl | skip) | ((with_reducible refine Vg (fun hg => ?_) (fun hg => ?_)) <;> (try simp only [nb] at hg) <;> simp (maxSteps:=9^7) only [ss, X1, tab, simprocAttr, -List.reduceReplicate, hg, hlk, hlk', decide_true, X8 hZ, X7 hZ, Xa hZ, Xt, Jp, gp, gs, gl, hwk, Xmr]) | ((with_reducible refine Vx ?_); simp only [sb, reduceIte, Nat.reduceEqDiff]) | (refine hK _ ?_; clear hK K) | refine Vt rfl ?_ | refine Vf rfl ?_ | refine Vi rfl (fun hg => ?_) (fun hg => ?_) | clear hK K)
   ·omega
   refine ⟨k + 1, by omega, by omega, ?_⟩
   rw [hG']
   refine Rt ?_ ?_ rfl rfl rfl rfl <;> simp only [E1, sl]
  ·obtain rfl : k = 128 := by omega
   rw [← fin']
   repeat' (first | (with_reducible first | refine Vk fun K hK => ?_ | refine V0 ?_ | refine Vb ?_ | refine Vc ?_ | refine Vr ?_ | refine Vs ?_ | apply And.intro | refine Vq (by kernel_rfl) ?_) | ((with_reducible first | refine gE ?_ | refine gR ?_); simp (maxSteps:=9^7) only [ss, X1, tab, simprocAttr, -List.reduceReplicate, A2, Xha, hlk, decide_false, Z5, beq_self_eq_true, Ya]) | exact Vn | ((with_reducible refine Vz ?_); refine Vo rfl rfl rfl (fun _ _ => rfl) ?_ <;> first | rfl | skip) | (refine Pl (cs4) ?_) | ((with_reducible refine Vg (fun hg => ?_) (fun hg => ?_)) <;> (try simp only [nb] at hg) <;> simp (maxSteps:=9^7) only [ss, X1, tab, simprocAttr, -List.reduceReplicate, hg, A2, Xha, hlk, decide_false, Z5, beq_self_eq_true, Ya]) | ((with_reducible refine Vx ?_); simp only [sb, reduceIte, Nat.reduceEqDiff]) | (refine hK _ ?_; clear hK K) | refine Vt rfl ?_ | refine Vf rfl ?_ | (refine Vi rfl (fun hg => ?_) (fun hg => ?_)) <;> try simp only [hg] | clear hK K)
   refine Yd (Qv (.inr rfl) rfl rfl rfl (fun j _ => by rw [fin]) rfl)
 ·have cr := Xea d a hsm.s hsm.w
  have eB : Xkr d a = [] := by unfold Xkr; rw [if_neg hR]
  have eG : Xl0 B6 d a = [] := by rw [Xl0, if_neg hR]
  rw [eB] at cr
  simp only [A2, Xha] at cr
  rw [eG]
  repeat' (first | (with_reducible first | refine Vk fun K hK => ?_ | refine V0 ?_ | refine Vb ?_ | refine Vc ?_ | refine Vr ?_ | refine Vs ?_ | apply And.intro | refine Vq (by kernel_rfl) ?_) | ((with_reducible first | refine gE ?_ | refine gR ?_); simp (maxSteps:=9^7) only [ss, X1, tab, simprocAttr, -List.reduceReplicate, A2, Xha, Sm, Ya, Z5, X0]) | exact Vn | ((with_reducible refine Vz ?_); refine Vo rfl rfl rfl (fun _ _ => rfl) ?_ <;> first | rfl | skip) | (refine Pl (cr) ?_) | ((with_reducible refine Vg (fun hg => ?_) (fun hg => ?_)) <;> (try simp only [nb] at hg) <;> simp (maxSteps:=9^7) only [ss, X1, tab, simprocAttr, -List.reduceReplicate, hg, A2, Xha, Sm, Ya, Z5, X0]) | ((with_reducible refine Vx ?_); simp only [sb, reduceIte, Nat.reduceEqDiff]) | (refine hK _ ?_; clear hK K) | refine Vt rfl ?_ | refine Vf rfl ?_ | refine Vi rfl (fun hg => ?_) (fun hg => ?_) | clear hK K)
  refine Xe ?_
  refine Xz (fun k : Nat => [(21, i64 (k : Int)), (94, .top), (95, .top), (96, .top), (97, .top), (98, .top), (99, .top), (100, .top), (101, .top), (102, .top), (103, .top), (104, .top), (105, .top), (106, .top), (107, .top)]) (fun k => [some (.box 43 [.sl 1 (d.sectors.map Y6) .sh, .sl 2 (d.waits.map wrC) .sh]), some (.box 43 [.sl 1 (o.sectors.map Y6) .sh, .sl 2 (o.waits.map wrC) .sh]), some (.box 43 [.sl 1 (d.sectors.map Y6) .sh, .sl 2 (d.waits.map wrC) .sh]), some (.box 43 [.sl 1 (Xhn B2 X2) .sh, .sl 2 (Xhh B2 X2) .sh]), some (.box 43 [.sl 1 (Xhn B3 X3) .sh, .sl 2 (Xhh B3 X3) .sh]), some (.box 43 [.sl 1 (Xhn B4 X4) .sh, .sl 2 (Xhh B4 X4) .sh]), some (.box 43 [.sl 1 (Xhn B5 X5) .sh, .sl 2 (Xhh B5 X5) .sh]), some (.row 76 2 d.waits.length)]) (fun k => O5) (fun k => k ≤ 0) (fun k => 0 - k) 0 (Nat.zero_le _) ?_ fun k hk => ?_
  ·refine Rt ?_ ?_ rfl rfl rfl rfl <;> simp only [E1, sl]
  simp only [E1, s_0, s_s]
  obtain rfl : k = 0 := by omega
  repeat' (first | (with_reducible first | refine Vk fun K hK => ?_ | refine V0 ?_ | refine Vb ?_ | refine Vc ?_ | refine Vr ?_ | refine Vs ?_ | apply And.intro | refine Vq (by kernel_rfl) ?_) | ((with_reducible first | refine gE ?_ | refine gR ?_); simp (maxSteps:=9^7) only [ss, X1, tab, simprocAttr, -List.reduceReplicate, A2, Xha, Int.lt_irrefl, Nat.lt_irrefl, List.length_nil, Int.cast_ofNat_Int, decide_false, Z5, beq_self_eq_true, Ya]) | exact Vn | ((with_reducible refine Vz ?_); refine Vo rfl rfl rfl (fun _ _ => rfl) ?_ <;> first | rfl | skip) | (refine Pl (cs4) ?_) | ((with_reducible refine Vg (fun hg => ?_) (fun hg => ?_)) <;> (try simp only [nb] at hg) <;> simp (maxSteps:=9^7) only [ss, X1, tab, simprocAttr, -List.reduceReplicate, hg, A2, Xha, Int.lt_irrefl, Nat.lt_irrefl, List.length_nil, Int.cast_ofNat_Int, decide_false, Z5, beq_self_eq_true, Ya]) | ((with_reducible refine Vx ?_); simp only [sb, reduceIte, Nat.reduceEqDiff]) | (refine hK _ ?_; clear hK K) | refine Vt rfl ?_ | refine Vf rfl ?_ | (refine Vi rfl (fun hg => ?_) (fun hg => ?_)) <;> try simp only [hg] | clear hK K)
  refine Yd (Qv (.inr rfl) rfl rfl rfl (fun j _ => by rw [fin]; first | rfl | (rw [eG]; rfl)) rfl)
theorem Xlp (d o : Dsk) (a : Int) (b : List UInt8) (hd : DOk d) (ho : DOk o) (wd : W64 d) (wo : W64 o) (hb : b.length ≤ Xiv) : Xr Try.prog 4 [A2 d, A2 o, i64 a, bs b] [] (bool true) [] := by
 have cg1 := Xj6 d hd
 have cg2 := Xj6 o ho
 cases gd : Xjd d with
 | true =>
  rw [gd] at cg1
  simp only [A2, Xha] at cg1
  refine Xc 8 Try.func4 rfl fun n out _ _ => ?_
  simp only [Try.ntmps4, List.length_cons, List.length_nil, List.length_map, List.length_replicate, Xf, Nat.reduceAdd, Nat.reduceSub, List.replicate, List.cons_append, List.nil_append]
  repeat' (first | (with_reducible first | refine Vk fun K hK => ?_ | refine V0 ?_ | refine Vb ?_ | refine Vc ?_ | refine Vr ?_ | refine Vs ?_ | apply And.intro | refine Vq (by kernel_rfl) ?_) | ((with_reducible first | refine gE ?_ | refine gR ?_); simp (maxSteps:=9^7) only [ss, X1, tab, simprocAttr, -List.reduceReplicate, A2, Xha]) | exact Vn | ((with_reducible refine Vz ?_); refine Vo rfl rfl rfl (fun _ _ => rfl) ?_ <;> first | rfl | skip) | (refine Pl (cg1) ?_) | ((with_reducible refine Vg (fun hg => ?_) (fun hg => ?_)) <;> (try simp only [nb] at hg) <;> simp (maxSteps:=9^7) only [ss, X1, tab, simprocAttr, -List.reduceReplicate, hg, A2, Xha]) | ((with_reducible refine Vx ?_); simp only [sb, reduceIte, Nat.reduceEqDiff]) | (refine hK _ ?_; clear hK K) | refine Vt rfl ?_ | refine Vf rfl ?_ | refine Vi rfl (fun hg => ?_) (fun hg => ?_) | clear hK K)
 | false =>
  cases go' : Xjd o with
  | true =>
   rw [gd] at cg1
   rw [go'] at cg2
   simp only [A2, Xha] at cg1 cg2
   refine Xc 8 Try.func4 rfl fun n out _ _ => ?_
   simp only [Try.ntmps4, List.length_cons, List.length_nil, List.length_map, List.length_replicate, Xf, Nat.reduceAdd, Nat.reduceSub, List.replicate, List.cons_append, List.nil_append]
   repeat' (first | (with_reducible first | refine Vk fun K hK => ?_ | refine V0 ?_ | refine Vb ?_ | refine Vc ?_ | refine Vr ?_ | refine Vs ?_ | apply And.intro | refine Vq (by kernel_rfl) ?_) | ((with_reducible first | refine gE ?_ | refine gR ?_); simp (maxSteps:=9^7) only [ss, X1, tab, simprocAttr, -List.reduceReplicate, A2, Xha]) | exact Vn | ((with_reducible refine Vz ?_); refine Vo rfl rfl rfl (fun _ _ => rfl) ?_ <;> first | rfl | skip) | (refine Pl (cg1) ?_) | (refine Pl (cg2) ?_) | ((with_reducible refine Vg (fun hg => ?_) (fun hg => ?_)) <;> (try simp only [nb] at hg) <;> simp (maxSteps:=9^7) only [ss, X1, tab, simprocAttr, -List.reduceReplicate, hg, A2, Xha]) | ((with_reducible refine Vx ?_); simp only [sb, reduceIte, Nat.reduceEqDiff]) | (refine hK _ ?_; clear hK K) | refine Vt rfl ?_ | refine Vf rfl ?_ | refine Vi rfl (fun hg => ?_) (fun hg => ?_) | clear hK K)
  | false =>
   by_cases a1 : 10000 < b.length
   ·have e1 : decide ((b.length : Int) > 10000) = true := decide_eq_true (by omega)
    have e1' : decide (10000 < b.length) = true := decide_eq_true a1
    rw [gd] at cg1
    rw [go'] at cg2
    simp only [A2, Xha] at cg1 cg2
    refine Xc 8 Try.func4 rfl fun n out _ _ => ?_
    simp only [Try.ntmps4, List.length_cons, List.length_nil, List.length_map, List.length_replicate, Xf, Nat.reduceAdd, Nat.reduceSub, List.replicate, List.cons_append, List.nil_append]
    repeat' (first | (with_reducible first | refine Vk fun K hK => ?_ | refine V0 ?_ | refine Vb ?_ | refine Vc ?_ | refine Vr ?_ | refine Vs ?_ | apply And.intro | refine Vq (by kernel_rfl) ?_) | ((with_reducible first | refine gE ?_ | refine gR ?_); simp (maxSteps:=9^7) only [ss, X1, tab, simprocAttr, -List.reduceReplicate, A2, Xha, Sm, e1, e1']) | exact Vn | ((with_reducible refine Vz ?_); refine Vo rfl rfl rfl (fun _ _ => rfl) ?_ <;> first | rfl | skip) | (refine Pl (cg1) ?_) | (refine Pl (cg2) ?_) | ((with_reducible refine Vg (fun hg => ?_) (fun hg => ?_)) <;> (try simp only [nb] at hg) <;> simp (maxSteps:=9^7) only [ss, X1, tab, simprocAttr, -List.reduceReplicate, hg, A2, Xha, Sm, e1, e1']) | ((with_reducible refine Vx ?_); simp only [sb, reduceIte, Nat.reduceEqDiff]) | (refine hK _ ?_; clear hK K) | refine Vt rfl ?_ | refine Vf rfl ?_ | refine Vi rfl (fun hg => ?_) (fun hg => ?_) | clear hK K)
   ·exact Xjq (fun B => Xmw d o a b hd ho gd go' wd wo (by omega) B _ _ _ _ _ _ _ _ _ rfl rfl rfl rfl rfl rfl rfl rfl rfl)
     (fun B y hy => by
      have fN : ∀ K L, y ∈ Xev K L → y.2 = none ∧ K ≤ y.1 := fun K L h => by
       obtain ⟨h0, j, r, _, h1⟩ := C3.1 h
       exact ⟨h0, by omega⟩
      simp only [List.mem_append, Xnf] at hy
      rcases hy with hy | hy | hy | hy | hy | hy
      ·exact fN _ _ hy
      ·have := fN _ _ hy; exact ⟨this.1, by omega⟩
      ·have := fN _ _ hy; exact ⟨this.1, by omega⟩
      ·have := fN _ _ hy; exact ⟨this.1, by omega⟩
      ·have := fN _ _ hy; exact ⟨this.1, by omega⟩
      ·split at hy
       ·have := fN _ _ hy; exact ⟨this.1, by omega⟩
       ·cases hy)
     (m := (Xh9 d).length + (Xh9 (Xhr d a b)).length + (Xh9 (Xic d)).length + (Xh9 (Xhq d (List.replicate d.waits.length 0))).length + (Xh9 (Xhg d a 0 1)).length + (Xh9 (Xhe Xhc d)).length + 32) fun B y hy => by
      simp only [List.mem_append, Xl0] at hy
      rcases hy with hy | hy | hy | hy | hy | hy
      ·have := Xi9 y hy; omega
      ·have := Xi9 y hy; omega
      ·have := Xi9 y hy; omega
      ·have := Xi9 y hy; omega
      ·have := Xi9 y hy; omega
      ·split at hy
       ·rename_i hR
        obtain ⟨hm, ha1, ha2⟩ := Xju.1 hR
        rcases List.mem_append.1 hy with hy | hy
        ·obtain ⟨j, h1, h2⟩ := A3.1 hy
         have := (List.getElem?_eq_some_iff.1 h1).1
         omega
        ·rw [List.mem_singleton] at hy
         rw [hy]
         dsimp only
         omega
       ·cases hy
end Go.Proofs.Ytjgbbjooeibppaa
