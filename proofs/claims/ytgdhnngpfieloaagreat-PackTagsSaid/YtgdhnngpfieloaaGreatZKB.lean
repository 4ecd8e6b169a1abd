/- The layer of abstract values, joined: KB. -/
import Derived.Test.YtgdhnngpfieloaaGreatZKA
import Derived.Test.YtgdhnngpfieloaaGreatZPJ
section
namespace Go.Proofs.YtgdhnngpfieloaaGreat.Pln
set_option linter.unusedVariables false
set_option linter.unusedSimpArgs false
open Go Go.VS
set_option maxHeartbeats 1000000
abbrev Rf (α : Type) := List Int → Nat → α × Nat
def rfN : Rf Int := fun l a => (l.getD a 0, a + 1)
def rfB {α β : Type} (f : Rf α) (g : α → Rf β) : Rf β := fun l a => g (f l a).1 l (f l a).2
def rfP {α : Type} (v : α) : Rf α := fun _ a => (v, a)
def rfK {α : Type} (one : Rf α) : Nat → Rf (List α)
 | 0 => rfP []
 | k + 1 => fun l a => if a < l.length then ((one l a).1 :: (rfK one k l (one l a).2).1, (rfK one k l (one l a).2).2) else ([], a)
def rfL {α : Type} (one : Rf α) : Rf (List α) := rfB rfN fun n => rfK one n.toNat
theorem X1r {α : Type} (one : Rf α) (l : List Int) : ∀ (k a : Nat), (rfK one k l a).1.length = k → (rfK one k l a).2 < l.length →
  rfK one (k + 1) l a = ((rfK one k l a).1 ++ [(one l (rfK one k l a).2).1], (one l (rfK one k l a).2).2)
 | 0, a, _, h => by
  have e : rfK one 0 l a = ([], a) := rfl
  rw [e] at h ⊢
  show (if a < l.length then _ else _) = _
  rw [if_pos h]; rfl
 | k + 1, a, h1, h2 => by
  have e : ∀ k, rfK one (k + 1) l a = if a < l.length then ((one l a).1 :: (rfK one k l (one l a).2).1, (rfK one k l (one l a).2).2) else ([], a) := fun _ => rfl
  by_cases ha : a < l.length
  ·have e1 := e k
   rw [if_pos ha] at e1
   rw [e1] at h1 h2 ⊢
   have hk := X1r one l k (one l a).2 (by simpa using h1) h2
   rw [e (k + 1), if_pos ha, hk]; rfl
  ·rw [e k, if_neg ha] at h1; cases h1
theorem R8 {α : Type} (one : Rf α) (l : List Int) : ∀ (k n a : Nat), k ≤ n → (rfK one k l a).1.length = k → ¬ (rfK one k l a).2 < l.length → rfK one n l a = rfK one k l a
 | 0, 0, a, _, _, _ => rfl
 | 0, n + 1, a, _, _, h => by
  have e : rfK one 0 l a = ([], a) := rfl
  rw [e] at h ⊢
  show (if a < l.length then _ else _) = _
  rw [if_neg h]
 | k + 1, 0, a, h, _, _ => by omega
 | k + 1, n + 1, a, hk, h1, h2 => by
  have e : ∀ k, rfK one (k + 1) l a = if a < l.length then ((one l a).1 :: (rfK one k l (one l a).2).1, (rfK one k l (one l a).2).2) else ([], a) := fun _ => rfl
  by_cases ha : a < l.length
  ·have e1 := e k
   rw [if_pos ha] at e1
   rw [e1] at h1 h2 ⊢
   rw [e n, if_pos ha, R8 one l k n (one l a).2 (by omega) (by simpa using h1) h2]
  ·rw [e k, if_neg ha] at h1; cases h1
theorem Mk {α : Type} (one : Rf α) (l : List Int) (m : Nat) (h : ∀ a, a + m ≤ (one l a).2) : ∀ (k a : Nat), a + (rfK one k l a).1.length * m ≤ (rfK one k l a).2 ∧ ((rfK one k l a).1.length = 0 ∨ a + (rfK one k l a).1.length * m < l.length + m)
 | 0, a => ⟨by simp [rfK, rfP], .inl rfl⟩
 | k + 1, a => by
  have e : rfK one (k + 1) l a = if a < l.length then ((one l a).1 :: (rfK one k l (one l a).2).1, (rfK one k l (one l a).2).2) else ([], a) := rfl
  by_cases ha : a < l.length
  ·rw [e, if_pos ha]
   have h1 := h a
   have h2 := Mk one l m h k (one l a).2
   simp only [List.length_cons, Nat.succ_mul]
   refine ⟨by omega, .inr ?_⟩
   rcases h2.2 with h0 | h0
   ·rw [h0]; omega
   ·omega
  ·rw [e, if_neg ha]; simp
theorem Gb {α : Type} (one : Rf α) (l : List Int) (P : α → Prop) (h : ∀ a, P (one l a).1) : ∀ (k a : Nat), ∀ x, x ∈ (rfK one k l a).1 → P x
 | 0, a, x, hx => by cases hx
 | k + 1, a, x, hx => by
  have e : rfK one (k + 1) l a = if a < l.length then ((one l a).1 :: (rfK one k l (one l a).2).1, (rfK one k l (one l a).2).2) else ([], a) := rfl
  by_cases ha : a < l.length
  ·rw [e, if_pos ha] at hx
   rcases List.mem_cons.1 hx with rfl | hx
   ·exact h a
   ·exact Gb one l P h k _ x hx
  ·rw [e, if_neg ha] at hx; cases hx
def rfJ : Rf (Int × Int) := rfB rfN fun a => rfB rfN fun b => rfP (a, b)
def rfG : Rf (Int × Int × Int) := rfB rfN fun a => rfB rfN fun b => rfB rfN fun c => rfP (a, b, c)
def rfS : Rf Sec := rfB rfN fun a => rfB rfN fun q => rfB rfJ fun j1 => rfB rfJ fun j2 => if 0 < q then rfB rfJ fun j3 => rfP ⟨a, q, [j1, j2, j3]⟩ else rfP ⟨a, q, [j1, j2]⟩
def rfR : Rf Rt := rfB rfN fun a => rfB rfN fun en => rfB rfN fun ex => rfB (rfL rfN) fun path => rfB (rfL rfN) fun over => rfB (rfL rfJ) fun fl => rfB rfN fun t => rfP ⟨a, en, ex, path, over, fl, t⟩
def X1s : Rf Pl := rfB rfN fun v => rfB rfN fun w => rfB (rfL rfS) fun secs => rfB (rfL rfJ) fun pts => rfB (rfL rfG) fun sgs => rfB (rfL rfR) fun rts => rfP ⟨v, w, secs, pts, sgs, rts⟩
def Qx {α : Type} (f : Rf α) (e : List Int) (v : α) : Prop := ∀ x y : List Int, f (x ++ (e ++ y)) x.length = (v, x.length + e.length)
theorem X7w {α : Type} (v : α) : Qx (rfP v) [] v := fun _ _ => rfl
theorem P5 {α β : Type} {f : Rf α} {g : α → Rf β} {e1 e2 : List Int} {v : α} {u : β} (h1 : Qx f e1 v) (h2 : Qx (g v) e2 u) : Qx (rfB f g) (e1 ++ e2) u := fun x y => by
 unfold rfB
 have a := h1 x (e2 ++ y)
 have b := h2 (x ++ e1) y
 rw [List.append_assoc, a]
 rw [List.append_assoc, List.length_append] at b
 dsimp only
 rw [b, List.length_append, Nat.add_assoc]
theorem Gc {α β : Type} {f : Rf α} {g : α → β} {e : List Int} {v : α} (h : Qx f e v) : Qx (rfB f fun v => rfP (g v)) e (g v) := by
 have := P5 (g := fun v => rfP (g v)) h (X7w _)
 rwa [List.append_nil] at this
theorem B5 (n : Int) : Qx rfN [n] n := fun x y => by
 unfold rfN
 simp
theorem X94 {α : Type} {one : Rf α} {enc : α → List Int} (h0 : ∀ v, 0 < (enc v).length) : ∀ {l : List α}, (∀ v, v ∈ l → Qx one (enc v) v) → Qx (rfK one l.length) (l.flatMap enc) l
 | [], _ => X7w []
 | v :: l, h => fun x y => by
  have h1 := h v (List.mem_cons_self ..)
  have h2 := X94 (one := one) (enc := enc) h0 (l := l) fun u hu => h u (List.mem_cons_of_mem _ hu)
  have a := h1 x (l.flatMap enc ++ y)
  have b := h2 (x ++ enc v) y
  have h3 := h0 v
  rw [List.append_assoc, List.length_append] at b
  rw [List.flatMap_cons, List.append_assoc, List.length_cons]
  show (if _ < _ then _ else _) = _
  rw [if_pos (by simp only [List.length_append]; omega), a]
  dsimp only
  rw [b]
  simp only [List.length_append, Nat.add_assoc]
theorem X2i {α : Type} {one : Rf α} {enc : α → List Int} (h0 : ∀ v, 0 < (enc v).length) {l : List α} (h : ∀ v, v ∈ l → Qx one (enc v) v) : Qx (rfL one) ((l.length : Int) :: l.flatMap enc) l := by
 refine P5 (e1 := [(l.length : Int)]) (B5 _) ?_
 rw [Int.toNat_natCast]
 exact X94 h0 h
def nuJ (j : Int × Int) : List Int := [j.1] ++ [j.2]
def nuG (g : Int × Int × Int) : List Int := [g.1] ++ ([g.2.1] ++ [g.2.2])
def nuS (s : Sec) : List Int := [s.id] ++ ([s.pt] ++ s.ends.flatMap nuJ)
def nuL {α : Type} (nu : α → List Int) (l : List α) : List Int := (l.length : Int) :: l.flatMap nu
def nuI (n : Int) : List Int := [n]
def nuR (r : Rt) : List Int := [r.id] ++ ([r.entry] ++ ([r.ex] ++ (nuL nuI r.path ++ (nuL nuI r.over ++ (nuL nuJ r.flanks ++ [r.timer])))))
def nuP (p : Pl) : List Int := [p.ver] ++ ([p.par] ++ (nuL nuS p.secs ++ (nuL nuJ p.pts ++ (nuL nuG p.sgs ++ nuL nuR p.rts))))
theorem X2j (j : Int × Int) : Qx rfJ (nuJ j) j := P5 (B5 _) (Gc (B5 _))
theorem X9h (g : Int × Int × Int) : Qx rfG (nuG g) g := P5 (B5 _) (P5 (B5 _) (Gc (B5 _)))
theorem X9i {s : Sec} (hl : s.ends.length = if 0 < s.pt then 3 else 2) : Qx rfS (nuS s) s := by
 obtain ⟨a, q, l⟩ := s
 dsimp only at hl
 refine P5 (B5 _) (P5 (B5 _) ?_)
 dsimp only
 by_cases hq : 0 < q
 ·rw [if_pos hq] at hl
  match l, hl with
  | [j1, j2, j3], _ =>
   rw [show [j1, j2, j3].flatMap nuJ = nuJ j1 ++ (nuJ j2 ++ nuJ j3) by simp]
   refine P5 (X2j j1) (P5 (X2j j2) ?_)
   rw [if_pos hq]
   exact Gc (X2j j3)
 ·rw [if_neg hq] at hl
  match l, hl with
  | [j1, j2], _ =>
   rw [show [j1, j2].flatMap nuJ = nuJ j1 ++ (nuJ j2 ++ []) by simp]
   refine P5 (X2j j1) (P5 (X2j j2) ?_)
   rw [if_neg hq]
   exact X7w _
theorem X9j (r : Rt) : Qx rfR (nuR r) r :=
 P5 (B5 _) (P5 (B5 _) (P5 (B5 _) (P5 (X2i (enc := nuI) (fun _ => Nat.one_pos) fun n _ => B5 n) (P5 (X2i (enc := nuI) (fun _ => Nat.one_pos) fun n _ => B5 n) (P5 (X2i (enc := nuJ) (fun _ => by simp [nuJ]) fun j _ => X2j j) (Gc (B5 _)))))))
theorem X7x {p : Pl} (h : Uf p = true) : Qx X1s (nuP p) p := by
 have hn := Us h
 exact P5 (B5 _) (P5 (B5 _) (P5 (X2i (enc := nuS) (fun _ => by simp [nuS]) fun x hx => X9i (hn.s x hx).2.2.2) (P5 (X2i (enc := nuJ) (fun _ => by simp [nuJ]) fun x _ => X2j x)
  (P5 (X2i (enc := nuG) (fun _ => by simp [nuG]) fun x _ => X9h x) (Gc (X2i (enc := nuR) (fun _ => by simp [nuR]) fun x _ => X9j x))))))
theorem D7 {α : Type} {f : α → List UInt8} {g : α → List Int} (h : ∀ x, f x = (g x).flatMap Y2) (l : List α) : l.flatMap f = (l.flatMap g).flatMap Y2 := by
 induction l with
 | nil => rfl
 | cons x l ih => rw [List.flatMap_cons, List.flatMap_cons, List.flatMap_append, ih, h]
theorem Ld {α : Type} {f : α → List UInt8} {g : α → List Int} (h : ∀ x, f x = (g x).flatMap Y2) (l : List α) : Zz f l = (nuL g l).flatMap Y2 := by
 unfold Zz nuL
 rw [List.flatMap_cons, D7 h]
theorem z1 (n : Int) : [n].flatMap Y2 = Y2 n := by simp
theorem Bc (j : Int × Int) : Ug j = (nuJ j).flatMap Y2 := by unfold Ug nuJ; simp only [List.flatMap_append, z1]
theorem X2k (j : Int × Int × Int) : Ee j = (nuG j).flatMap Y2 := by unfold Ee nuG; simp only [List.flatMap_append, z1]
theorem X2l (s : Sec) : D4 s = (nuS s).flatMap Y2 := by unfold D4 nuS; simp only [List.flatMap_append, z1, D7 Bc]
theorem X2m (n : Int) : Y2 n = (nuI n).flatMap Y2 := (z1 n).symm
theorem X2n (r : Rt) : Ef r = (nuR r).flatMap Y2 := by
 unfold Ef nuR; simp only [List.flatMap_append, z1, Ld X2m, Ld Bc]
theorem Bd (p : Pl) : Wg p = (nuP p).flatMap Y2 := by
 unfold Wg nuP; simp only [List.flatMap_append, z1, Ld X2l, Ld Bc, Ld X2k, Ld X2n]
theorem K6 {α : Type} {g : α → List Int} {l : List α} (hl : l.length ≤ 99) (h : ∀ x, x ∈ l → ∀ n, n ∈ g x → nOk n) : ∀ n, n ∈ nuL g l → nOk n := fun n hn => by
 rcases List.mem_cons.1 hn with rfl | hn
 ·exact ⟨by omega, by omega⟩
 ·obtain ⟨x, hx, hn⟩ := List.mem_flatMap.1 hn
  exact h x hx n hn
theorem Be {j : Int × Int} (h : nS j.1 ∧ nS j.2) : ∀ n, n ∈ nuJ j → nOk n := fun n hn => by
 simp only [nuJ, List.cons_append, List.nil_append, List.mem_cons, List.not_mem_nil, or_false] at hn
 rcases hn with rfl | rfl
 ·exact h.1.ok
 ·exact h.2.ok
theorem Bg {p : Pl} (h : Uf p = true) : ∀ n, n ∈ nuP p → nOk n := fun n hn => by
 obtain ⟨v, w, sl, s, pl, q, gl, g, rl, r⟩ := Us h
 have hS := K6 (g := nuS) (l := p.secs) (by omega) fun x hx n hn => by
  obtain ⟨a, b, c, _⟩ := s x hx
  simp only [nuS, List.cons_append, List.nil_append, List.mem_cons] at hn
  rcases hn with rfl | rfl | hn
  ·exact a.ok
  ·exact b.ok
  ·obtain ⟨j, hj, hn⟩ := List.mem_flatMap.1 hn
   exact Be (c j hj) n hn
 have hQ := K6 (g := nuJ) (l := p.pts) (by omega) fun x hx n hn => Be (q x hx) n hn
 have hG := K6 (g := nuG) (l := p.sgs) (by omega) fun x hx n hn => by
  obtain ⟨a, b, c⟩ := g x hx
  simp only [nuG, List.cons_append, List.nil_append, List.mem_cons, List.not_mem_nil, or_false] at hn
  rcases hn with rfl | rfl | rfl
  ·exact a.ok
  ·exact b.ok
  ·exact c.ok
 have hR := K6 (g := nuR) (l := p.rts) (by omega) fun x hx n hn => by
  obtain ⟨a, b, c, d, e, f, t, l1, l2, l3⟩ := r x hx
  have hd := K6 (g := nuI) (l := x.path) (by omega) fun y hy n hn => by
   simp only [nuI, List.mem_cons, List.not_mem_nil, or_false] at hn
   exact hn ▸ (d y hy).ok
  have he := K6 (g := nuI) (l := x.over) (by omega) fun y hy n hn => by
   simp only [nuI, List.mem_cons, List.not_mem_nil, or_false] at hn
   exact hn ▸ (e y hy).ok
  have hf := K6 (g := nuJ) (l := x.flanks) (by omega) fun y hy n hn => Be (f y hy) n hn
  simp only [nuR, List.cons_append, List.nil_append, List.mem_cons, List.mem_append, List.not_mem_nil, or_false] at hn
  rcases hn with rfl | rfl | rfl | hn | hn | hn | rfl
  ·exact a.ok
  ·exact b.ok
  ·exact c.ok
  ·exact hd n hn
  ·exact he n hn
  ·exact hf n hn
  ·exact t.ok
 simp only [nuP, List.cons_append, List.nil_append, List.mem_cons, List.mem_append] at hn
 rcases hn with rfl | rfl | hn | hn | hn | hn
 ·exact v
 ·exact w
 ·exact hS n hn
 ·exact hQ n hn
 ·exact hG n hn
 ·exact hR n hn
def Gd : List UInt8 → Nat → Nat → List UInt8 → Option (Nat × Nat)
 | [], _, _, _ => none
 | c :: l, i, acc, pre => if i = 5 then none else
  if 128 ≤ c.toNat then Gd l (i + 1) (acc + c.toNat % 128 * 128 ^ i) (pre ++ [c]) else
  if 2147483647 < acc + c.toNat % 128 * 128 ^ i ∨ Ur 5 (acc + c.toNat % 128 * 128 ^ i) ≠ pre ++ [c] then none else some (acc + c.toNat % 128 * 128 ^ i, i + 1)
def rgN (l : List UInt8) : Option (Nat × Nat) := Gd l 0 0 []
theorem X1t : ∀ (f n i acc : Nat) (pre y : List UInt8), 0 < f → n < 128 ^ f → i + f ≤ 5 → acc + n * 128 ^ i ≤ 2147483647 → pre ++ Ur f n = Ur 5 (acc + n * 128 ^ i) → Gd (Ur f n ++ y) i acc pre = some (acc + n * 128 ^ i, i + (Ur f n).length)
 | 0, n, i, acc, pre, y, h0, _, _, _, _ => by omega
 | f + 1, n, i, acc, pre, y, _, h, h5, hm, hp => by
  unfold Ur
  by_cases hn : n < 128
  ·have hc : (UInt8.ofNat n).toNat = n := by rw [UInt8.toNat_ofNat']; omega
   rw [show Ur (f + 1) n = [UInt8.ofNat n] by rw [Ur, if_pos hn]] at hp
   rw [if_pos hn, List.cons_append, Gd, if_neg (by omega), hc, if_neg (by omega), Nat.mod_eq_of_lt hn, if_neg (by rintro (h | h); omega; exact h hp.symm)]
   rfl
  ·have hc : (UInt8.ofNat (n % 128 + 128)).toNat = n % 128 + 128 := by rw [UInt8.toNat_ofNat']; omega
   have hf : 0 < f := by
    rcases Nat.eq_zero_or_pos f with h0 | h0
    ·subst h0; omega
    ·exact h0
   have hd : n / 128 < 128 ^ f := by rw [Nat.div_lt_iff_lt_mul (by decide), ← Nat.pow_succ]; exact h
   have hs : acc + (n % 128 + 128) % 128 * 128 ^ i + n / 128 * 128 ^ (i + 1) = acc + n * 128 ^ i := by
    have e1 : (n % 128 + 128) % 128 = n % 128 := by omega
    have e2 : n / 128 * 128 ^ (i + 1) = n / 128 * 128 * 128 ^ i := by rw [Nat.pow_succ, Nat.mul_assoc, Nat.mul_comm 128]
    rw [e1, e2, Nat.add_assoc, ← Nat.add_mul]
    congr 2
    omega
   rw [show Ur (f + 1) n = UInt8.ofNat (n % 128 + 128) :: Ur f (n / 128) by rw [Ur, if_neg hn]] at hp
   rw [if_neg hn, List.cons_append, Gd, if_neg (by omega), hc, if_pos (by omega), X1t f (n / 128) (i + 1) _ _ y hf hd (by omega) (by rw [hs]; exact hm) (by rw [hs, ← hp, List.append_assoc]; rfl), hs, List.length_cons]
   congr 2
   omega
theorem X2o {n : Int} (h : nOk n) (y : List UInt8) : rgN (Y2 n ++ y) = some (n.toNat, (Y2 n).length) := by
 have hh := h
 unfold nOk at hh
 unfold rgN Y2
 rw [if_pos hh, X1t 5 n.toNat 0 0 [] y (by decide) (by omega) (by decide) (by omega) (by simp)]
 simp
theorem D8 : ∀ (l : List UInt8) (i acc : Nat) (pre : List UInt8) {n k : Nat}, Gd l i acc pre = some (n, k) → i < k ∧ k ≤ i + l.length ∧ n ≤ 2147483647
 | [], i, acc, pre, n, k, h => by cases h
 | c :: l, i, acc, pre, n, k, h => by
  unfold Gd at h
  by_cases h5 : i = 5
  ·rw [if_pos h5] at h; cases h
  rw [if_neg h5] at h
  by_cases hc : 128 ≤ c.toNat
  ·rw [if_pos hc] at h
   have := D8 l _ _ _ h
   rw [List.length_cons]; omega
  ·rw [if_neg hc] at h
   by_cases hb : 2147483647 < acc + c.toNat % 128 * 128 ^ i ∨ Ur 5 (acc + c.toNat % 128 * 128 ^ i) ≠ pre ++ [c]
   ·rw [if_pos hb] at h; cases h
   ·rw [if_neg hb] at h
    cases h
    rw [List.length_cons]
    refine ⟨by omega, by omega, ?_⟩
    rcases Nat.lt_or_ge 2147483647 (acc + c.toNat % 128 * 128 ^ i) with h' | h'
    ·exact absurd (.inl h') hb
    ·exact h'
def gsS (b : List UInt8) : Nat → Option (Nat × List Int)
 | 0 => some (0, [])
 | i + 1 => match gsS b i with
  | none => none
  | some (a, l) => if a < b.length then (match rgN (b.drop a) with | none => none | some (n, k) => some (a + k, l ++ [(n : Int)])) else some (a, l)
def Bh (b : List UInt8) : Option (List Int) := (gsS b b.length).map Prod.snd
theorem D9 {b : List UInt8} {i : Nat} (h : gsS b i = none) : ∀ k, gsS b (i + k) = none
 | 0 => h
 | k + 1 => by
  rw [← Nat.add_assoc, gsS, D9 h k]
theorem Bi {b : List UInt8} {i a : Nat} {l : List Int} (h : gsS b i = some (a, l)) (ha : ¬ a < b.length) : ∀ k, gsS b (i + k) = some (a, l)
 | 0 => h
 | k + 1 => by
  rw [← Nat.add_assoc, gsS, Bi h ha k]
  dsimp only
  rw [if_neg ha]
theorem Ge {b : List UInt8} : ∀ {i a : Nat} {l : List Int}, gsS b i = some (a, l) → (i ≤ a ∨ b.length ≤ a) ∧ a ≤ b.length ∧ l.length ≤ a ∧ l.length ≤ i ∧ ∀ x, x ∈ l → nOk x
 | 0, a, l, h => by
  cases h
  exact ⟨.inl (Nat.le_refl 0), Nat.zero_le _, Nat.le_refl 0, Nat.le_refl 0, fun x hx => by cases hx⟩
 | i + 1, a, l, h => by
  unfold gsS at h
  cases hs : gsS b i with
  | none => rw [hs] at h; cases h
  | some r =>
   obtain ⟨a', l'⟩ := r
   rw [hs] at h
   dsimp only at h
   have ih := Ge hs
   by_cases ha : a' < b.length
   ·rw [if_pos ha] at h
    cases hg : rgN (b.drop a') with
    | none => rw [hg] at h; cases h
    | some r =>
     obtain ⟨n, k⟩ := r
     rw [hg] at h
     cases h
     have hk := D8 _ _ _ _ hg
     rw [List.length_drop] at hk
     rw [List.length_append, List.length_singleton]
     refine ⟨.inl (by omega), by omega, by omega, by omega, fun x hx => ?_⟩
     rcases List.mem_append.1 hx with hx | hx
     ·exact ih.2.2.2.2 x hx
     ·rw [List.mem_singleton.1 hx]; exact ⟨by omega, by omega⟩
   ·rw [if_neg ha] at h
    cases h
    exact ⟨.inr (by omega), ih.2.1, ih.2.2.1, by omega, ih.2.2.2.2⟩
theorem Jy : ∀ (f n : Nat), 0 < f → 0 < (Ur f n).length
 | 0, _, h => by omega
 | f + 1, n, _ => by unfold Ur; split <;> simp
theorem R9 {n : Int} (h : nOk n) : 0 < (Y2 n).length := by
 have hh := h
 unfold nOk at hh
 unfold Y2
 rw [if_pos hh]
 exact Jy 5 _ (by decide)
theorem Da (l : List Int) (h : ∀ n, n ∈ l → nOk n) : ∀ k, k ≤ l.length → gsS (l.flatMap Y2) k = some (((l.take k).flatMap Y2).length, l.take k)
 | 0, _ => rfl
 | k + 1, hk => by
  have hlt : k < l.length := hk
  rw [gsS, Da l h k (by omega)]
  dsimp only
  have hn : nOk l[k] := h _ (List.getElem_mem hlt)
  have h0 := R9 hn
  have e : l.flatMap Y2 = (l.take k).flatMap Y2 ++ (Y2 l[k] ++ (l.drop (k + 1)).flatMap Y2) := by
   conv => lhs; rw [← List.take_append_drop k l, List.drop_eq_getElem_cons hlt, List.flatMap_append, List.flatMap_cons]
  have hl : ((l.take k).flatMap Y2).length < (l.flatMap Y2).length := by rw [e]; simp only [List.length_append]; omega
  have hd : (l.flatMap Y2).drop ((l.take k).flatMap Y2).length = Y2 l[k] ++ (l.drop (k + 1)).flatMap Y2 := by rw [e]; exact List.drop_left' rfl
  rw [if_pos hl, hd, X2o hn, List.take_succ_eq_append_getElem hlt, List.flatMap_append, z1, List.length_append]
  dsimp only
  rw [Int.toNat_of_nonneg hn.1]
theorem Gf {l : List Int} (h : ∀ n, n ∈ l → nOk n) : Bh (l.flatMap Y2) = some l := by
 have h1 := Da l h l.length (Nat.le_refl _)
 rw [List.take_length] at h1
 have h2 : l.length ≤ (l.flatMap Y2).length := by
  clear h1
  induction l with
  | nil => simp
  | cons n l ih =>
   have := ih fun m hm => h m (List.mem_cons_of_mem _ hm)
   have := R9 (h n (List.mem_cons_self ..))
   rw [List.flatMap_cons, List.length_append, List.length_cons]; omega
 obtain ⟨k, hk⟩ := Nat.exists_eq_add_of_le h2
 unfold Bh
 rw [hk, Bi h1 (by omega)]; rfl
def rqP (b : List UInt8) : Pl := (X1s ((Bh b).getD []) 0).1
def Ei (b : List UInt8) : Bool := (Bh b).isSome && Uf (rqP b) && (Wg (rqP b) == b)
theorem X2p (b : List UInt8) : Ei b = Z6 b ∧ (Z6 b = true → rqP b = (V6 b).1) := by
 have key : ∀ p, Uf p = true → Wg p = b → Ei b = true ∧ rqP b = p := fun p hp hb => by
  have hg : Bh b = some (nuP p) := by rw [← hb, Bd]; exact Gf (Bg hp)
  have hq : rqP b = p := by
   have := X7x hp [] []
   rw [List.nil_append, List.append_nil] at this
   unfold rqP
   rw [hg]
   show (X1s (nuP p) ([] : List Int).length).1 = p
   rw [this]
  refine ⟨?_, hq⟩
  unfold Ei
  rw [hq, hg, hp, hb]; simp
 have back : Ei b = true → Z6 b = true := fun h => by
  unfold Ei at h
  simp only [Bool.and_eq_true, beq_iff_eq] at h
  have := Eh h.1.2 []
  rw [List.append_nil, h.2] at this
  rw [this]; simp
 refine ⟨?_, fun h => ?_⟩
 ·rw [Bool.eq_iff_iff]
  exact ⟨back, fun h => (key _ (Kg h).1 (Kg h).2).1⟩
 ·exact (key _ (Kg h).1 (Kg h).2).2
end Go.Proofs.YtgdhnngpfieloaaGreat.Pln
end
section
namespace Go.Proofs.YtgdhnngpfieloaaGreat.Pln
set_option linter.unusedVariables false
set_option linter.unusedSimpArgs false
open Go Go.VS
set_option maxHeartbeats 1000000
theorem Gg {α : Type} (one : Rd α) (b : List UInt8) : ∀ (k : Nat) (s : Nat × Bool), (rdK one k b s).1.length = k
 | 0, s => rfl
 | k + 1, s => by
  show ((one b s).1 :: (rdK one k b (one b s).2).1).length = k + 1
  rw [List.length_cons, Gg one b k]
theorem Gh {α : Type} (one : Rd α) (b : List UInt8) (P : α → Prop) (h : ∀ s, P (one b s).1) : ∀ (k : Nat) (s : Nat × Bool), ∀ x, x ∈ (rdK one k b s).1 → P x
 | 0, s, x, hx => by cases hx
 | k + 1, s, x, hx => by
  have hx : x ∈ (one b s).1 :: (rdK one k b (one b s).2).1 := hx
  rcases List.mem_cons.1 hx with rfl | hx
  ·exact h s
  ·exact Gh one b P h k _ x hx
theorem K7 {α : Type} (one : Rd α) (b : List UInt8) (s : Nat × Bool) : (rdL one b s).1.length ≤ 99 := by
 unfold rdL rdB
 dsimp only
 by_cases h : (rdN b s).1 ≤ 99
 ·rw [if_pos h, Gg]; omega
 ·rw [if_neg h]; exact Nat.zero_le _
theorem Gi {α : Type} (one : Rd α) (b : List UInt8) (P : α → Prop) (h : ∀ s, P (one b s).1) (s : Nat × Bool) : ∀ x, x ∈ (rdL one b s).1 → P x := by
 unfold rdL rdB
 dsimp only
 by_cases h' : (rdN b s).1 ≤ 99
 ·rw [if_pos h']; exact Gh one b P h _ _
 ·rw [if_neg h']; intro x hx; cases hx
theorem Gj (b : List UInt8) (s : Nat × Bool) : (Ft b s).1.ends.length ≤ 20 := by
 unfold Ft rdB
 dsimp only
 split
 ·exact (by decide : 3 ≤ 20)
 ·exact (by decide : 2 ≤ 20)
theorem Jz (b : List UInt8) (s : Nat × Bool) : (B4 b s).1.path.length ≤ 5000 ∧ (B4 b s).1.over.length ≤ 5000 ∧ (B4 b s).1.flanks.length ≤ 5000 := by
 refine ⟨Nat.le_trans (K7 rdN b _) (by decide), Nat.le_trans (K7 rdN b _) (by decide), Nat.le_trans (K7 Kd b _) (by decide)⟩
theorem A7 (b : List UInt8) : SmB (V6 b).1 := by
 refine ⟨Nat.le_trans (K7 Ft b _) (by decide), ?_, Nat.le_trans (K7 Kd b _) (by decide), Nat.le_trans (K7 G8 b _) (by decide), Nat.le_trans (K7 B4 b _) (by decide), ?_⟩
 ·exact Gi Ft b (fun s => s.ends.length ≤ 20) (Gj b) _
 ·exact Gi B4 b (fun r => r.path.length ≤ 5000 ∧ r.over.length ≤ 5000 ∧ r.flanks.length ≤ 5000) (Jz b) _
theorem Gk {α : Type} (one : Rf α) (l : List Int) (h : ∀ a, a + 1 ≤ (one l a).2) (a : Nat) : a + 1 ≤ (rfL one l a).2 := by
 have := (Mk one l 1 h (rfN l a).1.toNat (a + 1)).1
 show a + 1 ≤ (rfK one (rfN l a).1.toNat l (a + 1)).2
 omega
theorem Gl {α : Type} (one : Rf α) (l : List Int) (m : Nat) (h : ∀ a, a + m ≤ (one l a).2) (a : Nat) : (rfL one l a).1.length = 0 ∨ a + (rfL one l a).1.length * m + 1 < l.length + m := by
 have := (Mk one l m h (rfN l a).1.toNat (a + 1)).2
 show (rfK one (rfN l a).1.toNat l (a + 1)).1.length = 0 ∨ a + (rfK one (rfN l a).1.toNat l (a + 1)).1.length * m + 1 < l.length + m
 omega
theorem Le {α : Type} (one : Rf α) (l : List Int) (h : ∀ a, a + 1 ≤ (one l a).2) (a : Nat) : (rfL one l a).1.length ≤ l.length := by
 rcases Gl one l 1 h a with h | h <;> omega
theorem Gm {α : Type} (one : Rf α) (l : List Int) (P : α → Prop) (h : ∀ a, P (one l a).1) (a : Nat) : ∀ x, x ∈ (rfL one l a).1 → P x := Gb one l P h _ _
theorem Db (l : List Int) (a : Nat) : a + 1 ≤ (rfN l a).2 := Nat.le_refl _
theorem Si (l : List Int) (a : Nat) : a + 1 ≤ (rfJ l a).2 := by show a + 1 ≤ a + 1 + 1; omega
theorem X1u (l : List Int) (a : Nat) : a + 1 ≤ (rfG l a).2 := by show a + 1 ≤ a + 1 + 1 + 1; omega
theorem X1v (l : List Int) (a : Nat) : a + 6 ≤ (rfS l a).2 := by
 unfold rfS rfB
 dsimp only
 split
 ·show a + 6 ≤ a + 8; omega
 ·show a + 6 ≤ a + 6; omega
theorem A8 (l : List Int) (a : Nat) : (rfS l a).1.ends.length ≤ 20 := by
 unfold rfS rfB
 dsimp only
 split
 ·exact (by decide : 3 ≤ 20)
 ·exact (by decide : 2 ≤ 20)
theorem X1w (l : List Int) (a : Nat) : a + 1 ≤ (rfR l a).2 := by
 have h1 := Gk rfN l (Db l) (a + 1 + 1 + 1)
 have h2 := Gk rfN l (Db l) (rfL rfN l (a + 1 + 1 + 1)).2
 have h3 := Gk rfJ l (Si l) (rfL rfN l (rfL rfN l (a + 1 + 1 + 1)).2).2
 show a + 1 ≤ (rfL rfJ l (rfL rfN l (rfL rfN l (a + 1 + 1 + 1)).2).2).2 + 1
 omega
theorem X2q (l : List Int) (hl : l.length ≤ 5000) (a : Nat) : (rfR l a).1.path.length ≤ 5000 ∧ (rfR l a).1.over.length ≤ 5000 ∧ (rfR l a).1.flanks.length ≤ 5000 :=
 ⟨Nat.le_trans (Le rfN l (Db l) _) hl, Nat.le_trans (Le rfN l (Db l) _) hl, Nat.le_trans (Le rfJ l (Si l) _) hl⟩
theorem X2r {l : List Int} (hl : l.length ≤ 5000) (a : Nat) : SmB (X1s l a).1 := by
 refine ⟨?_, ?_, Nat.le_trans (Le rfJ l (Si l) _) hl, Nat.le_trans (Le rfG l (X1u l) _) hl, Nat.le_trans (Le rfR l (X1w l) _) hl, ?_⟩
 ·have := Gl rfS l 6 (X1v l) (a + 1 + 1)
  show (rfL rfS l (a + 1 + 1)).1.length ≤ 1000
  omega
 ·exact Gm rfS l (fun s => s.ends.length ≤ 20) (A8 l) _
 ·exact Gm rfR l (fun r => r.path.length ≤ 5000 ∧ r.over.length ≤ 5000 ∧ r.flanks.length ≤ 5000) (X2q l hl) _
theorem A9 {b : List UInt8} {l : List Int} (h : Bh b = some l) : l.length ≤ b.length ∧ ∀ x, x ∈ l → nOk x := by
 unfold Bh at h
 cases hg : gsS b b.length with
 | none => rw [hg] at h; cases h
 | some r =>
  obtain ⟨a, l'⟩ := r
  rw [hg] at h
  cases h
  have := Ge hg
  exact ⟨Nat.le_trans this.2.2.1 this.2.1, this.2.2.2.2⟩
end Go.Proofs.YtgdhnngpfieloaaGreat.Pln
end
