/- The layer of abstract values, joined: KA. -/
import Derived.Test.YtgdhnngpfieloaaZPR
import Derived.Test.YtgdhnngpfieloaaZVsBits
section
namespace Go.Proofs.Ytgdhnngpfieloaa.Pln
set_option linter.unusedVariables false
set_option linter.unusedSimpArgs false
open Go Go.VS
set_option maxHeartbeats 1000000
def putN : Nat → Nat → List UInt8
  | 0, _ => []
  | f + 1, n => if n < 128 then [UInt8.ofNat n] else UInt8.ofNat (n % 128 + 128) :: putN f (n / 128)
def putZ (n : Int) : List UInt8 := if 0 ≤ n ∧ n ≤ 2147483647 then putN 5 n.toNat else []
def getG' : List UInt8 → Nat → Nat → Option (Nat × Nat)
  | [], _, _ => none
  | c :: l, i, acc => if i = 5 then none else
    if 128 ≤ c.toNat then getG' l (i + 1) (acc + c.toNat % 128 * 128 ^ i) else
    if (c = 0 ∧ 0 < i) ∨ 2147483647 < acc + c.toNat % 128 * 128 ^ i then none else some (acc + c.toNat % 128 * 128 ^ i, i + 1)
def getN (l : List UInt8) : Option (Nat × Nat) := getG' l 0 0
theorem get_put : ∀ (f n i acc : Nat) (y : List UInt8), 0 < f → n < 128 ^ f → i + f ≤ 5 → (0 < i → 0 < n) → acc + n * 128 ^ i ≤ 2147483647 → getG' (putN f n ++ y) i acc = some (acc + n * 128 ^ i, i + (putN f n).length)
  | 0, n, i, acc, y, h0, _, _, _, _ => by omega
  | f + 1, n, i, acc, y, _, h, h5, hp, hm => by
    unfold putN
    by_cases hn : n < 128
    · have hc : (UInt8.ofNat n).toNat = n := by rw [UInt8.toNat_ofNat']; omega
      have hz : ¬ (UInt8.ofNat n = 0 ∧ 0 < i) := fun ⟨e, hi⟩ => by
        have := congrArg UInt8.toNat e
        rw [hc] at this
        have h1 := hp hi
        have e0 : (0 : UInt8).toNat = 0 := rfl
        omega
      rw [if_pos hn, List.cons_append, getG', if_neg (by omega), hc, if_neg (by omega), Nat.mod_eq_of_lt hn, if_neg (by rintro (h | h); exact hz h; omega)]
      rfl
    · have hc : (UInt8.ofNat (n % 128 + 128)).toNat = n % 128 + 128 := by rw [UInt8.toNat_ofNat']; omega
      have hf : 0 < f := by
        rcases Nat.eq_zero_or_pos f with h0 | h0
        · subst h0; omega
        · exact h0
      have hd : n / 128 < 128 ^ f := by rw [Nat.div_lt_iff_lt_mul (by decide), ← Nat.pow_succ]; exact h
      have hs : acc + (n % 128 + 128) % 128 * 128 ^ i + n / 128 * 128 ^ (i + 1) = acc + n * 128 ^ i := by
        have e1 : (n % 128 + 128) % 128 = n % 128 := by omega
        have e2 : n / 128 * 128 ^ (i + 1) = n / 128 * 128 * 128 ^ i := by rw [Nat.pow_succ, Nat.mul_assoc, Nat.mul_comm 128]
        rw [e1, e2, Nat.add_assoc, ← Nat.add_mul]
        congr 2
        omega
      rw [if_neg hn, List.cons_append, getG', if_neg (by omega), hc, if_pos (by omega), get_put f (n / 128) (i + 1) _ y hf hd (by omega) (fun _ => by omega) (by rw [hs]; exact hm), hs, List.length_cons]
      congr 2
      omega
theorem get_putZ {n : Int} (h : 0 ≤ n ∧ n ≤ 2147483647) (y : List UInt8) : getN (putZ n ++ y) = some (n.toNat, (putZ n).length) := by
  unfold getN putZ
  rw [if_pos h, get_put 5 n.toNat 0 0 y (by decide) (by omega) (by decide) (by intro h; omega) (by omega)]
  simp
abbrev Rd (α : Type) := List UInt8 → Nat × Bool → α × (Nat × Bool)
def rdN : Rd Int := fun b s => if s.2 = true then (-1, s) else match getN (b.drop s.1) with
  | none => (-1, (s.1, true))
  | some r => ((r.1 : Int), (s.1 + r.2, false))
def rdB {α β : Type} (f : Rd α) (g : α → Rd β) : Rd β := fun b s => g (f b s).1 b (f b s).2
def rdP {α : Type} (v : α) : Rd α := fun _ s => (v, s)
def rdK {α : Type} (one : Rd α) : Nat → Rd (List α)
  | 0 => rdP []
  | k + 1 => rdB one fun v => rdB (rdK one k) fun l => rdP (v :: l)
def rdL {α : Type} (one : Rd α) : Rd (List α) := rdB rdN fun n => if n ≤ 99 then rdK one n.toNat else rdP []
def Reads {α : Type} (f : Rd α) (e : List UInt8) (v : α) : Prop := ∀ x y : List UInt8, f (x ++ (e ++ y)) (x.length, false) = (v, (x.length + e.length, false))
theorem reads_P {α : Type} (v : α) : Reads (rdP v) [] v := fun _ _ => rfl
theorem reads_B {α β : Type} {f : Rd α} {g : α → Rd β} {e1 e2 : List UInt8} {v : α} {u : β} (h1 : Reads f e1 v) (h2 : Reads (g v) e2 u) : Reads (rdB f g) (e1 ++ e2) u := fun x y => by
  unfold rdB
  have a := h1 x (e2 ++ y)
  have b := h2 (x ++ e1) y
  rw [List.append_assoc, a]
  rw [List.append_assoc, List.length_append] at b
  dsimp only
  rw [b, List.length_append, Nat.add_assoc]
theorem reads_N {n : Int} (h : 0 ≤ n ∧ n ≤ 2147483647) : Reads rdN (putZ n) n := fun x y => by
  unfold rdN
  have e : List.drop x.length (x ++ (putZ n ++ y)) = putZ n ++ y := List.drop_left' rfl
  dsimp only
  rw [if_neg (by decide), e, get_putZ h]
  dsimp only
  rw [Int.toNat_of_nonneg h.1]
theorem reads_K {α : Type} {one : Rd α} {enc : α → List UInt8} : ∀ {l : List α}, (∀ v, v ∈ l → Reads one (enc v) v) → Reads (rdK one l.length) (l.flatMap enc) l
  | [], _ => reads_P []
  | v :: l, h => by
    have h1 := h v (List.mem_cons_self ..)
    have h2 := reads_K (one := one) (enc := enc) (l := l) fun u hu => h u (List.mem_cons_of_mem _ hu)
    rw [List.flatMap_cons]
    have h3 := reads_B (g := fun l => rdP (v :: l)) h2 (reads_P _)
    rw [List.append_nil] at h3
    exact reads_B h1 h3
theorem reads_L {α : Type} {one : Rd α} {enc : α → List UInt8} {l : List α} (hl : l.length ≤ 99) (h : ∀ v, v ∈ l → Reads one (enc v) v) : Reads (rdL one) (putZ l.length ++ l.flatMap enc) l := by
  refine reads_B (reads_N ⟨by omega, by omega⟩) ?_
  rw [if_pos (by omega), Int.toNat_natCast]
  exact reads_K h
def encJ (j : Int × Int) : List UInt8 := putZ j.1 ++ putZ j.2
def encG (g : Int × Int × Int) : List UInt8 := putZ g.1 ++ (putZ g.2.1 ++ putZ g.2.2)
def encS (s : Sec) : List UInt8 := putZ s.id ++ (putZ s.pt ++ s.ends.flatMap encJ)
def encL {α : Type} (enc : α → List UInt8) (l : List α) : List UInt8 := putZ l.length ++ l.flatMap enc
def encR (r : Rt) : List UInt8 := putZ r.id ++ (putZ r.entry ++ (putZ r.ex ++ (encL putZ r.path ++ (encL putZ r.over ++ (encL encJ r.flanks ++ putZ r.timer)))))
def encP (p : Pl) : List UInt8 := putZ p.ver ++ (putZ p.par ++ (encL encS p.secs ++ (encL encJ p.pts ++ (encL encG p.sgs ++ encL encR p.rts))))
def decJ : Rd (Int × Int) := rdB rdN fun a => rdB rdN fun b => rdP (a, b)
def decG : Rd (Int × Int × Int) := rdB rdN fun a => rdB rdN fun b => rdB rdN fun c => rdP (a, b, c)
def decS : Rd Sec := rdB rdN fun a => rdB rdN fun q => rdB decJ fun j1 => rdB decJ fun j2 => if 0 < q then rdB decJ fun j3 => rdP ⟨a, q, [j1, j2, j3]⟩ else rdP ⟨a, q, [j1, j2]⟩
def decR : Rd Rt := rdB rdN fun a => rdB rdN fun en => rdB rdN fun ex => rdB (rdL rdN) fun path => rdB (rdL rdN) fun over => rdB (rdL decJ) fun fl => rdB rdN fun t => rdP ⟨a, en, ex, path, over, fl, t⟩
def decP : Rd Pl := rdB rdN fun v => rdB rdN fun w => rdB (rdL decS) fun secs => rdB (rdL decJ) fun pts => rdB (rdL decG) fun sgs => rdB (rdL decR) fun rts => rdP ⟨v, w, secs, pts, sgs, rts⟩
def nOk (n : Int) : Prop := 0 ≤ n ∧ n ≤ 2147483647
theorem reads_P' {α β : Type} {f : Rd α} {g : α → β} {e : List UInt8} {v : α} (h : Reads f e v) : Reads (rdB f fun v => rdP (g v)) e (g v) := by
  have := reads_B (g := fun v => rdP (g v)) h (reads_P _)
  rwa [List.append_nil] at this
theorem reads_J {j : Int × Int} (h1 : nOk j.1) (h2 : nOk j.2) : Reads decJ (encJ j) j := reads_B (reads_N h1) (reads_P' (reads_N h2))
theorem reads_G {g : Int × Int × Int} (h1 : nOk g.1) (h2 : nOk g.2.1) (h3 : nOk g.2.2) : Reads decG (encG g) g := reads_B (reads_N h1) (reads_B (reads_N h2) (reads_P' (reads_N h3)))
theorem reads_S {s : Sec} (h1 : nOk s.id) (h2 : nOk s.pt) (h3 : ∀ j, j ∈ s.ends → nOk j.1 ∧ nOk j.2) (hl : s.ends.length = if 0 < s.pt then 3 else 2) : Reads decS (encS s) s := by
  obtain ⟨a, q, l⟩ := s
  dsimp only at h1 h2 h3 hl
  refine reads_B (reads_N h1) (reads_B (reads_N h2) ?_)
  dsimp only
  by_cases hq : 0 < q
  · rw [if_pos hq] at hl
    match l, hl, h3 with
    | [j1, j2, j3], _, h3 =>
      have r := fun j hj => reads_J (h3 j hj).1 (h3 j hj).2
      rw [show [j1, j2, j3].flatMap encJ = encJ j1 ++ (encJ j2 ++ encJ j3) by simp]
      refine reads_B (r j1 (by simp)) (reads_B (r j2 (by simp)) ?_)
      rw [if_pos hq]
      exact reads_P' (r j3 (by simp))
  · rw [if_neg hq] at hl
    match l, hl, h3 with
    | [j1, j2], _, h3 =>
      have r := fun j hj => reads_J (h3 j hj).1 (h3 j hj).2
      rw [show [j1, j2].flatMap encJ = encJ j1 ++ (encJ j2 ++ []) by simp]
      refine reads_B (r j1 (by simp)) (reads_B (r j2 (by simp)) ?_)
      rw [if_neg hq]
      exact reads_P _
theorem reads_R {r : Rt} (h1 : nOk r.id) (h2 : nOk r.entry) (h3 : nOk r.ex) (h4 : ∀ n, n ∈ r.path → nOk n) (h5 : ∀ n, n ∈ r.over → nOk n) (h6 : ∀ j, j ∈ r.flanks → nOk j.1 ∧ nOk j.2) (h7 : nOk r.timer)
    (l4 : r.path.length ≤ 99) (l5 : r.over.length ≤ 99) (l6 : r.flanks.length ≤ 99) : Reads decR (encR r) r :=
  reads_B (reads_N h1) (reads_B (reads_N h2) (reads_B (reads_N h3) (reads_B (reads_L l4 fun n hn => reads_N (h4 n hn)) (reads_B (reads_L l5 fun n hn => reads_N (h5 n hn)) (reads_B (reads_L l6 fun j hj => reads_J (h6 j hj).1 (h6 j hj).2) (reads_P' (reads_N h7)))))))
def nS (n : Int) : Prop := 0 ≤ n ∧ n ≤ 127
theorem nS.ok {n : Int} (h : nS n) : nOk n := ⟨h.1, by have := h.2; omega⟩
theorem nS_of {n : Int} (h : numb n = true) : nS n := by
  unfold numb at h
  simp only [Bool.and_eq_true, decide_eq_true_eq] at h
  exact ⟨by omega, by omega⟩
theorem nS_0 : nS 0 := ⟨by decide, by decide⟩
theorem secs_in {l : List Sec} (h : mayS l = true) : l.length ≤ 16 ∧ ∀ s, s ∈ l → numb s.id = true ∧ shaped s = true ∧ (List.range s.ends.length).all (joined l s) = true := by
  unfold mayS at h
  simp only [Bool.and_eq_true, decide_eq_true_eq] at h
  obtain ⟨⟨h1, h2⟩, h3⟩ := h
  refine ⟨h1, fun s hs => ?_⟩
  obtain ⟨i, hi, rfl⟩ := List.getElem_of_mem hs
  have := allP_iff.1 h2 i hi
  unfold okS at this
  simp only [Bool.and_eq_true] at this
  exact ⟨this.1.1.1, this.1.1.2, List.all_eq_true.1 h3 _ hs⟩
theorem getS_in {l : List Sec} {n : Int} {s : Sec} (h : getS l n = some s) : s ∈ l ∧ s.id = n := by
  unfold getS at h
  exact ⟨List.mem_of_find?_eq_some h, by have := List.find?_some h; simpa using this⟩
theorem shaped_in {s : Sec} (h : shaped s = true) : nS s.pt ∧ s.ends.length = (if 0 < s.pt then 3 else 2) := by
  unfold shaped at h
  rw [Bool.or_eq_true, Bool.and_eq_true, Bool.and_eq_true, decide_eq_true_eq, decide_eq_true_eq, decide_eq_true_eq] at h
  rcases h with ⟨h1, h2⟩ | ⟨h1, h2⟩
  · rw [h1, if_neg (by decide)]; exact ⟨nS_0, h2⟩
  · have h3 := h1
    unfold numb at h3
    simp only [Bool.and_eq_true, decide_eq_true_eq] at h3
    rw [if_pos (by omega)]; exact ⟨nS_of h1, h2⟩
theorem ends_in {l : List Sec} (h : mayS l = true) {s : Sec} (hs : s ∈ l) : ∀ j, j ∈ s.ends → nS j.1 ∧ nS j.2 := fun j hj => by
  obtain ⟨_, h2⟩ := secs_in h
  obtain ⟨i, hi, rfl⟩ := List.getElem_of_mem hj
  have := List.all_eq_true.1 (h2 s hs).2.2 i (List.mem_range.2 hi)
  have e : s.ends.getD i (0, 0) = s.ends[i] := by simp [List.getD_eq_getElem?_getD, hi]
  unfold joined at this
  rw [e, Bool.or_eq_true, decide_eq_true_eq] at this
  rcases this with h0 | h0
  · rw [h0]; exact ⟨nS_0, nS_0⟩
  · cases hg : getS l s.ends[i].1 with
    | none => rw [hg] at h0; cases h0
    | some t =>
      rw [hg] at h0
      obtain ⟨ht, hid⟩ := getS_in hg
      obtain ⟨n1, n2, _⟩ := h2 t ht
      have n3 := (shaped_in n2).2
      simp only [Bool.and_eq_true, decide_eq_true_eq] at h0
      obtain ⟨⟨⟨x1, x2⟩, _⟩, _⟩ := h0
      refine ⟨hid ▸ nS_of n1, x1, ?_⟩
      split at n3 <;> omega
theorem rises_in {l : List Int} (h : allP rises l = true) : ∀ n, n ∈ l → numb n = true := fun n hn => by
  obtain ⟨i, hi, rfl⟩ := List.getElem_of_mem hn
  have := allP_iff.1 h i hi
  unfold rises at this
  rw [Bool.and_eq_true] at this
  exact this.1
theorem getS_num {l : List Sec} (h : mayS l = true) {n : Int} (hs : (getS l n).isSome = true) : nS n := by
  cases hg : getS l n with
  | none => rw [hg] at hs; cases hs
  | some t =>
    obtain ⟨ht, hid⟩ := getS_in hg
    exact hid ▸ nS_of ((secs_in h).2 t ht).1
structure Nums (p : Pl) : Prop where
  ver : nOk p.ver
  par : nOk p.par
  sl : p.secs.length ≤ 16
  s : ∀ s, s ∈ p.secs → nS s.id ∧ nS s.pt ∧ (∀ j, j ∈ s.ends → nS j.1 ∧ nS j.2) ∧ s.ends.length = if 0 < s.pt then 3 else 2
  pl : p.pts.length ≤ 6
  q : ∀ x, x ∈ p.pts → nS x.1 ∧ nS x.2
  gl : p.sgs.length ≤ 10
  g : ∀ g, g ∈ p.sgs → nS g.1 ∧ nS g.2.1 ∧ nS g.2.2
  rl : p.rts.length ≤ 16
  r : ∀ r, r ∈ p.rts → nS r.id ∧ nS r.entry ∧ nS r.ex ∧ (∀ n, n ∈ r.path → nS n) ∧ (∀ n, n ∈ r.over → nS n) ∧ (∀ j, j ∈ r.flanks → nS j.1 ∧ nS j.2) ∧ nS r.timer ∧ r.path.length ≤ 6 ∧ r.over.length ≤ 2 ∧ r.flanks.length ≤ 3
theorem plan_nums {p : Pl} (h : mayP p = true) : Nums p := by
  unfold mayP at h
  simp only [Bool.and_eq_true, decide_eq_true_eq] at h
  obtain ⟨⟨⟨⟨⟨⟨h1, h2⟩, h3⟩, h4⟩, h5⟩, h6⟩, h7⟩ := h
  obtain ⟨s1, s2⟩ := secs_in h2
  unfold headOk at h1
  simp only [Bool.and_eq_true, decide_eq_true_eq] at h1
  unfold ptsOk at h3
  simp only [Bool.and_eq_true, decide_eq_true_eq] at h3
  unfold sgsOk at h4
  simp only [Bool.and_eq_true, decide_eq_true_eq] at h4
  have sgN : ∀ g, g ∈ p.sgs → nS g.1 := fun g hg => nS_of (rises_in h4.1.1 _ (List.mem_map.2 ⟨g, hg, rfl⟩))
  have ptN : ∀ x, x ∈ p.pts → nS x.1 := fun x hx => nS_of (rises_in h3.1.1.1 _ (List.mem_map.2 ⟨x, hx, rfl⟩))
  refine ⟨⟨by omega, by omega⟩, ⟨by omega, by omega⟩, s1, fun s hs => ?_, h3.1.1.2, fun x hx => ?_, h4.1.2, fun g hg => ?_, h6, fun r hr => ?_⟩
  · obtain ⟨n1, n2, _⟩ := s2 s hs
    exact ⟨nS_of n1, (shaped_in n2).1, ends_in h2 hs, (shaped_in n2).2⟩
  · refine ⟨ptN x hx, ?_⟩
    have := List.all_eq_true.1 h3.2 x hx
    unfold okP at this
    refine getS_num h2 ?_
    cases hg : getS p.secs x.2 with
    | none => rw [hg] at this; cases this
    | some t => rfl
  · obtain ⟨i, hi, rfl⟩ := List.getElem_of_mem hg
    have := allP_iff.1 h4.2 i hi
    unfold okG at this
    rw [Bool.and_eq_true] at this
    cases hq : getS p.secs p.sgs[i].2.1 with
    | none => rw [hq] at this; cases this.1
    | some t =>
      rw [hq] at this
      have h8 := this.1
      simp only [Bool.and_eq_true, decide_eq_true_eq] at h8
      obtain ⟨ht, hid⟩ := getS_in hq
      obtain ⟨n1, n2, _⟩ := s2 t ht
      have n3 := (shaped_in n2).2
      refine ⟨sgN _ hg, hid ▸ nS_of n1, h8.1, ?_⟩
      split at n3 <;> omega
  · have h8 := List.all_eq_true.1 h7 r hr
    unfold okR at h8
    cases hq : getG p.sgs r.entry with
    | none => rw [hq] at h8; cases h8
    | some en =>
      rw [hq] at h8
      simp only [Bool.and_eq_true, decide_eq_true_eq] at h8
      obtain ⟨⟨⟨⟨⟨⟨⟨⟨⟨x1, _⟩, x3⟩, x4⟩, x5⟩, x6⟩, x7⟩, x8⟩, x9⟩, x10⟩ := h8
      have ge : ∀ {n : Int} {e : Int × Int × Int}, getG p.sgs n = some e → nS n := fun {n e} hg => by
        unfold getG at hg
        have hm := List.mem_of_find?_eq_some hg
        have hid := List.find?_some hg
        have hid : e.1 = n := by simpa using hid
        exact hid ▸ sgN e hm
      have hL : ∀ n, n ∈ r.path ++ r.over → nS n := fun n hn => by
        obtain ⟨i, hi, rfl⟩ := List.getElem_of_mem hn
        have := allP_iff.1 x9 i hi
        unfold okL at this
        simp only [Bool.and_eq_true] at this
        exact getS_num h2 this.1.1
      refine ⟨nS_of (rises_in h5 _ (List.mem_map.2 ⟨r, hr, rfl⟩)), ge hq, ?_, fun n hn => hL n (List.mem_append_left _ hn), fun n hn => hL n (List.mem_append_right _ hn), fun j hj => ?_, ⟨by omega, by omega⟩, x4, x5, x6⟩
      · rw [Bool.or_eq_true, decide_eq_true_eq, Bool.and_eq_true] at x1
        rcases x1 with x1 | x1
        · rw [x1]; exact nS_0
        · cases hg : getG p.sgs r.ex with
          | none => rw [hg] at x1; cases x1.1
          | some e => exact ge hg
      · obtain ⟨i, hi, rfl⟩ := List.getElem_of_mem hj
        have := allP_iff.1 x10 i hi
        unfold okF at this
        simp only [Bool.and_eq_true, Bool.or_eq_true, beq_iff_eq] at this
        refine ⟨?_, ?_⟩
        · cases hg : getP p.pts r.flanks[i].1 with
          | none => rw [hg] at this; cases this.1.1
          | some e =>
            unfold getP at hg
            have hm := List.mem_of_find?_eq_some hg
            have hid : e.1 = r.flanks[i].1 := by have := List.find?_some hg; simpa using this
            exact hid ▸ ptN e hm
        · rcases this.2 with h | h <;> rw [h] <;> exact ⟨by decide, by decide⟩
theorem reads_plan {p : Pl} (h : mayP p = true) : Reads decP (encP p) p := by
  obtain ⟨v, w, sl, s, pl, q, gl, g, rl, r⟩ := plan_nums h
  refine reads_B (reads_N v) (reads_B (reads_N w) (reads_B (reads_L (by omega) fun x hx => ?_) (reads_B (reads_L (by omega) fun x hx => ?_) (reads_B (reads_L (by omega) fun x hx => ?_) (reads_P' (reads_L (by omega) fun x hx => ?_))))))
  · obtain ⟨a, b, c, e⟩ := s x hx
    exact reads_S a.ok b.ok (fun j hj => ⟨(c j hj).1.ok, (c j hj).2.ok⟩) e
  · exact reads_J (q x hx).1.ok (q x hx).2.ok
  · exact reads_G (g x hx).1.ok (g x hx).2.1.ok (g x hx).2.2.ok
  · obtain ⟨a, b, c, d, e, f, t, l1, l2, l3⟩ := r x hx
    exact reads_R a.ok b.ok c.ok (fun n hn => (d n hn).ok) (fun n hn => (e n hn).ok) (fun j hj => ⟨(f j hj).1.ok, (f j hj).2.ok⟩) t.ok (by omega) (by omega) (by omega)
def readP (b : List UInt8) : Pl × (Nat × Bool) := decP b (0, false)
theorem read_text {p : Pl} (h : mayP p = true) (more : List UInt8) : readP (encP p ++ more) = (p, ((encP p).length, false)) := by
  have := reads_plan h [] more
  unfold readP
  simpa using this
end Go.Proofs.Ytgdhnngpfieloaa.Pln
end
section
namespace Go.Proofs.Ytgdhnngpfieloaa.Pln
set_option linter.unusedVariables false
set_option linter.unusedSimpArgs false
open Go Go.VS
set_option maxHeartbeats 1000000
theorem encP_inj {p o : Pl} (hp : mayP p = true) (ho : mayP o = true) (h : encP p = encP o) : p = o := by
  have h1 := read_text hp []
  have h2 := read_text ho []
  rw [h, h2] at h1
  exact (congrArg Prod.fst h1).symm
def textOk (q : Pl) (s : Nat × Bool) (written : List UInt8) (b : List UInt8) : Bool := !s.2 && decide (s.1 = b.length) && mayP q && (written == b)
def parseOk (b : List UInt8) : Bool := textOk (readP b).1 (readP b).2 (encP (readP b).1) b
theorem parse_text {p : Pl} (h : mayP p = true) (more : List UInt8) : parseOk (encP p ++ more) = (decide (more = [])) := by
  unfold parseOk textOk
  rw [read_text h more]
  cases more with
  | nil => simp [h]
  | cons x l => simp
theorem parse_read {p : Pl} (h : mayP p = true) : (readP (encP p)).1 = p := by
  have := read_text h []
  rw [List.append_nil] at this
  rw [this]
theorem parse_ok {b : List UInt8} (h : parseOk b = true) : mayP (readP b).1 = true ∧ encP (readP b).1 = b := by
  unfold parseOk textOk at h
  simp only [Bool.and_eq_true, beq_iff_eq] at h
  exact ⟨h.1.2, h.2⟩
theorem putN_len : ∀ (f n : Nat), (putN f n).length ≤ f
  | 0, _ => Nat.le_refl 0
  | f + 1, n => by
    unfold putN
    split
    · simp
    · have := putN_len f (n / 128)
      rw [List.length_cons]; omega
theorem putZ_len (n : Int) : (putZ n).length ≤ 5 := by
  unfold putZ
  split
  · exact putN_len 5 _
  · simp
theorem putZ_one {n : Int} (h : n ≤ 127) : (putZ n).length ≤ 1 := by
  unfold putZ
  split
  · unfold putN
    rw [if_pos (by omega)]; simp
  · simp
theorem flat_le {α : Type} {f : α → List UInt8} {m : Nat} : ∀ {l : List α}, (∀ x, x ∈ l → (f x).length ≤ m) → (l.flatMap f).length ≤ l.length * m
  | [], _ => by simp
  | x :: l, h => by
    have h1 := h x (List.mem_cons_self ..)
    have h2 := flat_le (f := f) (m := m) (l := l) fun y hy => h y (List.mem_cons_of_mem _ hy)
    rw [List.flatMap_cons, List.length_append, List.length_cons, Nat.succ_mul]; omega
theorem encL_le {α : Type} {f : α → List UInt8} {m k : Nat} {l : List α} (hl : l.length ≤ k) (hk : k ≤ 127) (h : ∀ x, x ∈ l → (f x).length ≤ m) : (encL f l).length ≤ 1 + k * m := by
  unfold encL
  have h1 := putZ_one (n := (l.length : Int)) (by omega)
  have h2 := flat_le h
  have h3 := Nat.mul_le_mul_right m hl
  rw [List.length_append]; omega
theorem text_len {p : Pl} (h : mayP p = true) : (encP p).length ≤ 700 := by
  obtain ⟨v, w, sl, s, pl, q, gl, g, rl, r⟩ := plan_nums h
  have z : ∀ {n : Int}, nS n → (putZ n).length ≤ 1 := fun h => putZ_one h.2
  have e1 : (encL encS p.secs).length ≤ 1 + 16 * 8 := encL_le sl (by decide) fun x hx => by
    obtain ⟨a, b, c, e⟩ := s x hx
    have h1 := z a
    have h2 := z b
    have h3 := flat_le (f := encJ) (m := 2) (l := x.ends) fun j hj => by
      have h4 := z (c j hj).1
      have h5 := z (c j hj).2
      unfold encJ
      rw [List.length_append]; omega
    unfold encS
    rw [List.length_append, List.length_append]
    split at e <;> omega
  have e2 : (encL encJ p.pts).length ≤ 1 + 6 * 2 := encL_le pl (by decide) fun j hj => by
    have h4 := z (q j hj).1
    have h5 := z (q j hj).2
    unfold encJ
    rw [List.length_append]; omega
  have e3 : (encL encG p.sgs).length ≤ 1 + 10 * 3 := encL_le gl (by decide) fun j hj => by
    have h4 := z (g j hj).1
    have h5 := z (g j hj).2.1
    have h6 := z (g j hj).2.2
    unfold encG
    rw [List.length_append, List.length_append]; omega
  have e4 : (encL encR p.rts).length ≤ 1 + 16 * 21 := encL_le rl (by decide) fun x hx => by
    obtain ⟨a, b, c, d, e, f, t, l1, l2, l3⟩ := r x hx
    have h1 := z a
    have h2 := z b
    have h3 := z c
    have h4 : (encL putZ x.path).length ≤ 1 + 6 * 1 := encL_le l1 (by decide) fun n hn => z (d n hn)
    have h5 : (encL putZ x.over).length ≤ 1 + 2 * 1 := encL_le l2 (by decide) fun n hn => z (e n hn)
    have h6 : (encL encJ x.flanks).length ≤ 1 + 3 * 2 := encL_le l3 (by decide) fun j hj => by
      have h4 := z (f j hj).1
      have h5 := z (f j hj).2
      unfold encJ
      rw [List.length_append]; omega
    have h7 := z t
    unfold encR
    simp only [List.length_append]; omega
  have h1 := putZ_len p.ver
  have h2 := putZ_len p.par
  unfold encP
  simp only [List.length_append]; omega
end Go.Proofs.Ytgdhnngpfieloaa.Pln
end
section
namespace Go.Proofs.Ytgdhnngpfieloaa.Pln
set_option linter.unusedVariables false
set_option linter.unusedSimpArgs false
open Go Go.VS
set_option maxHeartbeats 1000000
theorem or64 {a b k : Nat} (h : a < 2 ^ k) (hb : 2 ^ k * b + a < 9223372036854775808) : evInt .or .i64 (a : Int) ((2 ^ k * b : Nat) : Int) = some (.int .i64 ((2 ^ k * b + a : Nat) : Int)) := by
  show some (Value.int .i64 (IntKind.i64.wrap (((BitVec.ofInt 64 (a : Int) ||| BitVec.ofInt 64 ((2 ^ k * b : Nat) : Int)).toNat : Nat) : Int))) = _
  rw [ofInt_nat, ofInt_nat, BitVec.toNat_or, BitVec.toNat_ofNat, BitVec.toNat_ofNat, Nat.mod_eq_of_lt (by omega), Nat.mod_eq_of_lt (by omega), Nat.or_comm, ← Nat.two_pow_add_eq_or_of_lt h, wrap_i64 (by omega) (by omega)]
theorem low7 (c : UInt8) : evInt .and .u8 (c.toNat : Int) 127 = some (.int .u8 ((c.toNat % 128 : Nat) : Int)) := by
  have hc := c.toNat_lt
  show some (Value.int .u8 (IntKind.u8.wrap (((BitVec.ofInt 8 (c.toNat : Int) &&& BitVec.ofInt 8 ((127 : Nat) : Int)).toNat : Nat) : Int))) = _
  rw [ofInt_nat, ofInt_nat, BitVec.toNat_and, BitVec.toNat_ofNat, BitVec.toNat_ofNat, Nat.mod_eq_of_lt (by omega), show 127 % 2 ^ 8 = 2 ^ 7 - 1 by decide, Nat.and_two_pow_sub_one_eq_mod, wrap_u8 (by omega) (by omega)]
theorem shl7 {m i : Nat} (hm : m < 128) (hi : i ≤ 4) : evInt .shl .i64 (m : Int) ((7 * i : Nat) : Int) = some (.int .i64 ((2 ^ (7 * i) * m : Nat) : Int)) := by
  have e : (((7 * i : Nat) : Int) < 0) = False := eq_false (by omega)
  have e2 : min ((7 * i : Nat) : Int).toNat IntKind.i64.bits = 7 * i := by
    rw [Int.toNat_natCast]
    show min (7 * i) 64 = 7 * i
    omega
  have e3 : ((2 : Int) ^ (7 * i)) = ((2 ^ (7 * i) : Nat) : Int) := by simp
  have hp : 2 ^ (7 * i) ≤ 2 ^ 28 := Nat.pow_le_pow_right (by decide) (by omega)
  have hb : m * 2 ^ (7 * i) ≤ 128 * 2 ^ 28 := Nat.mul_le_mul (by omega) hp
  simp only [evInt, e, if_false]
  rw [e2, e3, ← Int.natCast_mul, Nat.mul_comm m] at *
  rw [wrap_i64 (by omega) (by omega)]
theorem more7 {a : Nat} (h : a < 128) : evInt .or .u8 (a : Int) 128 = some (.int .u8 ((UInt8.ofNat (a + 128)).toNat : Int)) := by
  have hx : (UInt8.ofNat (a + 128)).toNat = a + 128 := by rw [UInt8.toNat_ofNat']; omega
  rw [hx]
  show some (Value.int .u8 (IntKind.u8.wrap (((BitVec.ofInt 8 (a : Int) ||| BitVec.ofInt 8 ((128 : Nat) : Int)).toNat : Nat) : Int))) = _
  rw [ofInt_nat, ofInt_nat, BitVec.toNat_or, BitVec.toNat_ofNat, BitVec.toNat_ofNat, Nat.mod_eq_of_lt (by omega), show 128 % 2 ^ 8 = 2 ^ 7 * 1 by decide, Nat.or_comm, ← Nat.two_pow_add_eq_or_of_lt (i := 7) h, wrap_u8 (by omega) (by omega)]
  congr 2; omega
def sumG (l : List UInt8) : Nat → Nat
  | 0 => 0
  | i + 1 => sumG l i + (l.getD i 0).toNat % 128 * 128 ^ i
theorem sumG_lt (l : List UInt8) : ∀ i, sumG l i < 128 ^ i
  | 0 => by simp [sumG]
  | i + 1 => by
    have h := sumG_lt l i
    have h2 : (l.getD i 0).toNat % 128 * 128 ^ i ≤ 127 * 128 ^ i := Nat.mul_le_mul_right _ (by omega)
    show sumG l i + _ < 128 ^ (i + 1)
    rw [Nat.pow_succ]; omega
theorem getG_at (l : List UInt8) : ∀ i, i ≤ l.length → (∀ j, j < i → 128 ≤ (l.getD j 0).toNat) → i ≤ 5 → getN l = getG' (l.drop i) i (sumG l i)
  | 0, _, _, _ => by simp [getN, sumG]
  | i + 1, h, hj, h5 => by
    rw [getG_at l i (by omega) (fun j hji => hj j (by omega)) (by omega)]
    have hl : i < l.length := by omega
    have e : l.getD i 0 = l[i] := by simp [List.getD_eq_getElem?_getD, hl]
    rw [List.drop_eq_getElem_cons hl, getG', if_neg (by omega), if_pos (by rw [← e]; exact hj i (by omega)), ← e]
    rfl
end Go.Proofs.Ytgdhnngpfieloaa.Pln
end
