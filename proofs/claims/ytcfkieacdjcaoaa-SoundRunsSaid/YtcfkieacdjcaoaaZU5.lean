/-
  Routes no two of which conflict, told plainly.
-/
import Derived.Test.YtcfkieacdjcaoaaZU2
import Derived.Test.YtcfkieacdjcaoaaZT4
namespace Go.Proofs.Ytcfkieacdjcaoaa.Pln
set_option linter.unusedVariables false
set_option linter.unusedSimpArgs false
open Go Go.VS Tab
set_option maxHeartbeats 8000000
set_option maxRecDepth 4000
def lookF (l : List (Int × Int)) (k : Int) : Int := l.foldl (fun o x => if x.1 = k then x.2 else o) 0
def lookA (l : List (Int × Int)) : List AV := (List.range 100).map fun k : Nat => i64 (lookF l (k : Int))
theorem lookF_snoc (l : List (Int × Int)) (x : Int × Int) (k : Int) : lookF (l ++ [x]) k = if x.1 = k then x.2 else lookF l k := by
  unfold lookF; rw [List.foldl_append]; rfl
theorem lookA_nil : lookA [] = List.replicate 100 (i64 0) := by rw [rep_range, lookA]; rfl
theorem lookA_len (l : List (Int × Int)) : (lookA l).length = 100 := by simp [lookA]
theorem lookA_pick (l : List (Int × Int)) (j s : Nat) (h : j < 100) : pick false s (List.drop j (lookA l)) = some (i64 (lookF l j)) := pick_range _ _ _ _ h
theorem lookA_set (l : List (Int × Int)) (j : Nat) (h : j < 100) (v : Int) : splice (lookA l) j [i64 v] = lookA (l ++ [((j : Int), v)]) := by
  rw [lookA, splice_range _ _ _ h, lookA]
  apply List.map_congr_left
  intro k hk
  rw [lookF_snoc]
  by_cases e : k = j
  · subst e; simp
  · rw [if_neg e, if_neg (by show ¬ (j : Int) = (k : Int); omega)]
theorem lookF_mem {l : List (Int × Int)} {k : Int} (h : lookF l k ≠ 0) : (k, lookF l k) ∈ l := by
  have key : ∀ n, n ≤ l.length → lookF (l.take n) k = 0 ∨ (k, lookF (l.take n) k) ∈ l := by
    intro n
    induction n with
    | zero => intro _; exact .inl rfl
    | succ n ih =>
      intro hn
      rw [List.take_succ_eq_append_getElem (by omega), lookF_snoc]
      split
      · rename_i e
        refine .inr ?_
        rw [← e]
        exact List.getElem_mem _
      · exact ih (by omega)
  have := key l.length (Nat.le_refl _)
  rw [List.take_length] at this
  rcases this with h' | h'
  · exact absurd h' h
  · exact h'
def apartB (p : Pl) (s : List Int) (id : Int) : Bool := rtE p id == 0 && s.all fun x => twoE p x id == 0 && !twoB p x id
def someF (p : Pl) : List Int → List Int
  | l => l.foldl (fun s id => if apartB p s id = true then s ++ [id] else s) []
theorem someF_snoc (p : Pl) (l : List Int) (x : Int) : someF p (l ++ [x]) = if apartB p (someF p l) x = true then someF p l ++ [x] else someF p l := by
  unfold someF; rw [List.foldl_append]; rfl
theorem someF_succ (p : Pl) (l : List Int) (n : Nat) (h : n < l.length) : someF p (l.take (n + 1)) = if apartB p (someF p (l.take n)) l[n] = true then someF p (l.take n) ++ [l[n]] else someF p (l.take n) := by
  rw [List.take_succ_eq_append_getElem h, someF_snoc]
theorem someF_len (p : Pl) (l : List Int) : ∀ n, n ≤ l.length → (someF p (l.take n)).length ≤ n
  | 0, _ => by simp [someF]
  | n + 1, h => by
    rw [someF_succ p l n (by omega)]
    have ih := someF_len p l n (by omega)
    split
    · rw [List.length_append]; simp; omega
    · omega
structure Apart (p : Pl) (s : List Int) : Prop where
  each : ∀ x, x ∈ s → rtE p x = 0
  pair : s.Pairwise fun x y => twoE p x y = 0 ∧ twoB p x y = false
theorem someF_apart (p : Pl) (l : List Int) : ∀ n, n ≤ l.length → Apart p (someF p (l.take n))
  | 0, _ => ⟨fun x hx => by simp [someF] at hx, by simp [someF]⟩
  | n + 1, h => by
    rw [someF_succ p l n (by omega)]
    have ih := someF_apart p l n (by omega)
    split
    · rename_i hb
      unfold apartB at hb
      simp only [Bool.and_eq_true, beq_iff_eq, List.all_eq_true, Bool.not_eq_true'] at hb
      refine ⟨fun x hx => ?_, ?_⟩
      · rw [List.mem_append] at hx
        rcases hx with hx | hx
        · exact ih.each x hx
        · rw [List.mem_singleton.1 hx]; exact hb.1
      · rw [List.pairwise_append]
        refine ⟨ih.pair, by simp, fun a ha b hb' => ?_⟩
        rw [List.mem_singleton.1 hb']
        exact hb.2 a ha
    · exact ih
theorem wy_secs {p : Pl} {r : Rt} {W : Wy} {O : List (Int × Int)} (g : Gone p r W O) : (allW1 W).Nodup ∧ ∀ x, x ∈ allW1 W → 0 < x ∧ x < 100 := by
  have e : allW1 W = r.path ++ r.over := by unfold allW1; rw [g.path, g.over]
  rw [e]
  obtain ⟨_, hmS, _, _, _, _, h7⟩ := may_parts g.may
  have ho := h7 r g.mem
  unfold okR at ho
  cases hg : getG p.sgs r.entry with
  | none => rw [hg] at ho; cases ho
  | some en =>
    rw [hg] at ho
    simp only [Bool.and_eq_true] at ho
    have hL := ho.1.2
    rw [allP_iff] at hL
    constructor
    · rw [List.nodup_iff_pairwise_ne, List.pairwise_iff_getElem]
      intro i j hi hj hij e'
      have := hL j hj
      unfold okL at this
      simp only [Bool.and_eq_true, List.all_eq_true, Bool.not_eq_true'] at this
      have h2 := this.2 _ (mem_take_of hij hi)
      simp [e'] at h2
    · intro x hx
      obtain ⟨i, hi, rfl⟩ := List.getElem_of_mem hx
      have := hL i hi
      unfold okL at this
      simp only [Bool.and_eq_true] at this
      obtain ⟨s, hs⟩ := Option.isSome_iff_exists.1 this.1.1
      obtain ⟨h1, h2⟩ := getS_some hs
      have := numb_iff.1 (mayS_sec hmS h1).1
      omega
theorem conf_false {a b : Wy} (h : confW a b = false) : (∀ x, x ∈ allW1 a → x ∉ allW1 b) ∧ ∀ x, x ∈ a.asks → ∀ y, y ∈ b.asks → x.1 = y.1 → x.2.1 = y.2.1 := by
  unfold confW at h
  rw [Bool.or_eq_false_iff, List.any_eq_false, List.any_eq_false] at h
  obtain ⟨h1, h2⟩ := h
  constructor
  · intro x hx hx'
    have := h1 x hx
    rw [Bool.not_eq_true, List.any_eq_false] at this
    exact this x hx' (by simp)
  · intro x hx y hy e
    have := h2 x hx
    rw [Bool.not_eq_true, List.any_eq_false] at this
    have h3 := this y hy
    unfold oddA at h3
    by_cases e2 : x.2.1 = y.2.1
    · exact e2
    · exact absurd (by simp [e, e2]) h3
def heldL (p : Pl) (s : List Int) (i : Nat) : List (Int × Int) := ((s.take i).map fun x => (allW1 (ofW p x)).map fun y => (y, x)).flatten
def liesL (p : Pl) (s : List Int) (i : Nat) : List (Int × Int) := ((s.take i).map fun x => (ofW p x).asks.map fun a => (a.1, a.2.1)).flatten
theorem held_succ (p : Pl) (s : List Int) (i : Nat) (h : i < s.length) : heldL p s (i + 1) = heldL p s i ++ (allW1 (ofW p s[i])).map fun y => (y, s[i]) := by
  unfold heldL; rw [List.take_succ_eq_append_getElem h, List.map_append, List.flatten_append]; simp
theorem lies_succ (p : Pl) (s : List Int) (i : Nat) (h : i < s.length) : liesL p s (i + 1) = liesL p s i ++ (ofW p s[i]).asks.map fun a => (a.1, a.2.1) := by
  unfold liesL; rw [List.take_succ_eq_append_getElem h, List.map_append, List.flatten_append]; simp
theorem ap_gone {p : Pl} (hE : soundE p = 0) {s : List Int} (h : Apart p s) {x : Int} (hx : x ∈ s) : ofE p x = 0 ∧ (∃ r O, Gone p r (ofW p x) O) ∧ onceB (ofW p x).asks = true := by
  have h0 := h.each x hx
  obtain ⟨hm, hr⟩ := rtE_zero h0
  obtain ⟨_, hs⟩ := sound_zero hE
  obtain ⟨f1, f2⟩ := hs _ hr
  have e1 : ofE p x = 0 := by unfold ofE; rw [if_pos h0]; exact f1
  have e2 : ofW p x = folW p (rtO p x) := by unfold ofW; rw [if_pos h0]
  refine ⟨e1, ⟨_, _, by rw [e2]; exact gone_fol hm hr f1⟩, ?_⟩
  unfold soundR at f2
  rw [Bool.and_eq_true] at f2
  rw [e2]; exact f2.1
theorem ap_conf {p : Pl} {s : List Int} (h : Apart p s) {i j : Nat} (hj : j < s.length) (hij : i < j) : confW (ofW p (s[i]'(by omega))) (ofW p s[j]) = false := by
  have := List.pairwise_iff_getElem.1 h.pair i j (by omega) hj hij
  obtain ⟨h1, h2⟩ := this
  unfold twoB at h2
  rwa [if_pos h1] at h2
theorem held_free {p : Pl} (hE : soundE p = 0) {s : List Int} (h : Apart p s) {i k : Nat} (hi : i < s.length) (hk : k < (allW1 (ofW p s[i])).length) : lookF (heldL p s i ++ ((allW1 (ofW p s[i])).take k).map fun y => (y, s[i])) (allW1 (ofW p s[i]))[k] = 0 := by
  obtain ⟨_, ⟨r, O, g⟩, _⟩ := ap_gone hE h (List.getElem_mem hi)
  have hnd := (wy_secs g).1
  by_cases hz : lookF (heldL p s i ++ ((allW1 (ofW p s[i])).take k).map fun y => (y, s[i])) (allW1 (ofW p s[i]))[k] = 0
  · exact hz
  · exfalso
    have hm := lookF_mem hz
    rw [List.mem_append] at hm
    rcases hm with hm | hm
    · unfold heldL at hm
      rw [List.mem_flatten] at hm
      obtain ⟨l, hl, hx⟩ := hm
      obtain ⟨x, hx', rfl⟩ := List.mem_map.1 hl
      obtain ⟨y, hy, e⟩ := List.mem_map.1 hx
      rw [List.mem_take_iff_getElem] at hx'
      obtain ⟨j, hj, rfl⟩ := hx'
      have hc := (conf_false (ap_conf h hi (show j < i by omega))).1 y hy
      have : y = (allW1 (ofW p s[i]))[k] := by simpa using congrArg Prod.fst e
      rw [this] at hc
      exact hc (List.getElem_mem hk)
    · obtain ⟨y, hy, e⟩ := List.mem_map.1 hm
      rw [List.mem_take_iff_getElem] at hy
      obtain ⟨j, hj, rfl⟩ := hy
      have : (allW1 (ofW p s[i]))[j]'(by omega) = (allW1 (ofW p s[i]))[k] := by simpa using congrArg Prod.fst e
      rw [List.nodup_iff_pairwise_ne, List.pairwise_iff_getElem] at hnd
      exact hnd j k (by omega) hk (by omega) this
theorem lies_free {p : Pl} (hE : soundE p = 0) {s : List Int} (h : Apart p s) {i k : Nat} (hi : i < s.length) (hk : k < (ofW p s[i]).asks.length) {v : Int} (hv : v = lookF (liesL p s i ++ ((ofW p s[i]).asks.take k).map fun a => (a.1, a.2.1)) (ofW p s[i]).asks[k].1) (h0 : v ≠ 0) : v = (ofW p s[i]).asks[k].2.1 := by
  obtain ⟨_, _, ho⟩ := ap_gone hE h (List.getElem_mem hi)
  subst hv
  have hm := lookF_mem h0
  rw [List.mem_append] at hm
  rcases hm with hm | hm
  · unfold liesL at hm
    rw [List.mem_flatten] at hm
    obtain ⟨l, hl, hx⟩ := hm
    obtain ⟨x, hx', rfl⟩ := List.mem_map.1 hl
    obtain ⟨y, hy, e⟩ := List.mem_map.1 hx
    rw [List.mem_take_iff_getElem] at hx'
    obtain ⟨j, hj, rfl⟩ := hx'
    have hc := (conf_false (ap_conf h hi (show j < i by omega))).2 y hy _ (List.getElem_mem hk) (by simpa using congrArg Prod.fst e)
    rw [← hc]
    exact (congrArg Prod.snd e).symm
  · exfalso
    obtain ⟨y, hy, e⟩ := List.mem_map.1 hm
    unfold onceB at ho
    have := allP_iff.1 ho k hk
    unfold okA at this
    rw [Bool.not_eq_true', List.any_eq_false] at this
    exact this y hy (by simpa using congrArg Prod.fst e)
end Go.Proofs.Ytcfkieacdjcaoaa.Pln
