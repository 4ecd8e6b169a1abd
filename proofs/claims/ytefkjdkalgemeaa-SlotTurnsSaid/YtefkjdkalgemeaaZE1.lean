/-
  Plain: records put, and found.
-/
import Derived.Test.YtefkjdkalgemeaaZD14
import Derived.Test.YtefkjdkalgemeaaZE0
namespace Go.Proofs.Ytefkjdkalgemeaa
set_option linter.unusedVariables false
set_option linter.unusedSimpArgs false
open Go Go.VS Tab
set_option maxHeartbeats 1000000
theorem getDs_eq {α : Type} {l : List α} {i : Nat} (h : i < l.length) (a x : α) : (l.set i a).getD i x = a := by simp [List.getD_eq_getElem?_getD, h]
theorem getDs_ne {α : Type} {l : List α} {i j : Nat} (h : i ≠ j) (a x : α) : (l.set i a).getD j x = l.getD j x := by
  simp [List.getD_eq_getElem?_getD, List.getElem?_set_ne h]
theorem comes_app (S : List (List UInt8)) (W ws : List Wr) : comesS kpAll ⟨S, W ++ ws⟩ (W ++ ws).length = comesS kpAll ⟨comesS kpAll ⟨S, W⟩ W.length, ws⟩ ws.length := by
  have h1 := comesS_take kpAll kpAll ⟨S, W ++ ws⟩ W.length (fun _ _ => rfl) W.length (Nat.le_refl _) (by simp)
  have h2 := comesS_drop kpAll kpAll ⟨S, W ++ ws⟩ W.length (fun _ => rfl) ws.length (by simp)
  have e1 : (W ++ ws).take W.length = W := List.take_left' rfl
  have e2 : (W ++ ws).drop W.length = ws := List.drop_left' rfl
  dsimp only at h1 h2
  rw [e1] at h1
  rw [e2] at h2
  rw [List.length_append, ← h2, ← h1]
def recW (r : Rc) : List Wr := (List.range (manyB r)).map fun i => ⟨((slotN r.gen + i : Nat) : Int), secB r i⟩
theorem recW_len (r : Rc) : (recW r).length = manyB r := by unfold recW; simp
theorem slot_two (g : BitVec 32) : slotN g = 0 ∨ slotN g = 16 := by unfold slotN; omega
theorem slot_le (g : BitVec 32) : slotN g ≤ 16 := by unfold slotN; omega
theorem recW_may {r : Rc} (hr : manyB r ≤ 16) : ∀ w, w ∈ recW r → 0 ≤ w.at' ∧ w.at' < 32 ∧ w.data.length = 128 := fun w hw => by
  unfold recW at hw
  obtain ⟨i, hi, rfl⟩ := List.mem_map.1 hw
  have hi := List.mem_range.1 hi
  have hs := slot_le r.gen
  refine ⟨by dsimp only; omega, by dsimp only; omega, sec_len r hi⟩
theorem comes_rec (C : List (List UInt8)) (r : Rc) (hr : manyB r ≤ 16) (hm : may ⟨C, recW r⟩ = true) (z : Nat) (hz : z < 32) : ∀ j, j ≤ manyB r → (comesS kpAll ⟨C, recW r⟩ j).getD z [] = if slotN r.gen ≤ z ∧ z < slotN r.gen + j then secB r (z - slotN r.gen) else C.getD z []
  | 0, _ => by rw [if_neg (by omega)]; rfl
  | j + 1, h => by
    have hj : j < (recW r).length := by rw [recW_len]; omega
    have ih := comes_rec C r hr hm z hz j (by omega)
    have hw : (recW r)[j] = ⟨((slotN r.gen + j : Nat) : Int), secB r j⟩ := by unfold recW; simp
    have hs := slot_le r.gen
    have hC : C.length = 32 := ((may_iff _).1 hm).1
    rw [comesS_succ (d := ⟨C, recW r⟩) hj]
    unfold lay
    rw [hw]
    dsimp only
    rw [Int.toNat_natCast]
    by_cases e : slotN r.gen + j = z
    · have hzl : z < (comesS kpAll ⟨C, recW r⟩ j).length := by rw [comesS_len]; show z < C.length; omega
      have hrow : ((comesS kpAll ⟨C, recW r⟩ j).getD z []).length = 128 := by
        rw [show (comesS kpAll ⟨C, recW r⟩ j).getD z [] = (comesS kpAll ⟨C, recW r⟩ j)[z] by simp [List.getD_eq_getElem?_getD, hzl]]
        exact comesS_rows hm (fun _ _ => by simp [kpAll]) _ _ (List.getElem_mem hzl)
      have hl := sec_len r (i := j) (by omega)
      rw [e, getDs_eq hzl, if_pos (by omega), show z - slotN r.gen = j by omega]
      unfold laid
      rw [show List.take (kpAll j) (secB r j) = secB r j from List.take_of_length_le (by rw [hl]; exact Nat.le_refl _), List.drop_of_length_le (by omega), List.append_nil]
    · rw [getDs_ne e, ih]
      by_cases c : slotN r.gen ≤ z ∧ z < slotN r.gen + j
      · rw [if_pos c, if_pos (by omega)]
      · rw [if_neg c, if_neg (by omega)]
def putE (d : Dsk) (r : Rc) : Int := if may d then (if r.gen = 0 then 2 else if 1882 < r.text.length then 3 else if 256 < d.waits.length + manyB r then 9 else 0) else 8
def putD (d : Dsk) (r : Rc) : Dsk := if putE d r = 0 then ⟨d.sectors, d.waits ++ recW r⟩ else noDsk
theorem putE_0 {d : Dsk} {r : Rc} : putE d r = 0 ↔ may d = true ∧ r.gen ≠ 0 ∧ r.text.length ≤ 1882 ∧ d.waits.length + manyB r ≤ 256 := by
  unfold putE
  cases may d
  · simp
  · by_cases h1 : r.gen = 0
    · simp [h1]
    · by_cases h2 : 1882 < r.text.length
      · have h2' : ¬ r.text.length ≤ 1882 := by omega
        simp [h2, h2']
        split <;> decide
      · by_cases h3 : 256 < d.waits.length + manyB r
        · simp [h1, h2, h3]; omega
        · simp [h1, h2, h3]; omega
theorem may_put {d : Dsk} {r : Rc} (h : putE d r = 0) : may (putD d r) = true := by
  obtain ⟨h1, h2, h3, h4⟩ := putE_0.1 h
  obtain ⟨d1, d2, d3, d4⟩ := (may_iff d).1 h1
  unfold putD
  rw [if_pos h]
  refine (may_iff _).2 ⟨d1, by rw [List.length_append, recW_len]; exact h4, d3, fun w hw => ?_⟩
  rcases List.mem_append.1 hw with h | h
  · exact d4 w h
  · exact recW_may (many_le h3) w h
theorem may_kept {d : Dsk} (hd : may d = true) {r : Rc} (hr : manyB r ≤ 16) : may ⟨comesS kpAll d d.waits.length, recW r⟩ = true :=
  may_comes hd (fun _ _ => by simp [kpAll]) _ (by rw [recW_len]; omega) (recW_may hr) _
theorem read_at {d : Dsk} (hd : may d = true) {z : Nat} (hz : z < 32) : readB d (z : Int) = (comesS kpAll d d.waits.length).getD z [] := by
  unfold readB
  rw [if_pos (readE_0.2 ⟨hd, by omega, by omega⟩), Int.toNat_natCast]
theorem read_len {d : Dsk} (hd : may d = true) {z : Nat} (hz : z < 32) : (readB d (z : Int)).length = 128 := by
  rw [read_at hd hz]
  have hl : z < (comesS kpAll d d.waits.length).length := by rw [comesS_len, ((may_iff d).1 hd).1]; exact hz
  rw [show (comesS kpAll d d.waits.length).getD z [] = (comesS kpAll d d.waits.length)[z] by simp [List.getD_eq_getElem?_getD, hl]]
  exact comesS_rows hd (fun _ _ => by simp [kpAll]) _ _ (List.getElem_mem hl)
theorem read_put {d : Dsk} {r : Rc} (h : putE d r = 0) {z : Nat} (hz : z < 32) : readB (putD d r) (z : Int) = if slotN r.gen ≤ z ∧ z < slotN r.gen + manyB r then secB r (z - slotN r.gen) else readB d (z : Int) := by
  obtain ⟨h1, h2, h3, h4⟩ := putE_0.1 h
  rw [read_at (may_put h) hz, read_at h1 hz]
  have e : putD d r = ⟨d.sectors, d.waits ++ recW r⟩ := by unfold putD; rw [if_pos h]
  rw [e]
  show (comesS kpAll ⟨d.sectors, d.waits ++ recW r⟩ (d.waits ++ recW r).length).getD z [] = _
  rw [comes_app, recW_len]
  exact comes_rec _ r (many_le h3) (may_kept h1 (many_le h3)) z hz _ (Nat.le_refl _)
def seenB (d : Dsk) (s : Nat) : List (List UInt8) := (List.range 16).map fun i => readB d ((s + i : Nat) : Int)
theorem seen_len (d : Dsk) (s : Nat) : (seenB d s).length = 16 := by unfold seenB; simp
theorem seen_at (d : Dsk) (s : Nat) {i : Nat} (h : i < 16) : (seenB d s).getD i [] = readB d ((s + i : Nat) : Int) := by
  unfold seenB
  simp [List.getD_eq_getElem?_getD, h]
theorem seen_rows {d : Dsk} (hd : may d = true) {s : Nat} (hs : s = 0 ∨ s = 16) : ∀ b, b ∈ seenB d s → b.length = 128 := fun b hb => by
  unfold seenB at hb
  obtain ⟨i, hi, rfl⟩ := List.mem_map.1 hb
  have hi := List.mem_range.1 hi
  exact read_len hd (by omega)
def wholeB (d : Dsk) (s : Nat) : Option Rc := whole16 (seenB d s) s
theorem wholeB_iff {d : Dsk} (hd : may d = true) {s : Nat} (hs : s = 0 ∨ s = 16) (r : Rc) : wholeB d s = some r ↔ r.gen ≠ 0 ∧ slotN r.gen = s ∧ r.text.length ≤ 1882 ∧ sectorsB r = (seenB d s).take (manyB r) :=
  whole_iff (seen_len d s) (seen_rows hd hs) s r
theorem whole_slot {d : Dsk} (hd : may d = true) {s : Nat} (hs : s = 0 ∨ s = 16) {r : Rc} (h : wholeB d s = some r) : slotN r.gen = s := ((wholeB_iff hd hs r).1 h).2.1
theorem whole_put {d : Dsk} {r : Rc} (h : putE d r = 0) : wholeB (putD d r) (slotN r.gen) = some r := by
  obtain ⟨h1, h2, h3, h4⟩ := putE_0.1 h
  have hm := many_le h3
  refine (wholeB_iff (may_put h) (slot_two _) r).2 ⟨h2, rfl, h3, ?_⟩
  unfold sectorsB seenB
  rw [← List.map_take, List.take_range, Nat.min_eq_left hm]
  refine List.map_congr_left fun i hi => ?_
  have hi := List.mem_range.1 hi
  have hs := slot_le r.gen
  rw [read_put h (by omega), if_pos (by omega), show slotN r.gen + i - slotN r.gen = i by omega]
theorem seen_other {d : Dsk} {r : Rc} (h : putE d r = 0) {s : Nat} (hs : s = 0 ∨ s = 16) (hne : s ≠ slotN r.gen) : seenB (putD d r) s = seenB d s := by
  obtain ⟨h1, h2, h3, h4⟩ := putE_0.1 h
  have hm := many_le h3
  have hr := slot_two r.gen
  unfold seenB
  refine List.map_congr_left fun i hi => ?_
  have hi := List.mem_range.1 hi
  rw [read_put h (by omega), if_neg (by omega)]
theorem whole_other {d : Dsk} {r : Rc} (h : putE d r = 0) {s : Nat} (hs : s = 0 ∨ s = 16) (hne : s ≠ slotN r.gen) : wholeB (putD d r) s = wholeB d s := by
  unfold wholeB
  rw [seen_other h hs hne]
def sortR : Option Rc → Option Rc → List Rc
  | some a, some b => if a.gen.toNat < b.gen.toNat then [b, a] else [a, b]
  | some a, none => [a]
  | none, some b => [b]
  | none, none => []
def findL (d : Dsk) : List Rc := if may d then sortR (wholeB d 0) (wholeB d 16) else []
theorem mem_sort {a b : Option Rc} {r : Rc} : r ∈ sortR a b ↔ a = some r ∨ b = some r := by
  cases a <;> cases b <;> simp only [sortR] <;> try split
  all_goals simp [eq_comm, or_comm]
theorem mem_find {d : Dsk} (hd : may d = true) {r : Rc} : r ∈ findL d ↔ wholeB d (slotN r.gen) = some r := by
  unfold findL
  rw [if_pos hd, mem_sort]
  constructor
  · rintro (h | h)
    · rw [whole_slot hd (.inl rfl) h]; exact h
    · rw [whole_slot hd (.inr rfl) h]; exact h
  · intro h
    rcases slot_two r.gen with e | e <;> rw [e] at h
    · exact .inl h
    · exact .inr h
theorem find_len (d : Dsk) : (findL d).length ≤ 2 := by
  unfold findL
  split
  · generalize wholeB d 0 = a
    generalize wholeB d 16 = b
    cases a <;> cases b <;> simp only [sortR] <;> try split
    all_goals simp
  · simp
end Go.Proofs.Ytefkjdkalgemeaa
