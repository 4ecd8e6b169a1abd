/-
  Plain: numbers as bytes; records as sectors.
-/
import Derived.Test.YtefkjdkalgemeaaZD10
namespace Go.Proofs.Ytefkjdkalgemeaa
set_option linter.unusedVariables false
set_option linter.unusedSimpArgs false
open Go Go.VS Tab
set_option maxHeartbeats 1000000
def putB : BitVec 32 → Nat → List UInt8
  | _, 0 => []
  | w, k + 1 => UInt8.ofNat w.toNat :: putB (w >>> 8) k
def getS (l : List UInt8) : Nat → BitVec 32
  | 0 => 0
  | i + 1 => getS l i ||| (BitVec.ofNat 32 (l.getD i 0).toNat <<< (8 * i))
def getB (l : List UInt8) : BitVec 32 := getS l l.length
theorem putB_len : ∀ (k : Nat) (w : BitVec 32), (putB w k).length = k
  | 0, _ => rfl
  | k + 1, w => by rw [putB, List.length_cons, putB_len k]
theorem bit_put (w : BitVec 32) (i : Nat) : (BitVec.ofNat 32 (UInt8.ofNat w.toNat).toNat).getLsbD i = (decide (i < 8) && w.getLsbD i) := by
  rw [BitVec.getLsbD_ofNat, UInt8.toNat_ofNat', Nat.testBit_mod_two_pow, BitVec.testBit_toNat]
  by_cases h : i < 8
  · simp [h]; omega
  · simp [h]
theorem get_put4 (w : BitVec 32) : getB (putB w 4) = w := by
  have e : getB (putB w 4) = (((0 ||| (BitVec.ofNat 32 (UInt8.ofNat w.toNat).toNat <<< 0)) ||| (BitVec.ofNat 32 (UInt8.ofNat (w >>> 8).toNat).toNat <<< 8)) ||| (BitVec.ofNat 32 (UInt8.ofNat (w >>> 8 >>> 8).toNat).toNat <<< 16)) ||| (BitVec.ofNat 32 (UInt8.ofNat (w >>> 8 >>> 8 >>> 8).toNat).toNat <<< 24) := rfl
  rw [e]
  refine BitVec.eq_of_getLsbD_eq fun i hi => ?_
  simp only [BitVec.getLsbD_or, BitVec.getLsbD_shiftLeft, bit_put, BitVec.getLsbD_ushiftRight, BitVec.getLsbD_zero, Bool.false_or]
  by_cases h1 : i < 8
  · simp [h1, hi, show i < 16 by omega, show i < 24 by omega]
  · by_cases h2 : i < 16
    · simp [h1, h2, hi, show i < 24 by omega, show i - 8 < 8 by omega, show 8 + (i - 8) = i by omega]
    · by_cases h3 : i < 24
      · simp [h1, h2, h3, hi, show ¬ i - 8 < 8 by omega, show i - 16 < 8 by omega, show 8 + (8 + (i - 16)) = i by omega]
      · simp [h1, h2, h3, hi, show ¬ i - 8 < 8 by omega, show ¬ i - 16 < 8 by omega, show i - 24 < 8 by omega, show 8 + (8 + (8 + (i - 24))) = i by omega]
theorem get_put2 {n : Nat} (h : n < 65536) : getB (putB (BitVec.ofNat 32 n) 2) = BitVec.ofNat 32 n := by
  have e : ∀ w : BitVec 32, getB (putB w 2) = (0 ||| (BitVec.ofNat 32 (UInt8.ofNat w.toNat).toNat <<< 0)) ||| (BitVec.ofNat 32 (UInt8.ofNat (w >>> 8).toNat).toNat <<< 8) := fun _ => rfl
  rw [e]
  refine BitVec.eq_of_getLsbD_eq fun i hi => ?_
  simp only [BitVec.getLsbD_or, BitVec.getLsbD_shiftLeft, bit_put, BitVec.getLsbD_ushiftRight, BitVec.getLsbD_zero, Bool.false_or]
  by_cases h1 : i < 8
  · simp [h1, hi]
  · by_cases h2 : i < 16
    · simp [h1, h2, hi, show i - 8 < 8 by omega, show 8 + (i - 8) = i by omega]
    · have hb : n.testBit i = false := Nat.testBit_lt_two_pow (Nat.lt_of_lt_of_le h (Nat.pow_le_pow_right (n := 2) (by decide) (show 16 ≤ i by omega)))
      simp only [BitVec.getLsbD_ofNat, hb, Bool.and_false]
      simp [h1, h2, show ¬ i - 8 < 8 by omega]
def stepB (w : BitVec 32) : BitVec 32 := if w &&& 1 = 1 then (w >>> 1) ^^^ 0xedb88320 else w >>> 1
def stepsB (w : BitVec 32) : Nat → BitVec 32
  | 0 => w
  | k + 1 => stepB (stepsB w k)
def tabB (i : Nat) : BitVec 32 := stepsB (BitVec.ofNat 32 i) 8
def sumB (w : BitVec 32) (l : List UInt8) : Nat → BitVec 32
  | 0 => w
  | i + 1 => (sumB w l i >>> 8) ^^^ tabB (UInt8.ofNat (sumB w l i).toNat ^^^ l.getD i 0).toNat
def crcB (l : List UInt8) : BitVec 32 := ~~~ sumB (~~~ 0) l l.length
structure Rc where
  gen : BitVec 32
  text : List UInt8
def slotN (g : BitVec 32) : Nat := g.toNat % 2 * 16
def textB (r : Rc) : List UInt8 := putB (BitVec.ofNat 32 r.text.length) 2 ++ r.text
def allB (r : Rc) : List UInt8 := putB (crcB (putB r.gen 4 ++ textB r)) 4 ++ textB r
def manyB (r : Rc) : Nat := ((allB r).length + 117) / 118
def partB (r : Rc) (i : Nat) : List UInt8 := ((allB r ++ List.replicate 118 0).drop (118 * i)).take 118
def secB (r : Rc) (i : Nat) : List UInt8 := putB r.gen 4 ++ UInt8.ofNat i :: UInt8.ofNat (manyB r) :: (partB r i ++ putB r.gen 4)
def sectorsB (r : Rc) : List (List UInt8) := (List.range (manyB r)).map (secB r)
theorem all_len (r : Rc) : (allB r).length = 6 + r.text.length := by
  unfold allB textB
  simp only [List.length_append, putB_len]; omega
theorem many_pos (r : Rc) : 1 ≤ manyB r := by unfold manyB; rw [all_len]; omega
theorem many_le {r : Rc} (h : r.text.length ≤ 1882) : manyB r ≤ 16 := by unfold manyB; rw [all_len]; omega
theorem many_cover (r : Rc) : (allB r).length ≤ 118 * manyB r := by unfold manyB; omega
theorem many_lt (r : Rc) {i : Nat} (h : i < manyB r) : 118 * i < (allB r).length := by unfold manyB at h; omega
theorem part_len (r : Rc) {i : Nat} (h : i < manyB r) : (partB r i).length = 118 := by
  have := many_lt r h
  unfold partB
  simp only [List.length_take, List.length_drop, List.length_append, List.length_replicate]; omega
theorem sec_len (r : Rc) {i : Nat} (h : i < manyB r) : (secB r i).length = 128 := by
  unfold secB
  simp only [List.length_append, List.length_cons, putB_len, part_len r h]
theorem sectors_len (r : Rc) : (sectorsB r).length = manyB r := by unfold sectorsB; simp
theorem sectors_at (r : Rc) {i : Nat} (h : i < manyB r) : (sectorsB r).getD i [] = secB r i := by
  unfold sectorsB
  simp [List.getD_eq_getElem?_getD, h]
theorem sec_gen (r : Rc) (i : Nat) : (secB r i).take 4 = putB r.gen 4 := by
  unfold secB
  rw [List.take_left' (putB_len 4 _)]
theorem sec_many (r : Rc) (i : Nat) : (secB r i).getD 5 0 = UInt8.ofNat (manyB r) := by
  unfold secB
  rw [List.getD_eq_getElem?_getD, List.getElem?_append_right (by rw [putB_len]; omega), putB_len]; rfl
theorem sec_drop (r : Rc) (i : Nat) : (secB r i).drop 6 = partB r i ++ putB r.gen 4 := by
  unfold secB
  rw [List.drop_append, List.drop_of_length_le (by rw [putB_len]; omega), putB_len]; rfl
theorem sec_part (r : Rc) {i : Nat} (h : i < manyB r) : ((secB r i).drop 6).take 118 = partB r i := by
  rw [sec_drop, List.take_left' (part_len r h)]
theorem sec_end (r : Rc) {i : Nat} (h : i < manyB r) : (secB r i).drop 124 = putB r.gen 4 := by
  have e : (secB r i).drop 124 = ((secB r i).drop 6).drop 118 := by rw [List.drop_drop]
  rw [e, sec_drop, List.drop_left' (part_len r h)]
theorem parts_flat (r : Rc) : ∀ m, m ≤ manyB r → (List.range m).flatMap (partB r) = (allB r ++ List.replicate 118 0).take (118 * m)
  | 0, _ => by simp
  | m + 1, h => by
    rw [List.range_succ, List.flatMap_append, parts_flat r m (by omega), Nat.mul_succ, List.take_add]
    simp [partB]
theorem all_head (r : Rc) (l : List UInt8) : (((allB r ++ l).drop 4).take 2) = putB (BitVec.ofNat 32 r.text.length) 2 := by
  unfold allB textB
  rw [List.append_assoc, List.drop_left' (putB_len 4 _), List.append_assoc, List.take_left' (putB_len 2 _)]
theorem all_text (r : Rc) (l : List UInt8) : (((allB r ++ l).drop 6).take r.text.length) = r.text := by
  have e : (allB r ++ l).drop 6 = ((allB r ++ l).drop 4).drop 2 := by rw [List.drop_drop]
  rw [e]
  unfold allB textB
  rw [List.append_assoc, List.drop_left' (putB_len 4 _), List.append_assoc, List.drop_left' (putB_len 2 _), List.take_left' rfl]
def whole16 (seen : List (List UInt8)) (s : Nat) : Option Rc :=
  if ((seen.getD 0 []).getD 5 0).toNat < 1 ∨ 16 < ((seen.getD 0 []).getD 5 0).toNat ∨ getB ((seen.getD 0 []).take 4) = 0 ∨ slotN (getB ((seen.getD 0 []).take 4)) ≠ s then none else
  let all := (seen.take ((seen.getD 0 []).getD 5 0).toNat).flatMap fun b => (b.drop 6).take 118
  if all.length - 6 < (getB ((all.drop 4).take 2)).toNat then none else
  let r : Rc := ⟨getB ((seen.getD 0 []).take 4), (all.drop 6).take (getB ((all.drop 4).take 2)).toNat⟩
  if sectorsB r = seen.take ((seen.getD 0 []).getD 5 0).toNat then some r else none
theorem rows_flat {l : List (List UInt8)} : ∀ {m : Nat}, (∀ b, b ∈ l → b.length = 128) → m ≤ l.length → ((l.take m).flatMap fun b => (b.drop 6).take 118).length = 118 * m
  | 0, _, _ => by simp
  | m + 1, h, hm => by
    have hl : m < l.length := by omega
    rw [List.take_succ_eq_append_getElem hl, List.flatMap_append, List.length_append, rows_flat h (by omega)]
    have := h _ (List.getElem_mem hl)
    simp only [List.flatMap_cons, List.flatMap_nil, List.append_nil, List.length_take, List.length_drop]; omega
theorem whole_iff {seen : List (List UInt8)} (h16 : seen.length = 16) (h128 : ∀ b, b ∈ seen → b.length = 128) (s : Nat) (r : Rc) :
    whole16 seen s = some r ↔ r.gen ≠ 0 ∧ slotN r.gen = s ∧ r.text.length ≤ 1882 ∧ sectorsB r = seen.take (manyB r) := by
  unfold whole16
  constructor
  · intro h
    split at h
    · cases h
    rename_i c
    simp only [not_or] at c
    obtain ⟨c1, c2, c3, c4⟩ := c
    dsimp only at h
    generalize hm : ((seen.getD 0 []).getD 5 0).toNat = m at *
    have hall : ((seen.take m).flatMap fun b => (b.drop 6).take 118).length = 118 * m := rows_flat h128 (by omega)
    generalize (seen.take m).flatMap (fun b => (b.drop 6).take 118) = all at *
    split at h
    · cases h
    rename_i c5
    split at h
    · rename_i c6
      injection h with h
      subst h
      have hl := congrArg List.length c6
      rw [sectors_len, List.length_take] at hl
      refine ⟨c3, by simpa using c4, ?_, ?_⟩
      · show ((all.drop 6).take _).length ≤ 1882
        rw [List.length_take, List.length_drop]; omega
      · rw [hl, Nat.min_eq_left (by omega)]; exact c6
    · cases h
  · rintro ⟨c1, c2, c3, c4⟩
    have h1 := many_pos r
    have h2 := many_le c3
    have e0 : seen.getD 0 [] = secB r 0 := by
      rw [← sectors_at r (i := 0) (by omega), c4]
      simp only [List.getD_eq_getElem?_getD]
      rw [List.getElem?_take, if_pos (by omega)]
    have em : ((secB r 0).getD 5 0).toNat = manyB r := by
      rw [sec_many, UInt8.toNat_ofNat']; omega
    rw [e0, em, sec_gen, get_put4, if_neg (by simp only [not_or]; exact ⟨by omega, by omega, c1, by simpa using c2⟩)]
    dsimp only
    have ea : (seen.take (manyB r)).flatMap (fun b => (b.drop 6).take 118) = (allB r ++ List.replicate 118 0).take (118 * manyB r) := by
      rw [← c4, ← parts_flat r _ (Nat.le_refl _)]
      unfold sectorsB
      rw [List.flatMap_map]
      show ((List.range (manyB r)).flatMap fun i => ((secB r i).drop 6).take 118) = _
      rw [List.flatMap_def, List.flatMap_def]
      congr 1
      exact List.map_congr_left fun i hi => sec_part r (List.mem_range.1 hi)
    obtain ⟨z, hz⟩ : ∃ z, (allB r ++ List.replicate 118 0).take (118 * manyB r) = allB r ++ z := by
      rw [List.take_append, List.take_of_length_le (many_cover r)]; exact ⟨_, rfl⟩
    rw [ea, hz, all_head, get_put2 (by omega)]
    have et : (BitVec.ofNat 32 r.text.length).toNat = r.text.length := by
      rw [BitVec.toNat_ofNat]; omega
    rw [et, all_text, if_neg (by rw [List.length_append, all_len]; omega), if_pos c4]
end Go.Proofs.Ytefkjdkalgemeaa
