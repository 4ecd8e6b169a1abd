/-
  Plain: records put one behind the other.
-/
import Derived.Test.YtefkjdkalgemeaaZE12
namespace Go.Proofs.Ytefkjdkalgemeaa
set_option linter.unusedVariables false
set_option linter.unusedSimpArgs false
open Go Go.VS Tab
set_option maxHeartbeats 1000000
def recT (tx : List (List UInt8)) (k : Nat) : Rc := ⟨BitVec.ofNat 32 k, tx.getD (k - 1) []⟩
theorem genT {k : Nat} (h : k ≤ 100) : (BitVec.ofNat 32 k).toNat = k := by rw [BitVec.toNat_ofNat]; omega
theorem slotT {k : Nat} (h : k ≤ 100) : slotN (BitVec.ofNat 32 k) = k % 2 * 16 := by unfold slotN; rw [genT h]
structure TInv (tx : List (List UInt8)) (i : Nat) (d : Dsk) : Prop where
  m : may d = true
  w : d.waits = []
  low : ∀ z : Nat, z < 32 → (headB (readB d (z : Int))).toNat ≤ i ∧ (tailB (readB d (z : Int))).toNat ≤ i
  one : wholeB d (i % 2 * 16) = if 1 ≤ i then some (recT tx i) else none
theorem turn_new (tx : List (List UInt8)) : TInv tx 0 newD := by
  refine ⟨newD_may, rfl, fun z hz => ?_, new_none0⟩
  have e : readB newD (z : Int) = z128 := by
    rw [read_at newD_may hz]
    show (List.replicate 32 z128).getD z [] = z128
    rw [List.getD_eq_getElem?_getD, List.getElem?_replicate, if_pos hz]; rfl
  rw [e]
  exact ⟨by decide +kernel, by decide +kernel⟩
theorem slot_next {i : Nat} (h : i ≤ 50) : slotN (BitVec.ofNat 32 i + 1) = (i + 1) % 2 * 16 := by rw [slot_succ, genT (by omega)]
theorem turn_next {tx : List (List UInt8)} {i : Nat} {d : Dsk} (h : TInv tx i d) (hi : i ≤ 50) : nextE d (BitVec.ofNat 32 i) = 0 ∧ nextW d (BitVec.ofNat 32 i) = BitVec.ofNat 32 (i + 1) := by
  have hN : nextN d (BitVec.ofNat 32 i) = i + 1 := by
    unfold nextN
    rw [genT (by omega), slot_next hi]
    refine nextS_keep _ _ _ _ fun j hj => ?_
    have := h.low ((i + 1) % 2 * 16 + j) (by omega)
    omega
  have hE : nextE d (BitVec.ofNat 32 i) = 0 := nextE_0.2 ⟨h.m, by rw [hN]; omega⟩
  refine ⟨hE, ?_⟩
  unfold nextW
  rw [if_pos hE, hN]
theorem turn_put {tx : List (List UInt8)} {i : Nat} {d : Dsk} (h : TInv tx i d) (hi : i ≤ 50) (ht : (recT tx (i + 1)).text.length ≤ 1882) : putE d (recT tx (i + 1)) = 0 := by
  refine putE_0.2 ⟨h.m, ?_, ht, ?_⟩
  · intro e
    have := congrArg BitVec.toNat e
    rw [show (recT tx (i + 1)).gen = BitVec.ofNat 32 (i + 1) from rfl, genT (by omega)] at this
    have e0 : (0 : BitVec 32).toNat = 0 := rfl
    omega
  · rw [h.w]
    have := many_le ht
    show 0 + _ ≤ 256
    omega
theorem turn_big {tx : List (List UInt8)} {i : Nat} {d : Dsk} (h : TInv tx i d) (hi : i ≤ 50) (ht : 1882 < (recT tx (i + 1)).text.length) : putE d (recT tx (i + 1)) = 3 := by
  unfold putE
  rw [h.m, if_pos rfl, if_neg, if_pos ht]
  intro e
  have := congrArg BitVec.toNat e
  rw [show (recT tx (i + 1)).gen = BitVec.ofNat 32 (i + 1) from rfl, genT (by omega)] at this
  have e0 : (0 : BitVec 32).toNat = 0 := rfl
  omega
theorem comes_far {kp : Nat → Nat} {d : Dsk} {z : Nat} : ∀ i, (∀ j (hj : j < d.waits.length), j < i → d.waits[j].at'.toNat ≠ z) → (comesS kp d i).getD z [] = d.sectors.getD z []
  | 0, _ => rfl
  | i + 1, h => by
    rw [comesS]
    split
    · rename_i hi
      rw [lay, getDs_ne (h i hi (by omega))]
      exact comes_far i fun j hj hji => h j hj (by omega)
    · exact comes_far i fun j hj hji => h j hj (by omega)
theorem put_waits {d : Dsk} {r : Rc} (h : putE d r = 0) (hw : d.waits = []) : (putD d r).waits = recW r ∧ (putD d r).sectors = d.sectors := by
  unfold putD
  rw [if_pos h, hw]
  exact ⟨rfl, rfl⟩
theorem read_still {d : Dsk} (hm : may d = true) (hw : d.waits = []) {z : Nat} (hz : z < 32) : readB d (z : Int) = d.sectors.getD z [] := by
  rw [read_at hm hz, hw]; rfl
theorem turn_crash {tx : List (List UInt8)} {i : Nat} {d : Dsk} (h : TInv tx i d) (hi : i ≤ 50) (ht : (recT tx (i + 1)).text.length ≤ 1882) {kp : List Int} (hk : kp.length = manyB (recT tx (i + 1))) (hk2 : ∀ x, x ∈ kp → 0 ≤ x ∧ x < 129) :
    crashE (putD d (recT tx (i + 1))) kp = 0 ∧ may (crashD (putD d (recT tx (i + 1))) kp) = true ∧ (1 ≤ i → recT tx i ∈ findL (crashD (putD d (recT tx (i + 1))) kp)) := by
  have hP := turn_put h hi ht
  have hmX := may_put hP
  obtain ⟨hw, hs⟩ := put_waits hP h.w
  have hE : crashE (putD d (recT tx (i + 1))) kp = 0 := crashE_0.2 ⟨hmX, by rw [hw, recW_len, hk], hk2⟩
  have eD : crashD (putD d (recT tx (i + 1))) kp = ⟨comesS (kf kp) (putD d (recT tx (i + 1))) (putD d (recT tx (i + 1))).waits.length, []⟩ := by
    unfold crashD
    rw [if_pos hE]; rfl
  have hmC : may (crashD (putD d (recT tx (i + 1))) kp) = true := by
    rw [eD]
    exact may_comes hmX (fun j _ => kf_le hk2 j) [] (by decide) (fun w hw => by cases hw) _
  refine ⟨hE, hmC, fun h1 => (mem_find hmC).2 ?_⟩
  have hg : slotN (recT tx i).gen = i % 2 * 16 := slotT (by omega)
  have hgR : slotN (recT tx (i + 1)).gen = (i + 1) % 2 * 16 := slotT (by omega)
  rw [hg]
  have e1 := h.one
  rw [if_pos h1] at e1
  rw [← e1]
  refine whole_same fun j hj => ?_
  rw [read_still hmC (by rw [eD]) (by omega), read_still h.m h.w (by omega), eD]
  show (comesS (kf kp) (putD d (recT tx (i + 1))) _).getD (i % 2 * 16 + j) [] = _
  rw [comes_far, hs]
  intro q hq _
  have hq' : q < (recW (recT tx (i + 1))).length := by rw [← hw]; exact hq
  have e : (putD d (recT tx (i + 1))).waits[q] = (recW (recT tx (i + 1)))[q] := by simp only [hw]
  rw [e]
  have hm := many_le ht
  rw [recW_len] at hq'
  have e2 : (recW (recT tx (i + 1)))[q]'(by rw [recW_len]; exact hq') = ⟨((slotN (recT tx (i + 1)).gen + q : Nat) : Int), secB (recT tx (i + 1)) q⟩ := by unfold recW; simp
  rw [e2]
  show ((slotN (recT tx (i + 1)).gen + q : Nat) : Int).toNat ≠ _
  rw [Int.toNat_natCast, hgR]
  omega
theorem turn_sync {tx : List (List UInt8)} {i : Nat} {d : Dsk} (h : TInv tx i d) (hi : i ≤ 50) (ht : (recT tx (i + 1)).text.length ≤ 1882) :
    TInv tx (i + 1) (syncD (putD d (recT tx (i + 1)))) ∧ findL (syncD (putD d (recT tx (i + 1)))) = if 1 ≤ i then [recT tx (i + 1), recT tx i] else [recT tx (i + 1)] := by
  have hP := turn_put h hi ht
  have hmX := may_put hP
  have hg : slotN (recT tx i).gen = i % 2 * 16 := slotT (by omega)
  have hgR : slotN (recT tx (i + 1)).gen = (i + 1) % 2 * 16 := slotT (by omega)
  have eS : syncD (putD d (recT tx (i + 1))) = comes kpAll (putD d (recT tx (i + 1))) := by unfold syncD; rw [hmX]; rfl
  have hmS : may (syncD (putD d (recT tx (i + 1)))) = true := by
    rw [eS]
    exact may_comes hmX (fun _ _ => by simp [kpAll]) [] (by decide) (fun w hw => by cases hw) _
  have hwS : (syncD (putD d (recT tx (i + 1)))).waits = [] := by rw [eS]; rfl
  have rd : ∀ z : Nat, z < 32 → readB (syncD (putD d (recT tx (i + 1)))) (z : Int) = readB (putD d (recT tx (i + 1))) (z : Int) := fun z hz => by
    rw [read_still hmS hwS hz, read_at hmX hz, eS]; rfl
  have ws : ∀ s, s = 0 ∨ s = 16 → wholeB (syncD (putD d (recT tx (i + 1)))) s = wholeB (putD d (recT tx (i + 1))) s := fun s hs => whole_same fun j hj => rd _ (by omega)
  have w1 : wholeB (syncD (putD d (recT tx (i + 1)))) ((i + 1) % 2 * 16) = some (recT tx (i + 1)) := by
    rw [ws _ (by omega), ← hgR]; exact whole_put hP
  have w2 : wholeB (syncD (putD d (recT tx (i + 1)))) (i % 2 * 16) = if 1 ≤ i then some (recT tx i) else none := by
    rw [ws _ (by omega), whole_other hP (by omega) (by omega)]; exact h.one
  refine ⟨⟨hmS, hwS, fun z hz => ?_, ?_⟩, ?_⟩
  · rw [rd z hz, read_put hP hz]
    by_cases c : slotN (recT tx (i + 1)).gen ≤ z ∧ z < slotN (recT tx (i + 1)).gen + manyB (recT tx (i + 1))
    · rw [if_pos c]
      unfold headB tailB
      rw [sec_gen, sec_end _ (by omega), get_put4, show (recT tx (i + 1)).gen = BitVec.ofNat 32 (i + 1) from rfl, genT (by omega)]
      exact ⟨Nat.le_refl _, Nat.le_refl _⟩
    · rw [if_neg c]
      have := h.low z hz
      omega
  · rw [w1, if_pos (by omega)]
  · by_cases h1 : 1 ≤ i
    · rw [if_pos h1] at w2 ⊢
      have g1 : (recT tx (i + 1)).gen.toNat = i + 1 := genT (by omega)
      have g2 : (recT tx i).gen.toNat = i := genT (by omega)
      rw [find_two hmS (r := recT tx (i + 1)) (s := recT tx i) (by rw [hgR]; exact w1) (by rw [hg]; exact w2) (by omega), if_neg (by omega)]
    · rw [if_neg h1] at w2 ⊢
      have e0 : i = 0 := by omega
      subst e0
      rw [find_eq hmS, show wholeB (syncD (putD d (recT tx (0 + 1)))) 0 = none from w2, show wholeB (syncD (putD d (recT tx (0 + 1)))) 16 = some (recT tx (0 + 1)) from w1]
      rfl
def dskT (tx : List (List UInt8)) : Nat → Dsk
  | 0 => newD
  | i + 1 => syncD (putD (dskT tx i) (recT tx (i + 1)))
theorem turn_all (tx : List (List UInt8)) : ∀ i, i ≤ 50 → (∀ j, j < i → (recT tx (j + 1)).text.length ≤ 1882) → TInv tx i (dskT tx i)
  | 0, _, _ => turn_new tx
  | i + 1, hi, h => (turn_sync (turn_all tx i (by omega) fun j hj => h j (by omega)) (by omega) (h i (by omega))).1
def farL (kp : List UInt8) (w k : Nat) : List Int := (List.range w).map fun j => if j < k then (((kp.getD (j % kp.length) 0).toNat % 129 : Nat) : Int) else 0
theorem far_len (kp : List UInt8) (w k : Nat) : (farL kp w k).length = w := by unfold farL; simp
theorem far_in (kp : List UInt8) (w k : Nat) : ∀ x, x ∈ farL kp w k → 0 ≤ x ∧ x < 129 := fun x hx => by
  unfold farL at hx
  obtain ⟨j, _, rfl⟩ := List.mem_map.1 hx
  split <;> omega
theorem far_0 (kp : List UInt8) (w : Nat) : farL kp w 0 = List.replicate w 0 := by
  unfold farL
  apply List.ext_getElem
  · simp
  · intro i h1 h2
    simp
theorem far_succ (kp : List UInt8) {w k : Nat} (h : k < w) : (farL kp w k).set k (((kp.getD (k % kp.length) 0).toNat % 129 : Nat) : Int) = farL kp w (k + 1) := by
  apply List.ext_getElem
  · simp [far_len]
  · intro i h1 h2
    rw [far_len] at h2
    by_cases hi : k = i
    · subst hi
      rw [List.getElem_set_self]
      simp [farL]
    · rw [List.getElem_set_ne hi]
      simp only [farL, List.getElem_map, List.getElem_range]
      by_cases c : i < k
      · rw [if_pos c, if_pos (by omega)]
      · rw [if_neg c, if_neg (by omega)]
end Go.Proofs.Ytefkjdkalgemeaa
