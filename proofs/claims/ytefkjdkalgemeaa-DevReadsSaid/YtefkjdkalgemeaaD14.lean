/-
  Power that fails behind some writes, and again behind the rest.
-/
import Derived.Test.YtefkjdkalgemeaaD13
namespace Go.Proofs.Ytefkjdkalgemeaa
set_option linter.unusedVariables false
set_option linter.unusedSimpArgs false
open Go Go.VS Tab
set_option maxHeartbeats 2000000
set_option maxRecDepth 4000

theorem crashE_0 {d : Dsk} {kp : List Int} : crashE d kp = 0 ↔ may d = true ∧ kp.length = d.waits.length ∧ ∀ x, x ∈ kp → 0 ≤ x ∧ x < 129 := by
  unfold crashE
  cases may d <;> simp
  by_cases h : kp.length = d.waits.length
  · rw [if_pos h]
    simp only [h, true_and]
    constructor
    · intro h'
      split at h'
      · assumption
      · cases h'
    · intro h'; rw [if_pos h']
  · rw [if_neg h]; simp [h]
theorem eqBy_refl {α : Type} {p : α → α → Bool} (hp : ∀ x, p x x = true) : ∀ l : List α, eqBy p l l = true
  | [] => rfl
  | x :: l => by rw [eqBy, hp, eqBy_refl hp l]; rfl
theorem sameB_refl (a : Dsk) : sameB a a = true := by
  unfold sameB
  rw [eqBy_refl (by intro x; simp), eqBy_refl (by intro x; simp)]; rfl
theorem comesS_succ {kp : Nat → Nat} {d : Dsk} {i : Nat} (h : i < d.waits.length) : comesS kp d (i + 1) = lay (comesS kp d i) d.waits[i] (kp i) := by rw [comesS, dif_pos h]
theorem comesS_take (kp kq : Nat → Nat) (d : Dsk) (m : Nat) (hk : ∀ i, i < m → kp i = kq i) : ∀ i, i ≤ m → i ≤ d.waits.length → comesS kq ⟨d.sectors, d.waits.take m⟩ i = comesS kp d i
  | 0, _, _ => rfl
  | i + 1, h, h' => by
    have h1 : i < (d.waits.take m).length := by rw [List.length_take]; omega
    have h2 : i < d.waits.length := by omega
    rw [comesS_succ (d := ⟨d.sectors, d.waits.take m⟩) h1, comesS_succ h2, comesS_take kp kq d m hk i (by omega) (by omega), hk i (by omega)]
    congr 1
    simp
theorem comesS_drop (kp kq : Nat → Nat) (d : Dsk) (m : Nat) (hk : ∀ i, kp (m + i) = kq i) : ∀ i, m + i ≤ d.waits.length → comesS kq ⟨comesS kp d m, d.waits.drop m⟩ i = comesS kp d (m + i)
  | 0, _ => rfl
  | i + 1, h' => by
    have h1 : i < (d.waits.drop m).length := by rw [List.length_drop]; omega
    have h2 : m + i < d.waits.length := by omega
    rw [← Nat.add_assoc, comesS_succ (d := ⟨comesS kp d m, d.waits.drop m⟩) h1, comesS_succ h2, comesS_drop kp kq d m hk i (by omega), hk i]
    congr 1
    simp
theorem may_comes {kp : Nat → Nat} {d : Dsk} (hd : may d = true) (hk : ∀ i, i < d.waits.length → kp i ≤ 128) (ws : List Wr) (hw : ws.length ≤ 256) (hws : ∀ w, w ∈ ws → 0 ≤ w.at' ∧ w.at' < 32 ∧ w.data.length = 128) (i : Nat) : may ⟨comesS kp d i, ws⟩ = true :=
  (may_iff _).2 ⟨by rw [comesS_len]; exact ((may_iff d).1 hd).1, hw, comesS_rows hd hk i, hws⟩
abbrev kf (kp : List Int) : Nat → Nat := fun i => (kp.getD i 0).toNat
theorem kf_le {kp : List Int} (h : ∀ x, x ∈ kp → 0 ≤ x ∧ x < 129) (i : Nat) : kf kp i ≤ 128 := by
  show (kp.getD i 0).toNat ≤ 128
  rw [List.getD_eq_getElem?_getD]
  by_cases hi : i < kp.length
  · rw [List.getElem?_eq_getElem hi]
    have := h _ (List.getElem_mem hi)
    show (kp[i]).toNat ≤ 128
    omega
  · rw [List.getElem?_eq_none (by omega)]; decide

/-- The law, plainly. -/
theorem split_law {d : Dsk} {kp : List Int} (h0 : crashE d kp = 0) (m : Nat) (hm : m ≤ kp.length) :
    crashE ⟨d.sectors, d.waits.take m⟩ (kp.take m) = 0 ∧ crashE ⟨(crashD ⟨d.sectors, d.waits.take m⟩ (kp.take m)).sectors, d.waits.drop m⟩ (kp.drop m) = 0 ∧
    sameB (crashD d kp) (crashD ⟨(crashD ⟨d.sectors, d.waits.take m⟩ (kp.take m)).sectors, d.waits.drop m⟩ (kp.drop m)) = true ∧ (crashD d kp).waits = [] ∧ may (crashD d kp) = true := by
  obtain ⟨h1, h2, h3⟩ := crashE_0.1 h0
  obtain ⟨d1, d2, d3, d4⟩ := (may_iff d).1 h1
  have hk := kf_le h3
  have e1 : crashE ⟨d.sectors, d.waits.take m⟩ (kp.take m) = 0 := crashE_0.2 ⟨(may_iff _).2 ⟨d1, by simp; omega, d3, fun w hw => d4 w (List.mem_of_mem_take hw)⟩, by simp [h2], fun x hx => h3 x (List.mem_of_mem_take hx)⟩
  have c1 : (crashD ⟨d.sectors, d.waits.take m⟩ (kp.take m)).sectors = comesS (kf kp) d m := by
    unfold crashD
    rw [if_pos e1]
    show comesS (kf (kp.take m)) _ (d.waits.take m).length = _
    have hl : (d.waits.take m).length = m := by rw [List.length_take]; omega
    rw [hl]
    refine comesS_take (kf kp) _ d m (fun i hi => ?_) m (Nat.le_refl _) (by omega)
    show (kp.getD i 0).toNat = ((kp.take m).getD i 0).toNat
    simp [List.getD_eq_getElem?_getD, List.getElem?_take, hi]
  rw [c1]
  have e2 : crashE ⟨comesS (kf kp) d m, d.waits.drop m⟩ (kp.drop m) = 0 := crashE_0.2 ⟨may_comes h1 (fun i _ => hk i) _ (by simp; omega) (fun w hw => d4 w (List.mem_of_mem_drop hw)) m, by simp [h2], fun x hx => h3 x (List.mem_of_mem_drop hx)⟩
  have c0 : crashD d kp = ⟨comesS (kf kp) d d.waits.length, []⟩ := by unfold crashD; rw [if_pos h0]; rfl
  have c2 : crashD ⟨comesS (kf kp) d m, d.waits.drop m⟩ (kp.drop m) = ⟨comesS (kf kp) d d.waits.length, []⟩ := by
    unfold crashD
    rw [if_pos e2]
    show (⟨comesS (kf (kp.drop m)) ⟨comesS (kf kp) d m, d.waits.drop m⟩ (d.waits.drop m).length, []⟩ : Dsk) = _
    rw [comesS_drop (kf kp) (kf (kp.drop m)) d m (fun i => by show (kp.getD (m + i) 0).toNat = ((kp.drop m).getD i 0).toNat; simp [List.getD_eq_getElem?_getD]) _ (by rw [List.length_drop]; omega)]
    congr 2
    rw [List.length_drop]; omega
  rw [c0, c2]
  exact ⟨e1, e2, sameB_refl _, rfl, may_comes h1 (fun i _ => hk i) [] (by decide) (fun w hw => by simp at hw) _⟩
end Go.Proofs.Ytefkjdkalgemeaa
