/-
 Plain: two disks are told alike just if they are the same.
-/
import Derived.Test.YtjgbbjooeibppaaZD24
import Derived.Test.YtjgbbjooeibppaaZD4
namespace Go.Proofs.Ytjgbbjooeibppaa
set_option linter.unusedVariables false
set_option linter.unusedSimpArgs false
open Go Go.VS Tab
set_option maxHeartbeats 2000000
set_option maxRecDepth 4000
def Xm1 (a : Int) : Prop := -9223372036854775808 ≤ a ∧ a ≤ 9223372036854775807
theorem Xnc {a : Int} (h : (Lit.int .i64 a).wf = true) : Xm1 a := by
 simp [Lit.wf, IntKind.min, IntKind.max, IntKind.bits, IntKind.signed, Bool.and_eq_true] at h
 exact ⟨by omega, by omega⟩
theorem Xn2 (x : Int) (i : Nat) : (lb x i).toNat = (BitVec.ofInt 64 x).toNat / 2 ^ (8 * i) % 256 := by
 unfold lb
 rw [BitVec.toNat_ushiftRight, Nat.shiftRight_eq_div_pow]
 simp
theorem Xjk {x y : Int} (hx : Xm1 x) (hy : Xm1 y) (h : Xid x = Xid y) : x = y := by
 have key : ∀ i, i < 8 → (BitVec.ofInt 64 x).toNat / 2 ^ (8 * i) % 256 = (BitVec.ofInt 64 y).toNat / 2 ^ (8 * i) % 256 := fun i hi => by
  have h1 : (Xid x)[i + 1]? = (Xid y)[i + 1]? := by rw [h]
  simp only [Xid, List.getElem?_cons_succ, List.getElem?_map, List.getElem?_range hi, Option.map_some, Option.some.injEq] at h1
  rw [← Xn2, ← Xn2, h1]
 have k0 := key 0 (by omega)
 have k1 := key 1 (by omega)
 have k2 := key 2 (by omega)
 have k3 := key 3 (by omega)
 have k4 := key 4 (by omega)
 have k5 := key 5 (by omega)
 have k6 := key 6 (by omega)
 have k7 := key 7 (by omega)
 simp only [Nat.reduceMul, Nat.reducePow] at k0 k1 k2 k3 k4 k5 k6 k7
 have hX := (BitVec.ofInt 64 x).isLt
 have hY := (BitVec.ofInt 64 y).isLt
 have e : (BitVec.ofInt 64 x).toNat = (BitVec.ofInt 64 y).toNat := by
  generalize (BitVec.ofInt 64 x).toNat = X at *
  generalize (BitVec.ofInt 64 y).toNat = Y at *
  omega
 rw [BitVec.toNat_ofInt, BitVec.toNat_ofInt] at e
 unfold Xm1 at hx hy
 omega
theorem Xjl {α : Type} {a b x y : List α} (hl : a.length = b.length) (h : a ++ x = b ++ y) : a = b ∧ x = y := List.append_inj h hl
theorem Xkk : ∀ {l m : List (List UInt8)} {x y : List UInt8}, l.length = m.length → (∀ b, b ∈ l → b.length ≤ 1000000) → (∀ b, b ∈ m → b.length ≤ 1000000) → Xi5 l ++ x = Xi5 m ++ y → l = m ∧ x = y
 | [], [], x, y, _, _, _, h => ⟨rfl, h⟩
 | [], _ :: _, _, _, h, _, _, _ => by simp at h
 | _ :: _, [], _, _, h, _, _, _ => by simp at h
 | b :: l, c :: m, x, y, hl, hb, hc, h => by
  have hb1 := hb b (by simp)
  have hc1 := hc c (by simp)
  simp only [Xi5, List.flatMap_cons, List.append_assoc] at h
  obtain ⟨h1, h2⟩ := Xjl (by rw [Xhf, Xhf]) h
  have h3 := Xjk (by unfold Xm1; omega) (by unfold Xm1; omega) h1
  obtain ⟨h4, h5⟩ := Xjl (by omega) h2
  obtain ⟨h6, h7⟩ := Xkk (l := l) (m := m) (by simpa using hl) (fun b h => hb b (by simp [h])) (fun b h => hc b (by simp [h])) h5
  exact ⟨by rw [h4, h6], h7⟩
theorem Xkl : ∀ {l m : List Wr}, l.length = m.length → (∀ b, b ∈ l → Xm1 b.at' ∧ b.data.length ≤ 1000000) → (∀ b, b ∈ m → Xm1 b.at' ∧ b.data.length ≤ 1000000) → Xi4 l = Xi4 m → l = m
 | [], [], _, _, _, _ => rfl
 | [], _ :: _, h, _, _, _ => by simp at h
 | _ :: _, [], h, _, _, _ => by simp at h
 | b :: l, c :: m, hl, hb, hc, h => by
  have hb1 := hb b (by simp)
  have hc1 := hc c (by simp)
  simp only [Xi4, List.flatMap_cons, List.append_assoc] at h
  obtain ⟨h1, h2⟩ := Xjl (by rw [Xhf, Xhf]) h
  have h3 := Xjk hb1.1 hc1.1 h1
  obtain ⟨h4, h5⟩ := Xjl (by rw [Xhf, Xhf]) h2
  have h6 := Xjk (by unfold Xm1; omega) (by unfold Xm1; omega) h4
  obtain ⟨h7, h8⟩ := Xjl (by omega) h5
  have h9 := Xkl (l := l) (m := m) (by simpa using hl) (fun b h => hb b (by simp [h])) (fun b h => hc b (by simp [h])) h8
  obtain ⟨ba, bd⟩ := b
  obtain ⟨ca, cd⟩ := c
  simp only at h3 h7
  rw [h3, h7, h9]
theorem Xl1 {α : Type} {p : α → α → Bool} (hp : ∀ x y, p x y = true ↔ x = y) : ∀ (l m : List α), Fv p l m = true ↔ l = m
 | [], [] => by simp [Fv]
 | x :: l, y :: m => by rw [Fv, Bool.and_eq_true, hp, Xl1 hp, List.cons.injEq]
 | [], _ :: _ => by simp [Fv]
 | _ :: _, [] => by simp [Fv]
theorem Xkm (a b : Dsk) : Xk0 a b = true ↔ a = b := by
 unfold Xk0
 rw [Bool.and_eq_true, Xl1 (fun x y => ?_), Xl1 (fun x y => by simp)]
 ·obtain ⟨s, w⟩ := a
  obtain ⟨s', w'⟩ := b
  simp [and_comm]
 ·obtain ⟨a, d⟩ := x
  obtain ⟨a', d'⟩ := y
  simp
def W64 (d : Dsk) : Prop := ∀ w, w ∈ d.waits → Xm1 w.at'
theorem Xmd (a b : Dsk) (ha : Small a) (hb : Small b) (wa : W64 a) (wb : W64 b) : Xkt a b = true ↔ a = b := by
 constructor
 ·intro h
  unfold Xkt at h
  simp only [Bool.and_eq_true, decide_eq_true_eq, beq_iff_eq] at h
  obtain ⟨⟨h1, h2⟩, h3⟩ := h
  unfold Xn7 at h3
  rw [List.append_assoc, List.append_assoc] at h3
  obtain ⟨h4, h5⟩ := Xkk h1 ha.sb hb.sb h3
  have h6 : Xi4 a.waits = Xi4 b.waits := by simpa using h5
  have h7 := Xkl h2 (fun w hw => ⟨wa w hw, ha.wb w hw⟩) (fun w hw => ⟨wb w hw, hb.wb w hw⟩) h6
  obtain ⟨s, w⟩ := a
  obtain ⟨s', w'⟩ := b
  simp only at h4 h7
  rw [h4, h7]
 ·rintro rfl
  exact Xjo a
theorem Xln (a b : Dsk) (ha : Small a) (hb : Small b) (wa : W64 a) (wb : W64 b) : Xkt a b = Xk0 a b := by
 rw [Bool.eq_iff_iff, Xmd a b ha hb wa wb, Xkm]
end Go.Proofs.Ytjgbbjooeibppaa
