/-
  The value-semantics layer, part 14: words and bytes.
-/
import Derived.Test.YtgdhnngpfieloaaZVsSimp
namespace Go.VS
set_option linter.unusedVariables false
set_option linter.unusedSimpArgs false
open Go
abbrev b8 (x : UInt8) : AV := .val (.int .u8 (x.toNat : Int))
abbrev w32 (x : BitVec 32) : AV := .val (.int .u32 (x.toNat : Int))
abbrev w64 (x : BitVec 64) : AV := .val (.int .u64 (x.toNat : Int))
abbrev i64 (x : Int) : AV := .val (.int .i64 x)
abbrev bool (x : Bool) : AV := .val (.bool x)
theorem ofInt_nat {w n : Nat} : BitVec.ofInt w (n : Int) = BitVec.ofNat w n := by simp
theorem wrap_nat32 (x : BitVec 32) : IntKind.u32.wrap (x.toNat : Int) = (x.toNat : Int) := wrap_u32 (by omega) (by have := x.isLt; omega)
theorem wrap_nat8 (x : UInt8) : IntKind.u8.wrap (x.toNat : Int) = (x.toNat : Int) := wrap_u8 (by omega) (by have := x.toNat_lt; omega)
theorem w32_add (x y : BitVec 32) : IntKind.u32.wrap ((x.toNat : Int) + (y.toNat : Int)) = ((x + y).toNat : Int) := by
  rw [wrap_u32', BitVec.toNat_add]; omega
theorem w32_and (x y : BitVec 32) : evInt .and .u32 (x.toNat : Int) (y.toNat : Int) = some (.int .u32 ((x &&& y).toNat : Int)) := by
  show some (Value.int .u32 (IntKind.u32.wrap (((BitVec.ofInt 32 (x.toNat : Int) &&& BitVec.ofInt 32 (y.toNat : Int)).toNat : Nat) : Int))) = _
  rw [ofInt_nat, ofInt_nat, BitVec.ofNat_toNat, BitVec.ofNat_toNat, BitVec.setWidth_eq, BitVec.setWidth_eq, wrap_nat32]
theorem w32_or (x y : BitVec 32) : evInt .or .u32 (x.toNat : Int) (y.toNat : Int) = some (.int .u32 ((x ||| y).toNat : Int)) := by
  show some (Value.int .u32 (IntKind.u32.wrap (((BitVec.ofInt 32 (x.toNat : Int) ||| BitVec.ofInt 32 (y.toNat : Int)).toNat : Nat) : Int))) = _
  rw [ofInt_nat, ofInt_nat, BitVec.ofNat_toNat, BitVec.ofNat_toNat, BitVec.setWidth_eq, BitVec.setWidth_eq, wrap_nat32]
theorem w32_xor (x y : BitVec 32) : evInt .xor .u32 (x.toNat : Int) (y.toNat : Int) = some (.int .u32 ((x ^^^ y).toNat : Int)) := by
  show some (Value.int .u32 (IntKind.u32.wrap (((BitVec.ofInt 32 (x.toNat : Int) ^^^ BitVec.ofInt 32 (y.toNat : Int)).toNat : Nat) : Int))) = _
  rw [ofInt_nat, ofInt_nat, BitVec.ofNat_toNat, BitVec.ofNat_toNat, BitVec.setWidth_eq, BitVec.setWidth_eq, wrap_nat32]
theorem w32_not (x : BitVec 32) : IntKind.u32.wrap (((BitVec.ofInt IntKind.u32.bits (if IntKind.u32.signed then -1 else IntKind.u32.max) ^^^ BitVec.ofInt IntKind.u32.bits (x.toNat : Int)).toNat : Nat) : Int) = ((~~~x).toNat : Int) := by
  show IntKind.u32.wrap (((BitVec.ofInt 32 (4294967295 : Int) ^^^ BitVec.ofInt 32 (x.toNat : Int)).toNat : Nat) : Int) = ((~~~x).toNat : Int)
  have e : BitVec.ofInt 32 (4294967295 : Int) = BitVec.allOnes 32 := by decide
  rw [e, ofInt_nat, BitVec.ofNat_toNat, BitVec.setWidth_eq, wrap_nat32, BitVec.allOnes_xor]
theorem w32_shr (x : BitVec 32) {b : Int} (h : 0 ≤ b) : evInt .shr .u32 (x.toNat : Int) b = some (.int .u32 ((x >>> b.toNat).toNat : Int)) := by
  have hlt := x.isLt
  simp only [evInt, if_neg (Int.not_lt.2 h), IntKind.bits, BitVec.toNat_ushiftRight, Nat.shiftRight_eq_div_pow]
  congr 2
  have e : ((2 : Int) ^ min b.toNat 32) = ((2 ^ min b.toNat 32 : Nat) : Int) := by simp
  rw [e, Int.fdiv_eq_ediv_of_nonneg _ (Int.natCast_nonneg _), ← Int.natCast_ediv]
  congr 1
  rcases Nat.le_total b.toNat 32 with h1 | h1
  · rw [Nat.min_eq_left h1]
  · rw [Nat.min_eq_right h1, Nat.div_eq_of_lt hlt, Nat.div_eq_of_lt]
    exact Nat.lt_of_lt_of_le hlt (Nat.pow_le_pow_right (by decide) h1)
theorem w64_shr (x : BitVec 64) {b : Int} (h : 0 ≤ b) : evInt .shr .u64 (x.toNat : Int) b = some (.int .u64 ((x >>> b.toNat).toNat : Int)) := by
  have hlt := x.isLt
  simp only [evInt, if_neg (Int.not_lt.2 h), IntKind.bits, BitVec.toNat_ushiftRight, Nat.shiftRight_eq_div_pow]
  congr 2
  have e : ((2 : Int) ^ min b.toNat 64) = ((2 ^ min b.toNat 64 : Nat) : Int) := by simp
  rw [e, Int.fdiv_eq_ediv_of_nonneg _ (Int.natCast_nonneg _), ← Int.natCast_ediv]
  congr 1
  rcases Nat.le_total b.toNat 64 with h1 | h1
  · rw [Nat.min_eq_left h1]
  · rw [Nat.min_eq_right h1, Nat.div_eq_of_lt hlt, Nat.div_eq_of_lt]
    exact Nat.lt_of_lt_of_le hlt (Nat.pow_le_pow_right (by decide) h1)
theorem w32_shl (x : BitVec 32) {b : Int} (h : 0 ≤ b) : evInt .shl .u32 (x.toNat : Int) b = some (.int .u32 ((x <<< b.toNat).toNat : Int)) := by
  simp only [evInt, if_neg (Int.not_lt.2 h), IntKind.bits, BitVec.toNat_shiftLeft, Nat.shiftLeft_eq, wrap_u32']
  congr 2
  have e : ((2 : Int) ^ min b.toNat 32) = ((2 ^ min b.toNat 32 : Nat) : Int) := by simp
  rw [e, ← Int.natCast_mul]
  rcases Nat.le_total b.toNat 32 with h1 | h1
  · rw [Nat.min_eq_left h1]; omega
  · rw [Nat.min_eq_right h1]
    have h2 : x.toNat * 2 ^ b.toNat % 2 ^ 32 = 0 := Nat.mod_eq_zero_of_dvd (Nat.dvd_mul_left_of_dvd (Nat.pow_dvd_pow 2 h1) _)
    rw [h2]; omega
theorem addw {n : Nat} (k : Int) (k' : Nat) (e : k = k') (h : n + k' < 4611686018427387904) : IntKind.i64.wrap ((n : Int) + k) = ((n + k' : Nat) : Int) := by
  subst e; rw [wrap_i64] <;> omega
theorem subw {n : Nat} (k : Int) (k' : Nat) (e : k = k') (h : k' ≤ n) (h2 : n < 4611686018427387904) : IntKind.i64.wrap ((n : Int) - k) = ((n - k' : Nat) : Int) := by
  subst e; rw [wrap_i64] <;> omega
theorem mulw {n : Nat} (k : Int) (k' : Nat) (e : k = k') (h : k' * n < 4611686018427387904) : IntKind.i64.wrap (k * (n : Int)) = ((k' * n : Nat) : Int) := by
  subst e; rw [← Int.natCast_mul, wrap_i64] <;> omega
theorem nc : ((0 : Nat) : Int) = 0 ∧ ((1 : Nat) : Int) = 1 ∧ ((4 : Nat) : Int) = 4 ∧ ((8 : Nat) : Int) = 8 ∧ ((16 : Nat) : Int) = 16 ∧ ((32 : Nat) : Int) = 32 ∧ ((64 : Nat) : Int) = 64 := ⟨rfl, rfl, rfl, rfl, rfl, rfl, rfl⟩
theorem shl24 (x : BitVec 32) : evInt .shl .u32 (x.toNat : Int) 24 = some (.int .u32 ((x <<< 24).toNat : Int)) := w32_shl x (by decide)
theorem shl16 (x : BitVec 32) : evInt .shl .u32 (x.toNat : Int) 16 = some (.int .u32 ((x <<< 16).toNat : Int)) := w32_shl x (by decide)
theorem shl8 (x : BitVec 32) : evInt .shl .u32 (x.toNat : Int) 8 = some (.int .u32 ((x <<< 8).toNat : Int)) := w32_shl x (by decide)
theorem conv8_32 (x : UInt8) : IntKind.u32.wrap (x.toNat : Int) = ((BitVec.ofNat 32 x.toNat).toNat : Int) := by
  have := x.toNat_lt
  rw [wrap_u32', BitVec.toNat_ofNat]; omega
theorem conv32_64 (x : BitVec 32) : IntKind.u64.wrap (x.toNat : Int) = ((x.setWidth 64).toNat : Int) := by
  have := x.isLt
  rw [wrap_u64', BitVec.toNat_setWidth]; omega
theorem conv64_8 (x : BitVec 64) : IntKind.u8.wrap (x.toNat : Int) = ((UInt8.ofNat x.toNat).toNat : Int) := by
  rw [wrap_u8', UInt8.toNat_ofNat']; omega
theorem hd_map {α : Type} (f : α → AV) (l : List α) (k : Nat) (d : α) (h : k < l.length) : (List.drop k (List.map f l)).head? = some (f (l.getD k d)) := by
  rw [List.head?_drop, List.getElem?_map, List.getElem?_eq_getElem h, List.getD_eq_getElem?_getD, List.getElem?_eq_getElem h]; rfl
theorem pick_map {α : Type} (s : Nat) (f : α → AV) (l : List α) (k : Nat) (d : α) (h : k < l.length) : pick false s (List.drop k (List.map f l)) = some (f (l.getD k d)) := hd_map f l k d h
theorem pick_cons (s : Nat) (x : AV) (l : List AV) : pick false s (x :: l) = some x := rfl
theorem pk1 (x0 : AV) : pick true 1 [x0] = some (.agg [x0]) := rfl
theorem pq1 (x0 : AV) (l : List AV) : pick true 1 (x0 :: l) = some (.agg [x0]) := by simp [pick]
theorem pk2 (x0 x1 : AV) : pick true 2 [x0, x1] = some (.agg [x0, x1]) := rfl
theorem pq2 (x0 x1 : AV) (l : List AV) : pick true 2 (x0 :: x1 :: l) = some (.agg [x0, x1]) := by simp [pick]
theorem pk3 (x0 x1 x2 : AV) : pick true 3 [x0, x1, x2] = some (.agg [x0, x1, x2]) := rfl
theorem pq3 (x0 x1 x2 : AV) (l : List AV) : pick true 3 (x0 :: x1 :: x2 :: l) = some (.agg [x0, x1, x2]) := by simp [pick]
theorem pk4 (x0 x1 x2 x3 : AV) : pick true 4 [x0, x1, x2, x3] = some (.agg [x0, x1, x2, x3]) := rfl
theorem pq4 (x0 x1 x2 x3 : AV) (l : List AV) : pick true 4 (x0 :: x1 :: x2 :: x3 :: l) = some (.agg [x0, x1, x2, x3]) := by simp [pick]
theorem pk5 (x0 x1 x2 x3 x4 : AV) : pick true 5 [x0, x1, x2, x3, x4] = some (.agg [x0, x1, x2, x3, x4]) := rfl
theorem pq5 (x0 x1 x2 x3 x4 : AV) (l : List AV) : pick true 5 (x0 :: x1 :: x2 :: x3 :: x4 :: l) = some (.agg [x0, x1, x2, x3, x4]) := by simp [pick]
theorem pk6 (x0 x1 x2 x3 x4 x5 : AV) : pick true 6 [x0, x1, x2, x3, x4, x5] = some (.agg [x0, x1, x2, x3, x4, x5]) := rfl
theorem pq6 (x0 x1 x2 x3 x4 x5 : AV) (l : List AV) : pick true 6 (x0 :: x1 :: x2 :: x3 :: x4 :: x5 :: l) = some (.agg [x0, x1, x2, x3, x4, x5]) := by simp [pick]
theorem pk7 (x0 x1 x2 x3 x4 x5 x6 : AV) : pick true 7 [x0, x1, x2, x3, x4, x5, x6] = some (.agg [x0, x1, x2, x3, x4, x5, x6]) := rfl
theorem pq7 (x0 x1 x2 x3 x4 x5 x6 : AV) (l : List AV) : pick true 7 (x0 :: x1 :: x2 :: x3 :: x4 :: x5 :: x6 :: l) = some (.agg [x0, x1, x2, x3, x4, x5, x6]) := by simp [pick]
theorem pk8 (x0 x1 x2 x3 x4 x5 x6 x7 : AV) : pick true 8 [x0, x1, x2, x3, x4, x5, x6, x7] = some (.agg [x0, x1, x2, x3, x4, x5, x6, x7]) := rfl
theorem pq8 (x0 x1 x2 x3 x4 x5 x6 x7 : AV) (l : List AV) : pick true 8 (x0 :: x1 :: x2 :: x3 :: x4 :: x5 :: x6 :: x7 :: l) = some (.agg [x0, x1, x2, x3, x4, x5, x6, x7]) := by simp [pick]
theorem pk9 (x0 x1 x2 x3 x4 x5 x6 x7 x8 : AV) : pick true 9 [x0, x1, x2, x3, x4, x5, x6, x7, x8] = some (.agg [x0, x1, x2, x3, x4, x5, x6, x7, x8]) := rfl
theorem pq9 (x0 x1 x2 x3 x4 x5 x6 x7 x8 : AV) (l : List AV) : pick true 9 (x0 :: x1 :: x2 :: x3 :: x4 :: x5 :: x6 :: x7 :: x8 :: l) = some (.agg [x0, x1, x2, x3, x4, x5, x6, x7, x8]) := by simp [pick]
theorem pk10 (x0 x1 x2 x3 x4 x5 x6 x7 x8 x9 : AV) : pick true 10 [x0, x1, x2, x3, x4, x5, x6, x7, x8, x9] = some (.agg [x0, x1, x2, x3, x4, x5, x6, x7, x8, x9]) := rfl
theorem pq10 (x0 x1 x2 x3 x4 x5 x6 x7 x8 x9 : AV) (l : List AV) : pick true 10 (x0 :: x1 :: x2 :: x3 :: x4 :: x5 :: x6 :: x7 :: x8 :: x9 :: l) = some (.agg [x0, x1, x2, x3, x4, x5, x6, x7, x8, x9]) := by simp [pick]
theorem pk11 (x0 x1 x2 x3 x4 x5 x6 x7 x8 x9 x10 : AV) : pick true 11 [x0, x1, x2, x3, x4, x5, x6, x7, x8, x9, x10] = some (.agg [x0, x1, x2, x3, x4, x5, x6, x7, x8, x9, x10]) := rfl
theorem pq11 (x0 x1 x2 x3 x4 x5 x6 x7 x8 x9 x10 : AV) (l : List AV) : pick true 11 (x0 :: x1 :: x2 :: x3 :: x4 :: x5 :: x6 :: x7 :: x8 :: x9 :: x10 :: l) = some (.agg [x0, x1, x2, x3, x4, x5, x6, x7, x8, x9, x10]) := by simp [pick]
theorem pk12 (x0 x1 x2 x3 x4 x5 x6 x7 x8 x9 x10 x11 : AV) : pick true 12 [x0, x1, x2, x3, x4, x5, x6, x7, x8, x9, x10, x11] = some (.agg [x0, x1, x2, x3, x4, x5, x6, x7, x8, x9, x10, x11]) := rfl
theorem pq12 (x0 x1 x2 x3 x4 x5 x6 x7 x8 x9 x10 x11 : AV) (l : List AV) : pick true 12 (x0 :: x1 :: x2 :: x3 :: x4 :: x5 :: x6 :: x7 :: x8 :: x9 :: x10 :: x11 :: l) = some (.agg [x0, x1, x2, x3, x4, x5, x6, x7, x8, x9, x10, x11]) := by simp [pick]
theorem pick_all {n : Nat} {cs : List AV} (h : cs.length = n) : pick true n cs = some (.agg cs) := by
  subst h; simp [pick]
theorem splice_map {α : Type} (f : α → AV) (l : List α) (k : Nat) (x : α) (h : k < l.length) : splice (List.map f l) k [f x] = List.map f (l.set k x) := by
  have e : l.set k x = l.take k ++ x :: l.drop (k + 1) := by rw [List.set_eq_take_append_cons_drop, if_pos h]
  rw [e]
  simp only [splice, List.length_cons, List.length_nil, Nat.zero_add, List.map_append, List.map_take, List.map_cons, List.map_drop, List.append_assoc, List.cons_append, List.nil_append]
theorem spl_n (l : List AV) : splice l 0 [] = l := by simp [splice]
theorem spl_c (a x : AV) (l xs : List AV) : splice (a :: l) 0 (x :: xs) = x :: splice l 0 xs := by simp [splice]
theorem spl_s (a : AV) (l xs : List AV) (i : Nat) : splice (a :: l) (i + 1) xs = a :: splice l i xs := by
  simp only [splice, List.take_succ_cons, List.cons_append]
  rw [show i + 1 + xs.length = (i + xs.length) + 1 by omega, List.drop_succ_cons]
theorem splice_all {cs xs : List AV} (h : xs.length = cs.length) : splice cs 0 xs = xs := by
  simp [splice, List.drop_eq_nil_of_le, h]
def bld (T : TypeId → Option TI) (t : TypeId) (parts : List (Nat × AV)) : Option (List AV) :=
  match T t with
  | some ti => match ti.desc with
    | .struct _ => afill (placeS ti.pl) (ti.zero.map constAV) parts
    | .array _ e => match T e with
      | some te => afill (fun i => some (i * te.size, te.size)) (ti.zero.map constAV) parts
      | none => none
    | _ => none
  | none => none
theorem evBuild_of {T : TypeId → Option TI} {K : AV → List (Nat × Res) → Prop} {t : TypeId} {parts : List (Nat × AV)} (r : List AV) (h : bld T t parts = some r) (hK : K (.agg r) []) : evBuild T K t parts := by
  have e : evBuild T K t parts = match bld T t parts with
      | some r => K (.agg r) []
      | none => False := by
    unfold evBuild bld
    cases T t with
    | none => rfl
    | some ti =>
      dsimp only
      cases hd : ti.desc <;> try rfl
      rename_i n e
      dsimp only
      cases T e <;> rfl
  rw [e, h]; exact hK
def litB (T : TypeId → Option TI) (t : TypeId) (n : Nat) (parts : List (Nat × AV)) : Option (Nat × List (List AV)) :=
  match T t with
  | some si => match si.desc with
    | .slice e => match T e with
      | some te => if 0 < te.size ∧ n * te.size ≤ 16777216 then
          match afill (fun i => some (i * te.size, te.size)) (repZero te.zero (n * te.size)) parts with
          | some r => if r.length = n * te.size then some (te.size, chunk te.size n r) else none
          | none => none
        else none
      | none => none
    | _ => none
  | none => none
theorem evLit_of {T : TypeId → Option TI} {σ : AState} {K : AV → List (Nat × Res) → Prop} {t : TypeId} {n : Nat} {parts : List (Nat × AV)} (sz : Nat) (els : List (List AV)) (h : litB T t n parts = some (sz, els)) (hK : K (.sl sz els .full) []) : evLit T σ K none t n parts := by
  unfold litB at h
  unfold evLit
  cases hT : T t with
  | none => rw [hT] at h; cases h
  | some si =>
    rw [hT] at h
    dsimp only at h ⊢
    cases hd : si.desc <;> rw [hd] at h <;> first | (cases h; done) | skip
    rename_i e
    dsimp only at h ⊢
    cases he : T e with
    | none => rw [he] at h; cases h
    | some te =>
      rw [he] at h
      dsimp only at h ⊢
      split at h
      · rename_i h0
        split at h
        · rename_i r hr
          rw [hr]
          split at h
          · rename_i hl
            injection h with h
            obtain ⟨rfl, rfl⟩ := Prod.mk.inj h
            exact ⟨h0.1, h0.2, hl, hK⟩
          · cases h
        · cases h
      · cases h
theorem parts_val (v : Value) : AV.parts (.val v) = some [.val v] := rfl
theorem parts_agg (cs : List AV) : AV.parts (.agg cs) = some cs := rfl
theorem parts_slice (sz : Nat) (els : List (List AV)) (md : Md) : AV.parts (.sl sz els md) = some [.sl sz els md] := rfl
theorem parts_bsl (k o l : Nat) (f : Bool) : AV.parts (.bsl k o l f) = some [.bsl k o l f] := rfl
theorem parts_vsl (k m : Nat) : AV.parts (.vsl k m) = some [.vsl k m] := rfl
theorem parts_fn (f : Fn) (l : List AV) : AV.parts (.fn f l) = some [.fn f l] := rfl
theorem parts_iface (t : TypeId) (x : AV) : AV.parts (.iface t x) = some [.iface t x] := rfl
theorem parts_ref (cs : List AV) : AV.parts (.ref cs) = some [.ref cs] := rfl
theorem parts_ptr (k o : Nat) : AV.parts (.ptr k o) = some [.ptr k o] := rfl
theorem rep_map (n : Nat) (k : IntKind) : (List.replicate n (Value.int k 0)).map constAV = List.replicate n (.val (.int k 0)) := by simp [c_int]
theorem evLit_one {T : TypeId → Option TI} {σ : AState} {K : AV → List (Nat × Res) → Prop} {t e : TypeId} {ti te : TI} (ht : T t = some ti) (hd : ti.desc = .slice e) (he : T e = some te) (h1 : 0 < te.size) (h2 : te.size ≤ 16777216) {x : AV} {ps : List AV} (hp : x.parts = some ps) (hl : ps.length = te.size) :
    evLit T σ K none t 1 [(0, x)] = K (.sl te.size [ps] .full) [] := by
  have hz : (repZero te.zero (1 * te.size)).length = te.size := by simp [repZero]
  have hr : afill (fun i => some (i * te.size, te.size)) (repZero te.zero (1 * te.size)) [(0, x)] = some ps := by
    simp only [afill, hp, hl, Nat.zero_mul, Nat.zero_add, hz, Nat.le_refl, and_self, if_true, splice, List.take_zero, List.nil_append]
    rw [List.drop_of_length_le (by rw [hz]; exact Nat.le_refl _)]; simp
  have hc : chunk te.size 1 ps = [ps] := by
    simp only [chunk]
    rw [List.take_of_length_le (by omega)]
  rw [Nat.one_mul] at hr
  simp only [evLit, ht, hd, he, hr, h1, Nat.one_mul, h2, true_and, hl, hc]
theorem evLit_two {T : TypeId → Option TI} {σ : AState} {K : AV → List (Nat × Res) → Prop} {t e : TypeId} {ti te : TI} (ht : T t = some ti) (hd : ti.desc = .slice e) (he : T e = some te) (h1 : te.size = 1) {x y a b : AV} (hp : x.parts = some [a]) (hq : y.parts = some [b]) :
    evLit T σ K none t 2 [(0, x), (1, y)] = K (.sl 1 [[a], [b]] .full) [] := by
  have hz : (repZero te.zero 2).length = 2 := by simp [repZero]
  obtain ⟨z0, z1, hz2⟩ : ∃ z0 z1, repZero te.zero 2 = [z0, z1] := ⟨_, _, rfl⟩
  have hr : afill (fun i => some (i * te.size, te.size)) (repZero te.zero (2 * te.size)) [(0, x), (1, y)] = some [a, b] := by
    rw [h1, show 2 * 1 = 2 from rfl, hz2]
    simp [afill, hp, hq, splice]
  simp only [evLit, ht, hd, he, hr]
  simp [h1, chunk]
theorem af1 (z v : Value) : afill (fun i => some (i, 1)) (repZero [z] 1) [(0, .val v)] = some [.val v] := rfl
theorem af_c (pl : List (Nat × Nat)) (cs : List AV) (i : Nat) (x : AV) (l : List (Nat × AV)) : afill (placeS pl) cs ((i, x) :: l) = match placeS pl i, x.parts with
    | some (off, size), some xs => if xs.length = size ∧ off + size ≤ cs.length then afill (placeS pl) (splice cs off xs) l else none
    | _, _ => none := rfl
theorem plS_0 (p : Nat × Nat) (l : List (Nat × Nat)) : placeS (p :: l) 0 = some p := rfl
theorem plS_s (p : Nat × Nat) (l : List (Nat × Nat)) (i : Nat) : placeS (p :: l) (i + 1) = placeS l i := rfl
theorem af0 (f : Nat → Option (Nat × Nat)) (cs : List AV) : afill f cs [] = some cs := rfl
theorem ch0 (sz : Nat) (cs : List AV) : chunk sz 0 cs = [] := rfl
theorem rp0 (z : List Value) : repZero z 0 = [] := rfl
theorem ch1 (x : AV) : chunk 1 1 [x] = [[x]] := rfl
theorem bytes_snoc (l : List UInt8) (x : UInt8) : bytesAV l ++ [[.val (.int .u8 (x.toNat : Int))]] = bytesAV (l ++ [x]) := by simp [bytesAV]
theorem bytes_app (l l' : List UInt8) : bytesAV l ++ bytesAV l' = bytesAV (l ++ l') := by simp [bytesAV]
theorem bytes_drop (l : List UInt8) (n : Nat) : (bytesAV l).drop n = bytesAV (l.drop n) := by simp [bytesAV]
theorem bytes_take (l : List UInt8) (n : Nat) : (bytesAV l).take n = bytesAV (l.take n) := by simp [bytesAV]
theorem bytes_flat (l : List UInt8) : (bytesAV l).flatten = l.map b8 := by
  induction l with
  | nil => rfl
  | cons x l ih => simp only [bytesAV, List.map_cons, List.flatten_cons] at ih ⊢; rw [ih]; rfl
theorem bytes_nil : bytesAV [] = [] := rfl
theorem bytes_length (l : List UInt8) : (bytesAV l).length = l.length := by simp [bytesAV]
def be (x : BitVec 64) : Nat → List UInt8
  | 0 => []
  | m + 1 => UInt8.ofNat (x >>> (8 * m)).toNat :: be x m
theorem be_length (x : BitVec 64) : ∀ m, (be x m).length = m
  | 0 => rfl
  | m + 1 => by simp [be, be_length x m]
theorem be_take (x : BitVec 64) (m c : Nat) (h : c < m) : (be x m).take (c + 1) = (be x m).take c ++ [UInt8.ofNat (x >>> (8 * (m - 1 - c))).toNat] := by
  induction m generalizing c with
  | zero => omega
  | succ m ih =>
    cases c with
    | zero => simp [be]
    | succ c =>
      simp only [be, List.take_succ_cons, List.cons_append]
      rw [ih c (by omega)]
      have : m - 1 - c = m + 1 - 1 - (c + 1) := by omega
      rw [this]
theorem acall_split {P : Program} {f : FuncId} {sz : Nat} {els : List (List AV)} {rest : List AV} {needs : List (Nat × Option Res)} {r : AV} {gives : List (Nat × Res)} (hn : els = [] → ACall P f (.sl sz [] .nil :: rest) needs r gives)
    (hs : ACall P f (.sl sz els .nn :: rest) needs r gives) : ACall P f (.sl sz els .sh :: rest) needs r gives := fun M N vs hI hR h1 h2 h3 => by
  obtain ⟨hl, hr⟩ := hR
  have h0 : 0 < vs.size := by rw [← hl]; simp
  have hv0 : vs[0]? = some vs[0] := by simp [h0]
  have turn : ∀ x, R M x vs[0] → RL M (x :: rest) vs := fun x hx => ⟨hl, fun i c v hi hv => by
    cases i with
    | zero => simp at hi; subst hi; rw [hv0] at hv; injection hv with hv; rw [← hv]; exact hx
    | succ i => exact hr (i + 1) c v (by simpa using hi) hv⟩
  have hR0 := hr 0 _ _ rfl hv0
  generalize vs[0] = v at hR0 turn
  cases hR0 with
  | nil _ _ a q1 q2 =>
    cases a with
    | none => exact hn rfl M N vs hI (turn _ (.nil _ _ none (by intro h; cases h) (fun _ => rfl))) h1 h2 h3
    | some a => exact hs M N vs hI (turn _ (.nil _ _ (some a) (by intro _ h; cases h) (by intro h; cases h))) h1 h2 h3
  | slice _ _ _ a cap q1 q2 q3 q4 q5 q6 => exact hs M N vs hI (turn _ (.slice sz els .nn a cap q1 q2 q3 q4 q5 trivial)) h1 h2 h3
theorem acall_le {P : Program} {f : FuncId} {args args' : List AV} {needs : List (Nat × Option Res)} {r : AV} {gives : List (Nat × Res)} (h : ACall P f args needs r gives) (hle : leL args' args) : ACall P f args' needs r gives :=
  fun M N vs hI hR hn hN hu => h M N vs hI (hR.le hle) hn hN hu
def litX (T : TypeId → Option TI) (t : TypeId) (n : Nat) (parts : List (Nat × AV)) : Option (TypeId × List AV) :=
  match T t with
  | some si => match si.desc with
    | .slice e => match T e with
      | some te => if 0 < te.size ∧ n * te.size ≤ 16777216 then (afill (fun i => some (i * te.size, te.size)) (repZero te.zero (n * te.size)) parts).map fun r => (e, r) else none
      | none => none
    | _ => none
  | none => none
theorem evLit_box {T : TypeId → Option TI} {σ : AState} {K : AV → List (Nat × Res) → Prop} {b : Option Nat} {t : TypeId} {n : Nat} {parts : List (Nat × AV)} (e : TypeId) (r : List AV) (h : litX T t n parts = some (e, r)) (hf : freeN σ b)
    (hK : K (.bsl (nameOf σ b) 0 n true) [(nameOf σ b, .box e r)]) : evLit T σ K (some b) t n parts := by
  unfold litX at h
  unfold evLit
  cases hT : T t with
  | none => rw [hT] at h; cases h
  | some si =>
    rw [hT] at h
    dsimp only at h ⊢
    cases hd : si.desc <;> rw [hd] at h <;> first | (cases h; done) | skip
    rename_i e'
    dsimp only at h ⊢
    cases he : T e' with
    | none => rw [he] at h; cases h
    | some te =>
      rw [he] at h
      dsimp only at h ⊢
      split at h
      · rename_i hc
        obtain ⟨r', hr, h⟩ := Option.map_eq_some_iff.1 h
        injection h with h1 h2
        subst h1; subst h2
        rw [hr]
        exact ⟨hc.1, hc.2, hf, hK⟩
      · cases h
theorem chunk_b8 : ∀ (l : List UInt8), chunk 1 l.length (l.map b8) = bytesAV l
  | [] => rfl
  | x :: l => by
    have := chunk_b8 l
    simp only [List.length_cons, List.map_cons, chunk, List.take_succ_cons, List.take_zero, List.drop_succ_cons, List.drop_zero, this]
    rfl
theorem noughts (n : Nat) : chunk 1 n (repZero [Value.int .u8 0] n) = bytesAV (List.replicate n 0) := by
  have e : repZero [Value.int .u8 0] n = (List.replicate n 0).map b8 := by
    simp only [repZero, List.length_cons, List.length_nil, Nat.zero_add, Nat.mod_one, List.map_replicate, List.getD_cons_zero, c_int]
    rw [List.map_const', List.length_range]
    rfl
  rw [e]
  have := chunk_b8 (List.replicate n 0)
  rwa [List.length_replicate] at this
theorem chunk_b8' (l : List UInt8) {n : Nat} (h : l.length = n) : chunk 1 n (l.map b8) = bytesAV l := by subst h; exact chunk_b8 l
theorem toList_loop (bs : ByteArray) : ∀ (n i : Nat) (r : List UInt8), bs.size - i = n → ByteArray.toList.loop bs i r = r.reverse ++ bs.data.toList.drop i
  | 0, i, r, h => by
    unfold ByteArray.toList.loop
    rw [if_neg (by omega)]
    have : bs.data.toList.length ≤ i := by simp; have : bs.size = bs.data.size := rfl; omega
    rw [List.drop_eq_nil_of_le this, List.append_nil]
  | n + 1, i, r, h => by
    unfold ByteArray.toList.loop
    have hi : i < bs.size := by omega
    rw [if_pos hi, toList_loop bs n (i + 1) _ (by omega)]
    have hi' : i < bs.data.toList.length := by simpa using hi
    rw [List.drop_eq_getElem_cons hi', List.reverse_cons, List.append_assoc]
    have e : bs.get! i = bs.data.toList[i] := by
      show bs.data[i]! = _
      rw [getElem!_pos bs.data i hi]; simp
    rw [e]; rfl
theorem toList_str (l : List UInt8) : (⟨l.toArray⟩ : ByteArray).toList = l := by
  unfold ByteArray.toList
  rw [toList_loop _ _ _ _ rfl]
  simp
theorem bytesAV_inj : ∀ {l m : List UInt8}, bytesAV l = bytesAV m → l = m
  | [], [], _ => rfl
  | x :: l, y :: m, h => by
    simp only [bytesAV, List.map_cons, List.cons.injEq, AV.val.injEq, Value.int.injEq, true_and, and_true] at h
    have e : x = y := UInt8.toNat_inj.1 (by omega)
    rw [e, bytesAV_inj (l := l) (m := m) h.2]
  | [], _ :: _, h => by simp [bytesAV] at h
  | _ :: _, [], h => by simp [bytesAV] at h
theorem ex_bytes (l : List UInt8) (Q : List UInt8 → Prop) : (∃ l', bytesAV l = bytesAV l' ∧ Q l') ↔ Q l :=
  ⟨fun ⟨l', h, q⟩ => by rw [bytesAV_inj h]; exact q, fun q => ⟨l, rfl, q⟩⟩
theorem str_eq (a b : List UInt8) : ((⟨a.toArray⟩ : ByteArray).toList == (⟨b.toArray⟩ : ByteArray).toList) = (a == b) := by rw [toList_str, toList_str]
theorem bytes_get (l : List UInt8) (i : Nat) (h : i < l.length) : (bytesAV l).getD i [] = [b8 (l.getD i 0)] := by
  simp [bytesAV, List.getD_eq_getElem?_getD, h]
theorem by_xor (x y : UInt8) : evInt .xor .u8 (x.toNat : Int) (y.toNat : Int) = some (.int .u8 ((x ^^^ y).toNat : Int)) := by
  show some (Value.int .u8 (IntKind.u8.wrap (((BitVec.ofInt 8 (x.toBitVec.toNat : Int) ^^^ BitVec.ofInt 8 (y.toBitVec.toNat : Int)).toNat : Nat) : Int))) = _
  rw [ofInt_nat, ofInt_nat, BitVec.ofNat_toNat, BitVec.ofNat_toNat, BitVec.setWidth_eq, BitVec.setWidth_eq]
  exact congrArg (fun i => some (Value.int .u8 i)) (wrap_nat8 (x ^^^ y))
theorem by_or (x y : UInt8) : evInt .or .u8 (x.toNat : Int) (y.toNat : Int) = some (.int .u8 ((x ||| y).toNat : Int)) := by
  show some (Value.int .u8 (IntKind.u8.wrap (((BitVec.ofInt 8 (x.toBitVec.toNat : Int) ||| BitVec.ofInt 8 (y.toBitVec.toNat : Int)).toNat : Nat) : Int))) = _
  rw [ofInt_nat, ofInt_nat, BitVec.ofNat_toNat, BitVec.ofNat_toNat, BitVec.setWidth_eq, BitVec.setWidth_eq]
  exact congrArg (fun i => some (Value.int .u8 i)) (wrap_nat8 (x ||| y))
set_option linter.defProp false
def sx := And.intro @evLoad.eq_def <| And.intro @evStore.eq_def <| And.intro @evField.eq_def <| And.intro @evIdx.eq_def <| And.intro @evIndex.eq_def <| And.intro @evBin.eq_def <| And.intro @evUn.eq_def <| And.intro @evConv.eq_def <| And.intro @evSlice.eq_def <| And.intro @evAppend.eq_def <| And.intro @evLen.eq_def <| And.intro @evCopy.eq_def <| And.intro @r_nil <| And.intro @r_cons <| And.intro @r_guard <| And.intro @gsel_t <| And.intro @gsel_f <| And.intro @w_of <| And.intro @gs_0 <| And.intro @gs_s <| And.intro @wgo_some <| And.intro @wgd_t <| And.intro @wgd_n <| And.intro @bb_tf <| And.intro @bb_ft <| And.intro @bb_tt <| And.intro @bb_ff <| And.intro @bn_t <| And.intro @bn_f <| And.intro @rd_nil <| And.intro @rd_cons <| And.intro @rt_nil <| And.intro @rt_cons <| And.intro @contT_t <| And.intro @contT_nil <| And.intro @seen_eq <| And.intro @sn_nil <| And.intro @sn_cons <| And.intro @contR_f <| And.intro @contR_t <| And.intro @contD_nil <| And.intro @cD_one <| And.intro @e_tmp <| And.intro @e_const <| And.intro @e_func <| And.intro @c_int <| And.intro @c_bool <| And.intro @c_string <| And.intro @c_nil <| And.intro @c_nilf <| And.intro @c_nili <| And.intro @g_0 <| And.intro @g_s <| And.intro @s_0 <| And.intro @s_s <| And.intro @n_none <| And.intro @n_some <| And.intro @n_loc0 <| And.intro @n_loc1 <| And.intro @lk_loc <| And.intro @dm_loc <| And.intro @ff_none <| And.intro @ff_some <| And.intro @fa <| And.intro @nm_none <| And.intro @nm_some <| And.intro @fn_none <| And.intro @fn_some <| And.intro @bx_nil <| And.intro @bx_cons <| And.intro @vx_nil <| And.intro @vx_cons <| And.intro @o_nil <| And.intro @nil_ptr <| And.intro @nil_ref <| And.intro @o_move <| And.intro @o_assign <| And.intro @o_alloc <| And.intro @o_box <| And.intro @o_pick <| And.intro @o_load <| And.intro @o_store <| And.intro @o_bin <| And.intro @o_un <| And.intro @o_conv <| And.intro @o_build <| And.intro @o_lit <| And.intro @o_make <| And.intro @o_slice <| And.intro @o_faddr <| And.intro @o_field <| And.intro @o_iaddr <| And.intro @o_index <| And.intro @o_len <| And.intro @o_cap <| And.intro @o_append <| And.intro @o_copy <| And.intro @o_extract <| And.intro @o_arr <| And.intro @o_iface <| And.intro @o_func <| And.intro @o_assert <| And.intro @o_min <| And.intro @o_fn <| And.intro @o_call <| And.intro @af1 <| And.intro @af_c <| And.intro @plS_0 <| And.intro @plS_s <| And.intro @parts_bsl <| And.intro @parts_vsl <| And.intro @ch1 <| And.intro @af0 <| And.intro @ch0 <| And.intro @rp0 <| And.intro @Nat.zero_mul <| And.intro @Bool.and_false <| And.intro @Bool.and_true <| And.intro @Nat.one_ne_zero <| And.intro @spl_n <| And.intro @spl_c <| And.intro @spl_s <| And.intro @pick_cons <| And.intro @pk1 <| And.intro @pq1 <| And.intro @pk2 <| And.intro @pq2 <| And.intro @pk3 <| And.intro @pq3 <| And.intro @pk4 <| And.intro @pq4 <| And.intro @pk5 <| And.intro @pq5 <| And.intro @pk6 <| And.intro @pq6 <| And.intro @pk7 <| And.intro @pq7 <| And.intro @pk8 <| And.intro @pq8 <| And.intro @pk9 <| And.intro @pq9 <| And.intro @pk10 <| And.intro @pq10 <| And.intro @pk11 <| And.intro @pq11 <| And.intro @pk12 <| And.intro @pq12 <| And.intro @parts_val <| And.intro @parts_agg <| And.intro @parts_slice <| And.intro @parts_fn <| And.intro @parts_iface <| And.intro @parts_ref <| And.intro @parts_ptr <| And.intro @onV_some <| And.intro @i_add <| And.intro @i_sub <| And.intro @i_mul <| And.intro @i_eql <| And.intro @i_neq <| And.intro @i_lss <| And.intro @i_leq <| And.intro @i_gtr <| And.intro @i_geq <| And.intro @Nat.le_refl <| And.intro @Nat.zero_le <| And.intro @true_or <| And.intro @or_true <| And.intro @false_or <| And.intro @or_false <| And.intro @true_and <| And.intro @and_true <| And.intro @Bool.false_eq_true <| And.intro @Bool.true_or <| And.intro @Bool.false_or <| And.intro @Bool.or_false <| And.intro @Int.natCast_nonneg <| And.intro @Int.ofNat_lt <| And.intro @Int.toNat_natCast <| And.intro @Nat.mul_one <| And.intro @rep_map <| @Nat.zero_add
def sy := And.intro @List.nil_append.{0} <| And.intro @List.isEmpty_cons.{0} <| And.intro @List.isEmpty_nil.{0} <| And.intro @List.drop_zero.{0} <| And.intro @List.drop_succ_cons.{0} <| And.intro @Option.isSome_some.{0} <| And.intro @List.contains_nil.{0} <| And.intro @List.contains_cons.{0} <| And.intro @beq_self_eq_true.{0} <| And.intro @List.map_cons.{0, 0} <| And.intro @List.map_nil.{0, 0} <| And.intro @List.length_cons.{0} <| And.intro @List.length_nil.{0} <| And.intro @List.length_map.{0, 0} <| And.intro @List.length_replicate.{0} <| And.intro @List.getElem?_toArray.{0} <| And.intro @List.getElem?_cons_zero.{0} <| And.intro @List.getElem?_cons_succ.{0} <| And.intro @Option.join_some.{0} <| And.intro @Option.join_none.{0} <| And.intro @decide_true <| And.intro @decide_false <| @not_false_eq_true
def sl := And.intro @Int.cast_ofNat_Int <| And.intro @List.drop_zero.{0} <| And.intro @List.drop_succ_cons.{0} <| And.intro @List.take_succ_cons.{0} <| And.intro @List.take_zero.{0} <| And.intro @g_0 <| And.intro @g_s <| And.intro @s_0 <| And.intro @s_s <| And.intro @leL_cons <| And.intro @leL_nil <| And.intro @le_refl_iff <| And.intro @le_top_iff <| And.intro @le_nil_iff <| And.intro @le_nilo_iff <| And.intro @le_nilf_iff <| And.intro @le_sh_iff <| And.intro @le_slE_iff <| And.intro @le_slEs_iff <| And.intro @leE_refl_iff <| And.intro @leE_cons <| And.intro @leE_nil <| And.intro @leE_app <| And.intro @le_agg_iff <| And.intro @le_tup_iff <| And.intro @le_ref_iff <| And.intro @le_fn_iff <| And.intro @leL_refl_iff <| And.intro @leR_cons <| And.intro @leR_nil <| And.intro @leR_refl_iff <| And.intro @leR_box <| And.intro @leR_vec <| And.intro @true_and <| @and_true
def sm := And.intro @Int.cast_ofNat_Int <| And.intro @s_0 <| And.intro @s_s <| And.intro @mvL_cons <| And.intro @mvL_nil <| And.intro @mv_le_iff <| And.intro @mv_top_iff <| And.intro @mv_nil_iff <| And.intro @mv_nilo_iff <| And.intro @mv_sh_iff <| And.intro @kept_0 <| And.intro @kept_1 <| And.intro @kept_2 <| And.intro @kept_3 <| And.intro @kept_4 <| And.intro @kept_5 <| And.intro @mv_own <| And.intro @mv_ptr <| And.intro @mv_bsl <| And.intro @mv_vsl <| And.intro @mvL_refl <| And.intro @mvR_t <| And.intro @mvR_f <| And.intro @mvR_nil <| And.intro @mvRes_row <| And.intro @mvRes_none <| And.intro @mvRes_dead <| And.intro @mvRes_box <| And.intro @mvRes_vec <| And.intro @mvRes_pin <| And.intro @true_and <| @and_true
theorem le_toOutP {σ : AState} {i k : Nat} {q : Res} (l : List (Nat × AV)) {lo1 : List (Option Res)} (hi : σ.lo[i]? = some (some q)) (hk : k < σ.n0) (hfree : σ.out k = none) (h : mvL [true] (σ.n + i) k σ.fr (patch σ.fr l)) (hr : mvRL [true] (σ.n + i) k σ.lo lo1) :
    σ.le { σ with fr := patch σ.fr l, lo := lo1.set i (zombie (some q)), out := upd1 σ.out k q } := le_toOutL hi hk hfree h hr
end Go.VS
