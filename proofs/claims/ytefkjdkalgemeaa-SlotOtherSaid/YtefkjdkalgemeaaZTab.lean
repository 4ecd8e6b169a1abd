/-
  The table of the types of this seat, for the value-semantics layer. Written by a program (mktab.py).
-/
import Derived.Test.YtefkjdkalgemeaaZVsBits
import Derived.Test.YtefkjdkalgemeaaRows
import Derived.KernelRfl
namespace Go.Proofs.Ytefkjdkalgemeaa.Tab
open Go Go.VS
theorem tiok {P : Program} {t : TypeId} {ti : TI} {z : Value} (hu : P.underlying t = some ti.desc) (hi : (P.info? t).map (fun i => (i.size, i.bytes, i.zero)) = some (ti.size, ti.bytes, some z))
    (hz : z.cells.toList = ti.zero) (hl : ti.zero.all leafB = true) (hn : ti.zero.length = ti.size) (ha : ti.agg = isAggD ti.desc)
    (hp : ∀ fs, ti.desc = .struct fs → ∀ w, (fs.mapM fun f => (do pure (f.offset, ← sizeOf f.type) : Sem (Nat × Nat))).run P w = .ok ti.pl.toArray w) : TIok P t ti := by
  refine ⟨hu, ?_, hl, hn, ha, hp⟩
  cases h : P.info? t with
  | none => rw [h] at hi; cases hi
  | some i =>
    rw [h] at hi
    simp only [Option.map_some, Option.some.injEq, Prod.mk.injEq] at hi
    exact ⟨i, z, rfl, hi.1, hi.2.1, hi.2.2, hz⟩
abbrev ti1 : TI := { desc := .func #[] #[] false, size := 1, bytes := 8, zero := [.nilFunc], agg := false }
set_option maxRecDepth 100000 in
theorem ok1 : TIok Try.prog 1 ti1 := tiok (z := (.nilFunc)) (by kernel_rfl) (by kernel_rfl) rfl (by decide) rfl rfl (by intro fs h; cases h)
abbrev ti2 : TI := { desc := .int .i64, size := 1, bytes := 8, zero := [.int .i64 0], agg := false }
set_option maxRecDepth 100000 in
theorem ok2 : TIok Try.prog 2 ti2 := tiok (z := (.int .i64 0)) (by kernel_rfl) (by kernel_rfl) rfl (by decide) rfl rfl (by intro fs h; cases h)
abbrev ti3 : TI := { desc := .int .i64, size := 1, bytes := 8, zero := [.int .i64 0], agg := false }
set_option maxRecDepth 100000 in
theorem ok3 : TIok Try.prog 3 ti3 := tiok (z := (.int .i64 0)) (by kernel_rfl) (by kernel_rfl) rfl (by decide) rfl rfl (by intro fs h; cases h)
abbrev ti4 : TI := { desc := .bool, size := 1, bytes := 1, zero := [.bool false], agg := false }
set_option maxRecDepth 100000 in
theorem ok4 : TIok Try.prog 4 ti4 := tiok (z := (.bool false)) (by kernel_rfl) (by kernel_rfl) rfl (by decide) rfl rfl (by intro fs h; cases h)
abbrev ti5 : TI := { desc := .int .u8, size := 1, bytes := 1, zero := [.int .u8 0], agg := false }
set_option maxRecDepth 100000 in
theorem ok5 : TIok Try.prog 5 ti5 := tiok (z := (.int .u8 0)) (by kernel_rfl) (by kernel_rfl) rfl (by decide) rfl rfl (by intro fs h; cases h)
abbrev ti9 : TI := { desc := .string, size := 1, bytes := 16, zero := [.string ByteArray.empty], agg := false }
set_option maxRecDepth 100000 in
theorem ok9 : TIok Try.prog 9 ti9 := tiok (z := (.string ByteArray.empty)) (by kernel_rfl) (by kernel_rfl) rfl (by decide) rfl rfl (by intro fs h; cases h)
abbrev ti20 : TI := { desc := .interface #[], size := 1, bytes := 16, zero := [.nilIface], agg := false }
set_option maxRecDepth 100000 in
theorem ok20 : TIok Try.prog 20 ti20 := tiok (z := (.nilIface)) (by kernel_rfl) (by kernel_rfl) rfl (by decide) rfl rfl (by intro fs h; cases h)
abbrev ti22 : TI := { desc := .slice 37, size := 1, bytes := 24, zero := [.slice none 0 0], agg := false }
set_option maxRecDepth 100000 in
theorem ok22 : TIok Try.prog 22 ti22 := tiok (z := (.slice none 0 0)) (by kernel_rfl) (by kernel_rfl) rfl (by decide) rfl rfl (by intro fs h; cases h)
abbrev ti23 : TI := { desc := .slice 52, size := 1, bytes := 24, zero := [.slice none 0 0], agg := false }
set_option maxRecDepth 100000 in
theorem ok23 : TIok Try.prog 23 ti23 := tiok (z := (.slice none 0 0)) (by kernel_rfl) (by kernel_rfl) rfl (by decide) rfl rfl (by intro fs h; cases h)
abbrev ti24 : TI := { desc := .struct #[⟨ "Sectors", 22, 0, false, "", "", 0⟩, ⟨ "Waits", 23, 1, false, "", "", 24⟩], size := 2, bytes := 48, zero := [.slice none 0 0, .slice none 0 0], agg := true, pl := [(0, 1), (1, 1)] }
set_option maxRecDepth 100000 in
theorem ok24 : TIok Try.prog 24 ti24 := tiok (z := (.agg ([.slice none 0 0, .slice none 0 0] : List Value).toArray)) (by kernel_rfl) (by kernel_rfl) rfl (by decide) rfl rfl (by intro fs h; injection h with h; subst h; intro w; kernel_rfl)
abbrev ti25 : TI := { desc := .struct #[⟨ "Sectors", 22, 0, false, "", "", 0⟩, ⟨ "Waits", 23, 1, false, "", "", 24⟩], size := 2, bytes := 48, zero := [.slice none 0 0, .slice none 0 0], agg := true, pl := [(0, 1), (1, 1)] }
set_option maxRecDepth 100000 in
theorem ok25 : TIok Try.prog 25 ti25 := tiok (z := (.agg ([.slice none 0 0, .slice none 0 0] : List Value).toArray)) (by kernel_rfl) (by kernel_rfl) rfl (by decide) rfl rfl (by intro fs h; injection h with h; subst h; intro w; kernel_rfl)
abbrev ti26 : TI := { desc := .slice 3, size := 1, bytes := 24, zero := [.slice none 0 0], agg := false }
set_option maxRecDepth 100000 in
theorem ok26 : TIok Try.prog 26 ti26 := tiok (z := (.slice none 0 0)) (by kernel_rfl) (by kernel_rfl) rfl (by decide) rfl rfl (by intro fs h; cases h)
abbrev ti28 : TI := { desc := .int .i64, size := 1, bytes := 8, zero := [.int .i64 0], agg := false }
set_option maxRecDepth 100000 in
theorem ok28 : TIok Try.prog 28 ti28 := tiok (z := (.int .i64 0)) (by kernel_rfl) (by kernel_rfl) rfl (by decide) rfl rfl (by intro fs h; cases h)
abbrev ti37 : TI := { desc := .slice 5, size := 1, bytes := 24, zero := [.slice none 0 0], agg := false }
set_option maxRecDepth 100000 in
theorem ok37 : TIok Try.prog 37 ti37 := tiok (z := (.slice none 0 0)) (by kernel_rfl) (by kernel_rfl) rfl (by decide) rfl rfl (by intro fs h; cases h)
abbrev ti51 : TI := { desc := .struct #[⟨ "At", 3, 0, false, "", "", 0⟩, ⟨ "Data", 37, 1, false, "", "", 8⟩], size := 2, bytes := 32, zero := [.int .i64 0, .slice none 0 0], agg := true, pl := [(0, 1), (1, 1)] }
set_option maxRecDepth 100000 in
theorem ok51 : TIok Try.prog 51 ti51 := tiok (z := (.agg ([.int .i64 0, .slice none 0 0] : List Value).toArray)) (by kernel_rfl) (by kernel_rfl) rfl (by decide) rfl rfl (by intro fs h; injection h with h; subst h; intro w; kernel_rfl)
abbrev ti52 : TI := { desc := .struct #[⟨ "At", 3, 0, false, "", "", 0⟩, ⟨ "Data", 37, 1, false, "", "", 8⟩], size := 2, bytes := 32, zero := [.int .i64 0, .slice none 0 0], agg := true, pl := [(0, 1), (1, 1)] }
set_option maxRecDepth 100000 in
theorem ok52 : TIok Try.prog 52 ti52 := tiok (z := (.agg ([.int .i64 0, .slice none 0 0] : List Value).toArray)) (by kernel_rfl) (by kernel_rfl) rfl (by decide) rfl rfl (by intro fs h; injection h with h; subst h; intro w; kernel_rfl)
abbrev ti63 : TI := { desc := .int .u32, size := 1, bytes := 4, zero := [.int .u32 0], agg := false }
set_option maxRecDepth 100000 in
theorem ok63 : TIok Try.prog 63 ti63 := tiok (z := (.int .u32 0)) (by kernel_rfl) (by kernel_rfl) rfl (by decide) rfl rfl (by intro fs h; cases h)
abbrev ti64 : TI := { desc := .struct #[⟨ "Gen", 63, 0, false, "", "", 0⟩, ⟨ "Text", 37, 1, false, "", "", 8⟩], size := 2, bytes := 32, zero := [.int .u32 0, .slice none 0 0], agg := true, pl := [(0, 1), (1, 1)] }
set_option maxRecDepth 100000 in
theorem ok64 : TIok Try.prog 64 ti64 := tiok (z := (.agg ([.int .u32 0, .slice none 0 0] : List Value).toArray)) (by kernel_rfl) (by kernel_rfl) rfl (by decide) rfl rfl (by intro fs h; injection h with h; subst h; intro w; kernel_rfl)
abbrev ti65 : TI := { desc := .struct #[⟨ "Gen", 63, 0, false, "", "", 0⟩, ⟨ "Text", 37, 1, false, "", "", 8⟩], size := 2, bytes := 32, zero := [.int .u32 0, .slice none 0 0], agg := true, pl := [(0, 1), (1, 1)] }
set_option maxRecDepth 100000 in
theorem ok65 : TIok Try.prog 65 ti65 := tiok (z := (.agg ([.int .u32 0, .slice none 0 0] : List Value).toArray)) (by kernel_rfl) (by kernel_rfl) rfl (by decide) rfl rfl (by intro fs h; injection h with h; subst h; intro w; kernel_rfl)
abbrev ti66 : TI := { desc := .slice 65, size := 1, bytes := 24, zero := [.slice none 0 0], agg := false }
set_option maxRecDepth 100000 in
theorem ok66 : TIok Try.prog 66 ti66 := tiok (z := (.slice none 0 0)) (by kernel_rfl) (by kernel_rfl) rfl (by decide) rfl rfl (by intro fs h; cases h)
abbrev ti89 : TI := { desc := .func #[3] #[4] false, size := 1, bytes := 8, zero := [.nilFunc], agg := false }
set_option maxRecDepth 100000 in
theorem ok89 : TIok Try.prog 89 ti89 := tiok (z := (.nilFunc)) (by kernel_rfl) (by kernel_rfl) rfl (by decide) rfl rfl (by intro fs h; cases h)
abbrev ti91 : TI := { desc := .func #[3] #[3] false, size := 1, bytes := 8, zero := [.nilFunc], agg := false }
set_option maxRecDepth 100000 in
theorem ok91 : TIok Try.prog 91 ti91 := tiok (z := (.nilFunc)) (by kernel_rfl) (by kernel_rfl) rfl (by decide) rfl rfl (by intro fs h; cases h)
abbrev ti96 : TI := { desc := .func #[52] #[52] false, size := 1, bytes := 8, zero := [.nilFunc], agg := false }
set_option maxRecDepth 100000 in
theorem ok96 : TIok Try.prog 96 ti96 := tiok (z := (.nilFunc)) (by kernel_rfl) (by kernel_rfl) rfl (by decide) rfl rfl (by intro fs h; cases h)
abbrev ti98 : TI := { desc := .func #[52] #[3] false, size := 1, bytes := 8, zero := [.nilFunc], agg := false }
set_option maxRecDepth 100000 in
theorem ok98 : TIok Try.prog 98 ti98 := tiok (z := (.nilFunc)) (by kernel_rfl) (by kernel_rfl) rfl (by decide) rfl rfl (by intro fs h; cases h)
abbrev ti99 : TI := { desc := .func #[52] #[37] false, size := 1, bytes := 8, zero := [.nilFunc], agg := false }
set_option maxRecDepth 100000 in
theorem ok99 : TIok Try.prog 99 ti99 := tiok (z := (.nilFunc)) (by kernel_rfl) (by kernel_rfl) rfl (by decide) rfl rfl (by intro fs h; cases h)
abbrev ti103 : TI := { desc := .func #[37] #[4] false, size := 1, bytes := 8, zero := [.nilFunc], agg := false }
set_option maxRecDepth 100000 in
theorem ok103 : TIok Try.prog 103 ti103 := tiok (z := (.nilFunc)) (by kernel_rfl) (by kernel_rfl) rfl (by decide) rfl rfl (by intro fs h; cases h)
abbrev ti105 : TI := { desc := .func #[37, 37] #[4] false, size := 1, bytes := 8, zero := [.nilFunc], agg := false }
set_option maxRecDepth 100000 in
theorem ok105 : TIok Try.prog 105 ti105 := tiok (z := (.nilFunc)) (by kernel_rfl) (by kernel_rfl) rfl (by decide) rfl rfl (by intro fs h; cases h)
abbrev ti106 : TI := { desc := .func #[52, 52] #[4] false, size := 1, bytes := 8, zero := [.nilFunc], agg := false }
set_option maxRecDepth 100000 in
theorem ok106 : TIok Try.prog 106 ti106 := tiok (z := (.nilFunc)) (by kernel_rfl) (by kernel_rfl) rfl (by decide) rfl rfl (by intro fs h; cases h)
abbrev ti110 : TI := { desc := .func #[37] #[37] false, size := 1, bytes := 8, zero := [.nilFunc], agg := false }
set_option maxRecDepth 100000 in
theorem ok110 : TIok Try.prog 110 ti110 := tiok (z := (.nilFunc)) (by kernel_rfl) (by kernel_rfl) rfl (by decide) rfl rfl (by intro fs h; cases h)
abbrev ti117 : TI := { desc := .int .u64, size := 1, bytes := 8, zero := [.int .u64 0], agg := false }
set_option maxRecDepth 100000 in
theorem ok117 : TIok Try.prog 117 ti117 := tiok (z := (.int .u64 0)) (by kernel_rfl) (by kernel_rfl) rfl (by decide) rfl rfl (by intro fs h; cases h)
abbrev ti118 : TI := { desc := .slice 63, size := 1, bytes := 24, zero := [.slice none 0 0], agg := false }
set_option maxRecDepth 100000 in
theorem ok118 : TIok Try.prog 118 ti118 := tiok (z := (.slice none 0 0)) (by kernel_rfl) (by kernel_rfl) rfl (by decide) rfl rfl (by intro fs h; cases h)
abbrev ti120 : TI := { desc := .int .u64, size := 1, bytes := 8, zero := [.int .u64 0], agg := false }
set_option maxRecDepth 100000 in
theorem ok120 : TIok Try.prog 120 ti120 := tiok (z := (.int .u64 0)) (by kernel_rfl) (by kernel_rfl) rfl (by decide) rfl rfl (by intro fs h; cases h)
abbrev ti122 : TI := { desc := .func #[139] #[] false, size := 1, bytes := 8, zero := [.nilFunc], agg := false }
set_option maxRecDepth 100000 in
theorem ok122 : TIok Try.prog 122 ti122 := tiok (z := (.nilFunc)) (by kernel_rfl) (by kernel_rfl) rfl (by decide) rfl rfl (by intro fs h; cases h)
abbrev ti123 : TI := { desc := .func #[139] #[] false, size := 1, bytes := 8, zero := [.nilFunc], agg := false }
set_option maxRecDepth 100000 in
theorem ok123 : TIok Try.prog 123 ti123 := tiok (z := (.nilFunc)) (by kernel_rfl) (by kernel_rfl) rfl (by decide) rfl rfl (by intro fs h; cases h)
abbrev ti127 : TI := { desc := .slice 22, size := 1, bytes := 24, zero := [.slice none 0 0], agg := false }
set_option maxRecDepth 100000 in
theorem ok127 : TIok Try.prog 127 ti127 := tiok (z := (.slice none 0 0)) (by kernel_rfl) (by kernel_rfl) rfl (by decide) rfl rfl (by intro fs h; cases h)
abbrev ti128 : TI := { desc := .func #[22, 3] #[22] false, size := 1, bytes := 8, zero := [.nilFunc], agg := false }
set_option maxRecDepth 100000 in
theorem ok128 : TIok Try.prog 128 ti128 := tiok (z := (.nilFunc)) (by kernel_rfl) (by kernel_rfl) rfl (by decide) rfl rfl (by intro fs h; cases h)
abbrev ti132 : TI := { desc := .func #[103] #[] false, size := 1, bytes := 8, zero := [.nilFunc], agg := false }
set_option maxRecDepth 100000 in
theorem ok132 : TIok Try.prog 132 ti132 := tiok (z := (.nilFunc)) (by kernel_rfl) (by kernel_rfl) rfl (by decide) rfl rfl (by intro fs h; cases h)
abbrev ti133 : TI := { desc := .func #[103] #[] false, size := 1, bytes := 8, zero := [.nilFunc], agg := false }
set_option maxRecDepth 100000 in
theorem ok133 : TIok Try.prog 133 ti133 := tiok (z := (.nilFunc)) (by kernel_rfl) (by kernel_rfl) rfl (by decide) rfl rfl (by intro fs h; cases h)
abbrev ti135 : TI := { desc := .array 128 5, size := 128, bytes := 128, zero := List.replicate 128 (.int .u8 0), agg := true }
set_option maxRecDepth 100000 in
theorem ok135 : TIok Try.prog 135 ti135 := tiok (z := (.agg (List.replicate 128 (.int .u8 0) : List Value).toArray)) (by kernel_rfl) (by kernel_rfl) rfl (by decide) rfl rfl (by intro fs h; cases h)
abbrev ti139 : TI := { desc := .func #[3, 37] #[4] false, size := 1, bytes := 8, zero := [.nilFunc], agg := false }
set_option maxRecDepth 100000 in
theorem ok139 : TIok Try.prog 139 ti139 := tiok (z := (.nilFunc)) (by kernel_rfl) (by kernel_rfl) rfl (by decide) rfl rfl (by intro fs h; cases h)
abbrev ti141 : TI := { desc := .func #[] #[5] false, size := 1, bytes := 8, zero := [.nilFunc], agg := false }
set_option maxRecDepth 100000 in
theorem ok141 : TIok Try.prog 141 ti141 := tiok (z := (.nilFunc)) (by kernel_rfl) (by kernel_rfl) rfl (by decide) rfl rfl (by intro fs h; cases h)
abbrev ti144 : TI := { desc := .array 256 63, size := 256, bytes := 1024, zero := List.replicate 256 (.int .u32 0), agg := true }
set_option maxRecDepth 100000 in
theorem ok144 : TIok Try.prog 144 ti144 := tiok (z := (.agg (List.replicate 256 (.int .u32 0) : List Value).toArray)) (by kernel_rfl) (by kernel_rfl) rfl (by decide) rfl rfl (by intro fs h; cases h)
abbrev ti146 : TI := { desc := .func #[63] #[63] false, size := 1, bytes := 8, zero := [.nilFunc], agg := false }
set_option maxRecDepth 100000 in
theorem ok146 : TIok Try.prog 146 ti146 := tiok (z := (.nilFunc)) (by kernel_rfl) (by kernel_rfl) rfl (by decide) rfl rfl (by intro fs h; cases h)
def tab : TypeId → Option TI := fun t =>
  match t with
  | 1 => some ti1
  | 2 => some ti2
  | 3 => some ti3
  | 4 => some ti4
  | 5 => some ti5
  | 9 => some ti9
  | 20 => some ti20
  | 22 => some ti22
  | 23 => some ti23
  | 24 => some ti24
  | 25 => some ti25
  | 26 => some ti26
  | 28 => some ti28
  | 37 => some ti37
  | 51 => some ti51
  | 52 => some ti52
  | 63 => some ti63
  | 64 => some ti64
  | 65 => some ti65
  | 66 => some ti66
  | 89 => some ti89
  | 91 => some ti91
  | 96 => some ti96
  | 98 => some ti98
  | 99 => some ti99
  | 103 => some ti103
  | 105 => some ti105
  | 106 => some ti106
  | 110 => some ti110
  | 117 => some ti117
  | 118 => some ti118
  | 120 => some ti120
  | 122 => some ti122
  | 123 => some ti123
  | 127 => some ti127
  | 128 => some ti128
  | 132 => some ti132
  | 133 => some ti133
  | 135 => some ti135
  | 139 => some ti139
  | 141 => some ti141
  | 144 => some ti144
  | 146 => some ti146
  | _ => none
theorem tab_ok : TabOk Try.prog tab := by
  intro t ti h
  unfold tab at h
  split at h
  · cases h; exact ok1
  · cases h; exact ok2
  · cases h; exact ok3
  · cases h; exact ok4
  · cases h; exact ok5
  · cases h; exact ok9
  · cases h; exact ok20
  · cases h; exact ok22
  · cases h; exact ok23
  · cases h; exact ok24
  · cases h; exact ok25
  · cases h; exact ok26
  · cases h; exact ok28
  · cases h; exact ok37
  · cases h; exact ok51
  · cases h; exact ok52
  · cases h; exact ok63
  · cases h; exact ok64
  · cases h; exact ok65
  · cases h; exact ok66
  · cases h; exact ok89
  · cases h; exact ok91
  · cases h; exact ok96
  · cases h; exact ok98
  · cases h; exact ok99
  · cases h; exact ok103
  · cases h; exact ok105
  · cases h; exact ok106
  · cases h; exact ok110
  · cases h; exact ok117
  · cases h; exact ok118
  · cases h; exact ok120
  · cases h; exact ok122
  · cases h; exact ok123
  · cases h; exact ok127
  · cases h; exact ok128
  · cases h; exact ok132
  · cases h; exact ok133
  · cases h; exact ok135
  · cases h; exact ok139
  · cases h; exact ok141
  · cases h; exact ok144
  · cases h; exact ok146
  · cases h
theorem follows : Try.prog.follows .mixedOrders = true := by kernel_rfl
theorem hb0 (f : Nat) (h2 : 2 < f) (hf : f < 117) : hasBody Try.prog f = True := hasBody_of (n := 117) (by kernel_rfl) f h2 hf
theorem hbT : hasBody Try.prog 3 ∧ hasBody Try.prog 4 ∧ hasBody Try.prog 5 ∧ hasBody Try.prog 6 ∧ hasBody Try.prog 7 ∧ hasBody Try.prog 8 ∧ hasBody Try.prog 9 ∧ hasBody Try.prog 10 ∧ hasBody Try.prog 11 ∧ hasBody Try.prog 12 ∧ hasBody Try.prog 13 ∧ hasBody Try.prog 14 ∧ hasBody Try.prog 15 ∧ hasBody Try.prog 16 ∧ hasBody Try.prog 17 ∧ hasBody Try.prog 18 ∧ hasBody Try.prog 19 ∧ hasBody Try.prog 20 ∧ hasBody Try.prog 21 ∧ hasBody Try.prog 22 ∧ hasBody Try.prog 23 ∧ hasBody Try.prog 24 ∧ hasBody Try.prog 25 ∧ hasBody Try.prog 26 ∧ hasBody Try.prog 27 ∧ hasBody Try.prog 28 ∧ hasBody Try.prog 29 ∧ hasBody Try.prog 30 ∧ hasBody Try.prog 31 ∧ hasBody Try.prog 32 ∧ hasBody Try.prog 33 ∧ hasBody Try.prog 34 ∧ hasBody Try.prog 35 ∧ hasBody Try.prog 36 ∧ hasBody Try.prog 37 ∧ hasBody Try.prog 38 ∧ hasBody Try.prog 39 ∧ hasBody Try.prog 40 ∧ hasBody Try.prog 41 ∧ hasBody Try.prog 42 ∧ hasBody Try.prog 43 ∧ hasBody Try.prog 44 ∧ hasBody Try.prog 45 ∧ hasBody Try.prog 46 ∧ hasBody Try.prog 47 ∧ hasBody Try.prog 48 ∧ hasBody Try.prog 49 ∧ hasBody Try.prog 50 ∧ hasBody Try.prog 51 ∧ hasBody Try.prog 52 ∧ hasBody Try.prog 53 ∧ hasBody Try.prog 54 ∧ hasBody Try.prog 55 ∧ hasBody Try.prog 56 ∧ hasBody Try.prog 57 ∧ hasBody Try.prog 58 ∧ hasBody Try.prog 59 ∧ hasBody Try.prog 60 ∧ hasBody Try.prog 61 ∧ hasBody Try.prog 62 ∧ hasBody Try.prog 63 ∧ hasBody Try.prog 64 ∧ hasBody Try.prog 65 ∧ hasBody Try.prog 66 ∧ hasBody Try.prog 67 ∧ hasBody Try.prog 68 ∧ hasBody Try.prog 69 ∧ hasBody Try.prog 70 ∧ hasBody Try.prog 71 ∧ hasBody Try.prog 72 ∧ hasBody Try.prog 73 ∧ hasBody Try.prog 74 ∧ hasBody Try.prog 75 ∧ hasBody Try.prog 76 ∧ hasBody Try.prog 77 ∧ hasBody Try.prog 78 ∧ hasBody Try.prog 79 ∧ hasBody Try.prog 80 ∧ hasBody Try.prog 81 ∧ hasBody Try.prog 82 ∧ hasBody Try.prog 83 ∧ hasBody Try.prog 84 ∧ hasBody Try.prog 85 ∧ hasBody Try.prog 86 ∧ hasBody Try.prog 87 ∧ hasBody Try.prog 88 ∧ hasBody Try.prog 89 ∧ hasBody Try.prog 90 ∧ hasBody Try.prog 91 ∧ hasBody Try.prog 92 ∧ hasBody Try.prog 93 ∧ hasBody Try.prog 94 ∧ hasBody Try.prog 95 ∧ hasBody Try.prog 96 ∧ hasBody Try.prog 97 ∧ hasBody Try.prog 98 ∧ hasBody Try.prog 99 ∧ hasBody Try.prog 100 ∧ hasBody Try.prog 101 ∧ hasBody Try.prog 102 ∧ hasBody Try.prog 103 ∧ hasBody Try.prog 104 ∧ hasBody Try.prog 105 ∧ hasBody Try.prog 106 ∧ hasBody Try.prog 107 ∧ hasBody Try.prog 108 ∧ hasBody Try.prog 109 ∧ hasBody Try.prog 110 ∧ hasBody Try.prog 111 ∧ hasBody Try.prog 112 ∧ hasBody Try.prog 113 ∧ hasBody Try.prog 114 ∧ hasBody Try.prog 115 ∧ hasBody Try.prog 116 :=
  ⟨of_eq_true (hb0 3 (by decide) (by decide)), of_eq_true (hb0 4 (by decide) (by decide)), of_eq_true (hb0 5 (by decide) (by decide)), of_eq_true (hb0 6 (by decide) (by decide)), of_eq_true (hb0 7 (by decide) (by decide)), of_eq_true (hb0 8 (by decide) (by decide)), of_eq_true (hb0 9 (by decide) (by decide)), of_eq_true (hb0 10 (by decide) (by decide)), of_eq_true (hb0 11 (by decide) (by decide)), of_eq_true (hb0 12 (by decide) (by decide)), of_eq_true (hb0 13 (by decide) (by decide)), of_eq_true (hb0 14 (by decide) (by decide)), of_eq_true (hb0 15 (by decide) (by decide)), of_eq_true (hb0 16 (by decide) (by decide)), of_eq_true (hb0 17 (by decide) (by decide)), of_eq_true (hb0 18 (by decide) (by decide)), of_eq_true (hb0 19 (by decide) (by decide)), of_eq_true (hb0 20 (by decide) (by decide)), of_eq_true (hb0 21 (by decide) (by decide)), of_eq_true (hb0 22 (by decide) (by decide)), of_eq_true (hb0 23 (by decide) (by decide)), of_eq_true (hb0 24 (by decide) (by decide)), of_eq_true (hb0 25 (by decide) (by decide)), of_eq_true (hb0 26 (by decide) (by decide)), of_eq_true (hb0 27 (by decide) (by decide)), of_eq_true (hb0 28 (by decide) (by decide)), of_eq_true (hb0 29 (by decide) (by decide)), of_eq_true (hb0 30 (by decide) (by decide)), of_eq_true (hb0 31 (by decide) (by decide)), of_eq_true (hb0 32 (by decide) (by decide)), of_eq_true (hb0 33 (by decide) (by decide)), of_eq_true (hb0 34 (by decide) (by decide)), of_eq_true (hb0 35 (by decide) (by decide)), of_eq_true (hb0 36 (by decide) (by decide)), of_eq_true (hb0 37 (by decide) (by decide)), of_eq_true (hb0 38 (by decide) (by decide)), of_eq_true (hb0 39 (by decide) (by decide)), of_eq_true (hb0 40 (by decide) (by decide)), of_eq_true (hb0 41 (by decide) (by decide)), of_eq_true (hb0 42 (by decide) (by decide)), of_eq_true (hb0 43 (by decide) (by decide)), of_eq_true (hb0 44 (by decide) (by decide)), of_eq_true (hb0 45 (by decide) (by decide)), of_eq_true (hb0 46 (by decide) (by decide)), of_eq_true (hb0 47 (by decide) (by decide)), of_eq_true (hb0 48 (by decide) (by decide)), of_eq_true (hb0 49 (by decide) (by decide)), of_eq_true (hb0 50 (by decide) (by decide)), of_eq_true (hb0 51 (by decide) (by decide)), of_eq_true (hb0 52 (by decide) (by decide)), of_eq_true (hb0 53 (by decide) (by decide)), of_eq_true (hb0 54 (by decide) (by decide)), of_eq_true (hb0 55 (by decide) (by decide)), of_eq_true (hb0 56 (by decide) (by decide)), of_eq_true (hb0 57 (by decide) (by decide)), of_eq_true (hb0 58 (by decide) (by decide)), of_eq_true (hb0 59 (by decide) (by decide)), of_eq_true (hb0 60 (by decide) (by decide)), of_eq_true (hb0 61 (by decide) (by decide)), of_eq_true (hb0 62 (by decide) (by decide)), of_eq_true (hb0 63 (by decide) (by decide)), of_eq_true (hb0 64 (by decide) (by decide)), of_eq_true (hb0 65 (by decide) (by decide)), of_eq_true (hb0 66 (by decide) (by decide)), of_eq_true (hb0 67 (by decide) (by decide)), of_eq_true (hb0 68 (by decide) (by decide)), of_eq_true (hb0 69 (by decide) (by decide)), of_eq_true (hb0 70 (by decide) (by decide)), of_eq_true (hb0 71 (by decide) (by decide)), of_eq_true (hb0 72 (by decide) (by decide)), of_eq_true (hb0 73 (by decide) (by decide)), of_eq_true (hb0 74 (by decide) (by decide)), of_eq_true (hb0 75 (by decide) (by decide)), of_eq_true (hb0 76 (by decide) (by decide)), of_eq_true (hb0 77 (by decide) (by decide)), of_eq_true (hb0 78 (by decide) (by decide)), of_eq_true (hb0 79 (by decide) (by decide)), of_eq_true (hb0 80 (by decide) (by decide)), of_eq_true (hb0 81 (by decide) (by decide)), of_eq_true (hb0 82 (by decide) (by decide)), of_eq_true (hb0 83 (by decide) (by decide)), of_eq_true (hb0 84 (by decide) (by decide)), of_eq_true (hb0 85 (by decide) (by decide)), of_eq_true (hb0 86 (by decide) (by decide)), of_eq_true (hb0 87 (by decide) (by decide)), of_eq_true (hb0 88 (by decide) (by decide)), of_eq_true (hb0 89 (by decide) (by decide)), of_eq_true (hb0 90 (by decide) (by decide)), of_eq_true (hb0 91 (by decide) (by decide)), of_eq_true (hb0 92 (by decide) (by decide)), of_eq_true (hb0 93 (by decide) (by decide)), of_eq_true (hb0 94 (by decide) (by decide)), of_eq_true (hb0 95 (by decide) (by decide)), of_eq_true (hb0 96 (by decide) (by decide)), of_eq_true (hb0 97 (by decide) (by decide)), of_eq_true (hb0 98 (by decide) (by decide)), of_eq_true (hb0 99 (by decide) (by decide)), of_eq_true (hb0 100 (by decide) (by decide)), of_eq_true (hb0 101 (by decide) (by decide)), of_eq_true (hb0 102 (by decide) (by decide)), of_eq_true (hb0 103 (by decide) (by decide)), of_eq_true (hb0 104 (by decide) (by decide)), of_eq_true (hb0 105 (by decide) (by decide)), of_eq_true (hb0 106 (by decide) (by decide)), of_eq_true (hb0 107 (by decide) (by decide)), of_eq_true (hb0 108 (by decide) (by decide)), of_eq_true (hb0 109 (by decide) (by decide)), of_eq_true (hb0 110 (by decide) (by decide)), of_eq_true (hb0 111 (by decide) (by decide)), of_eq_true (hb0 112 (by decide) (by decide)), of_eq_true (hb0 113 (by decide) (by decide)), of_eq_true (hb0 114 (by decide) (by decide)), of_eq_true (hb0 115 (by decide) (by decide)), of_eq_true (hb0 116 (by decide) (by decide))⟩
end Go.Proofs.Ytefkjdkalgemeaa.Tab
