/-
  The table of the types of this seat, for the value-semantics layer. Written by a program (mktab.py).
-/
import Derived.Test.YtefkjdkalgemeaaVsBits
import Derived.Test.YtefkjdkalgemeaaRows
import Derived.KernelRfl
namespace Go.Proofs.Ytefkjdkalgemeaa.Tab
open Go Go.VS

theorem tiok {P : Program} {t : TypeId} {ti : TI} {z : Value} (hu : P.underlying t = some ti.desc) (hi : (P.info? t).map (fun i => (i.size, i.bytes, i.zero)) = some (ti.size, ti.bytes, some z))
    (hz : z.cells.toList = ti.zero) (hl : ti.zero.all leafB = true) (hn : ti.zero.length = ti.size) (ha : ti.agg = isAggD ti.desc)
    (hp : ∀ fs, ti.desc = .struct fs → ∀ w, (fs.mapM fun f => (do pure (f.offset, ← sizeOf f.type) : Sem (Nat × Nat))).run P w = .ok ti.pl.toArray w) : TIok P t ti := by
  refine ⟨hu, ?_, hl, hn, ha, hp⟩
  cases h : P.info? t with
  | none => rw [h] at hi; cases hi
  | some i =>
    rw [h] at hi
    simp only [Option.map_some, Option.some.injEq, Prod.mk.injEq] at hi
    exact ⟨i, z, rfl, hi.1, hi.2.1, hi.2.2, hz⟩

/-- func() -/
abbrev ti1 : TI := { desc := .func #[] #[] false, size := 1, bytes := 8, zero := [.nilFunc], agg := false }
set_option maxRecDepth 100000 in
theorem ok1 : TIok Try.prog 1 ti1 := tiok (z := (.nilFunc)) (by kernel_rfl) (by kernel_rfl) rfl (by decide) rfl rfl (by intro fs h; cases h)
/-- int64 -/
abbrev ti2 : TI := { desc := .int .i64, size := 1, bytes := 8, zero := [.int .i64 0], agg := false }
set_option maxRecDepth 100000 in
theorem ok2 : TIok Try.prog 2 ti2 := tiok (z := (.int .i64 0)) (by kernel_rfl) (by kernel_rfl) rfl (by decide) rfl rfl (by intro fs h; cases h)
/-- int -/
abbrev ti3 : TI := { desc := .int .i64, size := 1, bytes := 8, zero := [.int .i64 0], agg := false }
set_option maxRecDepth 100000 in
theorem ok3 : TIok Try.prog 3 ti3 := tiok (z := (.int .i64 0)) (by kernel_rfl) (by kernel_rfl) rfl (by decide) rfl rfl (by intro fs h; cases h)
/-- bool -/
abbrev ti4 : TI := { desc := .bool, size := 1, bytes := 1, zero := [.bool false], agg := false }
set_option maxRecDepth 100000 in
theorem ok4 : TIok Try.prog 4 ti4 := tiok (z := (.bool false)) (by kernel_rfl) (by kernel_rfl) rfl (by decide) rfl rfl (by intro fs h; cases h)
/-- uint8 -/
abbrev ti5 : TI := { desc := .int .u8, size := 1, bytes := 1, zero := [.int .u8 0], agg := false }
set_option maxRecDepth 100000 in
theorem ok5 : TIok Try.prog 5 ti5 := tiok (z := (.int .u8 0)) (by kernel_rfl) (by kernel_rfl) rfl (by decide) rfl rfl (by intro fs h; cases h)
/-- string -/
abbrev ti9 : TI := { desc := .string, size := 1, bytes := 16, zero := [.string ByteArray.empty], agg := false }
set_option maxRecDepth 100000 in
theorem ok9 : TIok Try.prog 9 ti9 := tiok (z := (.string ByteArray.empty)) (by kernel_rfl) (by kernel_rfl) rfl (by decide) rfl rfl (by intro fs h; cases h)
/-- uintptr -/
abbrev ti12 : TI := { desc := .int .u64, size := 1, bytes := 8, zero := [.int .u64 0], agg := false }
set_option maxRecDepth 100000 in
theorem ok12 : TIok Try.prog 12 ti12 := tiok (z := (.int .u64 0)) (by kernel_rfl) (by kernel_rfl) rfl (by decide) rfl rfl (by intro fs h; cases h)
/-- interface {} -/
abbrev ti20 : TI := { desc := .interface #[], size := 1, bytes := 16, zero := [.nilIface], agg := false }
set_option maxRecDepth 100000 in
theorem ok20 : TIok Try.prog 20 ti20 := tiok (z := (.nilIface)) (by kernel_rfl) (by kernel_rfl) rfl (by decide) rfl rfl (by intro fs h; cases h)
/-- int32 -/
abbrev ti21 : TI := { desc := .int .i32, size := 1, bytes := 4, zero := [.int .i32 0], agg := false }
set_option maxRecDepth 100000 in
theorem ok21 : TIok Try.prog 21 ti21 := tiok (z := (.int .i32 0)) (by kernel_rfl) (by kernel_rfl) rfl (by decide) rfl rfl (by intro fs h; cases h)
/-- [][]uint8 -/
abbrev ti22 : TI := { desc := .slice 37, size := 1, bytes := 24, zero := [.slice none 0 0], agg := false }
set_option maxRecDepth 100000 in
theorem ok22 : TIok Try.prog 22 ti22 := tiok (z := (.slice none 0 0)) (by kernel_rfl) (by kernel_rfl) rfl (by decide) rfl rfl (by intro fs h; cases h)
/-- []api.Write -/
abbrev ti23 : TI := { desc := .slice 52, size := 1, bytes := 24, zero := [.slice none 0 0], agg := false }
set_option maxRecDepth 100000 in
theorem ok23 : TIok Try.prog 23 ti23 := tiok (z := (.slice none 0 0)) (by kernel_rfl) (by kernel_rfl) rfl (by decide) rfl rfl (by intro fs h; cases h)
/-- struct { Sectors [][]uint8; Waits []api.Write } -/
abbrev ti24 : TI := { desc := .struct #[⟨ "Sectors", 22, 0, false, "", "", 0⟩, ⟨ "Waits", 23, 1, false, "", "", 24⟩], size := 2, bytes := 48, zero := [.slice none 0 0, .slice none 0 0], agg := true, pl := [(0, 1), (1, 1)] }
set_option maxRecDepth 100000 in
theorem ok24 : TIok Try.prog 24 ti24 := tiok (z := (.agg ([.slice none 0 0, .slice none 0 0] : List Value).toArray)) (by kernel_rfl) (by kernel_rfl) rfl (by decide) rfl rfl (by intro fs h; injection h with h; subst h; intro w; kernel_rfl)
/-- leverframe/api.Disk -/
abbrev ti25 : TI := { desc := .struct #[⟨ "Sectors", 22, 0, false, "", "", 0⟩, ⟨ "Waits", 23, 1, false, "", "", 24⟩], size := 2, bytes := 48, zero := [.slice none 0 0, .slice none 0 0], agg := true, pl := [(0, 1), (1, 1)] }
set_option maxRecDepth 100000 in
theorem ok25 : TIok Try.prog 25 ti25 := tiok (z := (.agg ([.slice none 0 0, .slice none 0 0] : List Value).toArray)) (by kernel_rfl) (by kernel_rfl) rfl (by decide) rfl rfl (by intro fs h; injection h with h; subst h; intro w; kernel_rfl)
/-- []int -/
abbrev ti26 : TI := { desc := .slice 3, size := 1, bytes := 24, zero := [.slice none 0 0], agg := false }
set_option maxRecDepth 100000 in
theorem ok26 : TIok Try.prog 26 ti26 := tiok (z := (.slice none 0 0)) (by kernel_rfl) (by kernel_rfl) rfl (by decide) rfl rfl (by intro fs h; cases h)
/-- func(api.Disk) bool -/
abbrev ti27 : TI := { desc := .func #[25] #[4] false, size := 1, bytes := 8, zero := [.nilFunc], agg := false }
set_option maxRecDepth 100000 in
theorem ok27 : TIok Try.prog 27 ti27 := tiok (z := (.nilFunc)) (by kernel_rfl) (by kernel_rfl) rfl (by decide) rfl rfl (by intro fs h; cases h)
/-- leverframe/api.Errno -/
abbrev ti28 : TI := { desc := .int .i64, size := 1, bytes := 8, zero := [.int .i64 0], agg := false }
set_option maxRecDepth 100000 in
theorem ok28 : TIok Try.prog 28 ti28 := tiok (z := (.int .i64 0)) (by kernel_rfl) (by kernel_rfl) rfl (by decide) rfl rfl (by intro fs h; cases h)
/-- func(api.Disk, []int) (api.Disk, api.Errno) -/
abbrev ti30 : TI := { desc := .func #[25, 26] #[25, 28] false, size := 1, bytes := 8, zero := [.nilFunc], agg := false }
set_option maxRecDepth 100000 in
theorem ok30 : TIok Try.prog 30 ti30 := tiok (z := (.nilFunc)) (by kernel_rfl) (by kernel_rfl) rfl (by decide) rfl rfl (by intro fs h; cases h)
/-- func(api.Disk, []int) (api.Disk, int) -/
abbrev ti32 : TI := { desc := .func #[25, 26] #[25, 3] false, size := 1, bytes := 8, zero := [.nilFunc], agg := false }
set_option maxRecDepth 100000 in
theorem ok32 : TIok Try.prog 32 ti32 := tiok (z := (.nilFunc)) (by kernel_rfl) (by kernel_rfl) rfl (by decide) rfl rfl (by intro fs h; cases h)
/-- func(api.Disk, int, int, uint8) (api.Disk, api.Errno) -/
abbrev ti33 : TI := { desc := .func #[25, 3, 3, 5] #[25, 28] false, size := 1, bytes := 8, zero := [.nilFunc], agg := false }
set_option maxRecDepth 100000 in
theorem ok33 : TIok Try.prog 33 ti33 := tiok (z := (.nilFunc)) (by kernel_rfl) (by kernel_rfl) rfl (by decide) rfl rfl (by intro fs h; cases h)
/-- func(api.Disk, int, int, uint8) (api.Disk, int) -/
abbrev ti34 : TI := { desc := .func #[25, 3, 3, 5] #[25, 3] false, size := 1, bytes := 8, zero := [.nilFunc], agg := false }
set_option maxRecDepth 100000 in
theorem ok34 : TIok Try.prog 34 ti34 := tiok (z := (.nilFunc)) (by kernel_rfl) (by kernel_rfl) rfl (by decide) rfl rfl (by intro fs h; cases h)
/-- func(api.Disk, api.Disk) bool -/
abbrev ti35 : TI := { desc := .func #[25, 25] #[4] false, size := 1, bytes := 8, zero := [.nilFunc], agg := false }
set_option maxRecDepth 100000 in
theorem ok35 : TIok Try.prog 35 ti35 := tiok (z := (.nilFunc)) (by kernel_rfl) (by kernel_rfl) rfl (by decide) rfl rfl (by intro fs h; cases h)
/-- func(api.Disk, []int, int, int, uint8) bool -/
abbrev ti36 : TI := { desc := .func #[25, 26, 3, 3, 5] #[4] false, size := 1, bytes := 8, zero := [.nilFunc], agg := false }
set_option maxRecDepth 100000 in
theorem ok36 : TIok Try.prog 36 ti36 := tiok (z := (.nilFunc)) (by kernel_rfl) (by kernel_rfl) rfl (by decide) rfl rfl (by intro fs h; cases h)
/-- []uint8 -/
abbrev ti37 : TI := { desc := .slice 5, size := 1, bytes := 24, zero := [.slice none 0 0], agg := false }
set_option maxRecDepth 100000 in
theorem ok37 : TIok Try.prog 37 ti37 := tiok (z := (.slice none 0 0)) (by kernel_rfl) (by kernel_rfl) rfl (by decide) rfl rfl (by intro fs h; cases h)
/-- func(api.Disk, int) ([]uint8, api.Errno) -/
abbrev ti39 : TI := { desc := .func #[25, 3] #[37, 28] false, size := 1, bytes := 8, zero := [.nilFunc], agg := false }
set_option maxRecDepth 100000 in
theorem ok39 : TIok Try.prog 39 ti39 := tiok (z := (.nilFunc)) (by kernel_rfl) (by kernel_rfl) rfl (by decide) rfl rfl (by intro fs h; cases h)
/-- func(api.Disk, int) ([]uint8, int) -/
abbrev ti41 : TI := { desc := .func #[25, 3] #[37, 3] false, size := 1, bytes := 8, zero := [.nilFunc], agg := false }
set_option maxRecDepth 100000 in
theorem ok41 : TIok Try.prog 41 ti41 := tiok (z := (.nilFunc)) (by kernel_rfl) (by kernel_rfl) rfl (by decide) rfl rfl (by intro fs h; cases h)
/-- func(api.Disk, int, []uint8) (api.Disk, api.Errno) -/
abbrev ti42 : TI := { desc := .func #[25, 3, 37] #[25, 28] false, size := 1, bytes := 8, zero := [.nilFunc], agg := false }
set_option maxRecDepth 100000 in
theorem ok42 : TIok Try.prog 42 ti42 := tiok (z := (.nilFunc)) (by kernel_rfl) (by kernel_rfl) rfl (by decide) rfl rfl (by intro fs h; cases h)
/-- func(api.Disk, int, []uint8) (api.Disk, int) -/
abbrev ti43 : TI := { desc := .func #[25, 3, 37] #[25, 3] false, size := 1, bytes := 8, zero := [.nilFunc], agg := false }
set_option maxRecDepth 100000 in
theorem ok43 : TIok Try.prog 43 ti43 := tiok (z := (.nilFunc)) (by kernel_rfl) (by kernel_rfl) rfl (by decide) rfl rfl (by intro fs h; cases h)
/-- func(api.Disk) (api.Disk, api.Errno) -/
abbrev ti44 : TI := { desc := .func #[25] #[25, 28] false, size := 1, bytes := 8, zero := [.nilFunc], agg := false }
set_option maxRecDepth 100000 in
theorem ok44 : TIok Try.prog 44 ti44 := tiok (z := (.nilFunc)) (by kernel_rfl) (by kernel_rfl) rfl (by decide) rfl rfl (by intro fs h; cases h)
/-- func(api.Disk) (api.Disk, int) -/
abbrev ti45 : TI := { desc := .func #[25] #[25, 3] false, size := 1, bytes := 8, zero := [.nilFunc], agg := false }
set_option maxRecDepth 100000 in
theorem ok45 : TIok Try.prog 45 ti45 := tiok (z := (.nilFunc)) (by kernel_rfl) (by kernel_rfl) rfl (by decide) rfl rfl (by intro fs h; cases h)
/-- func(api.Disk) api.Errno -/
abbrev ti46 : TI := { desc := .func #[25] #[28] false, size := 1, bytes := 8, zero := [.nilFunc], agg := false }
set_option maxRecDepth 100000 in
theorem ok46 : TIok Try.prog 46 ti46 := tiok (z := (.nilFunc)) (by kernel_rfl) (by kernel_rfl) rfl (by decide) rfl rfl (by intro fs h; cases h)
/-- func(api.Disk) int -/
abbrev ti47 : TI := { desc := .func #[25] #[3] false, size := 1, bytes := 8, zero := [.nilFunc], agg := false }
set_option maxRecDepth 100000 in
theorem ok47 : TIok Try.prog 47 ti47 := tiok (z := (.nilFunc)) (by kernel_rfl) (by kernel_rfl) rfl (by decide) rfl rfl (by intro fs h; cases h)
/-- func() api.Disk -/
abbrev ti48 : TI := { desc := .func #[] #[25] false, size := 1, bytes := 8, zero := [.nilFunc], agg := false }
set_option maxRecDepth 100000 in
theorem ok48 : TIok Try.prog 48 ti48 := tiok (z := (.nilFunc)) (by kernel_rfl) (by kernel_rfl) rfl (by decide) rfl rfl (by intro fs h; cases h)
/-- func(api.Disk, int, []uint8) bool -/
abbrev ti49 : TI := { desc := .func #[25, 3, 37] #[4] false, size := 1, bytes := 8, zero := [.nilFunc], agg := false }
set_option maxRecDepth 100000 in
theorem ok49 : TIok Try.prog 49 ti49 := tiok (z := (.nilFunc)) (by kernel_rfl) (by kernel_rfl) rfl (by decide) rfl rfl (by intro fs h; cases h)
/-- func() bool -/
abbrev ti50 : TI := { desc := .func #[] #[4] false, size := 1, bytes := 8, zero := [.nilFunc], agg := false }
set_option maxRecDepth 100000 in
theorem ok50 : TIok Try.prog 50 ti50 := tiok (z := (.nilFunc)) (by kernel_rfl) (by kernel_rfl) rfl (by decide) rfl rfl (by intro fs h; cases h)
/-- struct { At int; Data []uint8 } -/
abbrev ti51 : TI := { desc := .struct #[⟨ "At", 3, 0, false, "", "", 0⟩, ⟨ "Data", 37, 1, false, "", "", 8⟩], size := 2, bytes := 32, zero := [.int .i64 0, .slice none 0 0], agg := true, pl := [(0, 1), (1, 1)] }
set_option maxRecDepth 100000 in
theorem ok51 : TIok Try.prog 51 ti51 := tiok (z := (.agg ([.int .i64 0, .slice none 0 0] : List Value).toArray)) (by kernel_rfl) (by kernel_rfl) rfl (by decide) rfl rfl (by intro fs h; injection h with h; subst h; intro w; kernel_rfl)
/-- leverframe/api.Write -/
abbrev ti52 : TI := { desc := .struct #[⟨ "At", 3, 0, false, "", "", 0⟩, ⟨ "Data", 37, 1, false, "", "", 8⟩], size := 2, bytes := 32, zero := [.int .i64 0, .slice none 0 0], agg := true, pl := [(0, 1), (1, 1)] }
set_option maxRecDepth 100000 in
theorem ok52 : TIok Try.prog 52 ti52 := tiok (z := (.agg ([.int .i64 0, .slice none 0 0] : List Value).toArray)) (by kernel_rfl) (by kernel_rfl) rfl (by decide) rfl rfl (by intro fs h; injection h with h; subst h; intro w; kernel_rfl)
/-- func(api.Disk, []int, []int, int) bool -/
abbrev ti53 : TI := { desc := .func #[25, 26, 26, 3] #[4] false, size := 1, bytes := 8, zero := [.nilFunc], agg := false }
set_option maxRecDepth 100000 in
theorem ok53 : TIok Try.prog 53 ti53 := tiok (z := (.nilFunc)) (by kernel_rfl) (by kernel_rfl) rfl (by decide) rfl rfl (by intro fs h; cases h)
/-- func(uint8) []uint8 -/
abbrev ti54 : TI := { desc := .func #[5] #[37] false, size := 1, bytes := 8, zero := [.nilFunc], agg := false }
set_option maxRecDepth 100000 in
theorem ok54 : TIok Try.prog 54 ti54 := tiok (z := (.nilFunc)) (by kernel_rfl) (by kernel_rfl) rfl (by decide) rfl rfl (by intro fs h; cases h)
/-- func(int) string -/
abbrev ti55 : TI := { desc := .func #[3] #[9] false, size := 1, bytes := 8, zero := [.nilFunc], agg := false }
set_option maxRecDepth 100000 in
theorem ok55 : TIok Try.prog 55 ti55 := tiok (z := (.nilFunc)) (by kernel_rfl) (by kernel_rfl) rfl (by decide) rfl rfl (by intro fs h; cases h)
/-- func(api.Disk, []int, int) bool -/
abbrev ti56 : TI := { desc := .func #[25, 26, 3] #[4] false, size := 1, bytes := 8, zero := [.nilFunc], agg := false }
set_option maxRecDepth 100000 in
theorem ok56 : TIok Try.prog 56 ti56 := tiok (z := (.nilFunc)) (by kernel_rfl) (by kernel_rfl) rfl (by decide) rfl rfl (by intro fs h; cases h)
/-- func(api.Disk, int, int) bool -/
abbrev ti57 : TI := { desc := .func #[25, 3, 3] #[4] false, size := 1, bytes := 8, zero := [.nilFunc], agg := false }
set_option maxRecDepth 100000 in
theorem ok57 : TIok Try.prog 57 ti57 := tiok (z := (.nilFunc)) (by kernel_rfl) (by kernel_rfl) rfl (by decide) rfl rfl (by intro fs h; cases h)
/-- func(api.Disk, uint8, uint8) bool -/
abbrev ti58 : TI := { desc := .func #[25, 5, 5] #[4] false, size := 1, bytes := 8, zero := [.nilFunc], agg := false }
set_option maxRecDepth 100000 in
theorem ok58 : TIok Try.prog 58 ti58 := tiok (z := (.nilFunc)) (by kernel_rfl) (by kernel_rfl) rfl (by decide) rfl rfl (by intro fs h; cases h)
/-- func(api.Disk) api.Disk -/
abbrev ti59 : TI := { desc := .func #[25] #[25] false, size := 1, bytes := 8, zero := [.nilFunc], agg := false }
set_option maxRecDepth 100000 in
theorem ok59 : TIok Try.prog 59 ti59 := tiok (z := (.nilFunc)) (by kernel_rfl) (by kernel_rfl) rfl (by decide) rfl rfl (by intro fs h; cases h)
/-- func(api.Disk) -/
abbrev ti60 : TI := { desc := .func #[25] #[] false, size := 1, bytes := 8, zero := [.nilFunc], agg := false }
set_option maxRecDepth 100000 in
theorem ok60 : TIok Try.prog 60 ti60 := tiok (z := (.nilFunc)) (by kernel_rfl) (by kernel_rfl) rfl (by decide) rfl rfl (by intro fs h; cases h)
/-- func(api.Disk, api.Disk, int, []uint8) bool -/
abbrev ti61 : TI := { desc := .func #[25, 25, 3, 37] #[4] false, size := 1, bytes := 8, zero := [.nilFunc], agg := false }
set_option maxRecDepth 100000 in
theorem ok61 : TIok Try.prog 61 ti61 := tiok (z := (.nilFunc)) (by kernel_rfl) (by kernel_rfl) rfl (by decide) rfl rfl (by intro fs h; cases h)
/-- func(api.Disk, int, int, uint8, uint8) bool -/
abbrev ti62 : TI := { desc := .func #[25, 3, 3, 5, 5] #[4] false, size := 1, bytes := 8, zero := [.nilFunc], agg := false }
set_option maxRecDepth 100000 in
theorem ok62 : TIok Try.prog 62 ti62 := tiok (z := (.nilFunc)) (by kernel_rfl) (by kernel_rfl) rfl (by decide) rfl rfl (by intro fs h; cases h)
/-- uint32 -/
abbrev ti63 : TI := { desc := .int .u32, size := 1, bytes := 4, zero := [.int .u32 0], agg := false }
set_option maxRecDepth 100000 in
theorem ok63 : TIok Try.prog 63 ti63 := tiok (z := (.int .u32 0)) (by kernel_rfl) (by kernel_rfl) rfl (by decide) rfl rfl (by intro fs h; cases h)
/-- struct { Gen uint32; Text []uint8 } -/
abbrev ti64 : TI := { desc := .struct #[⟨ "Gen", 63, 0, false, "", "", 0⟩, ⟨ "Text", 37, 1, false, "", "", 8⟩], size := 2, bytes := 32, zero := [.int .u32 0, .slice none 0 0], agg := true, pl := [(0, 1), (1, 1)] }
set_option maxRecDepth 100000 in
theorem ok64 : TIok Try.prog 64 ti64 := tiok (z := (.agg ([.int .u32 0, .slice none 0 0] : List Value).toArray)) (by kernel_rfl) (by kernel_rfl) rfl (by decide) rfl rfl (by intro fs h; injection h with h; subst h; intro w; kernel_rfl)
/-- leverframe/api.Record -/
abbrev ti65 : TI := { desc := .struct #[⟨ "Gen", 63, 0, false, "", "", 0⟩, ⟨ "Text", 37, 1, false, "", "", 8⟩], size := 2, bytes := 32, zero := [.int .u32 0, .slice none 0 0], agg := true, pl := [(0, 1), (1, 1)] }
set_option maxRecDepth 100000 in
theorem ok65 : TIok Try.prog 65 ti65 := tiok (z := (.agg ([.int .u32 0, .slice none 0 0] : List Value).toArray)) (by kernel_rfl) (by kernel_rfl) rfl (by decide) rfl rfl (by intro fs h; injection h with h; subst h; intro w; kernel_rfl)
/-- []api.Record -/
abbrev ti66 : TI := { desc := .slice 65, size := 1, bytes := 24, zero := [.slice none 0 0], agg := false }
set_option maxRecDepth 100000 in
theorem ok66 : TIok Try.prog 66 ti66 := tiok (z := (.slice none 0 0)) (by kernel_rfl) (by kernel_rfl) rfl (by decide) rfl rfl (by intro fs h; cases h)
/-- func(api.Disk) ([]api.Record, api.Errno) -/
abbrev ti68 : TI := { desc := .func #[25] #[66, 28] false, size := 1, bytes := 8, zero := [.nilFunc], agg := false }
set_option maxRecDepth 100000 in
theorem ok68 : TIok Try.prog 68 ti68 := tiok (z := (.nilFunc)) (by kernel_rfl) (by kernel_rfl) rfl (by decide) rfl rfl (by intro fs h; cases h)
/-- func(api.Disk, api.Record) (api.Disk, api.Errno) -/
abbrev ti69 : TI := { desc := .func #[25, 65] #[25, 28] false, size := 1, bytes := 8, zero := [.nilFunc], agg := false }
set_option maxRecDepth 100000 in
theorem ok69 : TIok Try.prog 69 ti69 := tiok (z := (.nilFunc)) (by kernel_rfl) (by kernel_rfl) rfl (by decide) rfl rfl (by intro fs h; cases h)
/-- func([]api.Record, api.Record) bool -/
abbrev ti70 : TI := { desc := .func #[66, 65] #[4] false, size := 1, bytes := 8, zero := [.nilFunc], agg := false }
set_option maxRecDepth 100000 in
theorem ok70 : TIok Try.prog 70 ti70 := tiok (z := (.nilFunc)) (by kernel_rfl) (by kernel_rfl) rfl (by decide) rfl rfl (by intro fs h; cases h)
/-- func(uint32) int -/
abbrev ti71 : TI := { desc := .func #[63] #[3] false, size := 1, bytes := 8, zero := [.nilFunc], agg := false }
set_option maxRecDepth 100000 in
theorem ok71 : TIok Try.prog 71 ti71 := tiok (z := (.nilFunc)) (by kernel_rfl) (by kernel_rfl) rfl (by decide) rfl rfl (by intro fs h; cases h)
/-- func(api.Record, api.Record) bool -/
abbrev ti72 : TI := { desc := .func #[65, 65] #[4] false, size := 1, bytes := 8, zero := [.nilFunc], agg := false }
set_option maxRecDepth 100000 in
theorem ok72 : TIok Try.prog 72 ti72 := tiok (z := (.nilFunc)) (by kernel_rfl) (by kernel_rfl) rfl (by decide) rfl rfl (by intro fs h; cases h)
/-- func(api.Disk, api.Record, api.Record) bool -/
abbrev ti73 : TI := { desc := .func #[25, 65, 65] #[4] false, size := 1, bytes := 8, zero := [.nilFunc], agg := false }
set_option maxRecDepth 100000 in
theorem ok73 : TIok Try.prog 73 ti73 := tiok (z := (.nilFunc)) (by kernel_rfl) (by kernel_rfl) rfl (by decide) rfl rfl (by intro fs h; cases h)
/-- func(api.Disk, int, int, uint8) bool -/
abbrev ti74 : TI := { desc := .func #[25, 3, 3, 5] #[4] false, size := 1, bytes := 8, zero := [.nilFunc], agg := false }
set_option maxRecDepth 100000 in
theorem ok74 : TIok Try.prog 74 ti74 := tiok (z := (.nilFunc)) (by kernel_rfl) (by kernel_rfl) rfl (by decide) rfl rfl (by intro fs h; cases h)
/-- func(api.Disk, api.Record) (api.Disk, int) -/
abbrev ti75 : TI := { desc := .func #[25, 65] #[25, 3] false, size := 1, bytes := 8, zero := [.nilFunc], agg := false }
set_option maxRecDepth 100000 in
theorem ok75 : TIok Try.prog 75 ti75 := tiok (z := (.nilFunc)) (by kernel_rfl) (by kernel_rfl) rfl (by decide) rfl rfl (by intro fs h; cases h)
/-- func(api.Disk) ([]api.Record, int) -/
abbrev ti77 : TI := { desc := .func #[25] #[66, 3] false, size := 1, bytes := 8, zero := [.nilFunc], agg := false }
set_option maxRecDepth 100000 in
theorem ok77 : TIok Try.prog 77 ti77 := tiok (z := (.nilFunc)) (by kernel_rfl) (by kernel_rfl) rfl (by decide) rfl rfl (by intro fs h; cases h)
/-- func(api.Disk, uint32) (uint32, api.Errno) -/
abbrev ti79 : TI := { desc := .func #[25, 63] #[63, 28] false, size := 1, bytes := 8, zero := [.nilFunc], agg := false }
set_option maxRecDepth 100000 in
theorem ok79 : TIok Try.prog 79 ti79 := tiok (z := (.nilFunc)) (by kernel_rfl) (by kernel_rfl) rfl (by decide) rfl rfl (by intro fs h; cases h)
/-- func(api.Disk, uint32) (uint32, int) -/
abbrev ti81 : TI := { desc := .func #[25, 63] #[63, 3] false, size := 1, bytes := 8, zero := [.nilFunc], agg := false }
set_option maxRecDepth 100000 in
theorem ok81 : TIok Try.prog 81 ti81 := tiok (z := (.nilFunc)) (by kernel_rfl) (by kernel_rfl) rfl (by decide) rfl rfl (by intro fs h; cases h)
/-- func([]api.Record, []api.Record) bool -/
abbrev ti82 : TI := { desc := .func #[66, 66] #[4] false, size := 1, bytes := 8, zero := [.nilFunc], agg := false }
set_option maxRecDepth 100000 in
theorem ok82 : TIok Try.prog 82 ti82 := tiok (z := (.nilFunc)) (by kernel_rfl) (by kernel_rfl) rfl (by decide) rfl rfl (by intro fs h; cases h)
/-- func(api.Disk, api.Record) bool -/
abbrev ti83 : TI := { desc := .func #[25, 65] #[4] false, size := 1, bytes := 8, zero := [.nilFunc], agg := false }
set_option maxRecDepth 100000 in
theorem ok83 : TIok Try.prog 83 ti83 := tiok (z := (.nilFunc)) (by kernel_rfl) (by kernel_rfl) rfl (by decide) rfl rfl (by intro fs h; cases h)
/-- func([]uint8) uint32 -/
abbrev ti84 : TI := { desc := .func #[37] #[63] false, size := 1, bytes := 8, zero := [.nilFunc], agg := false }
set_option maxRecDepth 100000 in
theorem ok84 : TIok Try.prog 84 ti84 := tiok (z := (.nilFunc)) (by kernel_rfl) (by kernel_rfl) rfl (by decide) rfl rfl (by intro fs h; cases h)
/-- func(api.Disk, uint32, []uint8) bool -/
abbrev ti85 : TI := { desc := .func #[25, 63, 37] #[4] false, size := 1, bytes := 8, zero := [.nilFunc], agg := false }
set_option maxRecDepth 100000 in
theorem ok85 : TIok Try.prog 85 ti85 := tiok (z := (.nilFunc)) (by kernel_rfl) (by kernel_rfl) rfl (by decide) rfl rfl (by intro fs h; cases h)
/-- func([][]uint8, []uint8) bool -/
abbrev ti86 : TI := { desc := .func #[22, 37] #[4] false, size := 1, bytes := 8, zero := [.nilFunc], agg := false }
set_option maxRecDepth 100000 in
theorem ok86 : TIok Try.prog 86 ti86 := tiok (z := (.nilFunc)) (by kernel_rfl) (by kernel_rfl) rfl (by decide) rfl rfl (by intro fs h; cases h)
/-- func([]int, func(int) bool) bool -/
abbrev ti87 : TI := { desc := .func #[26, 89] #[4] false, size := 1, bytes := 8, zero := [.nilFunc], agg := false }
set_option maxRecDepth 100000 in
theorem ok87 : TIok Try.prog 87 ti87 := tiok (z := (.nilFunc)) (by kernel_rfl) (by kernel_rfl) rfl (by decide) rfl rfl (by intro fs h; cases h)
/-- func(int, int) bool -/
abbrev ti88 : TI := { desc := .func #[3, 3] #[4] false, size := 1, bytes := 8, zero := [.nilFunc], agg := false }
set_option maxRecDepth 100000 in
theorem ok88 : TIok Try.prog 88 ti88 := tiok (z := (.nilFunc)) (by kernel_rfl) (by kernel_rfl) rfl (by decide) rfl rfl (by intro fs h; cases h)
/-- func(int) bool -/
abbrev ti89 : TI := { desc := .func #[3] #[4] false, size := 1, bytes := 8, zero := [.nilFunc], agg := false }
set_option maxRecDepth 100000 in
theorem ok89 : TIok Try.prog 89 ti89 := tiok (z := (.nilFunc)) (by kernel_rfl) (by kernel_rfl) rfl (by decide) rfl rfl (by intro fs h; cases h)
/-- func(api.Disk, func(int) int) api.Disk -/
abbrev ti90 : TI := { desc := .func #[25, 91] #[25] false, size := 1, bytes := 8, zero := [.nilFunc], agg := false }
set_option maxRecDepth 100000 in
theorem ok90 : TIok Try.prog 90 ti90 := tiok (z := (.nilFunc)) (by kernel_rfl) (by kernel_rfl) rfl (by decide) rfl rfl (by intro fs h; cases h)
/-- func(int) int -/
abbrev ti91 : TI := { desc := .func #[3] #[3] false, size := 1, bytes := 8, zero := [.nilFunc], agg := false }
set_option maxRecDepth 100000 in
theorem ok91 : TIok Try.prog 91 ti91 := tiok (z := (.nilFunc)) (by kernel_rfl) (by kernel_rfl) rfl (by decide) rfl rfl (by intro fs h; cases h)
/-- func(api.Disk, []int) api.Disk -/
abbrev ti92 : TI := { desc := .func #[25, 26] #[25] false, size := 1, bytes := 8, zero := [.nilFunc], agg := false }
set_option maxRecDepth 100000 in
theorem ok92 : TIok Try.prog 92 ti92 := tiok (z := (.nilFunc)) (by kernel_rfl) (by kernel_rfl) rfl (by decide) rfl rfl (by intro fs h; cases h)
/-- func(api.Disk, bool) api.Errno -/
abbrev ti93 : TI := { desc := .func #[25, 4] #[28] false, size := 1, bytes := 8, zero := [.nilFunc], agg := false }
set_option maxRecDepth 100000 in
theorem ok93 : TIok Try.prog 93 ti93 := tiok (z := (.nilFunc)) (by kernel_rfl) (by kernel_rfl) rfl (by decide) rfl rfl (by intro fs h; cases h)
/-- func(api.Disk) string -/
abbrev ti94 : TI := { desc := .func #[25] #[9] false, size := 1, bytes := 8, zero := [.nilFunc], agg := false }
set_option maxRecDepth 100000 in
theorem ok94 : TIok Try.prog 94 ti94 := tiok (z := (.nilFunc)) (by kernel_rfl) (by kernel_rfl) rfl (by decide) rfl rfl (by intro fs h; cases h)
/-- func(api.Disk, int) []uint8 -/
abbrev ti95 : TI := { desc := .func #[25, 3] #[37] false, size := 1, bytes := 8, zero := [.nilFunc], agg := false }
set_option maxRecDepth 100000 in
theorem ok95 : TIok Try.prog 95 ti95 := tiok (z := (.nilFunc)) (by kernel_rfl) (by kernel_rfl) rfl (by decide) rfl rfl (by intro fs h; cases h)
/-- func(api.Write) api.Write -/
abbrev ti96 : TI := { desc := .func #[52] #[52] false, size := 1, bytes := 8, zero := [.nilFunc], agg := false }
set_option maxRecDepth 100000 in
theorem ok96 : TIok Try.prog 96 ti96 := tiok (z := (.nilFunc)) (by kernel_rfl) (by kernel_rfl) rfl (by decide) rfl rfl (by intro fs h; cases h)
/-- func(api.Disk, int, []uint8) api.Disk -/
abbrev ti97 : TI := { desc := .func #[25, 3, 37] #[25] false, size := 1, bytes := 8, zero := [.nilFunc], agg := false }
set_option maxRecDepth 100000 in
theorem ok97 : TIok Try.prog 97 ti97 := tiok (z := (.nilFunc)) (by kernel_rfl) (by kernel_rfl) rfl (by decide) rfl rfl (by intro fs h; cases h)
/-- func(api.Write) int -/
abbrev ti98 : TI := { desc := .func #[52] #[3] false, size := 1, bytes := 8, zero := [.nilFunc], agg := false }
set_option maxRecDepth 100000 in
theorem ok98 : TIok Try.prog 98 ti98 := tiok (z := (.nilFunc)) (by kernel_rfl) (by kernel_rfl) rfl (by decide) rfl rfl (by intro fs h; cases h)
/-- func(api.Write) []uint8 -/
abbrev ti99 : TI := { desc := .func #[52] #[37] false, size := 1, bytes := 8, zero := [.nilFunc], agg := false }
set_option maxRecDepth 100000 in
theorem ok99 : TIok Try.prog 99 ti99 := tiok (z := (.nilFunc)) (by kernel_rfl) (by kernel_rfl) rfl (by decide) rfl rfl (by intro fs h; cases h)
/-- func(...[][]uint8) [][]uint8 -/
abbrev ti100 : TI := { desc := .func #[127] #[22] true, size := 1, bytes := 8, zero := [.nilFunc], agg := false }
set_option maxRecDepth 100000 in
theorem ok100 : TIok Try.prog 100 ti100 := tiok (z := (.nilFunc)) (by kernel_rfl) (by kernel_rfl) rfl (by decide) rfl rfl (by intro fs h; cases h)
/-- func([]api.Write, func(api.Write) []uint8) [][]uint8 -/
abbrev ti101 : TI := { desc := .func #[23, 99] #[22] false, size := 1, bytes := 8, zero := [.nilFunc], agg := false }
set_option maxRecDepth 100000 in
theorem ok101 : TIok Try.prog 101 ti101 := tiok (z := (.nilFunc)) (by kernel_rfl) (by kernel_rfl) rfl (by decide) rfl rfl (by intro fs h; cases h)
/-- func([][]uint8, func([]uint8) bool) bool -/
abbrev ti102 : TI := { desc := .func #[22, 103] #[4] false, size := 1, bytes := 8, zero := [.nilFunc], agg := false }
set_option maxRecDepth 100000 in
theorem ok102 : TIok Try.prog 102 ti102 := tiok (z := (.nilFunc)) (by kernel_rfl) (by kernel_rfl) rfl (by decide) rfl rfl (by intro fs h; cases h)
/-- func([]uint8) bool -/
abbrev ti103 : TI := { desc := .func #[37] #[4] false, size := 1, bytes := 8, zero := [.nilFunc], agg := false }
set_option maxRecDepth 100000 in
theorem ok103 : TIok Try.prog 103 ti103 := tiok (z := (.nilFunc)) (by kernel_rfl) (by kernel_rfl) rfl (by decide) rfl rfl (by intro fs h; cases h)
/-- func([]api.Write, func(api.Write) int) []int -/
abbrev ti104 : TI := { desc := .func #[23, 98] #[26] false, size := 1, bytes := 8, zero := [.nilFunc], agg := false }
set_option maxRecDepth 100000 in
theorem ok104 : TIok Try.prog 104 ti104 := tiok (z := (.nilFunc)) (by kernel_rfl) (by kernel_rfl) rfl (by decide) rfl rfl (by intro fs h; cases h)
/-- func([]uint8, []uint8) bool -/
abbrev ti105 : TI := { desc := .func #[37, 37] #[4] false, size := 1, bytes := 8, zero := [.nilFunc], agg := false }
set_option maxRecDepth 100000 in
theorem ok105 : TIok Try.prog 105 ti105 := tiok (z := (.nilFunc)) (by kernel_rfl) (by kernel_rfl) rfl (by decide) rfl rfl (by intro fs h; cases h)
/-- func(api.Write, api.Write) bool -/
abbrev ti106 : TI := { desc := .func #[52, 52] #[4] false, size := 1, bytes := 8, zero := [.nilFunc], agg := false }
set_option maxRecDepth 100000 in
theorem ok106 : TIok Try.prog 106 ti106 := tiok (z := (.nilFunc)) (by kernel_rfl) (by kernel_rfl) rfl (by decide) rfl rfl (by intro fs h; cases h)
/-- func([]api.Write, []api.Write, func(api.Write, api.Write) bool) bool -/
abbrev ti107 : TI := { desc := .func #[23, 23, 106] #[4] false, size := 1, bytes := 8, zero := [.nilFunc], agg := false }
set_option maxRecDepth 100000 in
theorem ok107 : TIok Try.prog 107 ti107 := tiok (z := (.nilFunc)) (by kernel_rfl) (by kernel_rfl) rfl (by decide) rfl rfl (by intro fs h; cases h)
/-- func([][]uint8, [][]uint8, func([]uint8, []uint8) bool) bool -/
abbrev ti108 : TI := { desc := .func #[22, 22, 105] #[4] false, size := 1, bytes := 8, zero := [.nilFunc], agg := false }
set_option maxRecDepth 100000 in
theorem ok108 : TIok Try.prog 108 ti108 := tiok (z := (.nilFunc)) (by kernel_rfl) (by kernel_rfl) rfl (by decide) rfl rfl (by intro fs h; cases h)
/-- func([][]uint8, func([]uint8) []uint8) [][]uint8 -/
abbrev ti109 : TI := { desc := .func #[22, 110] #[22] false, size := 1, bytes := 8, zero := [.nilFunc], agg := false }
set_option maxRecDepth 100000 in
theorem ok109 : TIok Try.prog 109 ti109 := tiok (z := (.nilFunc)) (by kernel_rfl) (by kernel_rfl) rfl (by decide) rfl rfl (by intro fs h; cases h)
/-- func([]uint8) []uint8 -/
abbrev ti110 : TI := { desc := .func #[37] #[37] false, size := 1, bytes := 8, zero := [.nilFunc], agg := false }
set_option maxRecDepth 100000 in
theorem ok110 : TIok Try.prog 110 ti110 := tiok (z := (.nilFunc)) (by kernel_rfl) (by kernel_rfl) rfl (by decide) rfl rfl (by intro fs h; cases h)
/-- func([]api.Write, func(api.Write) api.Write) []api.Write -/
abbrev ti111 : TI := { desc := .func #[23, 96] #[23] false, size := 1, bytes := 8, zero := [.nilFunc], agg := false }
set_option maxRecDepth 100000 in
theorem ok111 : TIok Try.prog 111 ti111 := tiok (z := (.nilFunc)) (by kernel_rfl) (by kernel_rfl) rfl (by decide) rfl rfl (by intro fs h; cases h)
/-- func(api.Disk, int) (api.Record, bool) -/
abbrev ti113 : TI := { desc := .func #[25, 3] #[65, 4] false, size := 1, bytes := 8, zero := [.nilFunc], agg := false }
set_option maxRecDepth 100000 in
theorem ok113 : TIok Try.prog 113 ti113 := tiok (z := (.nilFunc)) (by kernel_rfl) (by kernel_rfl) rfl (by decide) rfl rfl (by intro fs h; cases h)
/-- func(api.Record) [][]uint8 -/
abbrev ti114 : TI := { desc := .func #[65] #[22] false, size := 1, bytes := 8, zero := [.nilFunc], agg := false }
set_option maxRecDepth 100000 in
theorem ok114 : TIok Try.prog 114 ti114 := tiok (z := (.nilFunc)) (by kernel_rfl) (by kernel_rfl) rfl (by decide) rfl rfl (by intro fs h; cases h)
/-- func(api.Disk, api.Record) api.Disk -/
abbrev ti115 : TI := { desc := .func #[25, 65] #[25] false, size := 1, bytes := 8, zero := [.nilFunc], agg := false }
set_option maxRecDepth 100000 in
theorem ok115 : TIok Try.prog 115 ti115 := tiok (z := (.nilFunc)) (by kernel_rfl) (by kernel_rfl) rfl (by decide) rfl rfl (by intro fs h; cases h)
/-- func(api.Disk) []api.Record -/
abbrev ti116 : TI := { desc := .func #[25] #[66] false, size := 1, bytes := 8, zero := [.nilFunc], agg := false }
set_option maxRecDepth 100000 in
theorem ok116 : TIok Try.prog 116 ti116 := tiok (z := (.nilFunc)) (by kernel_rfl) (by kernel_rfl) rfl (by decide) rfl rfl (by intro fs h; cases h)
/-- uint64 -/
abbrev ti117 : TI := { desc := .int .u64, size := 1, bytes := 8, zero := [.int .u64 0], agg := false }
set_option maxRecDepth 100000 in
theorem ok117 : TIok Try.prog 117 ti117 := tiok (z := (.int .u64 0)) (by kernel_rfl) (by kernel_rfl) rfl (by decide) rfl rfl (by intro fs h; cases h)
/-- []uint32 -/
abbrev ti118 : TI := { desc := .slice 63, size := 1, bytes := 24, zero := [.slice none 0 0], agg := false }
set_option maxRecDepth 100000 in
theorem ok118 : TIok Try.prog 118 ti118 := tiok (z := (.slice none 0 0)) (by kernel_rfl) (by kernel_rfl) rfl (by decide) rfl rfl (by intro fs h; cases h)
/-- func(api.Disk, uint32) uint32 -/
abbrev ti119 : TI := { desc := .func #[25, 63] #[63] false, size := 1, bytes := 8, zero := [.nilFunc], agg := false }
set_option maxRecDepth 100000 in
theorem ok119 : TIok Try.prog 119 ti119 := tiok (z := (.nilFunc)) (by kernel_rfl) (by kernel_rfl) rfl (by decide) rfl rfl (by intro fs h; cases h)
/-- uint -/
abbrev ti120 : TI := { desc := .int .u64, size := 1, bytes := 8, zero := [.int .u64 0], agg := false }
set_option maxRecDepth 100000 in
theorem ok120 : TIok Try.prog 120 ti120 := tiok (z := (.int .u64 0)) (by kernel_rfl) (by kernel_rfl) rfl (by decide) rfl rfl (by intro fs h; cases h)
/-- func([]int, func(int) bool) int -/
abbrev ti121 : TI := { desc := .func #[26, 89] #[3] false, size := 1, bytes := 8, zero := [.nilFunc], agg := false }
set_option maxRecDepth 100000 in
theorem ok121 : TIok Try.prog 121 ti121 := tiok (z := (.nilFunc)) (by kernel_rfl) (by kernel_rfl) rfl (by decide) rfl rfl (by intro fs h; cases h)
/-- func(func(int, []uint8) bool) -/
abbrev ti122 : TI := { desc := .func #[139] #[] false, size := 1, bytes := 8, zero := [.nilFunc], agg := false }
set_option maxRecDepth 100000 in
theorem ok122 : TIok Try.prog 122 ti122 := tiok (z := (.nilFunc)) (by kernel_rfl) (by kernel_rfl) rfl (by decide) rfl rfl (by intro fs h; cases h)
/-- iter.Seq2[int, []byte] -/
abbrev ti123 : TI := { desc := .func #[139] #[] false, size := 1, bytes := 8, zero := [.nilFunc], agg := false }
set_option maxRecDepth 100000 in
theorem ok123 : TIok Try.prog 123 ti123 := tiok (z := (.nilFunc)) (by kernel_rfl) (by kernel_rfl) rfl (by decide) rfl rfl (by intro fs h; cases h)
/-- func(api.Disk, func(int) int) iter.Seq2[int,[]uint8] -/
abbrev ti124 : TI := { desc := .func #[25, 91] #[123] false, size := 1, bytes := 8, zero := [.nilFunc], agg := false }
set_option maxRecDepth 100000 in
theorem ok124 : TIok Try.prog 124 ti124 := tiok (z := (.nilFunc)) (by kernel_rfl) (by kernel_rfl) rfl (by decide) rfl rfl (by intro fs h; cases h)
/-- func([]uint8, []uint8) []uint8 -/
abbrev ti125 : TI := { desc := .func #[37, 37] #[37] false, size := 1, bytes := 8, zero := [.nilFunc], agg := false }
set_option maxRecDepth 100000 in
theorem ok125 : TIok Try.prog 125 ti125 := tiok (z := (.nilFunc)) (by kernel_rfl) (by kernel_rfl) rfl (by decide) rfl rfl (by intro fs h; cases h)
/-- func(api.Disk, []int, int) []uint8 -/
abbrev ti126 : TI := { desc := .func #[25, 26, 3] #[37] false, size := 1, bytes := 8, zero := [.nilFunc], agg := false }
set_option maxRecDepth 100000 in
theorem ok126 : TIok Try.prog 126 ti126 := tiok (z := (.nilFunc)) (by kernel_rfl) (by kernel_rfl) rfl (by decide) rfl rfl (by intro fs h; cases h)
/-- [][][]uint8 -/
abbrev ti127 : TI := { desc := .slice 22, size := 1, bytes := 24, zero := [.slice none 0 0], agg := false }
set_option maxRecDepth 100000 in
theorem ok127 : TIok Try.prog 127 ti127 := tiok (z := (.slice none 0 0)) (by kernel_rfl) (by kernel_rfl) rfl (by decide) rfl rfl (by intro fs h; cases h)
/-- func([][]uint8, int) [][]uint8 -/
abbrev ti128 : TI := { desc := .func #[22, 3] #[22] false, size := 1, bytes := 8, zero := [.nilFunc], agg := false }
set_option maxRecDepth 100000 in
theorem ok128 : TIok Try.prog 128 ti128 := tiok (z := (.nilFunc)) (by kernel_rfl) (by kernel_rfl) rfl (by decide) rfl rfl (by intro fs h; cases h)
/-- func([][]uint8, func([]uint8) bool) int -/
abbrev ti129 : TI := { desc := .func #[22, 103] #[3] false, size := 1, bytes := 8, zero := [.nilFunc], agg := false }
set_option maxRecDepth 100000 in
theorem ok129 : TIok Try.prog 129 ti129 := tiok (z := (.nilFunc)) (by kernel_rfl) (by kernel_rfl) rfl (by decide) rfl rfl (by intro fs h; cases h)
/-- func(uint32, int) []uint8 -/
abbrev ti130 : TI := { desc := .func #[63, 3] #[37] false, size := 1, bytes := 8, zero := [.nilFunc], agg := false }
set_option maxRecDepth 100000 in
theorem ok130 : TIok Try.prog 130 ti130 := tiok (z := (.nilFunc)) (by kernel_rfl) (by kernel_rfl) rfl (by decide) rfl rfl (by intro fs h; cases h)
/-- func(...[]uint8) []uint8 -/
abbrev ti131 : TI := { desc := .func #[22] #[37] true, size := 1, bytes := 8, zero := [.nilFunc], agg := false }
set_option maxRecDepth 100000 in
theorem ok131 : TIok Try.prog 131 ti131 := tiok (z := (.nilFunc)) (by kernel_rfl) (by kernel_rfl) rfl (by decide) rfl rfl (by intro fs h; cases h)
/-- func(func([]uint8) bool) -/
abbrev ti132 : TI := { desc := .func #[103] #[] false, size := 1, bytes := 8, zero := [.nilFunc], agg := false }
set_option maxRecDepth 100000 in
theorem ok132 : TIok Try.prog 132 ti132 := tiok (z := (.nilFunc)) (by kernel_rfl) (by kernel_rfl) rfl (by decide) rfl rfl (by intro fs h; cases h)
/-- iter.Seq[[]byte] -/
abbrev ti133 : TI := { desc := .func #[103] #[] false, size := 1, bytes := 8, zero := [.nilFunc], agg := false }
set_option maxRecDepth 100000 in
theorem ok133 : TIok Try.prog 133 ti133 := tiok (z := (.nilFunc)) (by kernel_rfl) (by kernel_rfl) rfl (by decide) rfl rfl (by intro fs h; cases h)
/-- func([]uint8, int) iter.Seq[[]uint8] -/
abbrev ti134 : TI := { desc := .func #[37, 3] #[133] false, size := 1, bytes := 8, zero := [.nilFunc], agg := false }
set_option maxRecDepth 100000 in
theorem ok134 : TIok Try.prog 134 ti134 := tiok (z := (.nilFunc)) (by kernel_rfl) (by kernel_rfl) rfl (by decide) rfl rfl (by intro fs h; cases h)
/-- [128]uint8 -/
abbrev ti135 : TI := { desc := .array 128 5, size := 128, bytes := 128, zero := List.replicate 128 (.int .u8 0), agg := true }
set_option maxRecDepth 100000 in
theorem ok135 : TIok Try.prog 135 ti135 := tiok (z := (.agg (List.replicate 128 (.int .u8 0) : List Value).toArray)) (by kernel_rfl) (by kernel_rfl) rfl (by decide) rfl rfl (by intro fs h; cases h)
/-- func(api.Record) []uint8 -/
abbrev ti136 : TI := { desc := .func #[65] #[37] false, size := 1, bytes := 8, zero := [.nilFunc], agg := false }
set_option maxRecDepth 100000 in
theorem ok136 : TIok Try.prog 136 ti136 := tiok (z := (.nilFunc)) (by kernel_rfl) (by kernel_rfl) rfl (by decide) rfl rfl (by intro fs h; cases h)
/-- func(int, int) []uint8 -/
abbrev ti137 : TI := { desc := .func #[3, 3] #[37] false, size := 1, bytes := 8, zero := [.nilFunc], agg := false }
set_option maxRecDepth 100000 in
theorem ok137 : TIok Try.prog 137 ti137 := tiok (z := (.nilFunc)) (by kernel_rfl) (by kernel_rfl) rfl (by decide) rfl rfl (by intro fs h; cases h)
/-- func([]uint8) int -/
abbrev ti138 : TI := { desc := .func #[37] #[3] false, size := 1, bytes := 8, zero := [.nilFunc], agg := false }
set_option maxRecDepth 100000 in
theorem ok138 : TIok Try.prog 138 ti138 := tiok (z := (.nilFunc)) (by kernel_rfl) (by kernel_rfl) rfl (by decide) rfl rfl (by intro fs h; cases h)
/-- func(int, []uint8) bool -/
abbrev ti139 : TI := { desc := .func #[3, 37] #[4] false, size := 1, bytes := 8, zero := [.nilFunc], agg := false }
set_option maxRecDepth 100000 in
theorem ok139 : TIok Try.prog 139 ti139 := tiok (z := (.nilFunc)) (by kernel_rfl) (by kernel_rfl) rfl (by decide) rfl rfl (by intro fs h; cases h)
/-- func(api.Disk, []int, int, int) uint8 -/
abbrev ti140 : TI := { desc := .func #[25, 26, 3, 3] #[5] false, size := 1, bytes := 8, zero := [.nilFunc], agg := false }
set_option maxRecDepth 100000 in
theorem ok140 : TIok Try.prog 140 ti140 := tiok (z := (.nilFunc)) (by kernel_rfl) (by kernel_rfl) rfl (by decide) rfl rfl (by intro fs h; cases h)
/-- func() uint8 -/
abbrev ti141 : TI := { desc := .func #[] #[5] false, size := 1, bytes := 8, zero := [.nilFunc], agg := false }
set_option maxRecDepth 100000 in
theorem ok141 : TIok Try.prog 141 ti141 := tiok (z := (.nilFunc)) (by kernel_rfl) (by kernel_rfl) rfl (by decide) rfl rfl (by intro fs h; cases h)
/-- func(uint32, []uint8) uint32 -/
abbrev ti142 : TI := { desc := .func #[63, 37] #[63] false, size := 1, bytes := 8, zero := [.nilFunc], agg := false }
set_option maxRecDepth 100000 in
theorem ok142 : TIok Try.prog 142 ti142 := tiok (z := (.nilFunc)) (by kernel_rfl) (by kernel_rfl) rfl (by decide) rfl rfl (by intro fs h; cases h)
/-- func([]uint8, int) []uint8 -/
abbrev ti143 : TI := { desc := .func #[37, 3] #[37] false, size := 1, bytes := 8, zero := [.nilFunc], agg := false }
set_option maxRecDepth 100000 in
theorem ok143 : TIok Try.prog 143 ti143 := tiok (z := (.nilFunc)) (by kernel_rfl) (by kernel_rfl) rfl (by decide) rfl rfl (by intro fs h; cases h)
/-- [256]uint32 -/
abbrev ti144 : TI := { desc := .array 256 63, size := 256, bytes := 1024, zero := List.replicate 256 (.int .u32 0), agg := true }
set_option maxRecDepth 100000 in
theorem ok144 : TIok Try.prog 144 ti144 := tiok (z := (.agg (List.replicate 256 (.int .u32 0) : List Value).toArray)) (by kernel_rfl) (by kernel_rfl) rfl (by decide) rfl rfl (by intro fs h; cases h)
/-- func() [256]uint32 -/
abbrev ti145 : TI := { desc := .func #[] #[144] false, size := 1, bytes := 8, zero := [.nilFunc], agg := false }
set_option maxRecDepth 100000 in
theorem ok145 : TIok Try.prog 145 ti145 := tiok (z := (.nilFunc)) (by kernel_rfl) (by kernel_rfl) rfl (by decide) rfl rfl (by intro fs h; cases h)
/-- func(uint32) uint32 -/
abbrev ti146 : TI := { desc := .func #[63] #[63] false, size := 1, bytes := 8, zero := [.nilFunc], agg := false }
set_option maxRecDepth 100000 in
theorem ok146 : TIok Try.prog 146 ti146 := tiok (z := (.nilFunc)) (by kernel_rfl) (by kernel_rfl) rfl (by decide) rfl rfl (by intro fs h; cases h)
/-- func() string -/
abbrev ti147 : TI := { desc := .func #[] #[9] false, size := 1, bytes := 8, zero := [.nilFunc], agg := false }
set_option maxRecDepth 100000 in
theorem ok147 : TIok Try.prog 147 ti147 := tiok (z := (.nilFunc)) (by kernel_rfl) (by kernel_rfl) rfl (by decide) rfl rfl (by intro fs h; cases h)
/-- func() int -/
abbrev ti153 : TI := { desc := .func #[] #[3] false, size := 1, bytes := 8, zero := [.nilFunc], agg := false }
set_option maxRecDepth 100000 in
theorem ok153 : TIok Try.prog 153 ti153 := tiok (z := (.nilFunc)) (by kernel_rfl) (by kernel_rfl) rfl (by decide) rfl rfl (by intro fs h; cases h)
/-- *uint8 -/
abbrev ti157 : TI := { desc := .pointer 5, size := 1, bytes := 8, zero := [.pointer none], agg := false }
set_option maxRecDepth 100000 in
theorem ok157 : TIok Try.prog 157 ti157 := tiok (z := (.pointer none)) (by kernel_rfl) (by kernel_rfl) rfl (by decide) rfl rfl (by intro fs h; cases h)
def tab : TypeId → Option TI := fun t =>
  match t with
  | 1 => some ti1
  | 2 => some ti2
  | 3 => some ti3
  | 4 => some ti4
  | 5 => some ti5
  | 9 => some ti9
  | 12 => some ti12
  | 20 => some ti20
  | 21 => some ti21
  | 22 => some ti22
  | 23 => some ti23
  | 24 => some ti24
  | 25 => some ti25
  | 26 => some ti26
  | 27 => some ti27
  | 28 => some ti28
  | 30 => some ti30
  | 32 => some ti32
  | 33 => some ti33
  | 34 => some ti34
  | 35 => some ti35
  | 36 => some ti36
  | 37 => some ti37
  | 39 => some ti39
  | 41 => some ti41
  | 42 => some ti42
  | 43 => some ti43
  | 44 => some ti44
  | 45 => some ti45
  | 46 => some ti46
  | 47 => some ti47
  | 48 => some ti48
  | 49 => some ti49
  | 50 => some ti50
  | 51 => some ti51
  | 52 => some ti52
  | 53 => some ti53
  | 54 => some ti54
  | 55 => some ti55
  | 56 => some ti56
  | 57 => some ti57
  | 58 => some ti58
  | 59 => some ti59
  | 60 => some ti60
  | 61 => some ti61
  | 62 => some ti62
  | 63 => some ti63
  | 64 => some ti64
  | 65 => some ti65
  | 66 => some ti66
  | 68 => some ti68
  | 69 => some ti69
  | 70 => some ti70
  | 71 => some ti71
  | 72 => some ti72
  | 73 => some ti73
  | 74 => some ti74
  | 75 => some ti75
  | 77 => some ti77
  | 79 => some ti79
  | 81 => some ti81
  | 82 => some ti82
  | 83 => some ti83
  | 84 => some ti84
  | 85 => some ti85
  | 86 => some ti86
  | 87 => some ti87
  | 88 => some ti88
  | 89 => some ti89
  | 90 => some ti90
  | 91 => some ti91
  | 92 => some ti92
  | 93 => some ti93
  | 94 => some ti94
  | 95 => some ti95
  | 96 => some ti96
  | 97 => some ti97
  | 98 => some ti98
  | 99 => some ti99
  | 100 => some ti100
  | 101 => some ti101
  | 102 => some ti102
  | 103 => some ti103
  | 104 => some ti104
  | 105 => some ti105
  | 106 => some ti106
  | 107 => some ti107
  | 108 => some ti108
  | 109 => some ti109
  | 110 => some ti110
  | 111 => some ti111
  | 113 => some ti113
  | 114 => some ti114
  | 115 => some ti115
  | 116 => some ti116
  | 117 => some ti117
  | 118 => some ti118
  | 119 => some ti119
  | 120 => some ti120
  | 121 => some ti121
  | 122 => some ti122
  | 123 => some ti123
  | 124 => some ti124
  | 125 => some ti125
  | 126 => some ti126
  | 127 => some ti127
  | 128 => some ti128
  | 129 => some ti129
  | 130 => some ti130
  | 131 => some ti131
  | 132 => some ti132
  | 133 => some ti133
  | 134 => some ti134
  | 135 => some ti135
  | 136 => some ti136
  | 137 => some ti137
  | 138 => some ti138
  | 139 => some ti139
  | 140 => some ti140
  | 141 => some ti141
  | 142 => some ti142
  | 143 => some ti143
  | 144 => some ti144
  | 145 => some ti145
  | 146 => some ti146
  | 147 => some ti147
  | 153 => some ti153
  | 157 => some ti157
  | _ => none
theorem tab1 : tab 1 = some ti1 := rfl
theorem tab2 : tab 2 = some ti2 := rfl
theorem tab3 : tab 3 = some ti3 := rfl
theorem tab4 : tab 4 = some ti4 := rfl
theorem tab5 : tab 5 = some ti5 := rfl
theorem tab9 : tab 9 = some ti9 := rfl
theorem tab12 : tab 12 = some ti12 := rfl
theorem tab20 : tab 20 = some ti20 := rfl
theorem tab21 : tab 21 = some ti21 := rfl
theorem tab22 : tab 22 = some ti22 := rfl
theorem tab23 : tab 23 = some ti23 := rfl
theorem tab24 : tab 24 = some ti24 := rfl
theorem tab25 : tab 25 = some ti25 := rfl
theorem tab26 : tab 26 = some ti26 := rfl
theorem tab27 : tab 27 = some ti27 := rfl
theorem tab28 : tab 28 = some ti28 := rfl
theorem tab30 : tab 30 = some ti30 := rfl
theorem tab32 : tab 32 = some ti32 := rfl
theorem tab33 : tab 33 = some ti33 := rfl
theorem tab34 : tab 34 = some ti34 := rfl
theorem tab35 : tab 35 = some ti35 := rfl
theorem tab36 : tab 36 = some ti36 := rfl
theorem tab37 : tab 37 = some ti37 := rfl
theorem tab39 : tab 39 = some ti39 := rfl
theorem tab41 : tab 41 = some ti41 := rfl
theorem tab42 : tab 42 = some ti42 := rfl
theorem tab43 : tab 43 = some ti43 := rfl
theorem tab44 : tab 44 = some ti44 := rfl
theorem tab45 : tab 45 = some ti45 := rfl
theorem tab46 : tab 46 = some ti46 := rfl
theorem tab47 : tab 47 = some ti47 := rfl
theorem tab48 : tab 48 = some ti48 := rfl
theorem tab49 : tab 49 = some ti49 := rfl
theorem tab50 : tab 50 = some ti50 := rfl
theorem tab51 : tab 51 = some ti51 := rfl
theorem tab52 : tab 52 = some ti52 := rfl
theorem tab53 : tab 53 = some ti53 := rfl
theorem tab54 : tab 54 = some ti54 := rfl
theorem tab55 : tab 55 = some ti55 := rfl
theorem tab56 : tab 56 = some ti56 := rfl
theorem tab57 : tab 57 = some ti57 := rfl
theorem tab58 : tab 58 = some ti58 := rfl
theorem tab59 : tab 59 = some ti59 := rfl
theorem tab60 : tab 60 = some ti60 := rfl
theorem tab61 : tab 61 = some ti61 := rfl
theorem tab62 : tab 62 = some ti62 := rfl
theorem tab63 : tab 63 = some ti63 := rfl
theorem tab64 : tab 64 = some ti64 := rfl
theorem tab65 : tab 65 = some ti65 := rfl
theorem tab66 : tab 66 = some ti66 := rfl
theorem tab68 : tab 68 = some ti68 := rfl
theorem tab69 : tab 69 = some ti69 := rfl
theorem tab70 : tab 70 = some ti70 := rfl
theorem tab71 : tab 71 = some ti71 := rfl
theorem tab72 : tab 72 = some ti72 := rfl
theorem tab73 : tab 73 = some ti73 := rfl
theorem tab74 : tab 74 = some ti74 := rfl
theorem tab75 : tab 75 = some ti75 := rfl
theorem tab77 : tab 77 = some ti77 := rfl
theorem tab79 : tab 79 = some ti79 := rfl
theorem tab81 : tab 81 = some ti81 := rfl
theorem tab82 : tab 82 = some ti82 := rfl
theorem tab83 : tab 83 = some ti83 := rfl
theorem tab84 : tab 84 = some ti84 := rfl
theorem tab85 : tab 85 = some ti85 := rfl
theorem tab86 : tab 86 = some ti86 := rfl
theorem tab87 : tab 87 = some ti87 := rfl
theorem tab88 : tab 88 = some ti88 := rfl
theorem tab89 : tab 89 = some ti89 := rfl
theorem tab90 : tab 90 = some ti90 := rfl
theorem tab91 : tab 91 = some ti91 := rfl
theorem tab92 : tab 92 = some ti92 := rfl
theorem tab93 : tab 93 = some ti93 := rfl
theorem tab94 : tab 94 = some ti94 := rfl
theorem tab95 : tab 95 = some ti95 := rfl
theorem tab96 : tab 96 = some ti96 := rfl
theorem tab97 : tab 97 = some ti97 := rfl
theorem tab98 : tab 98 = some ti98 := rfl
theorem tab99 : tab 99 = some ti99 := rfl
theorem tab100 : tab 100 = some ti100 := rfl
theorem tab101 : tab 101 = some ti101 := rfl
theorem tab102 : tab 102 = some ti102 := rfl
theorem tab103 : tab 103 = some ti103 := rfl
theorem tab104 : tab 104 = some ti104 := rfl
theorem tab105 : tab 105 = some ti105 := rfl
theorem tab106 : tab 106 = some ti106 := rfl
theorem tab107 : tab 107 = some ti107 := rfl
theorem tab108 : tab 108 = some ti108 := rfl
theorem tab109 : tab 109 = some ti109 := rfl
theorem tab110 : tab 110 = some ti110 := rfl
theorem tab111 : tab 111 = some ti111 := rfl
theorem tab113 : tab 113 = some ti113 := rfl
theorem tab114 : tab 114 = some ti114 := rfl
theorem tab115 : tab 115 = some ti115 := rfl
theorem tab116 : tab 116 = some ti116 := rfl
theorem tab117 : tab 117 = some ti117 := rfl
theorem tab118 : tab 118 = some ti118 := rfl
theorem tab119 : tab 119 = some ti119 := rfl
theorem tab120 : tab 120 = some ti120 := rfl
theorem tab121 : tab 121 = some ti121 := rfl
theorem tab122 : tab 122 = some ti122 := rfl
theorem tab123 : tab 123 = some ti123 := rfl
theorem tab124 : tab 124 = some ti124 := rfl
theorem tab125 : tab 125 = some ti125 := rfl
theorem tab126 : tab 126 = some ti126 := rfl
theorem tab127 : tab 127 = some ti127 := rfl
theorem tab128 : tab 128 = some ti128 := rfl
theorem tab129 : tab 129 = some ti129 := rfl
theorem tab130 : tab 130 = some ti130 := rfl
theorem tab131 : tab 131 = some ti131 := rfl
theorem tab132 : tab 132 = some ti132 := rfl
theorem tab133 : tab 133 = some ti133 := rfl
theorem tab134 : tab 134 = some ti134 := rfl
theorem tab135 : tab 135 = some ti135 := rfl
theorem tab136 : tab 136 = some ti136 := rfl
theorem tab137 : tab 137 = some ti137 := rfl
theorem tab138 : tab 138 = some ti138 := rfl
theorem tab139 : tab 139 = some ti139 := rfl
theorem tab140 : tab 140 = some ti140 := rfl
theorem tab141 : tab 141 = some ti141 := rfl
theorem tab142 : tab 142 = some ti142 := rfl
theorem tab143 : tab 143 = some ti143 := rfl
theorem tab144 : tab 144 = some ti144 := rfl
theorem tab145 : tab 145 = some ti145 := rfl
theorem tab146 : tab 146 = some ti146 := rfl
theorem tab147 : tab 147 = some ti147 := rfl
theorem tab153 : tab 153 = some ti153 := rfl
theorem tab157 : tab 157 = some ti157 := rfl
theorem tab_ok : TabOk Try.prog tab := by
  intro t ti h
  unfold tab at h
  split at h
  · cases h; exact ok1
  · cases h; exact ok2
  · cases h; exact ok3
  · cases h; exact ok4
  · cases h; exact ok5
  · cases h; exact ok9
  · cases h; exact ok12
  · cases h; exact ok20
  · cases h; exact ok21
  · cases h; exact ok22
  · cases h; exact ok23
  · cases h; exact ok24
  · cases h; exact ok25
  · cases h; exact ok26
  · cases h; exact ok27
  · cases h; exact ok28
  · cases h; exact ok30
  · cases h; exact ok32
  · cases h; exact ok33
  · cases h; exact ok34
  · cases h; exact ok35
  · cases h; exact ok36
  · cases h; exact ok37
  · cases h; exact ok39
  · cases h; exact ok41
  · cases h; exact ok42
  · cases h; exact ok43
  · cases h; exact ok44
  · cases h; exact ok45
  · cases h; exact ok46
  · cases h; exact ok47
  · cases h; exact ok48
  · cases h; exact ok49
  · cases h; exact ok50
  · cases h; exact ok51
  · cases h; exact ok52
  · cases h; exact ok53
  · cases h; exact ok54
  · cases h; exact ok55
  · cases h; exact ok56
  · cases h; exact ok57
  · cases h; exact ok58
  · cases h; exact ok59
  · cases h; exact ok60
  · cases h; exact ok61
  · cases h; exact ok62
  · cases h; exact ok63
  · cases h; exact ok64
  · cases h; exact ok65
  · cases h; exact ok66
  · cases h; exact ok68
  · cases h; exact ok69
  · cases h; exact ok70
  · cases h; exact ok71
  · cases h; exact ok72
  · cases h; exact ok73
  · cases h; exact ok74
  · cases h; exact ok75
  · cases h; exact ok77
  · cases h; exact ok79
  · cases h; exact ok81
  · cases h; exact ok82
  · cases h; exact ok83
  · cases h; exact ok84
  · cases h; exact ok85
  · cases h; exact ok86
  · cases h; exact ok87
  · cases h; exact ok88
  · cases h; exact ok89
  · cases h; exact ok90
  · cases h; exact ok91
  · cases h; exact ok92
  · cases h; exact ok93
  · cases h; exact ok94
  · cases h; exact ok95
  · cases h; exact ok96
  · cases h; exact ok97
  · cases h; exact ok98
  · cases h; exact ok99
  · cases h; exact ok100
  · cases h; exact ok101
  · cases h; exact ok102
  · cases h; exact ok103
  · cases h; exact ok104
  · cases h; exact ok105
  · cases h; exact ok106
  · cases h; exact ok107
  · cases h; exact ok108
  · cases h; exact ok109
  · cases h; exact ok110
  · cases h; exact ok111
  · cases h; exact ok113
  · cases h; exact ok114
  · cases h; exact ok115
  · cases h; exact ok116
  · cases h; exact ok117
  · cases h; exact ok118
  · cases h; exact ok119
  · cases h; exact ok120
  · cases h; exact ok121
  · cases h; exact ok122
  · cases h; exact ok123
  · cases h; exact ok124
  · cases h; exact ok125
  · cases h; exact ok126
  · cases h; exact ok127
  · cases h; exact ok128
  · cases h; exact ok129
  · cases h; exact ok130
  · cases h; exact ok131
  · cases h; exact ok132
  · cases h; exact ok133
  · cases h; exact ok134
  · cases h; exact ok135
  · cases h; exact ok136
  · cases h; exact ok137
  · cases h; exact ok138
  · cases h; exact ok139
  · cases h; exact ok140
  · cases h; exact ok141
  · cases h; exact ok142
  · cases h; exact ok143
  · cases h; exact ok144
  · cases h; exact ok145
  · cases h; exact ok146
  · cases h; exact ok147
  · cases h; exact ok153
  · cases h; exact ok157
  · cases h
theorem follows : Try.prog.follows .mixedOrders = true := by kernel_rfl
theorem hb0 (f : Nat) (h2 : 2 < f) (hf : f < 117) : hasBody Try.prog f = True := hasBody_of (n := 117) (by kernel_rfl) f h2 hf
theorem hbT : hasBody Try.prog 3 ∧ hasBody Try.prog 4 ∧ hasBody Try.prog 5 ∧ hasBody Try.prog 6 ∧ hasBody Try.prog 7 ∧ hasBody Try.prog 8 ∧ hasBody Try.prog 9 ∧ hasBody Try.prog 10 ∧ hasBody Try.prog 11 ∧ hasBody Try.prog 12 ∧ hasBody Try.prog 13 ∧ hasBody Try.prog 14 ∧ hasBody Try.prog 15 ∧ hasBody Try.prog 16 ∧ hasBody Try.prog 17 ∧ hasBody Try.prog 18 ∧ hasBody Try.prog 19 ∧ hasBody Try.prog 20 ∧ hasBody Try.prog 21 ∧ hasBody Try.prog 22 ∧ hasBody Try.prog 23 ∧ hasBody Try.prog 24 ∧ hasBody Try.prog 25 ∧ hasBody Try.prog 26 ∧ hasBody Try.prog 27 ∧ hasBody Try.prog 28 ∧ hasBody Try.prog 29 ∧ hasBody Try.prog 30 ∧ hasBody Try.prog 31 ∧ hasBody Try.prog 32 ∧ hasBody Try.prog 33 ∧ hasBody Try.prog 34 ∧ hasBody Try.prog 35 ∧ hasBody Try.prog 36 ∧ hasBody Try.prog 37 ∧ hasBody Try.prog 38 ∧ hasBody Try.prog 39 ∧ hasBody Try.prog 40 ∧ hasBody Try.prog 41 ∧ hasBody Try.prog 42 ∧ hasBody Try.prog 43 ∧ hasBody Try.prog 44 ∧ hasBody Try.prog 45 ∧ hasBody Try.prog 46 ∧ hasBody Try.prog 47 ∧ hasBody Try.prog 48 ∧ hasBody Try.prog 49 ∧ hasBody Try.prog 50 ∧ hasBody Try.prog 51 ∧ hasBody Try.prog 52 ∧ hasBody Try.prog 53 ∧ hasBody Try.prog 54 ∧ hasBody Try.prog 55 ∧ hasBody Try.prog 56 ∧ hasBody Try.prog 57 ∧ hasBody Try.prog 58 ∧ hasBody Try.prog 59 ∧ hasBody Try.prog 60 ∧ hasBody Try.prog 61 ∧ hasBody Try.prog 62 ∧ hasBody Try.prog 63 ∧ hasBody Try.prog 64 ∧ hasBody Try.prog 65 ∧ hasBody Try.prog 66 ∧ hasBody Try.prog 67 ∧ hasBody Try.prog 68 ∧ hasBody Try.prog 69 ∧ hasBody Try.prog 70 ∧ hasBody Try.prog 71 ∧ hasBody Try.prog 72 ∧ hasBody Try.prog 73 ∧ hasBody Try.prog 74 ∧ hasBody Try.prog 75 ∧ hasBody Try.prog 76 ∧ hasBody Try.prog 77 ∧ hasBody Try.prog 78 ∧ hasBody Try.prog 79 ∧ hasBody Try.prog 80 ∧ hasBody Try.prog 81 ∧ hasBody Try.prog 82 ∧ hasBody Try.prog 83 ∧ hasBody Try.prog 84 ∧ hasBody Try.prog 85 ∧ hasBody Try.prog 86 ∧ hasBody Try.prog 87 ∧ hasBody Try.prog 88 ∧ hasBody Try.prog 89 ∧ hasBody Try.prog 90 ∧ hasBody Try.prog 91 ∧ hasBody Try.prog 92 ∧ hasBody Try.prog 93 ∧ hasBody Try.prog 94 ∧ hasBody Try.prog 95 ∧ hasBody Try.prog 96 ∧ hasBody Try.prog 97 ∧ hasBody Try.prog 98 ∧ hasBody Try.prog 99 ∧ hasBody Try.prog 100 ∧ hasBody Try.prog 101 ∧ hasBody Try.prog 102 ∧ hasBody Try.prog 103 ∧ hasBody Try.prog 104 ∧ hasBody Try.prog 105 ∧ hasBody Try.prog 106 ∧ hasBody Try.prog 107 ∧ hasBody Try.prog 108 ∧ hasBody Try.prog 109 ∧ hasBody Try.prog 110 ∧ hasBody Try.prog 111 ∧ hasBody Try.prog 112 ∧ hasBody Try.prog 113 ∧ hasBody Try.prog 114 ∧ hasBody Try.prog 115 ∧ hasBody Try.prog 116 :=
  ⟨of_eq_true (hb0 3 (by decide) (by decide)), of_eq_true (hb0 4 (by decide) (by decide)), of_eq_true (hb0 5 (by decide) (by decide)), of_eq_true (hb0 6 (by decide) (by decide)), of_eq_true (hb0 7 (by decide) (by decide)), of_eq_true (hb0 8 (by decide) (by decide)), of_eq_true (hb0 9 (by decide) (by decide)), of_eq_true (hb0 10 (by decide) (by decide)), of_eq_true (hb0 11 (by decide) (by decide)), of_eq_true (hb0 12 (by decide) (by decide)), of_eq_true (hb0 13 (by decide) (by decide)), of_eq_true (hb0 14 (by decide) (by decide)), of_eq_true (hb0 15 (by decide) (by decide)), of_eq_true (hb0 16 (by decide) (by decide)), of_eq_true (hb0 17 (by decide) (by decide)), of_eq_true (hb0 18 (by decide) (by decide)), of_eq_true (hb0 19 (by decide) (by decide)), of_eq_true (hb0 20 (by decide) (by decide)), of_eq_true (hb0 21 (by decide) (by decide)), of_eq_true (hb0 22 (by decide) (by decide)), of_eq_true (hb0 23 (by decide) (by decide)), of_eq_true (hb0 24 (by decide) (by decide)), of_eq_true (hb0 25 (by decide) (by decide)), of_eq_true (hb0 26 (by decide) (by decide)), of_eq_true (hb0 27 (by decide) (by decide)), of_eq_true (hb0 28 (by decide) (by decide)), of_eq_true (hb0 29 (by decide) (by decide)), of_eq_true (hb0 30 (by decide) (by decide)), of_eq_true (hb0 31 (by decide) (by decide)), of_eq_true (hb0 32 (by decide) (by decide)), of_eq_true (hb0 33 (by decide) (by decide)), of_eq_true (hb0 34 (by decide) (by decide)), of_eq_true (hb0 35 (by decide) (by decide)), of_eq_true (hb0 36 (by decide) (by decide)), of_eq_true (hb0 37 (by decide) (by decide)), of_eq_true (hb0 38 (by decide) (by decide)), of_eq_true (hb0 39 (by decide) (by decide)), of_eq_true (hb0 40 (by decide) (by decide)), of_eq_true (hb0 41 (by decide) (by decide)), of_eq_true (hb0 42 (by decide) (by decide)), of_eq_true (hb0 43 (by decide) (by decide)), of_eq_true (hb0 44 (by decide) (by decide)), of_eq_true (hb0 45 (by decide) (by decide)), of_eq_true (hb0 46 (by decide) (by decide)), of_eq_true (hb0 47 (by decide) (by decide)), of_eq_true (hb0 48 (by decide) (by decide)), of_eq_true (hb0 49 (by decide) (by decide)), of_eq_true (hb0 50 (by decide) (by decide)), of_eq_true (hb0 51 (by decide) (by decide)), of_eq_true (hb0 52 (by decide) (by decide)), of_eq_true (hb0 53 (by decide) (by decide)), of_eq_true (hb0 54 (by decide) (by decide)), of_eq_true (hb0 55 (by decide) (by decide)), of_eq_true (hb0 56 (by decide) (by decide)), of_eq_true (hb0 57 (by decide) (by decide)), of_eq_true (hb0 58 (by decide) (by decide)), of_eq_true (hb0 59 (by decide) (by decide)), of_eq_true (hb0 60 (by decide) (by decide)), of_eq_true (hb0 61 (by decide) (by decide)), of_eq_true (hb0 62 (by decide) (by decide)), of_eq_true (hb0 63 (by decide) (by decide)), of_eq_true (hb0 64 (by decide) (by decide)), of_eq_true (hb0 65 (by decide) (by decide)), of_eq_true (hb0 66 (by decide) (by decide)), of_eq_true (hb0 67 (by decide) (by decide)), of_eq_true (hb0 68 (by decide) (by decide)), of_eq_true (hb0 69 (by decide) (by decide)), of_eq_true (hb0 70 (by decide) (by decide)), of_eq_true (hb0 71 (by decide) (by decide)), of_eq_true (hb0 72 (by decide) (by decide)), of_eq_true (hb0 73 (by decide) (by decide)), of_eq_true (hb0 74 (by decide) (by decide)), of_eq_true (hb0 75 (by decide) (by decide)), of_eq_true (hb0 76 (by decide) (by decide)), of_eq_true (hb0 77 (by decide) (by decide)), of_eq_true (hb0 78 (by decide) (by decide)), of_eq_true (hb0 79 (by decide) (by decide)), of_eq_true (hb0 80 (by decide) (by decide)), of_eq_true (hb0 81 (by decide) (by decide)), of_eq_true (hb0 82 (by decide) (by decide)), of_eq_true (hb0 83 (by decide) (by decide)), of_eq_true (hb0 84 (by decide) (by decide)), of_eq_true (hb0 85 (by decide) (by decide)), of_eq_true (hb0 86 (by decide) (by decide)), of_eq_true (hb0 87 (by decide) (by decide)), of_eq_true (hb0 88 (by decide) (by decide)), of_eq_true (hb0 89 (by decide) (by decide)), of_eq_true (hb0 90 (by decide) (by decide)), of_eq_true (hb0 91 (by decide) (by decide)), of_eq_true (hb0 92 (by decide) (by decide)), of_eq_true (hb0 93 (by decide) (by decide)), of_eq_true (hb0 94 (by decide) (by decide)), of_eq_true (hb0 95 (by decide) (by decide)), of_eq_true (hb0 96 (by decide) (by decide)), of_eq_true (hb0 97 (by decide) (by decide)), of_eq_true (hb0 98 (by decide) (by decide)), of_eq_true (hb0 99 (by decide) (by decide)), of_eq_true (hb0 100 (by decide) (by decide)), of_eq_true (hb0 101 (by decide) (by decide)), of_eq_true (hb0 102 (by decide) (by decide)), of_eq_true (hb0 103 (by decide) (by decide)), of_eq_true (hb0 104 (by decide) (by decide)), of_eq_true (hb0 105 (by decide) (by decide)), of_eq_true (hb0 106 (by decide) (by decide)), of_eq_true (hb0 107 (by decide) (by decide)), of_eq_true (hb0 108 (by decide) (by decide)), of_eq_true (hb0 109 (by decide) (by decide)), of_eq_true (hb0 110 (by decide) (by decide)), of_eq_true (hb0 111 (by decide) (by decide)), of_eq_true (hb0 112 (by decide) (by decide)), of_eq_true (hb0 113 (by decide) (by decide)), of_eq_true (hb0 114 (by decide) (by decide)), of_eq_true (hb0 115 (by decide) (by decide)), of_eq_true (hb0 116 (by decide) (by decide))⟩
end Go.Proofs.Ytefkjdkalgemeaa.Tab
