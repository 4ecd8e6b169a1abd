/-
  The table of the types of this seat, for the value-semantics layer. Written by a program (mktab.py).
-/
import Derived.Test.YtfjebmdmjlanjaaVsBits
import Derived.Test.YtfjebmdmjlanjaaRows
import Derived.KernelRfl
namespace Go.Proofs.Ytfjebmdmjlanjaa.Tab
open Go Go.VS

theorem tiok {P : Program} {t : TypeId} {ti : TI} {z : Value} (hu : P.underlying t = some ti.desc) (hi : (P.info? t).map (fun i => (i.size, i.bytes, i.zero)) = some (ti.size, ti.bytes, some z))
    (hz : z.cells.toList = ti.zero) (hl : ti.zero.all leafB = true) (hn : ti.zero.length = ti.size) (ha : ti.agg = isAggD ti.desc)
    (hp : ∀ fs, ti.desc = .struct fs → ∀ w, (fs.mapM fun f => (do pure (f.offset, ← sizeOf f.type) : Sem (Nat × Nat))).run P w = .ok ti.pl.toArray w) : TIok P t ti := by
  refine ⟨hu, ?_, hl, hn, ha, hp⟩
  cases h : P.info? t with
  | none => rw [h] at hi; cases hi
  | some i =>
    rw [h] at hi
    simp only [Option.map_some, Option.some.injEq, Prod.mk.injEq] at hi
    exact ⟨i, z, rfl, hi.1, hi.2.1, hi.2.2, hz⟩

/-- func() -/
abbrev ti1 : TI := { desc := .func #[] #[] false, size := 1, bytes := 8, zero := [.nilFunc], agg := false }
theorem ok1 : TIok Try.prog 1 ti1 := tiok (z := (.nilFunc)) (by kernel_rfl) (by kernel_rfl) rfl (by decide) rfl rfl (by intro fs h; cases h)
/-- int64 -/
abbrev ti2 : TI := { desc := .int .i64, size := 1, bytes := 8, zero := [.int .i64 0], agg := false }
theorem ok2 : TIok Try.prog 2 ti2 := tiok (z := (.int .i64 0)) (by kernel_rfl) (by kernel_rfl) rfl (by decide) rfl rfl (by intro fs h; cases h)
/-- int -/
abbrev ti3 : TI := { desc := .int .i64, size := 1, bytes := 8, zero := [.int .i64 0], agg := false }
theorem ok3 : TIok Try.prog 3 ti3 := tiok (z := (.int .i64 0)) (by kernel_rfl) (by kernel_rfl) rfl (by decide) rfl rfl (by intro fs h; cases h)
/-- bool -/
abbrev ti4 : TI := { desc := .bool, size := 1, bytes := 1, zero := [.bool false], agg := false }
theorem ok4 : TIok Try.prog 4 ti4 := tiok (z := (.bool false)) (by kernel_rfl) (by kernel_rfl) rfl (by decide) rfl rfl (by intro fs h; cases h)
/-- uint8 -/
abbrev ti5 : TI := { desc := .int .u8, size := 1, bytes := 1, zero := [.int .u8 0], agg := false }
theorem ok5 : TIok Try.prog 5 ti5 := tiok (z := (.int .u8 0)) (by kernel_rfl) (by kernel_rfl) rfl (by decide) rfl rfl (by intro fs h; cases h)
/-- string -/
abbrev ti9 : TI := { desc := .string, size := 1, bytes := 16, zero := [.string ByteArray.empty], agg := false }
theorem ok9 : TIok Try.prog 9 ti9 := tiok (z := (.string ByteArray.empty)) (by kernel_rfl) (by kernel_rfl) rfl (by decide) rfl rfl (by intro fs h; cases h)
/-- uintptr -/
abbrev ti12 : TI := { desc := .int .u64, size := 1, bytes := 8, zero := [.int .u64 0], agg := false }
theorem ok12 : TIok Try.prog 12 ti12 := tiok (z := (.int .u64 0)) (by kernel_rfl) (by kernel_rfl) rfl (by decide) rfl rfl (by intro fs h; cases h)
/-- interface {} -/
abbrev ti20 : TI := { desc := .interface #[], size := 1, bytes := 16, zero := [.nilIface], agg := false }
theorem ok20 : TIok Try.prog 20 ti20 := tiok (z := (.nilIface)) (by kernel_rfl) (by kernel_rfl) rfl (by decide) rfl rfl (by intro fs h; cases h)
/-- int32 -/
abbrev ti21 : TI := { desc := .int .i32, size := 1, bytes := 4, zero := [.int .i32 0], agg := false }
theorem ok21 : TIok Try.prog 21 ti21 := tiok (z := (.int .i32 0)) (by kernel_rfl) (by kernel_rfl) rfl (by decide) rfl rfl (by intro fs h; cases h)
/-- [32]uint8 -/
abbrev ti22 : TI := { desc := .array 32 5, size := 32, bytes := 32, zero := List.replicate 32 (.int .u8 0), agg := true }
theorem ok22 : TIok Try.prog 22 ti22 := tiok (z := (.agg (List.replicate 32 (.int .u8 0) : List Value).toArray)) (by kernel_rfl) (by kernel_rfl) rfl (by decide) rfl rfl (by intro fs h; cases h)
/-- func([]uint8) [32]uint8 -/
abbrev ti23 : TI := { desc := .func #[25] #[22] false, size := 1, bytes := 8, zero := [.nilFunc], agg := false }
theorem ok23 : TIok Try.prog 23 ti23 := tiok (z := (.nilFunc)) (by kernel_rfl) (by kernel_rfl) rfl (by decide) rfl rfl (by intro fs h; cases h)
/-- func() bool -/
abbrev ti24 : TI := { desc := .func #[] #[4] false, size := 1, bytes := 8, zero := [.nilFunc], agg := false }
theorem ok24 : TIok Try.prog 24 ti24 := tiok (z := (.nilFunc)) (by kernel_rfl) (by kernel_rfl) rfl (by decide) rfl rfl (by intro fs h; cases h)
/-- []uint8 -/
abbrev ti25 : TI := { desc := .slice 5, size := 1, bytes := 24, zero := [.slice none 0 0], agg := false }
theorem ok25 : TIok Try.prog 25 ti25 := tiok (z := (.slice none 0 0)) (by kernel_rfl) (by kernel_rfl) rfl (by decide) rfl rfl (by intro fs h; cases h)
/-- func([]uint8) []uint8 -/
abbrev ti26 : TI := { desc := .func #[25] #[25] false, size := 1, bytes := 8, zero := [.nilFunc], agg := false }
theorem ok26 : TIok Try.prog 26 ti26 := tiok (z := (.nilFunc)) (by kernel_rfl) (by kernel_rfl) rfl (by decide) rfl rfl (by intro fs h; cases h)
/-- uint32 -/
abbrev ti27 : TI := { desc := .int .u32, size := 1, bytes := 4, zero := [.int .u32 0], agg := false }
theorem ok27 : TIok Try.prog 27 ti27 := tiok (z := (.int .u32 0)) (by kernel_rfl) (by kernel_rfl) rfl (by decide) rfl rfl (by intro fs h; cases h)
/-- [8]uint32 -/
abbrev ti28 : TI := { desc := .array 8 27, size := 8, bytes := 32, zero := [.int .u32 0, .int .u32 0, .int .u32 0, .int .u32 0, .int .u32 0, .int .u32 0, .int .u32 0, .int .u32 0], agg := true }
theorem ok28 : TIok Try.prog 28 ti28 := tiok (z := (.agg ([.int .u32 0, .int .u32 0, .int .u32 0, .int .u32 0, .int .u32 0, .int .u32 0, .int .u32 0, .int .u32 0] : List Value).toArray)) (by kernel_rfl) (by kernel_rfl) rfl (by decide) rfl rfl (by intro fs h; cases h)
/-- [64]uint8 -/
abbrev ti29 : TI := { desc := .array 64 5, size := 64, bytes := 64, zero := List.replicate 64 (.int .u8 0), agg := true }
theorem ok29 : TIok Try.prog 29 ti29 := tiok (z := (.agg (List.replicate 64 (.int .u8 0) : List Value).toArray)) (by kernel_rfl) (by kernel_rfl) rfl (by decide) rfl rfl (by intro fs h; cases h)
/-- func([8]uint32, [64]uint8) [8]uint32 -/
abbrev ti30 : TI := { desc := .func #[28, 29] #[28] false, size := 1, bytes := 8, zero := [.nilFunc], agg := false }
theorem ok30 : TIok Try.prog 30 ti30 := tiok (z := (.nilFunc)) (by kernel_rfl) (by kernel_rfl) rfl (by decide) rfl rfl (by intro fs h; cases h)
/-- func([8]uint32, [64]uint8, []uint8) bool -/
abbrev ti31 : TI := { desc := .func #[28, 29, 25] #[4] false, size := 1, bytes := 8, zero := [.nilFunc], agg := false }
theorem ok31 : TIok Try.prog 31 ti31 := tiok (z := (.nilFunc)) (by kernel_rfl) (by kernel_rfl) rfl (by decide) rfl rfl (by intro fs h; cases h)
/-- func() [8]uint32 -/
abbrev ti32 : TI := { desc := .func #[] #[28] false, size := 1, bytes := 8, zero := [.nilFunc], agg := false }
theorem ok32 : TIok Try.prog 32 ti32 := tiok (z := (.nilFunc)) (by kernel_rfl) (by kernel_rfl) rfl (by decide) rfl rfl (by intro fs h; cases h)
/-- func([8]uint32) [32]uint8 -/
abbrev ti33 : TI := { desc := .func #[28] #[22] false, size := 1, bytes := 8, zero := [.nilFunc], agg := false }
theorem ok33 : TIok Try.prog 33 ti33 := tiok (z := (.nilFunc)) (by kernel_rfl) (by kernel_rfl) rfl (by decide) rfl rfl (by intro fs h; cases h)
/-- func([]uint8, uint8) bool -/
abbrev ti34 : TI := { desc := .func #[25, 5] #[4] false, size := 1, bytes := 8, zero := [.nilFunc], agg := false }
theorem ok34 : TIok Try.prog 34 ti34 := tiok (z := (.nilFunc)) (by kernel_rfl) (by kernel_rfl) rfl (by decide) rfl rfl (by intro fs h; cases h)
/-- func([]uint8, []uint8) bool -/
abbrev ti35 : TI := { desc := .func #[25, 25] #[4] false, size := 1, bytes := 8, zero := [.nilFunc], agg := false }
theorem ok35 : TIok Try.prog 35 ti35 := tiok (z := (.nilFunc)) (by kernel_rfl) (by kernel_rfl) rfl (by decide) rfl rfl (by intro fs h; cases h)
/-- leverframe/api.Errno -/
abbrev ti36 : TI := { desc := .int .i64, size := 1, bytes := 8, zero := [.int .i64 0], agg := false }
theorem ok36 : TIok Try.prog 36 ti36 := tiok (z := (.int .i64 0)) (by kernel_rfl) (by kernel_rfl) rfl (by decide) rfl rfl (by intro fs h; cases h)
/-- func([]uint8, []uint8) ([32]uint8, api.Errno) -/
abbrev ti38 : TI := { desc := .func #[25, 25] #[22, 36] false, size := 1, bytes := 8, zero := [.nilFunc], agg := false }
theorem ok38 : TIok Try.prog 38 ti38 := tiok (z := (.nilFunc)) (by kernel_rfl) (by kernel_rfl) rfl (by decide) rfl rfl (by intro fs h; cases h)
/-- func([]uint8, uint8) []uint8 -/
abbrev ti39 : TI := { desc := .func #[25, 5] #[25] false, size := 1, bytes := 8, zero := [.nilFunc], agg := false }
theorem ok39 : TIok Try.prog 39 ti39 := tiok (z := (.nilFunc)) (by kernel_rfl) (by kernel_rfl) rfl (by decide) rfl rfl (by intro fs h; cases h)
/-- func([]uint8, []uint8, []uint8) bool -/
abbrev ti40 : TI := { desc := .func #[25, 25, 25] #[4] false, size := 1, bytes := 8, zero := [.nilFunc], agg := false }
theorem ok40 : TIok Try.prog 40 ti40 := tiok (z := (.nilFunc)) (by kernel_rfl) (by kernel_rfl) rfl (by decide) rfl rfl (by intro fs h; cases h)
/-- func([]uint8, uint8, []uint8) bool -/
abbrev ti41 : TI := { desc := .func #[25, 5, 25] #[4] false, size := 1, bytes := 8, zero := [.nilFunc], agg := false }
theorem ok41 : TIok Try.prog 41 ti41 := tiok (z := (.nilFunc)) (by kernel_rfl) (by kernel_rfl) rfl (by decide) rfl rfl (by intro fs h; cases h)
/-- func([32]uint8, [32]uint8) bool -/
abbrev ti42 : TI := { desc := .func #[22, 22] #[4] false, size := 1, bytes := 8, zero := [.nilFunc], agg := false }
theorem ok42 : TIok Try.prog 42 ti42 := tiok (z := (.nilFunc)) (by kernel_rfl) (by kernel_rfl) rfl (by decide) rfl rfl (by intro fs h; cases h)
/-- func([]uint8, []uint8) ([32]uint8, int) -/
abbrev ti44 : TI := { desc := .func #[25, 25] #[22, 3] false, size := 1, bytes := 8, zero := [.nilFunc], agg := false }
theorem ok44 : TIok Try.prog 44 ti44 := tiok (z := (.nilFunc)) (by kernel_rfl) (by kernel_rfl) rfl (by decide) rfl rfl (by intro fs h; cases h)
/-- func([]uint8, []uint8, [32]uint8, [32]uint8) bool -/
abbrev ti45 : TI := { desc := .func #[25, 25, 22, 22] #[4] false, size := 1, bytes := 8, zero := [.nilFunc], agg := false }
theorem ok45 : TIok Try.prog 45 ti45 := tiok (z := (.nilFunc)) (by kernel_rfl) (by kernel_rfl) rfl (by decide) rfl rfl (by intro fs h; cases h)
/-- func([32]uint8, uint8, uint8) bool -/
abbrev ti46 : TI := { desc := .func #[22, 5, 5] #[4] false, size := 1, bytes := 8, zero := [.nilFunc], agg := false }
theorem ok46 : TIok Try.prog 46 ti46 := tiok (z := (.nilFunc)) (by kernel_rfl) (by kernel_rfl) rfl (by decide) rfl rfl (by intro fs h; cases h)
/-- func(func([]uint8) bool) -/
abbrev ti47 : TI := { desc := .func #[63] #[] false, size := 1, bytes := 8, zero := [.nilFunc], agg := false }
theorem ok47 : TIok Try.prog 47 ti47 := tiok (z := (.nilFunc)) (by kernel_rfl) (by kernel_rfl) rfl (by decide) rfl rfl (by intro fs h; cases h)
/-- iter.Seq[[]byte] -/
abbrev ti48 : TI := { desc := .func #[63] #[] false, size := 1, bytes := 8, zero := [.nilFunc], agg := false }
theorem ok48 : TIok Try.prog 48 ti48 := tiok (z := (.nilFunc)) (by kernel_rfl) (by kernel_rfl) rfl (by decide) rfl rfl (by intro fs h; cases h)
/-- func([]uint8, int) iter.Seq[[]uint8] -/
abbrev ti49 : TI := { desc := .func #[25, 3] #[48] false, size := 1, bytes := 8, zero := [.nilFunc], agg := false }
theorem ok49 : TIok Try.prog 49 ti49 := tiok (z := (.nilFunc)) (by kernel_rfl) (by kernel_rfl) rfl (by decide) rfl rfl (by intro fs h; cases h)
/-- func([]uint8, uint64, int) []uint8 -/
abbrev ti50 : TI := { desc := .func #[25, 51, 3] #[25] false, size := 1, bytes := 8, zero := [.nilFunc], agg := false }
theorem ok50 : TIok Try.prog 50 ti50 := tiok (z := (.nilFunc)) (by kernel_rfl) (by kernel_rfl) rfl (by decide) rfl rfl (by intro fs h; cases h)
/-- uint64 -/
abbrev ti51 : TI := { desc := .int .u64, size := 1, bytes := 8, zero := [.int .u64 0], agg := false }
theorem ok51 : TIok Try.prog 51 ti51 := tiok (z := (.int .u64 0)) (by kernel_rfl) (by kernel_rfl) rfl (by decide) rfl rfl (by intro fs h; cases h)
/-- func() [32]uint8 -/
abbrev ti52 : TI := { desc := .func #[] #[22] false, size := 1, bytes := 8, zero := [.nilFunc], agg := false }
theorem ok52 : TIok Try.prog 52 ti52 := tiok (z := (.nilFunc)) (by kernel_rfl) (by kernel_rfl) rfl (by decide) rfl rfl (by intro fs h; cases h)
/-- [64]uint32 -/
abbrev ti53 : TI := { desc := .array 64 27, size := 64, bytes := 256, zero := List.replicate 64 (.int .u32 0), agg := true }
theorem ok53 : TIok Try.prog 53 ti53 := tiok (z := (.agg (List.replicate 64 (.int .u32 0) : List Value).toArray)) (by kernel_rfl) (by kernel_rfl) rfl (by decide) rfl rfl (by intro fs h; cases h)
/-- func() [64]uint32 -/
abbrev ti54 : TI := { desc := .func #[] #[53] false, size := 1, bytes := 8, zero := [.nilFunc], agg := false }
theorem ok54 : TIok Try.prog 54 ti54 := tiok (z := (.nilFunc)) (by kernel_rfl) (by kernel_rfl) rfl (by decide) rfl rfl (by intro fs h; cases h)
/-- func([64]uint8) [64]uint32 -/
abbrev ti55 : TI := { desc := .func #[29] #[53] false, size := 1, bytes := 8, zero := [.nilFunc], agg := false }
theorem ok55 : TIok Try.prog 55 ti55 := tiok (z := (.nilFunc)) (by kernel_rfl) (by kernel_rfl) rfl (by decide) rfl rfl (by intro fs h; cases h)
/-- func(uint32, int, int, int) uint32 -/
abbrev ti56 : TI := { desc := .func #[27, 3, 3, 3] #[27] false, size := 1, bytes := 8, zero := [.nilFunc], agg := false }
theorem ok56 : TIok Try.prog 56 ti56 := tiok (z := (.nilFunc)) (by kernel_rfl) (by kernel_rfl) rfl (by decide) rfl rfl (by intro fs h; cases h)
/-- func([8]uint32, []uint8, int) [8]uint32 -/
abbrev ti57 : TI := { desc := .func #[28, 25, 3] #[28] false, size := 1, bytes := 8, zero := [.nilFunc], agg := false }
theorem ok57 : TIok Try.prog 57 ti57 := tiok (z := (.nilFunc)) (by kernel_rfl) (by kernel_rfl) rfl (by decide) rfl rfl (by intro fs h; cases h)
/-- func(uint32, int) uint32 -/
abbrev ti58 : TI := { desc := .func #[27, 3] #[27] false, size := 1, bytes := 8, zero := [.nilFunc], agg := false }
theorem ok58 : TIok Try.prog 58 ti58 := tiok (z := (.nilFunc)) (by kernel_rfl) (by kernel_rfl) rfl (by decide) rfl rfl (by intro fs h; cases h)
/-- func() []uint8 -/
abbrev ti59 : TI := { desc := .func #[] #[25] false, size := 1, bytes := 8, zero := [.nilFunc], agg := false }
theorem ok59 : TIok Try.prog 59 ti59 := tiok (z := (.nilFunc)) (by kernel_rfl) (by kernel_rfl) rfl (by decide) rfl rfl (by intro fs h; cases h)
/-- func(...[]uint8) []uint8 -/
abbrev ti60 : TI := { desc := .func #[70] #[25] true, size := 1, bytes := 8, zero := [.nilFunc], agg := false }
theorem ok60 : TIok Try.prog 60 ti60 := tiok (z := (.nilFunc)) (by kernel_rfl) (by kernel_rfl) rfl (by decide) rfl rfl (by intro fs h; cases h)
/-- func(uint8, []uint8) [32]uint8 -/
abbrev ti61 : TI := { desc := .func #[5, 25] #[22] false, size := 1, bytes := 8, zero := [.nilFunc], agg := false }
theorem ok61 : TIok Try.prog 61 ti61 := tiok (z := (.nilFunc)) (by kernel_rfl) (by kernel_rfl) rfl (by decide) rfl rfl (by intro fs h; cases h)
/-- func([]uint8, []uint8) [32]uint8 -/
abbrev ti62 : TI := { desc := .func #[25, 25] #[22] false, size := 1, bytes := 8, zero := [.nilFunc], agg := false }
theorem ok62 : TIok Try.prog 62 ti62 := tiok (z := (.nilFunc)) (by kernel_rfl) (by kernel_rfl) rfl (by decide) rfl rfl (by intro fs h; cases h)
/-- func([]uint8) bool -/
abbrev ti63 : TI := { desc := .func #[25] #[4] false, size := 1, bytes := 8, zero := [.nilFunc], agg := false }
theorem ok63 : TIok Try.prog 63 ti63 := tiok (z := (.nilFunc)) (by kernel_rfl) (by kernel_rfl) rfl (by decide) rfl rfl (by intro fs h; cases h)
/-- uint -/
abbrev ti64 : TI := { desc := .int .u64, size := 1, bytes := 8, zero := [.int .u64 0], agg := false }
theorem ok64 : TIok Try.prog 64 ti64 := tiok (z := (.int .u64 0)) (by kernel_rfl) (by kernel_rfl) rfl (by decide) rfl rfl (by intro fs h; cases h)
/-- []uint32 -/
abbrev ti65 : TI := { desc := .slice 27, size := 1, bytes := 24, zero := [.slice none 0 0], agg := false }
theorem ok65 : TIok Try.prog 65 ti65 := tiok (z := (.slice none 0 0)) (by kernel_rfl) (by kernel_rfl) rfl (by decide) rfl rfl (by intro fs h; cases h)
/-- func() []uint32 -/
abbrev ti66 : TI := { desc := .func #[] #[65] false, size := 1, bytes := 8, zero := [.nilFunc], agg := false }
theorem ok66 : TIok Try.prog 66 ti66 := tiok (z := (.nilFunc)) (by kernel_rfl) (by kernel_rfl) rfl (by decide) rfl rfl (by intro fs h; cases h)
/-- func([]uint8, int) []uint32 -/
abbrev ti67 : TI := { desc := .func #[25, 3] #[65] false, size := 1, bytes := 8, zero := [.nilFunc], agg := false }
theorem ok67 : TIok Try.prog 67 ti67 := tiok (z := (.nilFunc)) (by kernel_rfl) (by kernel_rfl) rfl (by decide) rfl rfl (by intro fs h; cases h)
/-- func([]uint32) uint32 -/
abbrev ti68 : TI := { desc := .func #[65] #[27] false, size := 1, bytes := 8, zero := [.nilFunc], agg := false }
theorem ok68 : TIok Try.prog 68 ti68 := tiok (z := (.nilFunc)) (by kernel_rfl) (by kernel_rfl) rfl (by decide) rfl rfl (by intro fs h; cases h)
/-- func(uint32, uint32, uint32) uint32 -/
abbrev ti69 : TI := { desc := .func #[27, 27, 27] #[27] false, size := 1, bytes := 8, zero := [.nilFunc], agg := false }
theorem ok69 : TIok Try.prog 69 ti69 := tiok (z := (.nilFunc)) (by kernel_rfl) (by kernel_rfl) rfl (by decide) rfl rfl (by intro fs h; cases h)
/-- [][]uint8 -/
abbrev ti70 : TI := { desc := .slice 25, size := 1, bytes := 24, zero := [.slice none 0 0], agg := false }
theorem ok70 : TIok Try.prog 70 ti70 := tiok (z := (.slice none 0 0)) (by kernel_rfl) (by kernel_rfl) rfl (by decide) rfl rfl (by intro fs h; cases h)
/-- func([]uint8, int) []uint8 -/
abbrev ti71 : TI := { desc := .func #[25, 3] #[25] false, size := 1, bytes := 8, zero := [.nilFunc], agg := false }
theorem ok71 : TIok Try.prog 71 ti71 := tiok (z := (.nilFunc)) (by kernel_rfl) (by kernel_rfl) rfl (by decide) rfl rfl (by intro fs h; cases h)
/-- func([]uint32, int) uint32 -/
abbrev ti72 : TI := { desc := .func #[65, 3] #[27] false, size := 1, bytes := 8, zero := [.nilFunc], agg := false }
theorem ok72 : TIok Try.prog 72 ti72 := tiok (z := (.nilFunc)) (by kernel_rfl) (by kernel_rfl) rfl (by decide) rfl rfl (by intro fs h; cases h)
/-- func() string -/
abbrev ti73 : TI := { desc := .func #[] #[9] false, size := 1, bytes := 8, zero := [.nilFunc], agg := false }
theorem ok73 : TIok Try.prog 73 ti73 := tiok (z := (.nilFunc)) (by kernel_rfl) (by kernel_rfl) rfl (by decide) rfl rfl (by intro fs h; cases h)
/-- func() int -/
abbrev ti79 : TI := { desc := .func #[] #[3] false, size := 1, bytes := 8, zero := [.nilFunc], agg := false }
theorem ok79 : TIok Try.prog 79 ti79 := tiok (z := (.nilFunc)) (by kernel_rfl) (by kernel_rfl) rfl (by decide) rfl rfl (by intro fs h; cases h)
/-- *uint8 -/
abbrev ti83 : TI := { desc := .pointer 5, size := 1, bytes := 8, zero := [.pointer none], agg := false }
theorem ok83 : TIok Try.prog 83 ti83 := tiok (z := (.pointer none)) (by kernel_rfl) (by kernel_rfl) rfl (by decide) rfl rfl (by intro fs h; cases h)
def tab : TypeId → Option TI := fun t =>
  match t with
  | 1 => some ti1
  | 2 => some ti2
  | 3 => some ti3
  | 4 => some ti4
  | 5 => some ti5
  | 9 => some ti9
  | 12 => some ti12
  | 20 => some ti20
  | 21 => some ti21
  | 22 => some ti22
  | 23 => some ti23
  | 24 => some ti24
  | 25 => some ti25
  | 26 => some ti26
  | 27 => some ti27
  | 28 => some ti28
  | 29 => some ti29
  | 30 => some ti30
  | 31 => some ti31
  | 32 => some ti32
  | 33 => some ti33
  | 34 => some ti34
  | 35 => some ti35
  | 36 => some ti36
  | 38 => some ti38
  | 39 => some ti39
  | 40 => some ti40
  | 41 => some ti41
  | 42 => some ti42
  | 44 => some ti44
  | 45 => some ti45
  | 46 => some ti46
  | 47 => some ti47
  | 48 => some ti48
  | 49 => some ti49
  | 50 => some ti50
  | 51 => some ti51
  | 52 => some ti52
  | 53 => some ti53
  | 54 => some ti54
  | 55 => some ti55
  | 56 => some ti56
  | 57 => some ti57
  | 58 => some ti58
  | 59 => some ti59
  | 60 => some ti60
  | 61 => some ti61
  | 62 => some ti62
  | 63 => some ti63
  | 64 => some ti64
  | 65 => some ti65
  | 66 => some ti66
  | 67 => some ti67
  | 68 => some ti68
  | 69 => some ti69
  | 70 => some ti70
  | 71 => some ti71
  | 72 => some ti72
  | 73 => some ti73
  | 79 => some ti79
  | 83 => some ti83
  | _ => none
theorem tab1 : tab 1 = some ti1 := rfl
theorem tab2 : tab 2 = some ti2 := rfl
theorem tab3 : tab 3 = some ti3 := rfl
theorem tab4 : tab 4 = some ti4 := rfl
theorem tab5 : tab 5 = some ti5 := rfl
theorem tab9 : tab 9 = some ti9 := rfl
theorem tab12 : tab 12 = some ti12 := rfl
theorem tab20 : tab 20 = some ti20 := rfl
theorem tab21 : tab 21 = some ti21 := rfl
theorem tab22 : tab 22 = some ti22 := rfl
theorem tab23 : tab 23 = some ti23 := rfl
theorem tab24 : tab 24 = some ti24 := rfl
theorem tab25 : tab 25 = some ti25 := rfl
theorem tab26 : tab 26 = some ti26 := rfl
theorem tab27 : tab 27 = some ti27 := rfl
theorem tab28 : tab 28 = some ti28 := rfl
theorem tab29 : tab 29 = some ti29 := rfl
theorem tab30 : tab 30 = some ti30 := rfl
theorem tab31 : tab 31 = some ti31 := rfl
theorem tab32 : tab 32 = some ti32 := rfl
theorem tab33 : tab 33 = some ti33 := rfl
theorem tab34 : tab 34 = some ti34 := rfl
theorem tab35 : tab 35 = some ti35 := rfl
theorem tab36 : tab 36 = some ti36 := rfl
theorem tab38 : tab 38 = some ti38 := rfl
theorem tab39 : tab 39 = some ti39 := rfl
theorem tab40 : tab 40 = some ti40 := rfl
theorem tab41 : tab 41 = some ti41 := rfl
theorem tab42 : tab 42 = some ti42 := rfl
theorem tab44 : tab 44 = some ti44 := rfl
theorem tab45 : tab 45 = some ti45 := rfl
theorem tab46 : tab 46 = some ti46 := rfl
theorem tab47 : tab 47 = some ti47 := rfl
theorem tab48 : tab 48 = some ti48 := rfl
theorem tab49 : tab 49 = some ti49 := rfl
theorem tab50 : tab 50 = some ti50 := rfl
theorem tab51 : tab 51 = some ti51 := rfl
theorem tab52 : tab 52 = some ti52 := rfl
theorem tab53 : tab 53 = some ti53 := rfl
theorem tab54 : tab 54 = some ti54 := rfl
theorem tab55 : tab 55 = some ti55 := rfl
theorem tab56 : tab 56 = some ti56 := rfl
theorem tab57 : tab 57 = some ti57 := rfl
theorem tab58 : tab 58 = some ti58 := rfl
theorem tab59 : tab 59 = some ti59 := rfl
theorem tab60 : tab 60 = some ti60 := rfl
theorem tab61 : tab 61 = some ti61 := rfl
theorem tab62 : tab 62 = some ti62 := rfl
theorem tab63 : tab 63 = some ti63 := rfl
theorem tab64 : tab 64 = some ti64 := rfl
theorem tab65 : tab 65 = some ti65 := rfl
theorem tab66 : tab 66 = some ti66 := rfl
theorem tab67 : tab 67 = some ti67 := rfl
theorem tab68 : tab 68 = some ti68 := rfl
theorem tab69 : tab 69 = some ti69 := rfl
theorem tab70 : tab 70 = some ti70 := rfl
theorem tab71 : tab 71 = some ti71 := rfl
theorem tab72 : tab 72 = some ti72 := rfl
theorem tab73 : tab 73 = some ti73 := rfl
theorem tab79 : tab 79 = some ti79 := rfl
theorem tab83 : tab 83 = some ti83 := rfl
theorem tab_ok : TabOk Try.prog tab := by
  intro t ti h
  unfold tab at h
  split at h
  · cases h; exact ok1
  · cases h; exact ok2
  · cases h; exact ok3
  · cases h; exact ok4
  · cases h; exact ok5
  · cases h; exact ok9
  · cases h; exact ok12
  · cases h; exact ok20
  · cases h; exact ok21
  · cases h; exact ok22
  · cases h; exact ok23
  · cases h; exact ok24
  · cases h; exact ok25
  · cases h; exact ok26
  · cases h; exact ok27
  · cases h; exact ok28
  · cases h; exact ok29
  · cases h; exact ok30
  · cases h; exact ok31
  · cases h; exact ok32
  · cases h; exact ok33
  · cases h; exact ok34
  · cases h; exact ok35
  · cases h; exact ok36
  · cases h; exact ok38
  · cases h; exact ok39
  · cases h; exact ok40
  · cases h; exact ok41
  · cases h; exact ok42
  · cases h; exact ok44
  · cases h; exact ok45
  · cases h; exact ok46
  · cases h; exact ok47
  · cases h; exact ok48
  · cases h; exact ok49
  · cases h; exact ok50
  · cases h; exact ok51
  · cases h; exact ok52
  · cases h; exact ok53
  · cases h; exact ok54
  · cases h; exact ok55
  · cases h; exact ok56
  · cases h; exact ok57
  · cases h; exact ok58
  · cases h; exact ok59
  · cases h; exact ok60
  · cases h; exact ok61
  · cases h; exact ok62
  · cases h; exact ok63
  · cases h; exact ok64
  · cases h; exact ok65
  · cases h; exact ok66
  · cases h; exact ok67
  · cases h; exact ok68
  · cases h; exact ok69
  · cases h; exact ok70
  · cases h; exact ok71
  · cases h; exact ok72
  · cases h; exact ok73
  · cases h; exact ok79
  · cases h; exact ok83
  · cases h
theorem follows : Try.prog.follows .mixedOrders = true := by kernel_rfl
theorem hb0 (f : Nat) (h2 : 2 < f) (hf : f < 54) : hasBody Try.prog f = True := hasBody_of (n := 54) (by kernel_rfl) f h2 hf
theorem hbT : hasBody Try.prog 3 ∧ hasBody Try.prog 4 ∧ hasBody Try.prog 5 ∧ hasBody Try.prog 6 ∧ hasBody Try.prog 7 ∧ hasBody Try.prog 8 ∧ hasBody Try.prog 9 ∧ hasBody Try.prog 10 ∧ hasBody Try.prog 11 ∧ hasBody Try.prog 12 ∧ hasBody Try.prog 13 ∧ hasBody Try.prog 14 ∧ hasBody Try.prog 15 ∧ hasBody Try.prog 16 ∧ hasBody Try.prog 17 ∧ hasBody Try.prog 18 ∧ hasBody Try.prog 19 ∧ hasBody Try.prog 20 ∧ hasBody Try.prog 21 ∧ hasBody Try.prog 22 ∧ hasBody Try.prog 23 ∧ hasBody Try.prog 24 ∧ hasBody Try.prog 25 ∧ hasBody Try.prog 26 ∧ hasBody Try.prog 27 ∧ hasBody Try.prog 28 ∧ hasBody Try.prog 29 ∧ hasBody Try.prog 30 ∧ hasBody Try.prog 31 ∧ hasBody Try.prog 32 ∧ hasBody Try.prog 33 ∧ hasBody Try.prog 34 ∧ hasBody Try.prog 35 ∧ hasBody Try.prog 36 ∧ hasBody Try.prog 37 ∧ hasBody Try.prog 38 ∧ hasBody Try.prog 39 ∧ hasBody Try.prog 40 ∧ hasBody Try.prog 41 ∧ hasBody Try.prog 42 ∧ hasBody Try.prog 43 ∧ hasBody Try.prog 44 ∧ hasBody Try.prog 45 ∧ hasBody Try.prog 46 ∧ hasBody Try.prog 47 ∧ hasBody Try.prog 48 ∧ hasBody Try.prog 49 ∧ hasBody Try.prog 50 ∧ hasBody Try.prog 51 ∧ hasBody Try.prog 52 ∧ hasBody Try.prog 53 :=
  ⟨of_eq_true (hb0 3 (by decide) (by decide)), of_eq_true (hb0 4 (by decide) (by decide)), of_eq_true (hb0 5 (by decide) (by decide)), of_eq_true (hb0 6 (by decide) (by decide)), of_eq_true (hb0 7 (by decide) (by decide)), of_eq_true (hb0 8 (by decide) (by decide)), of_eq_true (hb0 9 (by decide) (by decide)), of_eq_true (hb0 10 (by decide) (by decide)), of_eq_true (hb0 11 (by decide) (by decide)), of_eq_true (hb0 12 (by decide) (by decide)), of_eq_true (hb0 13 (by decide) (by decide)), of_eq_true (hb0 14 (by decide) (by decide)), of_eq_true (hb0 15 (by decide) (by decide)), of_eq_true (hb0 16 (by decide) (by decide)), of_eq_true (hb0 17 (by decide) (by decide)), of_eq_true (hb0 18 (by decide) (by decide)), of_eq_true (hb0 19 (by decide) (by decide)), of_eq_true (hb0 20 (by decide) (by decide)), of_eq_true (hb0 21 (by decide) (by decide)), of_eq_true (hb0 22 (by decide) (by decide)), of_eq_true (hb0 23 (by decide) (by decide)), of_eq_true (hb0 24 (by decide) (by decide)), of_eq_true (hb0 25 (by decide) (by decide)), of_eq_true (hb0 26 (by decide) (by decide)), of_eq_true (hb0 27 (by decide) (by decide)), of_eq_true (hb0 28 (by decide) (by decide)), of_eq_true (hb0 29 (by decide) (by decide)), of_eq_true (hb0 30 (by decide) (by decide)), of_eq_true (hb0 31 (by decide) (by decide)), of_eq_true (hb0 32 (by decide) (by decide)), of_eq_true (hb0 33 (by decide) (by decide)), of_eq_true (hb0 34 (by decide) (by decide)), of_eq_true (hb0 35 (by decide) (by decide)), of_eq_true (hb0 36 (by decide) (by decide)), of_eq_true (hb0 37 (by decide) (by decide)), of_eq_true (hb0 38 (by decide) (by decide)), of_eq_true (hb0 39 (by decide) (by decide)), of_eq_true (hb0 40 (by decide) (by decide)), of_eq_true (hb0 41 (by decide) (by decide)), of_eq_true (hb0 42 (by decide) (by decide)), of_eq_true (hb0 43 (by decide) (by decide)), of_eq_true (hb0 44 (by decide) (by decide)), of_eq_true (hb0 45 (by decide) (by decide)), of_eq_true (hb0 46 (by decide) (by decide)), of_eq_true (hb0 47 (by decide) (by decide)), of_eq_true (hb0 48 (by decide) (by decide)), of_eq_true (hb0 49 (by decide) (by decide)), of_eq_true (hb0 50 (by decide) (by decide)), of_eq_true (hb0 51 (by decide) (by decide)), of_eq_true (hb0 52 (by decide) (by decide)), of_eq_true (hb0 53 (by decide) (by decide))⟩
end Go.Proofs.Ytfjebmdmjlanjaa.Tab
