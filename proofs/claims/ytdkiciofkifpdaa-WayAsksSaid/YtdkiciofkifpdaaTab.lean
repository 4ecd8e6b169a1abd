/-
  The table of the types of this seat, for the value-semantics layer. Written by a program (mktab.py).
-/
import Derived.Test.YtdkiciofkifpdaaVsBits
import Derived.Test.YtdkiciofkifpdaaRows
import Derived.KernelRfl
namespace Go.Proofs.Ytdkiciofkifpdaa.Tab
open Go Go.VS

theorem tiok {P : Program} {t : TypeId} {ti : TI} {z : Value} (hu : P.underlying t = some ti.desc) (hi : (P.info? t).map (fun i => (i.size, i.bytes, i.zero)) = some (ti.size, ti.bytes, some z))
    (hz : z.cells.toList = ti.zero) (hl : ti.zero.all leafB = true) (hn : ti.zero.length = ti.size) (ha : ti.agg = isAggD ti.desc)
    (hp : ∀ fs, ti.desc = .struct fs → ∀ w, (fs.mapM fun f => (do pure (f.offset, ← sizeOf f.type) : Sem (Nat × Nat))).run P w = .ok ti.pl.toArray w) : TIok P t ti := by
  refine ⟨hu, ?_, hl, hn, ha, hp⟩
  cases h : P.info? t with
  | none => rw [h] at hi; cases hi
  | some i =>
    rw [h] at hi
    simp only [Option.map_some, Option.some.injEq, Prod.mk.injEq] at hi
    exact ⟨i, z, rfl, hi.1, hi.2.1, hi.2.2, hz⟩

/-- func() -/
abbrev ti1 : TI := { desc := .func #[] #[] false, size := 1, bytes := 8, zero := [.nilFunc], agg := false }
set_option maxRecDepth 100000 in
theorem ok1 : TIok Try.prog 1 ti1 := tiok (z := (.nilFunc)) (by kernel_rfl) (by kernel_rfl) rfl (by decide) rfl rfl (by intro fs h; cases h)
/-- int64 -/
abbrev ti2 : TI := { desc := .int .i64, size := 1, bytes := 8, zero := [.int .i64 0], agg := false }
set_option maxRecDepth 100000 in
theorem ok2 : TIok Try.prog 2 ti2 := tiok (z := (.int .i64 0)) (by kernel_rfl) (by kernel_rfl) rfl (by decide) rfl rfl (by intro fs h; cases h)
/-- int -/
abbrev ti3 : TI := { desc := .int .i64, size := 1, bytes := 8, zero := [.int .i64 0], agg := false }
set_option maxRecDepth 100000 in
theorem ok3 : TIok Try.prog 3 ti3 := tiok (z := (.int .i64 0)) (by kernel_rfl) (by kernel_rfl) rfl (by decide) rfl rfl (by intro fs h; cases h)
/-- bool -/
abbrev ti4 : TI := { desc := .bool, size := 1, bytes := 1, zero := [.bool false], agg := false }
set_option maxRecDepth 100000 in
theorem ok4 : TIok Try.prog 4 ti4 := tiok (z := (.bool false)) (by kernel_rfl) (by kernel_rfl) rfl (by decide) rfl rfl (by intro fs h; cases h)
/-- uint8 -/
abbrev ti5 : TI := { desc := .int .u8, size := 1, bytes := 1, zero := [.int .u8 0], agg := false }
set_option maxRecDepth 100000 in
theorem ok5 : TIok Try.prog 5 ti5 := tiok (z := (.int .u8 0)) (by kernel_rfl) (by kernel_rfl) rfl (by decide) rfl rfl (by intro fs h; cases h)
/-- string -/
abbrev ti9 : TI := { desc := .string, size := 1, bytes := 16, zero := [.string ByteArray.empty], agg := false }
set_option maxRecDepth 100000 in
theorem ok9 : TIok Try.prog 9 ti9 := tiok (z := (.string ByteArray.empty)) (by kernel_rfl) (by kernel_rfl) rfl (by decide) rfl rfl (by intro fs h; cases h)
/-- uintptr -/
abbrev ti12 : TI := { desc := .int .u64, size := 1, bytes := 8, zero := [.int .u64 0], agg := false }
set_option maxRecDepth 100000 in
theorem ok12 : TIok Try.prog 12 ti12 := tiok (z := (.int .u64 0)) (by kernel_rfl) (by kernel_rfl) rfl (by decide) rfl rfl (by intro fs h; cases h)
/-- interface {} -/
abbrev ti20 : TI := { desc := .interface #[], size := 1, bytes := 16, zero := [.nilIface], agg := false }
set_option maxRecDepth 100000 in
theorem ok20 : TIok Try.prog 20 ti20 := tiok (z := (.nilIface)) (by kernel_rfl) (by kernel_rfl) rfl (by decide) rfl rfl (by intro fs h; cases h)
/-- int32 -/
abbrev ti21 : TI := { desc := .int .i32, size := 1, bytes := 4, zero := [.int .i32 0], agg := false }
set_option maxRecDepth 100000 in
theorem ok21 : TIok Try.prog 21 ti21 := tiok (z := (.int .i32 0)) (by kernel_rfl) (by kernel_rfl) rfl (by decide) rfl rfl (by intro fs h; cases h)
/-- []api.Section -/
abbrev ti22 : TI := { desc := .slice 37, size := 1, bytes := 24, zero := [.slice none 0 0], agg := false }
set_option maxRecDepth 100000 in
theorem ok22 : TIok Try.prog 22 ti22 := tiok (z := (.slice none 0 0)) (by kernel_rfl) (by kernel_rfl) rfl (by decide) rfl rfl (by intro fs h; cases h)
/-- []api.Point -/
abbrev ti23 : TI := { desc := .slice 44, size := 1, bytes := 24, zero := [.slice none 0 0], agg := false }
set_option maxRecDepth 100000 in
theorem ok23 : TIok Try.prog 23 ti23 := tiok (z := (.slice none 0 0)) (by kernel_rfl) (by kernel_rfl) rfl (by decide) rfl rfl (by intro fs h; cases h)
/-- []api.Signal -/
abbrev ti24 : TI := { desc := .slice 48, size := 1, bytes := 24, zero := [.slice none 0 0], agg := false }
set_option maxRecDepth 100000 in
theorem ok24 : TIok Try.prog 24 ti24 := tiok (z := (.slice none 0 0)) (by kernel_rfl) (by kernel_rfl) rfl (by decide) rfl rfl (by intro fs h; cases h)
/-- []api.Route -/
abbrev ti25 : TI := { desc := .slice 34, size := 1, bytes := 24, zero := [.slice none 0 0], agg := false }
set_option maxRecDepth 100000 in
theorem ok25 : TIok Try.prog 25 ti25 := tiok (z := (.slice none 0 0)) (by kernel_rfl) (by kernel_rfl) rfl (by decide) rfl rfl (by intro fs h; cases h)
/-- struct { Version int; Parent int; Sections []api.Section; Points []api.Point; Signals []api.Signal; Routes []api.Route } -/
abbrev ti26 : TI := { desc := .struct #[⟨ "Version", 3, 0, false, "", "", 0⟩, ⟨ "Parent", 3, 1, false, "", "", 8⟩, ⟨ "Sections", 22, 2, false, "", "", 16⟩, ⟨ "Points", 23, 3, false, "", "", 40⟩, ⟨ "Signals", 24, 4, false, "", "", 64⟩, ⟨ "Routes", 25, 5, false, "", "", 88⟩], size := 6, bytes := 112, zero := [.int .i64 0, .int .i64 0, .slice none 0 0, .slice none 0 0, .slice none 0 0, .slice none 0 0], agg := true, pl := [(0, 1), (1, 1), (2, 1), (3, 1), (4, 1), (5, 1)] }
set_option maxRecDepth 100000 in
theorem ok26 : TIok Try.prog 26 ti26 := tiok (z := (.agg ([.int .i64 0, .int .i64 0, .slice none 0 0, .slice none 0 0, .slice none 0 0, .slice none 0 0] : List Value).toArray)) (by kernel_rfl) (by kernel_rfl) rfl (by decide) rfl rfl (by intro fs h; injection h with h; subst h; intro w; kernel_rfl)
/-- leverframe/api.Plan -/
abbrev ti27 : TI := { desc := .struct #[⟨ "Version", 3, 0, false, "", "", 0⟩, ⟨ "Parent", 3, 1, false, "", "", 8⟩, ⟨ "Sections", 22, 2, false, "", "", 16⟩, ⟨ "Points", 23, 3, false, "", "", 40⟩, ⟨ "Signals", 24, 4, false, "", "", 64⟩, ⟨ "Routes", 25, 5, false, "", "", 88⟩], size := 6, bytes := 112, zero := [.int .i64 0, .int .i64 0, .slice none 0 0, .slice none 0 0, .slice none 0 0, .slice none 0 0], agg := true, pl := [(0, 1), (1, 1), (2, 1), (3, 1), (4, 1), (5, 1)] }
set_option maxRecDepth 100000 in
theorem ok27 : TIok Try.prog 27 ti27 := tiok (z := (.agg ([.int .i64 0, .int .i64 0, .slice none 0 0, .slice none 0 0, .slice none 0 0, .slice none 0 0] : List Value).toArray)) (by kernel_rfl) (by kernel_rfl) rfl (by decide) rfl rfl (by intro fs h; injection h with h; subst h; intro w; kernel_rfl)
/-- func(api.Plan) bool -/
abbrev ti28 : TI := { desc := .func #[27] #[4] false, size := 1, bytes := 8, zero := [.nilFunc], agg := false }
set_option maxRecDepth 100000 in
theorem ok28 : TIok Try.prog 28 ti28 := tiok (z := (.nilFunc)) (by kernel_rfl) (by kernel_rfl) rfl (by decide) rfl rfl (by intro fs h; cases h)
/-- func(api.Plan) api.Plan -/
abbrev ti29 : TI := { desc := .func #[27] #[27] false, size := 1, bytes := 8, zero := [.nilFunc], agg := false }
set_option maxRecDepth 100000 in
theorem ok29 : TIok Try.prog 29 ti29 := tiok (z := (.nilFunc)) (by kernel_rfl) (by kernel_rfl) rfl (by decide) rfl rfl (by intro fs h; cases h)
/-- func(api.Plan, api.Plan) bool -/
abbrev ti30 : TI := { desc := .func #[27, 27] #[4] false, size := 1, bytes := 8, zero := [.nilFunc], agg := false }
set_option maxRecDepth 100000 in
theorem ok30 : TIok Try.prog 30 ti30 := tiok (z := (.nilFunc)) (by kernel_rfl) (by kernel_rfl) rfl (by decide) rfl rfl (by intro fs h; cases h)
/-- []int -/
abbrev ti31 : TI := { desc := .slice 3, size := 1, bytes := 24, zero := [.slice none 0 0], agg := false }
set_option maxRecDepth 100000 in
theorem ok31 : TIok Try.prog 31 ti31 := tiok (z := (.slice none 0 0)) (by kernel_rfl) (by kernel_rfl) rfl (by decide) rfl rfl (by intro fs h; cases h)
/-- []api.Flank -/
abbrev ti32 : TI := { desc := .slice 85, size := 1, bytes := 24, zero := [.slice none 0 0], agg := false }
set_option maxRecDepth 100000 in
theorem ok32 : TIok Try.prog 32 ti32 := tiok (z := (.slice none 0 0)) (by kernel_rfl) (by kernel_rfl) rfl (by decide) rfl rfl (by intro fs h; cases h)
/-- struct { Id int; Entry int; Exit int; Path []int; Over []int; Flanks []api.Flank; Timer int } -/
abbrev ti33 : TI := { desc := .struct #[⟨ "Id", 3, 0, false, "", "", 0⟩, ⟨ "Entry", 3, 1, false, "", "", 8⟩, ⟨ "Exit", 3, 2, false, "", "", 16⟩, ⟨ "Path", 31, 3, false, "", "", 24⟩, ⟨ "Over", 31, 4, false, "", "", 48⟩, ⟨ "Flanks", 32, 5, false, "", "", 72⟩, ⟨ "Timer", 3, 6, false, "", "", 96⟩], size := 7, bytes := 104, zero := [.int .i64 0, .int .i64 0, .int .i64 0, .slice none 0 0, .slice none 0 0, .slice none 0 0, .int .i64 0], agg := true, pl := [(0, 1), (1, 1), (2, 1), (3, 1), (4, 1), (5, 1), (6, 1)] }
set_option maxRecDepth 100000 in
theorem ok33 : TIok Try.prog 33 ti33 := tiok (z := (.agg ([.int .i64 0, .int .i64 0, .int .i64 0, .slice none 0 0, .slice none 0 0, .slice none 0 0, .int .i64 0] : List Value).toArray)) (by kernel_rfl) (by kernel_rfl) rfl (by decide) rfl rfl (by intro fs h; injection h with h; subst h; intro w; kernel_rfl)
/-- leverframe/api.Route -/
abbrev ti34 : TI := { desc := .struct #[⟨ "Id", 3, 0, false, "", "", 0⟩, ⟨ "Entry", 3, 1, false, "", "", 8⟩, ⟨ "Exit", 3, 2, false, "", "", 16⟩, ⟨ "Path", 31, 3, false, "", "", 24⟩, ⟨ "Over", 31, 4, false, "", "", 48⟩, ⟨ "Flanks", 32, 5, false, "", "", 72⟩, ⟨ "Timer", 3, 6, false, "", "", 96⟩], size := 7, bytes := 104, zero := [.int .i64 0, .int .i64 0, .int .i64 0, .slice none 0 0, .slice none 0 0, .slice none 0 0, .int .i64 0], agg := true, pl := [(0, 1), (1, 1), (2, 1), (3, 1), (4, 1), (5, 1), (6, 1)] }
set_option maxRecDepth 100000 in
theorem ok34 : TIok Try.prog 34 ti34 := tiok (z := (.agg ([.int .i64 0, .int .i64 0, .int .i64 0, .slice none 0 0, .slice none 0 0, .slice none 0 0, .int .i64 0] : List Value).toArray)) (by kernel_rfl) (by kernel_rfl) rfl (by decide) rfl rfl (by intro fs h; injection h with h; subst h; intro w; kernel_rfl)
/-- []api.Join -/
abbrev ti35 : TI := { desc := .slice 39, size := 1, bytes := 24, zero := [.slice none 0 0], agg := false }
set_option maxRecDepth 100000 in
theorem ok35 : TIok Try.prog 35 ti35 := tiok (z := (.slice none 0 0)) (by kernel_rfl) (by kernel_rfl) rfl (by decide) rfl rfl (by intro fs h; cases h)
/-- struct { Id int; Point int; Ends []api.Join } -/
abbrev ti36 : TI := { desc := .struct #[⟨ "Id", 3, 0, false, "", "", 0⟩, ⟨ "Point", 3, 1, false, "", "", 8⟩, ⟨ "Ends", 35, 2, false, "", "", 16⟩], size := 3, bytes := 40, zero := [.int .i64 0, .int .i64 0, .slice none 0 0], agg := true, pl := [(0, 1), (1, 1), (2, 1)] }
set_option maxRecDepth 100000 in
theorem ok36 : TIok Try.prog 36 ti36 := tiok (z := (.agg ([.int .i64 0, .int .i64 0, .slice none 0 0] : List Value).toArray)) (by kernel_rfl) (by kernel_rfl) rfl (by decide) rfl rfl (by intro fs h; injection h with h; subst h; intro w; kernel_rfl)
/-- leverframe/api.Section -/
abbrev ti37 : TI := { desc := .struct #[⟨ "Id", 3, 0, false, "", "", 0⟩, ⟨ "Point", 3, 1, false, "", "", 8⟩, ⟨ "Ends", 35, 2, false, "", "", 16⟩], size := 3, bytes := 40, zero := [.int .i64 0, .int .i64 0, .slice none 0 0], agg := true, pl := [(0, 1), (1, 1), (2, 1)] }
set_option maxRecDepth 100000 in
theorem ok37 : TIok Try.prog 37 ti37 := tiok (z := (.agg ([.int .i64 0, .int .i64 0, .slice none 0 0] : List Value).toArray)) (by kernel_rfl) (by kernel_rfl) rfl (by decide) rfl rfl (by intro fs h; injection h with h; subst h; intro w; kernel_rfl)
/-- struct { To int; End int } -/
abbrev ti38 : TI := { desc := .struct #[⟨ "To", 3, 0, false, "", "", 0⟩, ⟨ "End", 3, 1, false, "", "", 8⟩], size := 2, bytes := 16, zero := [.int .i64 0, .int .i64 0], agg := true, pl := [(0, 1), (1, 1)] }
set_option maxRecDepth 100000 in
theorem ok38 : TIok Try.prog 38 ti38 := tiok (z := (.agg ([.int .i64 0, .int .i64 0] : List Value).toArray)) (by kernel_rfl) (by kernel_rfl) rfl (by decide) rfl rfl (by intro fs h; injection h with h; subst h; intro w; kernel_rfl)
/-- leverframe/api.Join -/
abbrev ti39 : TI := { desc := .struct #[⟨ "To", 3, 0, false, "", "", 0⟩, ⟨ "End", 3, 1, false, "", "", 8⟩], size := 2, bytes := 16, zero := [.int .i64 0, .int .i64 0], agg := true, pl := [(0, 1), (1, 1)] }
set_option maxRecDepth 100000 in
theorem ok39 : TIok Try.prog 39 ti39 := tiok (z := (.agg ([.int .i64 0, .int .i64 0] : List Value).toArray)) (by kernel_rfl) (by kernel_rfl) rfl (by decide) rfl rfl (by intro fs h; injection h with h; subst h; intro w; kernel_rfl)
/-- func() bool -/
abbrev ti40 : TI := { desc := .func #[] #[4] false, size := 1, bytes := 8, zero := [.nilFunc], agg := false }
set_option maxRecDepth 100000 in
theorem ok40 : TIok Try.prog 40 ti40 := tiok (z := (.nilFunc)) (by kernel_rfl) (by kernel_rfl) rfl (by decide) rfl rfl (by intro fs h; cases h)
/-- leverframe/api.Errno -/
abbrev ti41 : TI := { desc := .int .i64, size := 1, bytes := 8, zero := [.int .i64 0], agg := false }
set_option maxRecDepth 100000 in
theorem ok41 : TIok Try.prog 41 ti41 := tiok (z := (.int .i64 0)) (by kernel_rfl) (by kernel_rfl) rfl (by decide) rfl rfl (by intro fs h; cases h)
/-- func(api.Plan) api.Errno -/
abbrev ti42 : TI := { desc := .func #[27] #[41] false, size := 1, bytes := 8, zero := [.nilFunc], agg := false }
set_option maxRecDepth 100000 in
theorem ok42 : TIok Try.prog 42 ti42 := tiok (z := (.nilFunc)) (by kernel_rfl) (by kernel_rfl) rfl (by decide) rfl rfl (by intro fs h; cases h)
/-- struct { Id int; Section int } -/
abbrev ti43 : TI := { desc := .struct #[⟨ "Id", 3, 0, false, "", "", 0⟩, ⟨ "Section", 3, 1, false, "", "", 8⟩], size := 2, bytes := 16, zero := [.int .i64 0, .int .i64 0], agg := true, pl := [(0, 1), (1, 1)] }
set_option maxRecDepth 100000 in
theorem ok43 : TIok Try.prog 43 ti43 := tiok (z := (.agg ([.int .i64 0, .int .i64 0] : List Value).toArray)) (by kernel_rfl) (by kernel_rfl) rfl (by decide) rfl rfl (by intro fs h; injection h with h; subst h; intro w; kernel_rfl)
/-- leverframe/api.Point -/
abbrev ti44 : TI := { desc := .struct #[⟨ "Id", 3, 0, false, "", "", 0⟩, ⟨ "Section", 3, 1, false, "", "", 8⟩], size := 2, bytes := 16, zero := [.int .i64 0, .int .i64 0], agg := true, pl := [(0, 1), (1, 1)] }
set_option maxRecDepth 100000 in
theorem ok44 : TIok Try.prog 44 ti44 := tiok (z := (.agg ([.int .i64 0, .int .i64 0] : List Value).toArray)) (by kernel_rfl) (by kernel_rfl) rfl (by decide) rfl rfl (by intro fs h; injection h with h; subst h; intro w; kernel_rfl)
/-- func(api.Plan, int, int) (int, api.Errno) -/
abbrev ti46 : TI := { desc := .func #[27, 3, 3] #[3, 41] false, size := 1, bytes := 8, zero := [.nilFunc], agg := false }
set_option maxRecDepth 100000 in
theorem ok46 : TIok Try.prog 46 ti46 := tiok (z := (.nilFunc)) (by kernel_rfl) (by kernel_rfl) rfl (by decide) rfl rfl (by intro fs h; cases h)
/-- struct { Id int; Section int; End int } -/
abbrev ti47 : TI := { desc := .struct #[⟨ "Id", 3, 0, false, "", "", 0⟩, ⟨ "Section", 3, 1, false, "", "", 8⟩, ⟨ "End", 3, 2, false, "", "", 16⟩], size := 3, bytes := 24, zero := [.int .i64 0, .int .i64 0, .int .i64 0], agg := true, pl := [(0, 1), (1, 1), (2, 1)] }
set_option maxRecDepth 100000 in
theorem ok47 : TIok Try.prog 47 ti47 := tiok (z := (.agg ([.int .i64 0, .int .i64 0, .int .i64 0] : List Value).toArray)) (by kernel_rfl) (by kernel_rfl) rfl (by decide) rfl rfl (by intro fs h; injection h with h; subst h; intro w; kernel_rfl)
/-- leverframe/api.Signal -/
abbrev ti48 : TI := { desc := .struct #[⟨ "Id", 3, 0, false, "", "", 0⟩, ⟨ "Section", 3, 1, false, "", "", 8⟩, ⟨ "End", 3, 2, false, "", "", 16⟩], size := 3, bytes := 24, zero := [.int .i64 0, .int .i64 0, .int .i64 0], agg := true, pl := [(0, 1), (1, 1), (2, 1)] }
set_option maxRecDepth 100000 in
theorem ok48 : TIok Try.prog 48 ti48 := tiok (z := (.agg ([.int .i64 0, .int .i64 0, .int .i64 0] : List Value).toArray)) (by kernel_rfl) (by kernel_rfl) rfl (by decide) rfl rfl (by intro fs h; injection h with h; subst h; intro w; kernel_rfl)
/-- func(api.Plan, int) (api.Signal, api.Errno) -/
abbrev ti50 : TI := { desc := .func #[27, 3] #[48, 41] false, size := 1, bytes := 8, zero := [.nilFunc], agg := false }
set_option maxRecDepth 100000 in
theorem ok50 : TIok Try.prog 50 ti50 := tiok (z := (.nilFunc)) (by kernel_rfl) (by kernel_rfl) rfl (by decide) rfl rfl (by intro fs h; cases h)
/-- func(api.Plan, uint8) bool -/
abbrev ti51 : TI := { desc := .func #[27, 5] #[4] false, size := 1, bytes := 8, zero := [.nilFunc], agg := false }
set_option maxRecDepth 100000 in
theorem ok51 : TIok Try.prog 51 ti51 := tiok (z := (.nilFunc)) (by kernel_rfl) (by kernel_rfl) rfl (by decide) rfl rfl (by intro fs h; cases h)
/-- func() api.Plan -/
abbrev ti52 : TI := { desc := .func #[] #[27] false, size := 1, bytes := 8, zero := [.nilFunc], agg := false }
set_option maxRecDepth 100000 in
theorem ok52 : TIok Try.prog 52 ti52 := tiok (z := (.nilFunc)) (by kernel_rfl) (by kernel_rfl) rfl (by decide) rfl rfl (by intro fs h; cases h)
/-- func(api.Plan, int) (api.Route, api.Errno) -/
abbrev ti54 : TI := { desc := .func #[27, 3] #[34, 41] false, size := 1, bytes := 8, zero := [.nilFunc], agg := false }
set_option maxRecDepth 100000 in
theorem ok54 : TIok Try.prog 54 ti54 := tiok (z := (.nilFunc)) (by kernel_rfl) (by kernel_rfl) rfl (by decide) rfl rfl (by intro fs h; cases h)
/-- func(api.Plan, int) (api.Point, api.Errno) -/
abbrev ti56 : TI := { desc := .func #[27, 3] #[44, 41] false, size := 1, bytes := 8, zero := [.nilFunc], agg := false }
set_option maxRecDepth 100000 in
theorem ok56 : TIok Try.prog 56 ti56 := tiok (z := (.nilFunc)) (by kernel_rfl) (by kernel_rfl) rfl (by decide) rfl rfl (by intro fs h; cases h)
/-- func(api.Plan, int) (api.Point, int) -/
abbrev ti58 : TI := { desc := .func #[27, 3] #[44, 3] false, size := 1, bytes := 8, zero := [.nilFunc], agg := false }
set_option maxRecDepth 100000 in
theorem ok58 : TIok Try.prog 58 ti58 := tiok (z := (.nilFunc)) (by kernel_rfl) (by kernel_rfl) rfl (by decide) rfl rfl (by intro fs h; cases h)
/-- func(api.Plan, int) (api.Signal, int) -/
abbrev ti60 : TI := { desc := .func #[27, 3] #[48, 3] false, size := 1, bytes := 8, zero := [.nilFunc], agg := false }
set_option maxRecDepth 100000 in
theorem ok60 : TIok Try.prog 60 ti60 := tiok (z := (.nilFunc)) (by kernel_rfl) (by kernel_rfl) rfl (by decide) rfl rfl (by intro fs h; cases h)
/-- func(api.Plan, int) (api.Route, int) -/
abbrev ti62 : TI := { desc := .func #[27, 3] #[34, 3] false, size := 1, bytes := 8, zero := [.nilFunc], agg := false }
set_option maxRecDepth 100000 in
theorem ok62 : TIok Try.prog 62 ti62 := tiok (z := (.nilFunc)) (by kernel_rfl) (by kernel_rfl) rfl (by decide) rfl rfl (by intro fs h; cases h)
/-- func(api.Plan, int, int) (int, int) -/
abbrev ti64 : TI := { desc := .func #[27, 3, 3] #[3, 3] false, size := 1, bytes := 8, zero := [.nilFunc], agg := false }
set_option maxRecDepth 100000 in
theorem ok64 : TIok Try.prog 64 ti64 := tiok (z := (.nilFunc)) (by kernel_rfl) (by kernel_rfl) rfl (by decide) rfl rfl (by intro fs h; cases h)
/-- func(api.Plan) int -/
abbrev ti65 : TI := { desc := .func #[27] #[3] false, size := 1, bytes := 8, zero := [.nilFunc], agg := false }
set_option maxRecDepth 100000 in
theorem ok65 : TIok Try.prog 65 ti65 := tiok (z := (.nilFunc)) (by kernel_rfl) (by kernel_rfl) rfl (by decide) rfl rfl (by intro fs h; cases h)
/-- func(api.Route, api.Route) bool -/
abbrev ti66 : TI := { desc := .func #[34, 34] #[4] false, size := 1, bytes := 8, zero := [.nilFunc], agg := false }
set_option maxRecDepth 100000 in
theorem ok66 : TIok Try.prog 66 ti66 := tiok (z := (.nilFunc)) (by kernel_rfl) (by kernel_rfl) rfl (by decide) rfl rfl (by intro fs h; cases h)
/-- func(api.Plan, int, int) bool -/
abbrev ti67 : TI := { desc := .func #[27, 3, 3] #[4] false, size := 1, bytes := 8, zero := [.nilFunc], agg := false }
set_option maxRecDepth 100000 in
theorem ok67 : TIok Try.prog 67 ti67 := tiok (z := (.nilFunc)) (by kernel_rfl) (by kernel_rfl) rfl (by decide) rfl rfl (by intro fs h; cases h)
/-- []api.Way -/
abbrev ti68 : TI := { desc := .slice 77, size := 1, bytes := 24, zero := [.slice none 0 0], agg := false }
set_option maxRecDepth 100000 in
theorem ok68 : TIok Try.prog 68 ti68 := tiok (z := (.slice none 0 0)) (by kernel_rfl) (by kernel_rfl) rfl (by decide) rfl rfl (by intro fs h; cases h)
/-- [][]api.Join -/
abbrev ti69 : TI := { desc := .slice 35, size := 1, bytes := 24, zero := [.slice none 0 0], agg := false }
set_option maxRecDepth 100000 in
theorem ok69 : TIok Try.prog 69 ti69 := tiok (z := (.slice none 0 0)) (by kernel_rfl) (by kernel_rfl) rfl (by decide) rfl rfl (by intro fs h; cases h)
/-- func(api.Plan) ([]api.Way, [][]api.Join, api.Errno) -/
abbrev ti71 : TI := { desc := .func #[27] #[68, 69, 41] false, size := 1, bytes := 8, zero := [.nilFunc], agg := false }
set_option maxRecDepth 100000 in
theorem ok71 : TIok Try.prog 71 ti71 := tiok (z := (.nilFunc)) (by kernel_rfl) (by kernel_rfl) rfl (by decide) rfl rfl (by intro fs h; cases h)
/-- func(api.Plan) ([]api.Way, [][]api.Join, int) -/
abbrev ti73 : TI := { desc := .func #[27] #[68, 69, 3] false, size := 1, bytes := 8, zero := [.nilFunc], agg := false }
set_option maxRecDepth 100000 in
theorem ok73 : TIok Try.prog 73 ti73 := tiok (z := (.nilFunc)) (by kernel_rfl) (by kernel_rfl) rfl (by decide) rfl rfl (by intro fs h; cases h)
/-- func(api.Way, api.Way) bool -/
abbrev ti74 : TI := { desc := .func #[77, 77] #[4] false, size := 1, bytes := 8, zero := [.nilFunc], agg := false }
set_option maxRecDepth 100000 in
theorem ok74 : TIok Try.prog 74 ti74 := tiok (z := (.nilFunc)) (by kernel_rfl) (by kernel_rfl) rfl (by decide) rfl rfl (by intro fs h; cases h)
/-- []api.Ask -/
abbrev ti75 : TI := { desc := .slice 83, size := 1, bytes := 24, zero := [.slice none 0 0], agg := false }
set_option maxRecDepth 100000 in
theorem ok75 : TIok Try.prog 75 ti75 := tiok (z := (.slice none 0 0)) (by kernel_rfl) (by kernel_rfl) rfl (by decide) rfl rfl (by intro fs h; cases h)
/-- struct { Path []int; Over []int; Asks []api.Ask; Near int } -/
abbrev ti76 : TI := { desc := .struct #[⟨ "Path", 31, 0, false, "", "", 0⟩, ⟨ "Over", 31, 1, false, "", "", 24⟩, ⟨ "Asks", 75, 2, false, "", "", 48⟩, ⟨ "Near", 3, 3, false, "", "", 72⟩], size := 4, bytes := 80, zero := [.slice none 0 0, .slice none 0 0, .slice none 0 0, .int .i64 0], agg := true, pl := [(0, 1), (1, 1), (2, 1), (3, 1)] }
set_option maxRecDepth 100000 in
theorem ok76 : TIok Try.prog 76 ti76 := tiok (z := (.agg ([.slice none 0 0, .slice none 0 0, .slice none 0 0, .int .i64 0] : List Value).toArray)) (by kernel_rfl) (by kernel_rfl) rfl (by decide) rfl rfl (by intro fs h; injection h with h; subst h; intro w; kernel_rfl)
/-- leverframe/api.Way -/
abbrev ti77 : TI := { desc := .struct #[⟨ "Path", 31, 0, false, "", "", 0⟩, ⟨ "Over", 31, 1, false, "", "", 24⟩, ⟨ "Asks", 75, 2, false, "", "", 48⟩, ⟨ "Near", 3, 3, false, "", "", 72⟩], size := 4, bytes := 80, zero := [.slice none 0 0, .slice none 0 0, .slice none 0 0, .int .i64 0], agg := true, pl := [(0, 1), (1, 1), (2, 1), (3, 1)] }
set_option maxRecDepth 100000 in
theorem ok77 : TIok Try.prog 77 ti77 := tiok (z := (.agg ([.slice none 0 0, .slice none 0 0, .slice none 0 0, .int .i64 0] : List Value).toArray)) (by kernel_rfl) (by kernel_rfl) rfl (by decide) rfl rfl (by intro fs h; injection h with h; subst h; intro w; kernel_rfl)
/-- func([]api.Join, []api.Join) bool -/
abbrev ti78 : TI := { desc := .func #[35, 35] #[4] false, size := 1, bytes := 8, zero := [.nilFunc], agg := false }
set_option maxRecDepth 100000 in
theorem ok78 : TIok Try.prog 78 ti78 := tiok (z := (.nilFunc)) (by kernel_rfl) (by kernel_rfl) rfl (by decide) rfl rfl (by intro fs h; cases h)
/-- func(api.Plan, int) (api.Way, api.Errno) -/
abbrev ti80 : TI := { desc := .func #[27, 3] #[77, 41] false, size := 1, bytes := 8, zero := [.nilFunc], agg := false }
set_option maxRecDepth 100000 in
theorem ok80 : TIok Try.prog 80 ti80 := tiok (z := (.nilFunc)) (by kernel_rfl) (by kernel_rfl) rfl (by decide) rfl rfl (by intro fs h; cases h)
/-- func(api.Plan, int) bool -/
abbrev ti81 : TI := { desc := .func #[27, 3] #[4] false, size := 1, bytes := 8, zero := [.nilFunc], agg := false }
set_option maxRecDepth 100000 in
theorem ok81 : TIok Try.prog 81 ti81 := tiok (z := (.nilFunc)) (by kernel_rfl) (by kernel_rfl) rfl (by decide) rfl rfl (by intro fs h; cases h)
/-- struct { Point int; Lie int; At int } -/
abbrev ti82 : TI := { desc := .struct #[⟨ "Point", 3, 0, false, "", "", 0⟩, ⟨ "Lie", 3, 1, false, "", "", 8⟩, ⟨ "At", 3, 2, false, "", "", 16⟩], size := 3, bytes := 24, zero := [.int .i64 0, .int .i64 0, .int .i64 0], agg := true, pl := [(0, 1), (1, 1), (2, 1)] }
set_option maxRecDepth 100000 in
theorem ok82 : TIok Try.prog 82 ti82 := tiok (z := (.agg ([.int .i64 0, .int .i64 0, .int .i64 0] : List Value).toArray)) (by kernel_rfl) (by kernel_rfl) rfl (by decide) rfl rfl (by intro fs h; injection h with h; subst h; intro w; kernel_rfl)
/-- leverframe/api.Ask -/
abbrev ti83 : TI := { desc := .struct #[⟨ "Point", 3, 0, false, "", "", 0⟩, ⟨ "Lie", 3, 1, false, "", "", 8⟩, ⟨ "At", 3, 2, false, "", "", 16⟩], size := 3, bytes := 24, zero := [.int .i64 0, .int .i64 0, .int .i64 0], agg := true, pl := [(0, 1), (1, 1), (2, 1)] }
set_option maxRecDepth 100000 in
theorem ok83 : TIok Try.prog 83 ti83 := tiok (z := (.agg ([.int .i64 0, .int .i64 0, .int .i64 0] : List Value).toArray)) (by kernel_rfl) (by kernel_rfl) rfl (by decide) rfl rfl (by intro fs h; injection h with h; subst h; intro w; kernel_rfl)
/-- struct { Point int; Lie int } -/
abbrev ti84 : TI := { desc := .struct #[⟨ "Point", 3, 0, false, "", "", 0⟩, ⟨ "Lie", 3, 1, false, "", "", 8⟩], size := 2, bytes := 16, zero := [.int .i64 0, .int .i64 0], agg := true, pl := [(0, 1), (1, 1)] }
set_option maxRecDepth 100000 in
theorem ok84 : TIok Try.prog 84 ti84 := tiok (z := (.agg ([.int .i64 0, .int .i64 0] : List Value).toArray)) (by kernel_rfl) (by kernel_rfl) rfl (by decide) rfl rfl (by intro fs h; injection h with h; subst h; intro w; kernel_rfl)
/-- leverframe/api.Flank -/
abbrev ti85 : TI := { desc := .struct #[⟨ "Point", 3, 0, false, "", "", 0⟩, ⟨ "Lie", 3, 1, false, "", "", 8⟩], size := 2, bytes := 16, zero := [.int .i64 0, .int .i64 0], agg := true, pl := [(0, 1), (1, 1)] }
set_option maxRecDepth 100000 in
theorem ok85 : TIok Try.prog 85 ti85 := tiok (z := (.agg ([.int .i64 0, .int .i64 0] : List Value).toArray)) (by kernel_rfl) (by kernel_rfl) rfl (by decide) rfl rfl (by intro fs h; injection h with h; subst h; intro w; kernel_rfl)
/-- func(api.Plan, int) ([]api.Join, api.Errno) -/
abbrev ti87 : TI := { desc := .func #[27, 3] #[35, 41] false, size := 1, bytes := 8, zero := [.nilFunc], agg := false }
set_option maxRecDepth 100000 in
theorem ok87 : TIok Try.prog 87 ti87 := tiok (z := (.nilFunc)) (by kernel_rfl) (by kernel_rfl) rfl (by decide) rfl rfl (by intro fs h; cases h)
/-- func(api.Plan, int) (api.Way, int) -/
abbrev ti89 : TI := { desc := .func #[27, 3] #[77, 3] false, size := 1, bytes := 8, zero := [.nilFunc], agg := false }
set_option maxRecDepth 100000 in
theorem ok89 : TIok Try.prog 89 ti89 := tiok (z := (.nilFunc)) (by kernel_rfl) (by kernel_rfl) rfl (by decide) rfl rfl (by intro fs h; cases h)
/-- func(api.Plan, int) ([]api.Join, int) -/
abbrev ti91 : TI := { desc := .func #[27, 3] #[35, 3] false, size := 1, bytes := 8, zero := [.nilFunc], agg := false }
set_option maxRecDepth 100000 in
theorem ok91 : TIok Try.prog 91 ti91 := tiok (z := (.nilFunc)) (by kernel_rfl) (by kernel_rfl) rfl (by decide) rfl rfl (by intro fs h; cases h)
/-- func([]api.Section, int, int) (api.Join, api.Errno) -/
abbrev ti93 : TI := { desc := .func #[22, 3, 3] #[39, 41] false, size := 1, bytes := 8, zero := [.nilFunc], agg := false }
set_option maxRecDepth 100000 in
theorem ok93 : TIok Try.prog 93 ti93 := tiok (z := (.nilFunc)) (by kernel_rfl) (by kernel_rfl) rfl (by decide) rfl rfl (by intro fs h; cases h)
/-- func([]api.Section, int) (api.Section, api.Errno) -/
abbrev ti95 : TI := { desc := .func #[22, 3] #[37, 41] false, size := 1, bytes := 8, zero := [.nilFunc], agg := false }
set_option maxRecDepth 100000 in
theorem ok95 : TIok Try.prog 95 ti95 := tiok (z := (.nilFunc)) (by kernel_rfl) (by kernel_rfl) rfl (by decide) rfl rfl (by intro fs h; cases h)
/-- func(api.Way, int, int) int -/
abbrev ti96 : TI := { desc := .func #[77, 3, 3] #[3] false, size := 1, bytes := 8, zero := [.nilFunc], agg := false }
set_option maxRecDepth 100000 in
theorem ok96 : TIok Try.prog 96 ti96 := tiok (z := (.nilFunc)) (by kernel_rfl) (by kernel_rfl) rfl (by decide) rfl rfl (by intro fs h; cases h)
/-- func(api.Section, int, int) (int, api.Errno) -/
abbrev ti97 : TI := { desc := .func #[37, 3, 3] #[3, 41] false, size := 1, bytes := 8, zero := [.nilFunc], agg := false }
set_option maxRecDepth 100000 in
theorem ok97 : TIok Try.prog 97 ti97 := tiok (z := (.nilFunc)) (by kernel_rfl) (by kernel_rfl) rfl (by decide) rfl rfl (by intro fs h; cases h)
/-- func([]api.Section) bool -/
abbrev ti98 : TI := { desc := .func #[22] #[4] false, size := 1, bytes := 8, zero := [.nilFunc], agg := false }
set_option maxRecDepth 100000 in
theorem ok98 : TIok Try.prog 98 ti98 := tiok (z := (.nilFunc)) (by kernel_rfl) (by kernel_rfl) rfl (by decide) rfl rfl (by intro fs h; cases h)
/-- func([]api.Point) []api.Point -/
abbrev ti99 : TI := { desc := .func #[23] #[23] false, size := 1, bytes := 8, zero := [.nilFunc], agg := false }
set_option maxRecDepth 100000 in
theorem ok99 : TIok Try.prog 99 ti99 := tiok (z := (.nilFunc)) (by kernel_rfl) (by kernel_rfl) rfl (by decide) rfl rfl (by intro fs h; cases h)
/-- func([]api.Signal) []api.Signal -/
abbrev ti100 : TI := { desc := .func #[24] #[24] false, size := 1, bytes := 8, zero := [.nilFunc], agg := false }
set_option maxRecDepth 100000 in
theorem ok100 : TIok Try.prog 100 ti100 := tiok (z := (.nilFunc)) (by kernel_rfl) (by kernel_rfl) rfl (by decide) rfl rfl (by intro fs h; cases h)
/-- func([]api.Section) []api.Section -/
abbrev ti101 : TI := { desc := .func #[22] #[22] false, size := 1, bytes := 8, zero := [.nilFunc], agg := false }
set_option maxRecDepth 100000 in
theorem ok101 : TIok Try.prog 101 ti101 := tiok (z := (.nilFunc)) (by kernel_rfl) (by kernel_rfl) rfl (by decide) rfl rfl (by intro fs h; cases h)
/-- func([]api.Route) []api.Route -/
abbrev ti102 : TI := { desc := .func #[25] #[25] false, size := 1, bytes := 8, zero := [.nilFunc], agg := false }
set_option maxRecDepth 100000 in
theorem ok102 : TIok Try.prog 102 ti102 := tiok (z := (.nilFunc)) (by kernel_rfl) (by kernel_rfl) rfl (by decide) rfl rfl (by intro fs h; cases h)
/-- func([]api.Join) []api.Join -/
abbrev ti103 : TI := { desc := .func #[35] #[35] false, size := 1, bytes := 8, zero := [.nilFunc], agg := false }
set_option maxRecDepth 100000 in
theorem ok103 : TIok Try.prog 103 ti103 := tiok (z := (.nilFunc)) (by kernel_rfl) (by kernel_rfl) rfl (by decide) rfl rfl (by intro fs h; cases h)
/-- func(api.Route) api.Route -/
abbrev ti104 : TI := { desc := .func #[34] #[34] false, size := 1, bytes := 8, zero := [.nilFunc], agg := false }
set_option maxRecDepth 100000 in
theorem ok104 : TIok Try.prog 104 ti104 := tiok (z := (.nilFunc)) (by kernel_rfl) (by kernel_rfl) rfl (by decide) rfl rfl (by intro fs h; cases h)
/-- func([]api.Section, []api.Section, func(api.Section, api.Section) bool) bool -/
abbrev ti105 : TI := { desc := .func #[22, 22, 106] #[4] false, size := 1, bytes := 8, zero := [.nilFunc], agg := false }
set_option maxRecDepth 100000 in
theorem ok105 : TIok Try.prog 105 ti105 := tiok (z := (.nilFunc)) (by kernel_rfl) (by kernel_rfl) rfl (by decide) rfl rfl (by intro fs h; cases h)
/-- func(api.Section, api.Section) bool -/
abbrev ti106 : TI := { desc := .func #[37, 37] #[4] false, size := 1, bytes := 8, zero := [.nilFunc], agg := false }
set_option maxRecDepth 100000 in
theorem ok106 : TIok Try.prog 106 ti106 := tiok (z := (.nilFunc)) (by kernel_rfl) (by kernel_rfl) rfl (by decide) rfl rfl (by intro fs h; cases h)
/-- func([]api.Route, []api.Route, func(api.Route, api.Route) bool) bool -/
abbrev ti107 : TI := { desc := .func #[25, 25, 66] #[4] false, size := 1, bytes := 8, zero := [.nilFunc], agg := false }
set_option maxRecDepth 100000 in
theorem ok107 : TIok Try.prog 107 ti107 := tiok (z := (.nilFunc)) (by kernel_rfl) (by kernel_rfl) rfl (by decide) rfl rfl (by intro fs h; cases h)
/-- func([]int, []int) bool -/
abbrev ti108 : TI := { desc := .func #[31, 31] #[4] false, size := 1, bytes := 8, zero := [.nilFunc], agg := false }
set_option maxRecDepth 100000 in
theorem ok108 : TIok Try.prog 108 ti108 := tiok (z := (.nilFunc)) (by kernel_rfl) (by kernel_rfl) rfl (by decide) rfl rfl (by intro fs h; cases h)
/-- func([]api.Flank, []api.Flank) bool -/
abbrev ti109 : TI := { desc := .func #[32, 32] #[4] false, size := 1, bytes := 8, zero := [.nilFunc], agg := false }
set_option maxRecDepth 100000 in
theorem ok109 : TIok Try.prog 109 ti109 := tiok (z := (.nilFunc)) (by kernel_rfl) (by kernel_rfl) rfl (by decide) rfl rfl (by intro fs h; cases h)
/-- func([]api.Point, []api.Point) bool -/
abbrev ti110 : TI := { desc := .func #[23, 23] #[4] false, size := 1, bytes := 8, zero := [.nilFunc], agg := false }
set_option maxRecDepth 100000 in
theorem ok110 : TIok Try.prog 110 ti110 := tiok (z := (.nilFunc)) (by kernel_rfl) (by kernel_rfl) rfl (by decide) rfl rfl (by intro fs h; cases h)
/-- func([]api.Signal, []api.Signal) bool -/
abbrev ti111 : TI := { desc := .func #[24, 24] #[4] false, size := 1, bytes := 8, zero := [.nilFunc], agg := false }
set_option maxRecDepth 100000 in
theorem ok111 : TIok Try.prog 111 ti111 := tiok (z := (.nilFunc)) (by kernel_rfl) (by kernel_rfl) rfl (by decide) rfl rfl (by intro fs h; cases h)
/-- func([]api.Section, []api.Section) bool -/
abbrev ti112 : TI := { desc := .func #[22, 22] #[4] false, size := 1, bytes := 8, zero := [.nilFunc], agg := false }
set_option maxRecDepth 100000 in
theorem ok112 : TIok Try.prog 112 ti112 := tiok (z := (.nilFunc)) (by kernel_rfl) (by kernel_rfl) rfl (by decide) rfl rfl (by intro fs h; cases h)
/-- func(api.Section) api.Section -/
abbrev ti113 : TI := { desc := .func #[37] #[37] false, size := 1, bytes := 8, zero := [.nilFunc], agg := false }
set_option maxRecDepth 100000 in
theorem ok113 : TIok Try.prog 113 ti113 := tiok (z := (.nilFunc)) (by kernel_rfl) (by kernel_rfl) rfl (by decide) rfl rfl (by intro fs h; cases h)
/-- func([]api.Section) api.Errno -/
abbrev ti114 : TI := { desc := .func #[22] #[41] false, size := 1, bytes := 8, zero := [.nilFunc], agg := false }
set_option maxRecDepth 100000 in
theorem ok114 : TIok Try.prog 114 ti114 := tiok (z := (.nilFunc)) (by kernel_rfl) (by kernel_rfl) rfl (by decide) rfl rfl (by intro fs h; cases h)
/-- [100]int -/
abbrev ti115 : TI := { desc := .array 100 3, size := 100, bytes := 800, zero := List.replicate 100 (.int .i64 0), agg := true }
set_option maxRecDepth 100000 in
theorem ok115 : TIok Try.prog 115 ti115 := tiok (z := (.agg (List.replicate 100 (.int .i64 0) : List Value).toArray)) (by kernel_rfl) (by kernel_rfl) rfl (by decide) rfl rfl (by intro fs h; cases h)
/-- func([]api.Section) [100]int -/
abbrev ti116 : TI := { desc := .func #[22] #[115] false, size := 1, bytes := 8, zero := [.nilFunc], agg := false }
set_option maxRecDepth 100000 in
theorem ok116 : TIok Try.prog 116 ti116 := tiok (z := (.nilFunc)) (by kernel_rfl) (by kernel_rfl) rfl (by decide) rfl rfl (by intro fs h; cases h)
/-- func(api.Plan, [100]int) bool -/
abbrev ti117 : TI := { desc := .func #[27, 115] #[4] false, size := 1, bytes := 8, zero := [.nilFunc], agg := false }
set_option maxRecDepth 100000 in
theorem ok117 : TIok Try.prog 117 ti117 := tiok (z := (.nilFunc)) (by kernel_rfl) (by kernel_rfl) rfl (by decide) rfl rfl (by intro fs h; cases h)
/-- func([]api.Route, int) bool -/
abbrev ti118 : TI := { desc := .func #[25, 3] #[4] false, size := 1, bytes := 8, zero := [.nilFunc], agg := false }
set_option maxRecDepth 100000 in
theorem ok118 : TIok Try.prog 118 ti118 := tiok (z := (.nilFunc)) (by kernel_rfl) (by kernel_rfl) rfl (by decide) rfl rfl (by intro fs h; cases h)
/-- func(api.Plan, api.Route, [100]int) bool -/
abbrev ti119 : TI := { desc := .func #[27, 34, 115] #[4] false, size := 1, bytes := 8, zero := [.nilFunc], agg := false }
set_option maxRecDepth 100000 in
theorem ok119 : TIok Try.prog 119 ti119 := tiok (z := (.nilFunc)) (by kernel_rfl) (by kernel_rfl) rfl (by decide) rfl rfl (by intro fs h; cases h)
/-- func(api.Plan, []api.Signal, int) (api.Signal, api.Errno) -/
abbrev ti120 : TI := { desc := .func #[27, 24, 3] #[48, 41] false, size := 1, bytes := 8, zero := [.nilFunc], agg := false }
set_option maxRecDepth 100000 in
theorem ok120 : TIok Try.prog 120 ti120 := tiok (z := (.nilFunc)) (by kernel_rfl) (by kernel_rfl) rfl (by decide) rfl rfl (by intro fs h; cases h)
/-- func(api.Plan, []api.Route, int) (api.Route, api.Errno) -/
abbrev ti121 : TI := { desc := .func #[27, 25, 3] #[34, 41] false, size := 1, bytes := 8, zero := [.nilFunc], agg := false }
set_option maxRecDepth 100000 in
theorem ok121 : TIok Try.prog 121 ti121 := tiok (z := (.nilFunc)) (by kernel_rfl) (by kernel_rfl) rfl (by decide) rfl rfl (by intro fs h; cases h)
/-- func(api.Plan, []api.Point, int) (api.Point, api.Errno) -/
abbrev ti122 : TI := { desc := .func #[27, 23, 3] #[44, 41] false, size := 1, bytes := 8, zero := [.nilFunc], agg := false }
set_option maxRecDepth 100000 in
theorem ok122 : TIok Try.prog 122 ti122 := tiok (z := (.nilFunc)) (by kernel_rfl) (by kernel_rfl) rfl (by decide) rfl rfl (by intro fs h; cases h)
/-- func([]api.Point, int) int -/
abbrev ti123 : TI := { desc := .func #[23, 3] #[3] false, size := 1, bytes := 8, zero := [.nilFunc], agg := false }
set_option maxRecDepth 100000 in
theorem ok123 : TIok Try.prog 123 ti123 := tiok (z := (.nilFunc)) (by kernel_rfl) (by kernel_rfl) rfl (by decide) rfl rfl (by intro fs h; cases h)
/-- func([]api.Signal, int) int -/
abbrev ti124 : TI := { desc := .func #[24, 3] #[3] false, size := 1, bytes := 8, zero := [.nilFunc], agg := false }
set_option maxRecDepth 100000 in
theorem ok124 : TIok Try.prog 124 ti124 := tiok (z := (.nilFunc)) (by kernel_rfl) (by kernel_rfl) rfl (by decide) rfl rfl (by intro fs h; cases h)
/-- func([]api.Route, int) int -/
abbrev ti125 : TI := { desc := .func #[25, 3] #[3] false, size := 1, bytes := 8, zero := [.nilFunc], agg := false }
set_option maxRecDepth 100000 in
theorem ok125 : TIok Try.prog 125 ti125 := tiok (z := (.nilFunc)) (by kernel_rfl) (by kernel_rfl) rfl (by decide) rfl rfl (by intro fs h; cases h)
/-- func([]api.Section, int, int) (api.Join, int) -/
abbrev ti127 : TI := { desc := .func #[22, 3, 3] #[39, 3] false, size := 1, bytes := 8, zero := [.nilFunc], agg := false }
set_option maxRecDepth 100000 in
theorem ok127 : TIok Try.prog 127 ti127 := tiok (z := (.nilFunc)) (by kernel_rfl) (by kernel_rfl) rfl (by decide) rfl rfl (by intro fs h; cases h)
/-- func(api.Plan, int, int) int -/
abbrev ti128 : TI := { desc := .func #[27, 3, 3] #[3] false, size := 1, bytes := 8, zero := [.nilFunc], agg := false }
set_option maxRecDepth 100000 in
theorem ok128 : TIok Try.prog 128 ti128 := tiok (z := (.nilFunc)) (by kernel_rfl) (by kernel_rfl) rfl (by decide) rfl rfl (by intro fs h; cases h)
/-- func(api.Plan, api.Route) (api.Way, []api.Join, api.Errno) -/
abbrev ti130 : TI := { desc := .func #[27, 34] #[77, 35, 41] false, size := 1, bytes := 8, zero := [.nilFunc], agg := false }
set_option maxRecDepth 100000 in
theorem ok130 : TIok Try.prog 130 ti130 := tiok (z := (.nilFunc)) (by kernel_rfl) (by kernel_rfl) rfl (by decide) rfl rfl (by intro fs h; cases h)
/-- func([]api.Ask, []api.Ask) bool -/
abbrev ti131 : TI := { desc := .func #[75, 75] #[4] false, size := 1, bytes := 8, zero := [.nilFunc], agg := false }
set_option maxRecDepth 100000 in
theorem ok131 : TIok Try.prog 131 ti131 := tiok (z := (.nilFunc)) (by kernel_rfl) (by kernel_rfl) rfl (by decide) rfl rfl (by intro fs h; cases h)
/-- func(api.Plan, int) (int, int) -/
abbrev ti132 : TI := { desc := .func #[27, 3] #[3, 3] false, size := 1, bytes := 8, zero := [.nilFunc], agg := false }
set_option maxRecDepth 100000 in
theorem ok132 : TIok Try.prog 132 ti132 := tiok (z := (.nilFunc)) (by kernel_rfl) (by kernel_rfl) rfl (by decide) rfl rfl (by intro fs h; cases h)
/-- func(api.Plan, int) api.Way -/
abbrev ti133 : TI := { desc := .func #[27, 3] #[77] false, size := 1, bytes := 8, zero := [.nilFunc], agg := false }
set_option maxRecDepth 100000 in
theorem ok133 : TIok Try.prog 133 ti133 := tiok (z := (.nilFunc)) (by kernel_rfl) (by kernel_rfl) rfl (by decide) rfl rfl (by intro fs h; cases h)
/-- func(api.Plan, api.Route) ([]int, []int, bool) -/
abbrev ti135 : TI := { desc := .func #[27, 34] #[31, 31, 4] false, size := 1, bytes := 8, zero := [.nilFunc], agg := false }
set_option maxRecDepth 100000 in
theorem ok135 : TIok Try.prog 135 ti135 := tiok (z := (.nilFunc)) (by kernel_rfl) (by kernel_rfl) rfl (by decide) rfl rfl (by intro fs h; cases h)
/-- func(api.Route) []int -/
abbrev ti136 : TI := { desc := .func #[34] #[31] false, size := 1, bytes := 8, zero := [.nilFunc], agg := false }
set_option maxRecDepth 100000 in
theorem ok136 : TIok Try.prog 136 ti136 := tiok (z := (.nilFunc)) (by kernel_rfl) (by kernel_rfl) rfl (by decide) rfl rfl (by intro fs h; cases h)
/-- func([]api.Section, int) (int, bool) -/
abbrev ti138 : TI := { desc := .func #[22, 3] #[3, 4] false, size := 1, bytes := 8, zero := [.nilFunc], agg := false }
set_option maxRecDepth 100000 in
theorem ok138 : TIok Try.prog 138 ti138 := tiok (z := (.nilFunc)) (by kernel_rfl) (by kernel_rfl) rfl (by decide) rfl rfl (by intro fs h; cases h)
/-- func(api.Section) bool -/
abbrev ti139 : TI := { desc := .func #[37] #[4] false, size := 1, bytes := 8, zero := [.nilFunc], agg := false }
set_option maxRecDepth 100000 in
theorem ok139 : TIok Try.prog 139 ti139 := tiok (z := (.nilFunc)) (by kernel_rfl) (by kernel_rfl) rfl (by decide) rfl rfl (by intro fs h; cases h)
/-- [3]int -/
abbrev ti140 : TI := { desc := .array 3 3, size := 3, bytes := 24, zero := [.int .i64 0, .int .i64 0, .int .i64 0], agg := true }
set_option maxRecDepth 100000 in
theorem ok140 : TIok Try.prog 140 ti140 := tiok (z := (.agg ([.int .i64 0, .int .i64 0, .int .i64 0] : List Value).toArray)) (by kernel_rfl) (by kernel_rfl) rfl (by decide) rfl rfl (by intro fs h; cases h)
/-- [3][3]int -/
abbrev ti141 : TI := { desc := .array 3 140, size := 9, bytes := 72, zero := List.replicate 9 (.int .i64 0), agg := true }
set_option maxRecDepth 100000 in
theorem ok141 : TIok Try.prog 141 ti141 := tiok (z := (.agg (List.replicate 9 (.int .i64 0) : List Value).toArray)) (by kernel_rfl) (by kernel_rfl) rfl (by decide) rfl rfl (by intro fs h; cases h)
/-- leverframe/track.lies -/
abbrev ti142 : TI := { desc := .array 3 140, size := 9, bytes := 72, zero := List.replicate 9 (.int .i64 0), agg := true }
set_option maxRecDepth 100000 in
theorem ok142 : TIok Try.prog 142 ti142 := tiok (z := (.agg (List.replicate 9 (.int .i64 0) : List Value).toArray)) (by kernel_rfl) (by kernel_rfl) rfl (by decide) rfl rfl (by intro fs h; cases h)
/-- func(api.Section) track.lies -/
abbrev ti143 : TI := { desc := .func #[37] #[142] false, size := 1, bytes := 8, zero := [.nilFunc], agg := false }
set_option maxRecDepth 100000 in
theorem ok143 : TIok Try.prog 143 ti143 := tiok (z := (.nilFunc)) (by kernel_rfl) (by kernel_rfl) rfl (by decide) rfl rfl (by intro fs h; cases h)
/-- func([]int, int) int -/
abbrev ti144 : TI := { desc := .func #[31, 3] #[3] false, size := 1, bytes := 8, zero := [.nilFunc], agg := false }
set_option maxRecDepth 100000 in
theorem ok144 : TIok Try.prog 144 ti144 := tiok (z := (.nilFunc)) (by kernel_rfl) (by kernel_rfl) rfl (by decide) rfl rfl (by intro fs h; cases h)
/-- func([]int) []int -/
abbrev ti145 : TI := { desc := .func #[31] #[31] false, size := 1, bytes := 8, zero := [.nilFunc], agg := false }
set_option maxRecDepth 100000 in
theorem ok145 : TIok Try.prog 145 ti145 := tiok (z := (.nilFunc)) (by kernel_rfl) (by kernel_rfl) rfl (by decide) rfl rfl (by intro fs h; cases h)
/-- func([]api.Flank) []api.Flank -/
abbrev ti146 : TI := { desc := .func #[32] #[32] false, size := 1, bytes := 8, zero := [.nilFunc], agg := false }
set_option maxRecDepth 100000 in
theorem ok146 : TIok Try.prog 146 ti146 := tiok (z := (.nilFunc)) (by kernel_rfl) (by kernel_rfl) rfl (by decide) rfl rfl (by intro fs h; cases h)
/-- [100]bool -/
abbrev ti147 : TI := { desc := .array 100 4, size := 100, bytes := 100, zero := List.replicate 100 (.bool false), agg := true }
set_option maxRecDepth 100000 in
theorem ok147 : TIok Try.prog 147 ti147 := tiok (z := (.agg (List.replicate 100 (.bool false) : List Value).toArray)) (by kernel_rfl) (by kernel_rfl) rfl (by decide) rfl rfl (by intro fs h; cases h)
/-- func(int) bool -/
abbrev ti148 : TI := { desc := .func #[3] #[4] false, size := 1, bytes := 8, zero := [.nilFunc], agg := false }
set_option maxRecDepth 100000 in
theorem ok148 : TIok Try.prog 148 ti148 := tiok (z := (.nilFunc)) (by kernel_rfl) (by kernel_rfl) rfl (by decide) rfl rfl (by intro fs h; cases h)
/-- func([]api.Point, int) bool -/
abbrev ti149 : TI := { desc := .func #[23, 3] #[4] false, size := 1, bytes := 8, zero := [.nilFunc], agg := false }
set_option maxRecDepth 100000 in
theorem ok149 : TIok Try.prog 149 ti149 := tiok (z := (.nilFunc)) (by kernel_rfl) (by kernel_rfl) rfl (by decide) rfl rfl (by intro fs h; cases h)
/-- func([]api.Point, func(api.Point) bool) bool -/
abbrev ti150 : TI := { desc := .func #[23, 151] #[4] false, size := 1, bytes := 8, zero := [.nilFunc], agg := false }
set_option maxRecDepth 100000 in
theorem ok150 : TIok Try.prog 150 ti150 := tiok (z := (.nilFunc)) (by kernel_rfl) (by kernel_rfl) rfl (by decide) rfl rfl (by intro fs h; cases h)
/-- func(api.Point) bool -/
abbrev ti151 : TI := { desc := .func #[44] #[4] false, size := 1, bytes := 8, zero := [.nilFunc], agg := false }
set_option maxRecDepth 100000 in
theorem ok151 : TIok Try.prog 151 ti151 := tiok (z := (.nilFunc)) (by kernel_rfl) (by kernel_rfl) rfl (by decide) rfl rfl (by intro fs h; cases h)
/-- func([]api.Signal, int) bool -/
abbrev ti152 : TI := { desc := .func #[24, 3] #[4] false, size := 1, bytes := 8, zero := [.nilFunc], agg := false }
set_option maxRecDepth 100000 in
theorem ok152 : TIok Try.prog 152 ti152 := tiok (z := (.nilFunc)) (by kernel_rfl) (by kernel_rfl) rfl (by decide) rfl rfl (by intro fs h; cases h)
/-- [3]bool -/
abbrev ti153 : TI := { desc := .array 3 4, size := 3, bytes := 3, zero := [.bool false, .bool false, .bool false], agg := true }
set_option maxRecDepth 100000 in
theorem ok153 : TIok Try.prog 153 ti153 := tiok (z := (.agg ([.bool false, .bool false, .bool false] : List Value).toArray)) (by kernel_rfl) (by kernel_rfl) rfl (by decide) rfl rfl (by intro fs h; cases h)
/-- [100][3]bool -/
abbrev ti154 : TI := { desc := .array 100 153, size := 300, bytes := 300, zero := List.replicate 300 (.bool false), agg := true }
set_option maxRecDepth 100000 in
theorem ok154 : TIok Try.prog 154 ti154 := tiok (z := (.agg (List.replicate 300 (.bool false) : List Value).toArray)) (by kernel_rfl) (by kernel_rfl) rfl (by decide) rfl rfl (by intro fs h; cases h)
/-- func([100]int, int) bool -/
abbrev ti155 : TI := { desc := .func #[115, 3] #[4] false, size := 1, bytes := 8, zero := [.nilFunc], agg := false }
set_option maxRecDepth 100000 in
theorem ok155 : TIok Try.prog 155 ti155 := tiok (z := (.nilFunc)) (by kernel_rfl) (by kernel_rfl) rfl (by decide) rfl rfl (by intro fs h; cases h)
/-- func(api.Route) int -/
abbrev ti156 : TI := { desc := .func #[34] #[3] false, size := 1, bytes := 8, zero := [.nilFunc], agg := false }
set_option maxRecDepth 100000 in
theorem ok156 : TIok Try.prog 156 ti156 := tiok (z := (.nilFunc)) (by kernel_rfl) (by kernel_rfl) rfl (by decide) rfl rfl (by intro fs h; cases h)
/-- func([]api.Signal, int) (api.Signal, bool) -/
abbrev ti158 : TI := { desc := .func #[24, 3] #[48, 4] false, size := 1, bytes := 8, zero := [.nilFunc], agg := false }
set_option maxRecDepth 100000 in
theorem ok158 : TIok Try.prog 158 ti158 := tiok (z := (.nilFunc)) (by kernel_rfl) (by kernel_rfl) rfl (by decide) rfl rfl (by intro fs h; cases h)
/-- [][]int -/
abbrev ti159 : TI := { desc := .slice 31, size := 1, bytes := 24, zero := [.slice none 0 0], agg := false }
set_option maxRecDepth 100000 in
theorem ok159 : TIok Try.prog 159 ti159 := tiok (z := (.slice none 0 0)) (by kernel_rfl) (by kernel_rfl) rfl (by decide) rfl rfl (by intro fs h; cases h)
/-- func([]api.Point, int) (api.Point, bool) -/
abbrev ti161 : TI := { desc := .func #[23, 3] #[44, 4] false, size := 1, bytes := 8, zero := [.nilFunc], agg := false }
set_option maxRecDepth 100000 in
theorem ok161 : TIok Try.prog 161 ti161 := tiok (z := (.nilFunc)) (by kernel_rfl) (by kernel_rfl) rfl (by decide) rfl rfl (by intro fs h; cases h)
/-- func([]api.Route, int) (api.Route, bool) -/
abbrev ti163 : TI := { desc := .func #[25, 3] #[34, 4] false, size := 1, bytes := 8, zero := [.nilFunc], agg := false }
set_option maxRecDepth 100000 in
theorem ok163 : TIok Try.prog 163 ti163 := tiok (z := (.nilFunc)) (by kernel_rfl) (by kernel_rfl) rfl (by decide) rfl rfl (by intro fs h; cases h)
/-- func(api.Plan, api.Route) bool -/
abbrev ti164 : TI := { desc := .func #[27, 34] #[4] false, size := 1, bytes := 8, zero := [.nilFunc], agg := false }
set_option maxRecDepth 100000 in
theorem ok164 : TIok Try.prog 164 ti164 := tiok (z := (.nilFunc)) (by kernel_rfl) (by kernel_rfl) rfl (by decide) rfl rfl (by intro fs h; cases h)
/-- func([]api.Section, int) (api.Section, int) -/
abbrev ti166 : TI := { desc := .func #[22, 3] #[37, 3] false, size := 1, bytes := 8, zero := [.nilFunc], agg := false }
set_option maxRecDepth 100000 in
theorem ok166 : TIok Try.prog 166 ti166 := tiok (z := (.nilFunc)) (by kernel_rfl) (by kernel_rfl) rfl (by decide) rfl rfl (by intro fs h; cases h)
/-- func(api.Plan, int) api.Signal -/
abbrev ti167 : TI := { desc := .func #[27, 3] #[48] false, size := 1, bytes := 8, zero := [.nilFunc], agg := false }
set_option maxRecDepth 100000 in
theorem ok167 : TIok Try.prog 167 ti167 := tiok (z := (.nilFunc)) (by kernel_rfl) (by kernel_rfl) rfl (by decide) rfl rfl (by intro fs h; cases h)
/-- *way.walk -/
abbrev ti168 : TI := { desc := .pointer 170, size := 1, bytes := 8, zero := [.pointer none], agg := false }
set_option maxRecDepth 100000 in
theorem ok168 : TIok Try.prog 168 ti168 := tiok (z := (.pointer none)) (by kernel_rfl) (by kernel_rfl) rfl (by decide) rfl rfl (by intro fs h; cases h)
/-- struct { plan api.Plan; in api.Join; asks []api.Ask; outs []api.Join; lost bool } -/
abbrev ti169 : TI := { desc := .struct #[⟨ "plan", 27, 0, false, "", "leverframe/way", 0⟩, ⟨ "in", 39, 6, false, "", "leverframe/way", 112⟩, ⟨ "asks", 75, 8, false, "", "leverframe/way", 128⟩, ⟨ "outs", 35, 9, false, "", "leverframe/way", 152⟩, ⟨ "lost", 4, 10, false, "", "leverframe/way", 176⟩], size := 11, bytes := 184, zero := [.int .i64 0, .int .i64 0, .slice none 0 0, .slice none 0 0, .slice none 0 0, .slice none 0 0, .int .i64 0, .int .i64 0, .slice none 0 0, .slice none 0 0, .bool false], agg := true, pl := [(0, 6), (6, 2), (8, 1), (9, 1), (10, 1)] }
set_option maxRecDepth 100000 in
theorem ok169 : TIok Try.prog 169 ti169 := tiok (z := (.agg ([.int .i64 0, .int .i64 0, .slice none 0 0, .slice none 0 0, .slice none 0 0, .slice none 0 0, .int .i64 0, .int .i64 0, .slice none 0 0, .slice none 0 0, .bool false] : List Value).toArray)) (by kernel_rfl) (by kernel_rfl) rfl (by decide) rfl rfl (by intro fs h; injection h with h; subst h; intro w; kernel_rfl)
/-- leverframe/way.walk -/
abbrev ti170 : TI := { desc := .struct #[⟨ "plan", 27, 0, false, "", "leverframe/way", 0⟩, ⟨ "in", 39, 6, false, "", "leverframe/way", 112⟩, ⟨ "asks", 75, 8, false, "", "leverframe/way", 128⟩, ⟨ "outs", 35, 9, false, "", "leverframe/way", 152⟩, ⟨ "lost", 4, 10, false, "", "leverframe/way", 176⟩], size := 11, bytes := 184, zero := [.int .i64 0, .int .i64 0, .slice none 0 0, .slice none 0 0, .slice none 0 0, .slice none 0 0, .int .i64 0, .int .i64 0, .slice none 0 0, .slice none 0 0, .bool false], agg := true, pl := [(0, 6), (6, 2), (8, 1), (9, 1), (10, 1)] }
set_option maxRecDepth 100000 in
theorem ok170 : TIok Try.prog 170 ti170 := tiok (z := (.agg ([.int .i64 0, .int .i64 0, .slice none 0 0, .slice none 0 0, .slice none 0 0, .slice none 0 0, .int .i64 0, .int .i64 0, .slice none 0 0, .slice none 0 0, .bool false] : List Value).toArray)) (by kernel_rfl) (by kernel_rfl) rfl (by decide) rfl rfl (by intro fs h; injection h with h; subst h; intro w; kernel_rfl)
/-- func(...[]int) []int -/
abbrev ti171 : TI := { desc := .func #[159] #[31] true, size := 1, bytes := 8, zero := [.nilFunc], agg := false }
set_option maxRecDepth 100000 in
theorem ok171 : TIok Try.prog 171 ti171 := tiok (z := (.nilFunc)) (by kernel_rfl) (by kernel_rfl) rfl (by decide) rfl rfl (by intro fs h; cases h)
/-- func(int, int, func(int, api.Join) bool) -/
abbrev ti172 : TI := { desc := .func #[3, 3, 173] #[] false, size := 1, bytes := 8, zero := [.nilFunc], agg := false }
set_option maxRecDepth 100000 in
theorem ok172 : TIok Try.prog 172 ti172 := tiok (z := (.nilFunc)) (by kernel_rfl) (by kernel_rfl) rfl (by decide) rfl rfl (by intro fs h; cases h)
/-- func(int, api.Join) bool -/
abbrev ti173 : TI := { desc := .func #[3, 39] #[4] false, size := 1, bytes := 8, zero := [.nilFunc], agg := false }
set_option maxRecDepth 100000 in
theorem ok173 : TIok Try.prog 173 ti173 := tiok (z := (.nilFunc)) (by kernel_rfl) (by kernel_rfl) rfl (by decide) rfl rfl (by intro fs h; cases h)
/-- func(int, int) -/
abbrev ti174 : TI := { desc := .func #[3, 3] #[] false, size := 1, bytes := 8, zero := [.nilFunc], agg := false }
set_option maxRecDepth 100000 in
theorem ok174 : TIok Try.prog 174 ti174 := tiok (z := (.nilFunc)) (by kernel_rfl) (by kernel_rfl) rfl (by decide) rfl rfl (by intro fs h; cases h)
/-- func(int, int, int) -/
abbrev ti175 : TI := { desc := .func #[3, 3, 3] #[] false, size := 1, bytes := 8, zero := [.nilFunc], agg := false }
set_option maxRecDepth 100000 in
theorem ok175 : TIok Try.prog 175 ti175 := tiok (z := (.nilFunc)) (by kernel_rfl) (by kernel_rfl) rfl (by decide) rfl rfl (by intro fs h; cases h)
/-- func([]api.Section, int) int -/
abbrev ti176 : TI := { desc := .func #[22, 3] #[3] false, size := 1, bytes := 8, zero := [.nilFunc], agg := false }
set_option maxRecDepth 100000 in
theorem ok176 : TIok Try.prog 176 ti176 := tiok (z := (.nilFunc)) (by kernel_rfl) (by kernel_rfl) rfl (by decide) rfl rfl (by intro fs h; cases h)
/-- func(api.Section, int, int) int -/
abbrev ti177 : TI := { desc := .func #[37, 3, 3] #[3] false, size := 1, bytes := 8, zero := [.nilFunc], agg := false }
set_option maxRecDepth 100000 in
theorem ok177 : TIok Try.prog 177 ti177 := tiok (z := (.nilFunc)) (by kernel_rfl) (by kernel_rfl) rfl (by decide) rfl rfl (by intro fs h; cases h)
/-- func(api.Plan, api.Route, []int, int, int) int -/
abbrev ti178 : TI := { desc := .func #[27, 34, 31, 3, 3] #[3] false, size := 1, bytes := 8, zero := [.nilFunc], agg := false }
set_option maxRecDepth 100000 in
theorem ok178 : TIok Try.prog 178 ti178 := tiok (z := (.nilFunc)) (by kernel_rfl) (by kernel_rfl) rfl (by decide) rfl rfl (by intro fs h; cases h)
/-- func([]api.Section, int, func(api.Section, int) int) (int, bool) -/
abbrev ti179 : TI := { desc := .func #[22, 3, 181] #[3, 4] false, size := 1, bytes := 8, zero := [.nilFunc], agg := false }
set_option maxRecDepth 100000 in
theorem ok179 : TIok Try.prog 179 ti179 := tiok (z := (.nilFunc)) (by kernel_rfl) (by kernel_rfl) rfl (by decide) rfl rfl (by intro fs h; cases h)
/-- func(int, int) int -/
abbrev ti180 : TI := { desc := .func #[3, 3] #[3] false, size := 1, bytes := 8, zero := [.nilFunc], agg := false }
set_option maxRecDepth 100000 in
theorem ok180 : TIok Try.prog 180 ti180 := tiok (z := (.nilFunc)) (by kernel_rfl) (by kernel_rfl) rfl (by decide) rfl rfl (by intro fs h; cases h)
/-- func(api.Section, int) int -/
abbrev ti181 : TI := { desc := .func #[37, 3] #[3] false, size := 1, bytes := 8, zero := [.nilFunc], agg := false }
set_option maxRecDepth 100000 in
theorem ok181 : TIok Try.prog 181 ti181 := tiok (z := (.nilFunc)) (by kernel_rfl) (by kernel_rfl) rfl (by decide) rfl rfl (by intro fs h; cases h)
/-- func(api.Point) int -/
abbrev ti182 : TI := { desc := .func #[44] #[3] false, size := 1, bytes := 8, zero := [.nilFunc], agg := false }
set_option maxRecDepth 100000 in
theorem ok182 : TIok Try.prog 182 ti182 := tiok (z := (.nilFunc)) (by kernel_rfl) (by kernel_rfl) rfl (by decide) rfl rfl (by intro fs h; cases h)
/-- func([]api.Point, func(api.Point) bool) int -/
abbrev ti183 : TI := { desc := .func #[23, 151] #[3] false, size := 1, bytes := 8, zero := [.nilFunc], agg := false }
set_option maxRecDepth 100000 in
theorem ok183 : TIok Try.prog 183 ti183 := tiok (z := (.nilFunc)) (by kernel_rfl) (by kernel_rfl) rfl (by decide) rfl rfl (by intro fs h; cases h)
/-- func(api.Signal) int -/
abbrev ti184 : TI := { desc := .func #[48] #[3] false, size := 1, bytes := 8, zero := [.nilFunc], agg := false }
set_option maxRecDepth 100000 in
theorem ok184 : TIok Try.prog 184 ti184 := tiok (z := (.nilFunc)) (by kernel_rfl) (by kernel_rfl) rfl (by decide) rfl rfl (by intro fs h; cases h)
/-- func([]api.Signal, func(api.Signal) bool) int -/
abbrev ti185 : TI := { desc := .func #[24, 186] #[3] false, size := 1, bytes := 8, zero := [.nilFunc], agg := false }
set_option maxRecDepth 100000 in
theorem ok185 : TIok Try.prog 185 ti185 := tiok (z := (.nilFunc)) (by kernel_rfl) (by kernel_rfl) rfl (by decide) rfl rfl (by intro fs h; cases h)
/-- func(api.Signal) bool -/
abbrev ti186 : TI := { desc := .func #[48] #[4] false, size := 1, bytes := 8, zero := [.nilFunc], agg := false }
set_option maxRecDepth 100000 in
theorem ok186 : TIok Try.prog 186 ti186 := tiok (z := (.nilFunc)) (by kernel_rfl) (by kernel_rfl) rfl (by decide) rfl rfl (by intro fs h; cases h)
/-- func([]api.Route, func(api.Route) bool) int -/
abbrev ti187 : TI := { desc := .func #[25, 188] #[3] false, size := 1, bytes := 8, zero := [.nilFunc], agg := false }
set_option maxRecDepth 100000 in
theorem ok187 : TIok Try.prog 187 ti187 := tiok (z := (.nilFunc)) (by kernel_rfl) (by kernel_rfl) rfl (by decide) rfl rfl (by intro fs h; cases h)
/-- func(api.Route) bool -/
abbrev ti188 : TI := { desc := .func #[34] #[4] false, size := 1, bytes := 8, zero := [.nilFunc], agg := false }
set_option maxRecDepth 100000 in
theorem ok188 : TIok Try.prog 188 ti188 := tiok (z := (.nilFunc)) (by kernel_rfl) (by kernel_rfl) rfl (by decide) rfl rfl (by intro fs h; cases h)
/-- func([]api.Section, api.Section, int) bool -/
abbrev ti189 : TI := { desc := .func #[22, 37, 3] #[4] false, size := 1, bytes := 8, zero := [.nilFunc], agg := false }
set_option maxRecDepth 100000 in
theorem ok189 : TIok Try.prog 189 ti189 := tiok (z := (.nilFunc)) (by kernel_rfl) (by kernel_rfl) rfl (by decide) rfl rfl (by intro fs h; cases h)
/-- func([]int, int) []int -/
abbrev ti190 : TI := { desc := .func #[31, 3] #[31] false, size := 1, bytes := 8, zero := [.nilFunc], agg := false }
set_option maxRecDepth 100000 in
theorem ok190 : TIok Try.prog 190 ti190 := tiok (z := (.nilFunc)) (by kernel_rfl) (by kernel_rfl) rfl (by decide) rfl rfl (by intro fs h; cases h)
/-- func(int) api.Section -/
abbrev ti191 : TI := { desc := .func #[3] #[37] false, size := 1, bytes := 8, zero := [.nilFunc], agg := false }
set_option maxRecDepth 100000 in
theorem ok191 : TIok Try.prog 191 ti191 := tiok (z := (.nilFunc)) (by kernel_rfl) (by kernel_rfl) rfl (by decide) rfl rfl (by intro fs h; cases h)
/-- uint -/
abbrev ti192 : TI := { desc := .int .u64, size := 1, bytes := 8, zero := [.int .u64 0], agg := false }
set_option maxRecDepth 100000 in
theorem ok192 : TIok Try.prog 192 ti192 := tiok (z := (.int .u64 0)) (by kernel_rfl) (by kernel_rfl) rfl (by decide) rfl rfl (by intro fs h; cases h)
/-- func([]api.Section, func(api.Section) bool) int -/
abbrev ti193 : TI := { desc := .func #[22, 139] #[3] false, size := 1, bytes := 8, zero := [.nilFunc], agg := false }
set_option maxRecDepth 100000 in
theorem ok193 : TIok Try.prog 193 ti193 := tiok (z := (.nilFunc)) (by kernel_rfl) (by kernel_rfl) rfl (by decide) rfl rfl (by intro fs h; cases h)
/-- func() string -/
abbrev ti194 : TI := { desc := .func #[] #[9] false, size := 1, bytes := 8, zero := [.nilFunc], agg := false }
set_option maxRecDepth 100000 in
theorem ok194 : TIok Try.prog 194 ti194 := tiok (z := (.nilFunc)) (by kernel_rfl) (by kernel_rfl) rfl (by decide) rfl rfl (by intro fs h; cases h)
/-- func() int -/
abbrev ti200 : TI := { desc := .func #[] #[3] false, size := 1, bytes := 8, zero := [.nilFunc], agg := false }
set_option maxRecDepth 100000 in
theorem ok200 : TIok Try.prog 200 ti200 := tiok (z := (.nilFunc)) (by kernel_rfl) (by kernel_rfl) rfl (by decide) rfl rfl (by intro fs h; cases h)
/-- uint32 -/
abbrev ti201 : TI := { desc := .int .u32, size := 1, bytes := 4, zero := [.int .u32 0], agg := false }
set_option maxRecDepth 100000 in
theorem ok201 : TIok Try.prog 201 ti201 := tiok (z := (.int .u32 0)) (by kernel_rfl) (by kernel_rfl) rfl (by decide) rfl rfl (by intro fs h; cases h)
/-- *uint8 -/
abbrev ti205 : TI := { desc := .pointer 5, size := 1, bytes := 8, zero := [.pointer none], agg := false }
set_option maxRecDepth 100000 in
theorem ok205 : TIok Try.prog 205 ti205 := tiok (z := (.pointer none)) (by kernel_rfl) (by kernel_rfl) rfl (by decide) rfl rfl (by intro fs h; cases h)
def tab : TypeId → Option TI := fun t =>
  match t with
  | 1 => some ti1
  | 2 => some ti2
  | 3 => some ti3
  | 4 => some ti4
  | 5 => some ti5
  | 9 => some ti9
  | 12 => some ti12
  | 20 => some ti20
  | 21 => some ti21
  | 22 => some ti22
  | 23 => some ti23
  | 24 => some ti24
  | 25 => some ti25
  | 26 => some ti26
  | 27 => some ti27
  | 28 => some ti28
  | 29 => some ti29
  | 30 => some ti30
  | 31 => some ti31
  | 32 => some ti32
  | 33 => some ti33
  | 34 => some ti34
  | 35 => some ti35
  | 36 => some ti36
  | 37 => some ti37
  | 38 => some ti38
  | 39 => some ti39
  | 40 => some ti40
  | 41 => some ti41
  | 42 => some ti42
  | 43 => some ti43
  | 44 => some ti44
  | 46 => some ti46
  | 47 => some ti47
  | 48 => some ti48
  | 50 => some ti50
  | 51 => some ti51
  | 52 => some ti52
  | 54 => some ti54
  | 56 => some ti56
  | 58 => some ti58
  | 60 => some ti60
  | 62 => some ti62
  | 64 => some ti64
  | 65 => some ti65
  | 66 => some ti66
  | 67 => some ti67
  | 68 => some ti68
  | 69 => some ti69
  | 71 => some ti71
  | 73 => some ti73
  | 74 => some ti74
  | 75 => some ti75
  | 76 => some ti76
  | 77 => some ti77
  | 78 => some ti78
  | 80 => some ti80
  | 81 => some ti81
  | 82 => some ti82
  | 83 => some ti83
  | 84 => some ti84
  | 85 => some ti85
  | 87 => some ti87
  | 89 => some ti89
  | 91 => some ti91
  | 93 => some ti93
  | 95 => some ti95
  | 96 => some ti96
  | 97 => some ti97
  | 98 => some ti98
  | 99 => some ti99
  | 100 => some ti100
  | 101 => some ti101
  | 102 => some ti102
  | 103 => some ti103
  | 104 => some ti104
  | 105 => some ti105
  | 106 => some ti106
  | 107 => some ti107
  | 108 => some ti108
  | 109 => some ti109
  | 110 => some ti110
  | 111 => some ti111
  | 112 => some ti112
  | 113 => some ti113
  | 114 => some ti114
  | 115 => some ti115
  | 116 => some ti116
  | 117 => some ti117
  | 118 => some ti118
  | 119 => some ti119
  | 120 => some ti120
  | 121 => some ti121
  | 122 => some ti122
  | 123 => some ti123
  | 124 => some ti124
  | 125 => some ti125
  | 127 => some ti127
  | 128 => some ti128
  | 130 => some ti130
  | 131 => some ti131
  | 132 => some ti132
  | 133 => some ti133
  | 135 => some ti135
  | 136 => some ti136
  | 138 => some ti138
  | 139 => some ti139
  | 140 => some ti140
  | 141 => some ti141
  | 142 => some ti142
  | 143 => some ti143
  | 144 => some ti144
  | 145 => some ti145
  | 146 => some ti146
  | 147 => some ti147
  | 148 => some ti148
  | 149 => some ti149
  | 150 => some ti150
  | 151 => some ti151
  | 152 => some ti152
  | 153 => some ti153
  | 154 => some ti154
  | 155 => some ti155
  | 156 => some ti156
  | 158 => some ti158
  | 159 => some ti159
  | 161 => some ti161
  | 163 => some ti163
  | 164 => some ti164
  | 166 => some ti166
  | 167 => some ti167
  | 168 => some ti168
  | 169 => some ti169
  | 170 => some ti170
  | 171 => some ti171
  | 172 => some ti172
  | 173 => some ti173
  | 174 => some ti174
  | 175 => some ti175
  | 176 => some ti176
  | 177 => some ti177
  | 178 => some ti178
  | 179 => some ti179
  | 180 => some ti180
  | 181 => some ti181
  | 182 => some ti182
  | 183 => some ti183
  | 184 => some ti184
  | 185 => some ti185
  | 186 => some ti186
  | 187 => some ti187
  | 188 => some ti188
  | 189 => some ti189
  | 190 => some ti190
  | 191 => some ti191
  | 192 => some ti192
  | 193 => some ti193
  | 194 => some ti194
  | 200 => some ti200
  | 201 => some ti201
  | 205 => some ti205
  | _ => none
theorem tab1 : tab 1 = some ti1 := rfl
theorem tab2 : tab 2 = some ti2 := rfl
theorem tab3 : tab 3 = some ti3 := rfl
theorem tab4 : tab 4 = some ti4 := rfl
theorem tab5 : tab 5 = some ti5 := rfl
theorem tab9 : tab 9 = some ti9 := rfl
theorem tab12 : tab 12 = some ti12 := rfl
theorem tab20 : tab 20 = some ti20 := rfl
theorem tab21 : tab 21 = some ti21 := rfl
theorem tab22 : tab 22 = some ti22 := rfl
theorem tab23 : tab 23 = some ti23 := rfl
theorem tab24 : tab 24 = some ti24 := rfl
theorem tab25 : tab 25 = some ti25 := rfl
theorem tab26 : tab 26 = some ti26 := rfl
theorem tab27 : tab 27 = some ti27 := rfl
theorem tab28 : tab 28 = some ti28 := rfl
theorem tab29 : tab 29 = some ti29 := rfl
theorem tab30 : tab 30 = some ti30 := rfl
theorem tab31 : tab 31 = some ti31 := rfl
theorem tab32 : tab 32 = some ti32 := rfl
theorem tab33 : tab 33 = some ti33 := rfl
theorem tab34 : tab 34 = some ti34 := rfl
theorem tab35 : tab 35 = some ti35 := rfl
theorem tab36 : tab 36 = some ti36 := rfl
theorem tab37 : tab 37 = some ti37 := rfl
theorem tab38 : tab 38 = some ti38 := rfl
theorem tab39 : tab 39 = some ti39 := rfl
theorem tab40 : tab 40 = some ti40 := rfl
theorem tab41 : tab 41 = some ti41 := rfl
theorem tab42 : tab 42 = some ti42 := rfl
theorem tab43 : tab 43 = some ti43 := rfl
theorem tab44 : tab 44 = some ti44 := rfl
theorem tab46 : tab 46 = some ti46 := rfl
theorem tab47 : tab 47 = some ti47 := rfl
theorem tab48 : tab 48 = some ti48 := rfl
theorem tab50 : tab 50 = some ti50 := rfl
theorem tab51 : tab 51 = some ti51 := rfl
theorem tab52 : tab 52 = some ti52 := rfl
theorem tab54 : tab 54 = some ti54 := rfl
theorem tab56 : tab 56 = some ti56 := rfl
theorem tab58 : tab 58 = some ti58 := rfl
theorem tab60 : tab 60 = some ti60 := rfl
theorem tab62 : tab 62 = some ti62 := rfl
theorem tab64 : tab 64 = some ti64 := rfl
theorem tab65 : tab 65 = some ti65 := rfl
theorem tab66 : tab 66 = some ti66 := rfl
theorem tab67 : tab 67 = some ti67 := rfl
theorem tab68 : tab 68 = some ti68 := rfl
theorem tab69 : tab 69 = some ti69 := rfl
theorem tab71 : tab 71 = some ti71 := rfl
theorem tab73 : tab 73 = some ti73 := rfl
theorem tab74 : tab 74 = some ti74 := rfl
theorem tab75 : tab 75 = some ti75 := rfl
theorem tab76 : tab 76 = some ti76 := rfl
theorem tab77 : tab 77 = some ti77 := rfl
theorem tab78 : tab 78 = some ti78 := rfl
theorem tab80 : tab 80 = some ti80 := rfl
theorem tab81 : tab 81 = some ti81 := rfl
theorem tab82 : tab 82 = some ti82 := rfl
theorem tab83 : tab 83 = some ti83 := rfl
theorem tab84 : tab 84 = some ti84 := rfl
theorem tab85 : tab 85 = some ti85 := rfl
theorem tab87 : tab 87 = some ti87 := rfl
theorem tab89 : tab 89 = some ti89 := rfl
theorem tab91 : tab 91 = some ti91 := rfl
theorem tab93 : tab 93 = some ti93 := rfl
theorem tab95 : tab 95 = some ti95 := rfl
theorem tab96 : tab 96 = some ti96 := rfl
theorem tab97 : tab 97 = some ti97 := rfl
theorem tab98 : tab 98 = some ti98 := rfl
theorem tab99 : tab 99 = some ti99 := rfl
theorem tab100 : tab 100 = some ti100 := rfl
theorem tab101 : tab 101 = some ti101 := rfl
theorem tab102 : tab 102 = some ti102 := rfl
theorem tab103 : tab 103 = some ti103 := rfl
theorem tab104 : tab 104 = some ti104 := rfl
theorem tab105 : tab 105 = some ti105 := rfl
theorem tab106 : tab 106 = some ti106 := rfl
theorem tab107 : tab 107 = some ti107 := rfl
theorem tab108 : tab 108 = some ti108 := rfl
theorem tab109 : tab 109 = some ti109 := rfl
theorem tab110 : tab 110 = some ti110 := rfl
theorem tab111 : tab 111 = some ti111 := rfl
theorem tab112 : tab 112 = some ti112 := rfl
theorem tab113 : tab 113 = some ti113 := rfl
theorem tab114 : tab 114 = some ti114 := rfl
theorem tab115 : tab 115 = some ti115 := rfl
theorem tab116 : tab 116 = some ti116 := rfl
theorem tab117 : tab 117 = some ti117 := rfl
theorem tab118 : tab 118 = some ti118 := rfl
theorem tab119 : tab 119 = some ti119 := rfl
theorem tab120 : tab 120 = some ti120 := rfl
theorem tab121 : tab 121 = some ti121 := rfl
theorem tab122 : tab 122 = some ti122 := rfl
theorem tab123 : tab 123 = some ti123 := rfl
theorem tab124 : tab 124 = some ti124 := rfl
theorem tab125 : tab 125 = some ti125 := rfl
theorem tab127 : tab 127 = some ti127 := rfl
theorem tab128 : tab 128 = some ti128 := rfl
theorem tab130 : tab 130 = some ti130 := rfl
theorem tab131 : tab 131 = some ti131 := rfl
theorem tab132 : tab 132 = some ti132 := rfl
theorem tab133 : tab 133 = some ti133 := rfl
theorem tab135 : tab 135 = some ti135 := rfl
theorem tab136 : tab 136 = some ti136 := rfl
theorem tab138 : tab 138 = some ti138 := rfl
theorem tab139 : tab 139 = some ti139 := rfl
theorem tab140 : tab 140 = some ti140 := rfl
theorem tab141 : tab 141 = some ti141 := rfl
theorem tab142 : tab 142 = some ti142 := rfl
theorem tab143 : tab 143 = some ti143 := rfl
theorem tab144 : tab 144 = some ti144 := rfl
theorem tab145 : tab 145 = some ti145 := rfl
theorem tab146 : tab 146 = some ti146 := rfl
theorem tab147 : tab 147 = some ti147 := rfl
theorem tab148 : tab 148 = some ti148 := rfl
theorem tab149 : tab 149 = some ti149 := rfl
theorem tab150 : tab 150 = some ti150 := rfl
theorem tab151 : tab 151 = some ti151 := rfl
theorem tab152 : tab 152 = some ti152 := rfl
theorem tab153 : tab 153 = some ti153 := rfl
theorem tab154 : tab 154 = some ti154 := rfl
theorem tab155 : tab 155 = some ti155 := rfl
theorem tab156 : tab 156 = some ti156 := rfl
theorem tab158 : tab 158 = some ti158 := rfl
theorem tab159 : tab 159 = some ti159 := rfl
theorem tab161 : tab 161 = some ti161 := rfl
theorem tab163 : tab 163 = some ti163 := rfl
theorem tab164 : tab 164 = some ti164 := rfl
theorem tab166 : tab 166 = some ti166 := rfl
theorem tab167 : tab 167 = some ti167 := rfl
theorem tab168 : tab 168 = some ti168 := rfl
theorem tab169 : tab 169 = some ti169 := rfl
theorem tab170 : tab 170 = some ti170 := rfl
theorem tab171 : tab 171 = some ti171 := rfl
theorem tab172 : tab 172 = some ti172 := rfl
theorem tab173 : tab 173 = some ti173 := rfl
theorem tab174 : tab 174 = some ti174 := rfl
theorem tab175 : tab 175 = some ti175 := rfl
theorem tab176 : tab 176 = some ti176 := rfl
theorem tab177 : tab 177 = some ti177 := rfl
theorem tab178 : tab 178 = some ti178 := rfl
theorem tab179 : tab 179 = some ti179 := rfl
theorem tab180 : tab 180 = some ti180 := rfl
theorem tab181 : tab 181 = some ti181 := rfl
theorem tab182 : tab 182 = some ti182 := rfl
theorem tab183 : tab 183 = some ti183 := rfl
theorem tab184 : tab 184 = some ti184 := rfl
theorem tab185 : tab 185 = some ti185 := rfl
theorem tab186 : tab 186 = some ti186 := rfl
theorem tab187 : tab 187 = some ti187 := rfl
theorem tab188 : tab 188 = some ti188 := rfl
theorem tab189 : tab 189 = some ti189 := rfl
theorem tab190 : tab 190 = some ti190 := rfl
theorem tab191 : tab 191 = some ti191 := rfl
theorem tab192 : tab 192 = some ti192 := rfl
theorem tab193 : tab 193 = some ti193 := rfl
theorem tab194 : tab 194 = some ti194 := rfl
theorem tab200 : tab 200 = some ti200 := rfl
theorem tab201 : tab 201 = some ti201 := rfl
theorem tab205 : tab 205 = some ti205 := rfl
theorem tab_ok : TabOk Try.prog tab := by
  intro t ti h
  unfold tab at h
  split at h
  · cases h; exact ok1
  · cases h; exact ok2
  · cases h; exact ok3
  · cases h; exact ok4
  · cases h; exact ok5
  · cases h; exact ok9
  · cases h; exact ok12
  · cases h; exact ok20
  · cases h; exact ok21
  · cases h; exact ok22
  · cases h; exact ok23
  · cases h; exact ok24
  · cases h; exact ok25
  · cases h; exact ok26
  · cases h; exact ok27
  · cases h; exact ok28
  · cases h; exact ok29
  · cases h; exact ok30
  · cases h; exact ok31
  · cases h; exact ok32
  · cases h; exact ok33
  · cases h; exact ok34
  · cases h; exact ok35
  · cases h; exact ok36
  · cases h; exact ok37
  · cases h; exact ok38
  · cases h; exact ok39
  · cases h; exact ok40
  · cases h; exact ok41
  · cases h; exact ok42
  · cases h; exact ok43
  · cases h; exact ok44
  · cases h; exact ok46
  · cases h; exact ok47
  · cases h; exact ok48
  · cases h; exact ok50
  · cases h; exact ok51
  · cases h; exact ok52
  · cases h; exact ok54
  · cases h; exact ok56
  · cases h; exact ok58
  · cases h; exact ok60
  · cases h; exact ok62
  · cases h; exact ok64
  · cases h; exact ok65
  · cases h; exact ok66
  · cases h; exact ok67
  · cases h; exact ok68
  · cases h; exact ok69
  · cases h; exact ok71
  · cases h; exact ok73
  · cases h; exact ok74
  · cases h; exact ok75
  · cases h; exact ok76
  · cases h; exact ok77
  · cases h; exact ok78
  · cases h; exact ok80
  · cases h; exact ok81
  · cases h; exact ok82
  · cases h; exact ok83
  · cases h; exact ok84
  · cases h; exact ok85
  · cases h; exact ok87
  · cases h; exact ok89
  · cases h; exact ok91
  · cases h; exact ok93
  · cases h; exact ok95
  · cases h; exact ok96
  · cases h; exact ok97
  · cases h; exact ok98
  · cases h; exact ok99
  · cases h; exact ok100
  · cases h; exact ok101
  · cases h; exact ok102
  · cases h; exact ok103
  · cases h; exact ok104
  · cases h; exact ok105
  · cases h; exact ok106
  · cases h; exact ok107
  · cases h; exact ok108
  · cases h; exact ok109
  · cases h; exact ok110
  · cases h; exact ok111
  · cases h; exact ok112
  · cases h; exact ok113
  · cases h; exact ok114
  · cases h; exact ok115
  · cases h; exact ok116
  · cases h; exact ok117
  · cases h; exact ok118
  · cases h; exact ok119
  · cases h; exact ok120
  · cases h; exact ok121
  · cases h; exact ok122
  · cases h; exact ok123
  · cases h; exact ok124
  · cases h; exact ok125
  · cases h; exact ok127
  · cases h; exact ok128
  · cases h; exact ok130
  · cases h; exact ok131
  · cases h; exact ok132
  · cases h; exact ok133
  · cases h; exact ok135
  · cases h; exact ok136
  · cases h; exact ok138
  · cases h; exact ok139
  · cases h; exact ok140
  · cases h; exact ok141
  · cases h; exact ok142
  · cases h; exact ok143
  · cases h; exact ok144
  · cases h; exact ok145
  · cases h; exact ok146
  · cases h; exact ok147
  · cases h; exact ok148
  · cases h; exact ok149
  · cases h; exact ok150
  · cases h; exact ok151
  · cases h; exact ok152
  · cases h; exact ok153
  · cases h; exact ok154
  · cases h; exact ok155
  · cases h; exact ok156
  · cases h; exact ok158
  · cases h; exact ok159
  · cases h; exact ok161
  · cases h; exact ok163
  · cases h; exact ok164
  · cases h; exact ok166
  · cases h; exact ok167
  · cases h; exact ok168
  · cases h; exact ok169
  · cases h; exact ok170
  · cases h; exact ok171
  · cases h; exact ok172
  · cases h; exact ok173
  · cases h; exact ok174
  · cases h; exact ok175
  · cases h; exact ok176
  · cases h; exact ok177
  · cases h; exact ok178
  · cases h; exact ok179
  · cases h; exact ok180
  · cases h; exact ok181
  · cases h; exact ok182
  · cases h; exact ok183
  · cases h; exact ok184
  · cases h; exact ok185
  · cases h; exact ok186
  · cases h; exact ok187
  · cases h; exact ok188
  · cases h; exact ok189
  · cases h; exact ok190
  · cases h; exact ok191
  · cases h; exact ok192
  · cases h; exact ok193
  · cases h; exact ok194
  · cases h; exact ok200
  · cases h; exact ok201
  · cases h; exact ok205
  · cases h
theorem follows : Try.prog.follows .mixedOrders = true := by kernel_rfl
theorem hb0 (f : Nat) (h2 : 2 < f) (hf : f < 140) : hasBody Try.prog f = True := hasBody_of (n := 140) (by kernel_rfl) f h2 hf
theorem hbT : hasBody Try.prog 3 ∧ hasBody Try.prog 4 ∧ hasBody Try.prog 5 ∧ hasBody Try.prog 6 ∧ hasBody Try.prog 7 ∧ hasBody Try.prog 8 ∧ hasBody Try.prog 9 ∧ hasBody Try.prog 10 ∧ hasBody Try.prog 11 ∧ hasBody Try.prog 12 ∧ hasBody Try.prog 13 ∧ hasBody Try.prog 14 ∧ hasBody Try.prog 15 ∧ hasBody Try.prog 16 ∧ hasBody Try.prog 17 ∧ hasBody Try.prog 18 ∧ hasBody Try.prog 19 ∧ hasBody Try.prog 20 ∧ hasBody Try.prog 21 ∧ hasBody Try.prog 22 ∧ hasBody Try.prog 23 ∧ hasBody Try.prog 24 ∧ hasBody Try.prog 25 ∧ hasBody Try.prog 26 ∧ hasBody Try.prog 27 ∧ hasBody Try.prog 28 ∧ hasBody Try.prog 29 ∧ hasBody Try.prog 30 ∧ hasBody Try.prog 31 ∧ hasBody Try.prog 32 ∧ hasBody Try.prog 33 ∧ hasBody Try.prog 34 ∧ hasBody Try.prog 35 ∧ hasBody Try.prog 36 ∧ hasBody Try.prog 37 ∧ hasBody Try.prog 38 ∧ hasBody Try.prog 39 ∧ hasBody Try.prog 40 ∧ hasBody Try.prog 41 ∧ hasBody Try.prog 42 ∧ hasBody Try.prog 43 ∧ hasBody Try.prog 44 ∧ hasBody Try.prog 45 ∧ hasBody Try.prog 46 ∧ hasBody Try.prog 47 ∧ hasBody Try.prog 48 ∧ hasBody Try.prog 49 ∧ hasBody Try.prog 50 ∧ hasBody Try.prog 51 ∧ hasBody Try.prog 52 ∧ hasBody Try.prog 53 ∧ hasBody Try.prog 54 ∧ hasBody Try.prog 55 ∧ hasBody Try.prog 56 ∧ hasBody Try.prog 57 ∧ hasBody Try.prog 58 ∧ hasBody Try.prog 59 ∧ hasBody Try.prog 60 ∧ hasBody Try.prog 61 ∧ hasBody Try.prog 62 ∧ hasBody Try.prog 63 ∧ hasBody Try.prog 64 ∧ hasBody Try.prog 65 ∧ hasBody Try.prog 66 ∧ hasBody Try.prog 67 ∧ hasBody Try.prog 68 ∧ hasBody Try.prog 69 ∧ hasBody Try.prog 70 ∧ hasBody Try.prog 71 ∧ hasBody Try.prog 72 ∧ hasBody Try.prog 73 ∧ hasBody Try.prog 74 ∧ hasBody Try.prog 75 ∧ hasBody Try.prog 76 ∧ hasBody Try.prog 77 ∧ hasBody Try.prog 78 ∧ hasBody Try.prog 79 ∧ hasBody Try.prog 80 ∧ hasBody Try.prog 81 ∧ hasBody Try.prog 82 ∧ hasBody Try.prog 83 ∧ hasBody Try.prog 84 ∧ hasBody Try.prog 85 ∧ hasBody Try.prog 86 ∧ hasBody Try.prog 87 ∧ hasBody Try.prog 88 ∧ hasBody Try.prog 89 ∧ hasBody Try.prog 90 ∧ hasBody Try.prog 91 ∧ hasBody Try.prog 92 ∧ hasBody Try.prog 93 ∧ hasBody Try.prog 94 ∧ hasBody Try.prog 95 ∧ hasBody Try.prog 96 ∧ hasBody Try.prog 97 ∧ hasBody Try.prog 98 ∧ hasBody Try.prog 99 ∧ hasBody Try.prog 100 ∧ hasBody Try.prog 101 ∧ hasBody Try.prog 102 ∧ hasBody Try.prog 103 ∧ hasBody Try.prog 104 ∧ hasBody Try.prog 105 ∧ hasBody Try.prog 106 ∧ hasBody Try.prog 107 ∧ hasBody Try.prog 108 ∧ hasBody Try.prog 109 ∧ hasBody Try.prog 110 ∧ hasBody Try.prog 111 ∧ hasBody Try.prog 112 ∧ hasBody Try.prog 113 ∧ hasBody Try.prog 114 ∧ hasBody Try.prog 115 ∧ hasBody Try.prog 116 ∧ hasBody Try.prog 117 ∧ hasBody Try.prog 118 ∧ hasBody Try.prog 119 ∧ hasBody Try.prog 120 ∧ hasBody Try.prog 121 ∧ hasBody Try.prog 122 ∧ hasBody Try.prog 123 ∧ hasBody Try.prog 124 ∧ hasBody Try.prog 125 ∧ hasBody Try.prog 126 ∧ hasBody Try.prog 127 ∧ hasBody Try.prog 128 ∧ hasBody Try.prog 129 ∧ hasBody Try.prog 130 ∧ hasBody Try.prog 131 ∧ hasBody Try.prog 132 ∧ hasBody Try.prog 133 ∧ hasBody Try.prog 134 ∧ hasBody Try.prog 135 ∧ hasBody Try.prog 136 ∧ hasBody Try.prog 137 ∧ hasBody Try.prog 138 ∧ hasBody Try.prog 139 :=
  ⟨of_eq_true (hb0 3 (by decide) (by decide)), of_eq_true (hb0 4 (by decide) (by decide)), of_eq_true (hb0 5 (by decide) (by decide)), of_eq_true (hb0 6 (by decide) (by decide)), of_eq_true (hb0 7 (by decide) (by decide)), of_eq_true (hb0 8 (by decide) (by decide)), of_eq_true (hb0 9 (by decide) (by decide)), of_eq_true (hb0 10 (by decide) (by decide)), of_eq_true (hb0 11 (by decide) (by decide)), of_eq_true (hb0 12 (by decide) (by decide)), of_eq_true (hb0 13 (by decide) (by decide)), of_eq_true (hb0 14 (by decide) (by decide)), of_eq_true (hb0 15 (by decide) (by decide)), of_eq_true (hb0 16 (by decide) (by decide)), of_eq_true (hb0 17 (by decide) (by decide)), of_eq_true (hb0 18 (by decide) (by decide)), of_eq_true (hb0 19 (by decide) (by decide)), of_eq_true (hb0 20 (by decide) (by decide)), of_eq_true (hb0 21 (by decide) (by decide)), of_eq_true (hb0 22 (by decide) (by decide)), of_eq_true (hb0 23 (by decide) (by decide)), of_eq_true (hb0 24 (by decide) (by decide)), of_eq_true (hb0 25 (by decide) (by decide)), of_eq_true (hb0 26 (by decide) (by decide)), of_eq_true (hb0 27 (by decide) (by decide)), of_eq_true (hb0 28 (by decide) (by decide)), of_eq_true (hb0 29 (by decide) (by decide)), of_eq_true (hb0 30 (by decide) (by decide)), of_eq_true (hb0 31 (by decide) (by decide)), of_eq_true (hb0 32 (by decide) (by decide)), of_eq_true (hb0 33 (by decide) (by decide)), of_eq_true (hb0 34 (by decide) (by decide)), of_eq_true (hb0 35 (by decide) (by decide)), of_eq_true (hb0 36 (by decide) (by decide)), of_eq_true (hb0 37 (by decide) (by decide)), of_eq_true (hb0 38 (by decide) (by decide)), of_eq_true (hb0 39 (by decide) (by decide)), of_eq_true (hb0 40 (by decide) (by decide)), of_eq_true (hb0 41 (by decide) (by decide)), of_eq_true (hb0 42 (by decide) (by decide)), of_eq_true (hb0 43 (by decide) (by decide)), of_eq_true (hb0 44 (by decide) (by decide)), of_eq_true (hb0 45 (by decide) (by decide)), of_eq_true (hb0 46 (by decide) (by decide)), of_eq_true (hb0 47 (by decide) (by decide)), of_eq_true (hb0 48 (by decide) (by decide)), of_eq_true (hb0 49 (by decide) (by decide)), of_eq_true (hb0 50 (by decide) (by decide)), of_eq_true (hb0 51 (by decide) (by decide)), of_eq_true (hb0 52 (by decide) (by decide)), of_eq_true (hb0 53 (by decide) (by decide)), of_eq_true (hb0 54 (by decide) (by decide)), of_eq_true (hb0 55 (by decide) (by decide)), of_eq_true (hb0 56 (by decide) (by decide)), of_eq_true (hb0 57 (by decide) (by decide)), of_eq_true (hb0 58 (by decide) (by decide)), of_eq_true (hb0 59 (by decide) (by decide)), of_eq_true (hb0 60 (by decide) (by decide)), of_eq_true (hb0 61 (by decide) (by decide)), of_eq_true (hb0 62 (by decide) (by decide)), of_eq_true (hb0 63 (by decide) (by decide)), of_eq_true (hb0 64 (by decide) (by decide)), of_eq_true (hb0 65 (by decide) (by decide)), of_eq_true (hb0 66 (by decide) (by decide)), of_eq_true (hb0 67 (by decide) (by decide)), of_eq_true (hb0 68 (by decide) (by decide)), of_eq_true (hb0 69 (by decide) (by decide)), of_eq_true (hb0 70 (by decide) (by decide)), of_eq_true (hb0 71 (by decide) (by decide)), of_eq_true (hb0 72 (by decide) (by decide)), of_eq_true (hb0 73 (by decide) (by decide)), of_eq_true (hb0 74 (by decide) (by decide)), of_eq_true (hb0 75 (by decide) (by decide)), of_eq_true (hb0 76 (by decide) (by decide)), of_eq_true (hb0 77 (by decide) (by decide)), of_eq_true (hb0 78 (by decide) (by decide)), of_eq_true (hb0 79 (by decide) (by decide)), of_eq_true (hb0 80 (by decide) (by decide)), of_eq_true (hb0 81 (by decide) (by decide)), of_eq_true (hb0 82 (by decide) (by decide)), of_eq_true (hb0 83 (by decide) (by decide)), of_eq_true (hb0 84 (by decide) (by decide)), of_eq_true (hb0 85 (by decide) (by decide)), of_eq_true (hb0 86 (by decide) (by decide)), of_eq_true (hb0 87 (by decide) (by decide)), of_eq_true (hb0 88 (by decide) (by decide)), of_eq_true (hb0 89 (by decide) (by decide)), of_eq_true (hb0 90 (by decide) (by decide)), of_eq_true (hb0 91 (by decide) (by decide)), of_eq_true (hb0 92 (by decide) (by decide)), of_eq_true (hb0 93 (by decide) (by decide)), of_eq_true (hb0 94 (by decide) (by decide)), of_eq_true (hb0 95 (by decide) (by decide)), of_eq_true (hb0 96 (by decide) (by decide)), of_eq_true (hb0 97 (by decide) (by decide)), of_eq_true (hb0 98 (by decide) (by decide)), of_eq_true (hb0 99 (by decide) (by decide)), of_eq_true (hb0 100 (by decide) (by decide)), of_eq_true (hb0 101 (by decide) (by decide)), of_eq_true (hb0 102 (by decide) (by decide)), of_eq_true (hb0 103 (by decide) (by decide)), of_eq_true (hb0 104 (by decide) (by decide)), of_eq_true (hb0 105 (by decide) (by decide)), of_eq_true (hb0 106 (by decide) (by decide)), of_eq_true (hb0 107 (by decide) (by decide)), of_eq_true (hb0 108 (by decide) (by decide)), of_eq_true (hb0 109 (by decide) (by decide)), of_eq_true (hb0 110 (by decide) (by decide)), of_eq_true (hb0 111 (by decide) (by decide)), of_eq_true (hb0 112 (by decide) (by decide)), of_eq_true (hb0 113 (by decide) (by decide)), of_eq_true (hb0 114 (by decide) (by decide)), of_eq_true (hb0 115 (by decide) (by decide)), of_eq_true (hb0 116 (by decide) (by decide)), of_eq_true (hb0 117 (by decide) (by decide)), of_eq_true (hb0 118 (by decide) (by decide)), of_eq_true (hb0 119 (by decide) (by decide)), of_eq_true (hb0 120 (by decide) (by decide)), of_eq_true (hb0 121 (by decide) (by decide)), of_eq_true (hb0 122 (by decide) (by decide)), of_eq_true (hb0 123 (by decide) (by decide)), of_eq_true (hb0 124 (by decide) (by decide)), of_eq_true (hb0 125 (by decide) (by decide)), of_eq_true (hb0 126 (by decide) (by decide)), of_eq_true (hb0 127 (by decide) (by decide)), of_eq_true (hb0 128 (by decide) (by decide)), of_eq_true (hb0 129 (by decide) (by decide)), of_eq_true (hb0 130 (by decide) (by decide)), of_eq_true (hb0 131 (by decide) (by decide)), of_eq_true (hb0 132 (by decide) (by decide)), of_eq_true (hb0 133 (by decide) (by decide)), of_eq_true (hb0 134 (by decide) (by decide)), of_eq_true (hb0 135 (by decide) (by decide)), of_eq_true (hb0 136 (by decide) (by decide)), of_eq_true (hb0 137 (by decide) (by decide)), of_eq_true (hb0 138 (by decide) (by decide)), of_eq_true (hb0 139 (by decide) (by decide))⟩
end Go.Proofs.Ytdkiciofkifpdaa.Tab
