/-
  The table of the types of this seat, for the value-semantics layer. Written by a program (mktab.py).
-/
import Derived.Test.YtdkiciofkifpdaaVsBits
import Derived.Test.YtdkiciofkifpdaaRows
import Derived.KernelRfl
namespace Go.Proofs.Ytdkiciofkifpdaa.Tab
open Go Go.VS

theorem tiok {P : Program} {t : TypeId} {ti : TI} {z : Value} (hu : P.underlying t = some ti.desc) (hi : (P.info? t).map (fun i => (i.size, i.bytes, i.zero)) = some (ti.size, ti.bytes, some z))
    (hz : z.cells.toList = ti.zero) (hl : ti.zero.all leafB = true) (hn : ti.zero.length = ti.size) (ha : ti.agg = isAggD ti.desc)
    (hp : ∀ fs, ti.desc = .struct fs → ∀ w, (fs.mapM fun f => (do pure (f.offset, ← sizeOf f.type) : Sem (Nat × Nat))).run P w = .ok ti.pl.toArray w) : TIok P t ti := by
  refine ⟨hu, ?_, hl, hn, ha, hp⟩
  cases h : P.info? t with
  | none => rw [h] at hi; cases hi
  | some i =>
    rw [h] at hi
    simp only [Option.map_some, Option.some.injEq, Prod.mk.injEq] at hi
    exact ⟨i, z, rfl, hi.1, hi.2.1, hi.2.2, hz⟩

/-- func() -/
abbrev ti1 : TI := { desc := .func #[] #[] false, size := 1, bytes := 8, zero := [.nilFunc], agg := false }
set_option maxRecDepth 100000 in
theorem ok1 : TIok Try.prog 1 ti1 := tiok (z := (.nilFunc)) (by kernel_rfl) (by kernel_rfl) rfl (by decide) rfl rfl (by intro fs h; cases h)
/-- int64 -/
abbrev ti2 : TI := { desc := .int .i64, size := 1, bytes := 8, zero := [.int .i64 0], agg := false }
set_option maxRecDepth 100000 in
theorem ok2 : TIok Try.prog 2 ti2 := tiok (z := (.int .i64 0)) (by kernel_rfl) (by kernel_rfl) rfl (by decide) rfl rfl (by intro fs h; cases h)
/-- int -/
abbrev ti3 : TI := { desc := .int .i64, size := 1, bytes := 8, zero := [.int .i64 0], agg := false }
set_option maxRecDepth 100000 in
theorem ok3 : TIok Try.prog 3 ti3 := tiok (z := (.int .i64 0)) (by kernel_rfl) (by kernel_rfl) rfl (by decide) rfl rfl (by intro fs h; cases h)
/-- bool -/
abbrev ti4 : TI := { desc := .bool, size := 1, bytes := 1, zero := [.bool false], agg := false }
set_option maxRecDepth 100000 in
theorem ok4 : TIok Try.prog 4 ti4 := tiok (z := (.bool false)) (by kernel_rfl) (by kernel_rfl) rfl (by decide) rfl rfl (by intro fs h; cases h)
/-- uint8 -/
abbrev ti5 : TI := { desc := .int .u8, size := 1, bytes := 1, zero := [.int .u8 0], agg := false }
set_option maxRecDepth 100000 in
theorem ok5 : TIok Try.prog 5 ti5 := tiok (z := (.int .u8 0)) (by kernel_rfl) (by kernel_rfl) rfl (by decide) rfl rfl (by intro fs h; cases h)
/-- string -/
abbrev ti9 : TI := { desc := .string, size := 1, bytes := 16, zero := [.string ByteArray.empty], agg := false }
set_option maxRecDepth 100000 in
theorem ok9 : TIok Try.prog 9 ti9 := tiok (z := (.string ByteArray.empty)) (by kernel_rfl) (by kernel_rfl) rfl (by decide) rfl rfl (by intro fs h; cases h)
/-- interface {} -/
abbrev ti20 : TI := { desc := .interface #[], size := 1, bytes := 16, zero := [.nilIface], agg := false }
set_option maxRecDepth 100000 in
theorem ok20 : TIok Try.prog 20 ti20 := tiok (z := (.nilIface)) (by kernel_rfl) (by kernel_rfl) rfl (by decide) rfl rfl (by intro fs h; cases h)
/-- []api.Section -/
abbrev ti22 : TI := { desc := .slice 37, size := 1, bytes := 24, zero := [.slice none 0 0], agg := false }
set_option maxRecDepth 100000 in
theorem ok22 : TIok Try.prog 22 ti22 := tiok (z := (.slice none 0 0)) (by kernel_rfl) (by kernel_rfl) rfl (by decide) rfl rfl (by intro fs h; cases h)
/-- []api.Point -/
abbrev ti23 : TI := { desc := .slice 44, size := 1, bytes := 24, zero := [.slice none 0 0], agg := false }
set_option maxRecDepth 100000 in
theorem ok23 : TIok Try.prog 23 ti23 := tiok (z := (.slice none 0 0)) (by kernel_rfl) (by kernel_rfl) rfl (by decide) rfl rfl (by intro fs h; cases h)
/-- []api.Signal -/
abbrev ti24 : TI := { desc := .slice 48, size := 1, bytes := 24, zero := [.slice none 0 0], agg := false }
set_option maxRecDepth 100000 in
theorem ok24 : TIok Try.prog 24 ti24 := tiok (z := (.slice none 0 0)) (by kernel_rfl) (by kernel_rfl) rfl (by decide) rfl rfl (by intro fs h; cases h)
/-- []api.Route -/
abbrev ti25 : TI := { desc := .slice 34, size := 1, bytes := 24, zero := [.slice none 0 0], agg := false }
set_option maxRecDepth 100000 in
theorem ok25 : TIok Try.prog 25 ti25 := tiok (z := (.slice none 0 0)) (by kernel_rfl) (by kernel_rfl) rfl (by decide) rfl rfl (by intro fs h; cases h)
/-- struct { Version int; Parent int; Sections []api.Section; Points []api.Point; Signals []api.Signal; Routes []api.Route } -/
abbrev ti26 : TI := { desc := .struct #[⟨ "Version", 3, 0, false, "", "", 0⟩, ⟨ "Parent", 3, 1, false, "", "", 8⟩, ⟨ "Sections", 22, 2, false, "", "", 16⟩, ⟨ "Points", 23, 3, false, "", "", 40⟩, ⟨ "Signals", 24, 4, false, "", "", 64⟩, ⟨ "Routes", 25, 5, false, "", "", 88⟩], size := 6, bytes := 112, zero := [.int .i64 0, .int .i64 0, .slice none 0 0, .slice none 0 0, .slice none 0 0, .slice none 0 0], agg := true, pl := [(0, 1), (1, 1), (2, 1), (3, 1), (4, 1), (5, 1)] }
set_option maxRecDepth 100000 in
theorem ok26 : TIok Try.prog 26 ti26 := tiok (z := (.agg ([.int .i64 0, .int .i64 0, .slice none 0 0, .slice none 0 0, .slice none 0 0, .slice none 0 0] : List Value).toArray)) (by kernel_rfl) (by kernel_rfl) rfl (by decide) rfl rfl (by intro fs h; injection h with h; subst h; intro w; kernel_rfl)
/-- leverframe/api.Plan -/
abbrev ti27 : TI := { desc := .struct #[⟨ "Version", 3, 0, false, "", "", 0⟩, ⟨ "Parent", 3, 1, false, "", "", 8⟩, ⟨ "Sections", 22, 2, false, "", "", 16⟩, ⟨ "Points", 23, 3, false, "", "", 40⟩, ⟨ "Signals", 24, 4, false, "", "", 64⟩, ⟨ "Routes", 25, 5, false, "", "", 88⟩], size := 6, bytes := 112, zero := [.int .i64 0, .int .i64 0, .slice none 0 0, .slice none 0 0, .slice none 0 0, .slice none 0 0], agg := true, pl := [(0, 1), (1, 1), (2, 1), (3, 1), (4, 1), (5, 1)] }
set_option maxRecDepth 100000 in
theorem ok27 : TIok Try.prog 27 ti27 := tiok (z := (.agg ([.int .i64 0, .int .i64 0, .slice none 0 0, .slice none 0 0, .slice none 0 0, .slice none 0 0] : List Value).toArray)) (by kernel_rfl) (by kernel_rfl) rfl (by decide) rfl rfl (by intro fs h; injection h with h; subst h; intro w; kernel_rfl)
/-- []int -/
abbrev ti31 : TI := { desc := .slice 3, size := 1, bytes := 24, zero := [.slice none 0 0], agg := false }
set_option maxRecDepth 100000 in
theorem ok31 : TIok Try.prog 31 ti31 := tiok (z := (.slice none 0 0)) (by kernel_rfl) (by kernel_rfl) rfl (by decide) rfl rfl (by intro fs h; cases h)
/-- []api.Flank -/
abbrev ti32 : TI := { desc := .slice 85, size := 1, bytes := 24, zero := [.slice none 0 0], agg := false }
set_option maxRecDepth 100000 in
theorem ok32 : TIok Try.prog 32 ti32 := tiok (z := (.slice none 0 0)) (by kernel_rfl) (by kernel_rfl) rfl (by decide) rfl rfl (by intro fs h; cases h)
/-- struct { Id int; Entry int; Exit int; Path []int; Over []int; Flanks []api.Flank; Timer int } -/
abbrev ti33 : TI := { desc := .struct #[⟨ "Id", 3, 0, false, "", "", 0⟩, ⟨ "Entry", 3, 1, false, "", "", 8⟩, ⟨ "Exit", 3, 2, false, "", "", 16⟩, ⟨ "Path", 31, 3, false, "", "", 24⟩, ⟨ "Over", 31, 4, false, "", "", 48⟩, ⟨ "Flanks", 32, 5, false, "", "", 72⟩, ⟨ "Timer", 3, 6, false, "", "", 96⟩], size := 7, bytes := 104, zero := [.int .i64 0, .int .i64 0, .int .i64 0, .slice none 0 0, .slice none 0 0, .slice none 0 0, .int .i64 0], agg := true, pl := [(0, 1), (1, 1), (2, 1), (3, 1), (4, 1), (5, 1), (6, 1)] }
set_option maxRecDepth 100000 in
theorem ok33 : TIok Try.prog 33 ti33 := tiok (z := (.agg ([.int .i64 0, .int .i64 0, .int .i64 0, .slice none 0 0, .slice none 0 0, .slice none 0 0, .int .i64 0] : List Value).toArray)) (by kernel_rfl) (by kernel_rfl) rfl (by decide) rfl rfl (by intro fs h; injection h with h; subst h; intro w; kernel_rfl)
/-- leverframe/api.Route -/
abbrev ti34 : TI := { desc := .struct #[⟨ "Id", 3, 0, false, "", "", 0⟩, ⟨ "Entry", 3, 1, false, "", "", 8⟩, ⟨ "Exit", 3, 2, false, "", "", 16⟩, ⟨ "Path", 31, 3, false, "", "", 24⟩, ⟨ "Over", 31, 4, false, "", "", 48⟩, ⟨ "Flanks", 32, 5, false, "", "", 72⟩, ⟨ "Timer", 3, 6, false, "", "", 96⟩], size := 7, bytes := 104, zero := [.int .i64 0, .int .i64 0, .int .i64 0, .slice none 0 0, .slice none 0 0, .slice none 0 0, .int .i64 0], agg := true, pl := [(0, 1), (1, 1), (2, 1), (3, 1), (4, 1), (5, 1), (6, 1)] }
set_option maxRecDepth 100000 in
theorem ok34 : TIok Try.prog 34 ti34 := tiok (z := (.agg ([.int .i64 0, .int .i64 0, .int .i64 0, .slice none 0 0, .slice none 0 0, .slice none 0 0, .int .i64 0] : List Value).toArray)) (by kernel_rfl) (by kernel_rfl) rfl (by decide) rfl rfl (by intro fs h; injection h with h; subst h; intro w; kernel_rfl)
/-- []api.Join -/
abbrev ti35 : TI := { desc := .slice 39, size := 1, bytes := 24, zero := [.slice none 0 0], agg := false }
set_option maxRecDepth 100000 in
theorem ok35 : TIok Try.prog 35 ti35 := tiok (z := (.slice none 0 0)) (by kernel_rfl) (by kernel_rfl) rfl (by decide) rfl rfl (by intro fs h; cases h)
/-- struct { Id int; Point int; Ends []api.Join } -/
abbrev ti36 : TI := { desc := .struct #[⟨ "Id", 3, 0, false, "", "", 0⟩, ⟨ "Point", 3, 1, false, "", "", 8⟩, ⟨ "Ends", 35, 2, false, "", "", 16⟩], size := 3, bytes := 40, zero := [.int .i64 0, .int .i64 0, .slice none 0 0], agg := true, pl := [(0, 1), (1, 1), (2, 1)] }
set_option maxRecDepth 100000 in
theorem ok36 : TIok Try.prog 36 ti36 := tiok (z := (.agg ([.int .i64 0, .int .i64 0, .slice none 0 0] : List Value).toArray)) (by kernel_rfl) (by kernel_rfl) rfl (by decide) rfl rfl (by intro fs h; injection h with h; subst h; intro w; kernel_rfl)
/-- leverframe/api.Section -/
abbrev ti37 : TI := { desc := .struct #[⟨ "Id", 3, 0, false, "", "", 0⟩, ⟨ "Point", 3, 1, false, "", "", 8⟩, ⟨ "Ends", 35, 2, false, "", "", 16⟩], size := 3, bytes := 40, zero := [.int .i64 0, .int .i64 0, .slice none 0 0], agg := true, pl := [(0, 1), (1, 1), (2, 1)] }
set_option maxRecDepth 100000 in
theorem ok37 : TIok Try.prog 37 ti37 := tiok (z := (.agg ([.int .i64 0, .int .i64 0, .slice none 0 0] : List Value).toArray)) (by kernel_rfl) (by kernel_rfl) rfl (by decide) rfl rfl (by intro fs h; injection h with h; subst h; intro w; kernel_rfl)
/-- struct { To int; End int } -/
abbrev ti38 : TI := { desc := .struct #[⟨ "To", 3, 0, false, "", "", 0⟩, ⟨ "End", 3, 1, false, "", "", 8⟩], size := 2, bytes := 16, zero := [.int .i64 0, .int .i64 0], agg := true, pl := [(0, 1), (1, 1)] }
set_option maxRecDepth 100000 in
theorem ok38 : TIok Try.prog 38 ti38 := tiok (z := (.agg ([.int .i64 0, .int .i64 0] : List Value).toArray)) (by kernel_rfl) (by kernel_rfl) rfl (by decide) rfl rfl (by intro fs h; injection h with h; subst h; intro w; kernel_rfl)
/-- leverframe/api.Join -/
abbrev ti39 : TI := { desc := .struct #[⟨ "To", 3, 0, false, "", "", 0⟩, ⟨ "End", 3, 1, false, "", "", 8⟩], size := 2, bytes := 16, zero := [.int .i64 0, .int .i64 0], agg := true, pl := [(0, 1), (1, 1)] }
set_option maxRecDepth 100000 in
theorem ok39 : TIok Try.prog 39 ti39 := tiok (z := (.agg ([.int .i64 0, .int .i64 0] : List Value).toArray)) (by kernel_rfl) (by kernel_rfl) rfl (by decide) rfl rfl (by intro fs h; injection h with h; subst h; intro w; kernel_rfl)
/-- leverframe/api.Errno -/
abbrev ti41 : TI := { desc := .int .i64, size := 1, bytes := 8, zero := [.int .i64 0], agg := false }
set_option maxRecDepth 100000 in
theorem ok41 : TIok Try.prog 41 ti41 := tiok (z := (.int .i64 0)) (by kernel_rfl) (by kernel_rfl) rfl (by decide) rfl rfl (by intro fs h; cases h)
/-- struct { Id int; Section int } -/
abbrev ti43 : TI := { desc := .struct #[⟨ "Id", 3, 0, false, "", "", 0⟩, ⟨ "Section", 3, 1, false, "", "", 8⟩], size := 2, bytes := 16, zero := [.int .i64 0, .int .i64 0], agg := true, pl := [(0, 1), (1, 1)] }
set_option maxRecDepth 100000 in
theorem ok43 : TIok Try.prog 43 ti43 := tiok (z := (.agg ([.int .i64 0, .int .i64 0] : List Value).toArray)) (by kernel_rfl) (by kernel_rfl) rfl (by decide) rfl rfl (by intro fs h; injection h with h; subst h; intro w; kernel_rfl)
/-- leverframe/api.Point -/
abbrev ti44 : TI := { desc := .struct #[⟨ "Id", 3, 0, false, "", "", 0⟩, ⟨ "Section", 3, 1, false, "", "", 8⟩], size := 2, bytes := 16, zero := [.int .i64 0, .int .i64 0], agg := true, pl := [(0, 1), (1, 1)] }
set_option maxRecDepth 100000 in
theorem ok44 : TIok Try.prog 44 ti44 := tiok (z := (.agg ([.int .i64 0, .int .i64 0] : List Value).toArray)) (by kernel_rfl) (by kernel_rfl) rfl (by decide) rfl rfl (by intro fs h; injection h with h; subst h; intro w; kernel_rfl)
/-- struct { Id int; Section int; End int } -/
abbrev ti47 : TI := { desc := .struct #[⟨ "Id", 3, 0, false, "", "", 0⟩, ⟨ "Section", 3, 1, false, "", "", 8⟩, ⟨ "End", 3, 2, false, "", "", 16⟩], size := 3, bytes := 24, zero := [.int .i64 0, .int .i64 0, .int .i64 0], agg := true, pl := [(0, 1), (1, 1), (2, 1)] }
set_option maxRecDepth 100000 in
theorem ok47 : TIok Try.prog 47 ti47 := tiok (z := (.agg ([.int .i64 0, .int .i64 0, .int .i64 0] : List Value).toArray)) (by kernel_rfl) (by kernel_rfl) rfl (by decide) rfl rfl (by intro fs h; injection h with h; subst h; intro w; kernel_rfl)
/-- leverframe/api.Signal -/
abbrev ti48 : TI := { desc := .struct #[⟨ "Id", 3, 0, false, "", "", 0⟩, ⟨ "Section", 3, 1, false, "", "", 8⟩, ⟨ "End", 3, 2, false, "", "", 16⟩], size := 3, bytes := 24, zero := [.int .i64 0, .int .i64 0, .int .i64 0], agg := true, pl := [(0, 1), (1, 1), (2, 1)] }
set_option maxRecDepth 100000 in
theorem ok48 : TIok Try.prog 48 ti48 := tiok (z := (.agg ([.int .i64 0, .int .i64 0, .int .i64 0] : List Value).toArray)) (by kernel_rfl) (by kernel_rfl) rfl (by decide) rfl rfl (by intro fs h; injection h with h; subst h; intro w; kernel_rfl)
/-- func(api.Route, api.Route) bool -/
abbrev ti66 : TI := { desc := .func #[34, 34] #[4] false, size := 1, bytes := 8, zero := [.nilFunc], agg := false }
set_option maxRecDepth 100000 in
theorem ok66 : TIok Try.prog 66 ti66 := tiok (z := (.nilFunc)) (by kernel_rfl) (by kernel_rfl) rfl (by decide) rfl rfl (by intro fs h; cases h)
/-- []api.Way -/
abbrev ti68 : TI := { desc := .slice 77, size := 1, bytes := 24, zero := [.slice none 0 0], agg := false }
set_option maxRecDepth 100000 in
theorem ok68 : TIok Try.prog 68 ti68 := tiok (z := (.slice none 0 0)) (by kernel_rfl) (by kernel_rfl) rfl (by decide) rfl rfl (by intro fs h; cases h)
/-- [][]api.Join -/
abbrev ti69 : TI := { desc := .slice 35, size := 1, bytes := 24, zero := [.slice none 0 0], agg := false }
set_option maxRecDepth 100000 in
theorem ok69 : TIok Try.prog 69 ti69 := tiok (z := (.slice none 0 0)) (by kernel_rfl) (by kernel_rfl) rfl (by decide) rfl rfl (by intro fs h; cases h)
/-- []api.Ask -/
abbrev ti75 : TI := { desc := .slice 83, size := 1, bytes := 24, zero := [.slice none 0 0], agg := false }
set_option maxRecDepth 100000 in
theorem ok75 : TIok Try.prog 75 ti75 := tiok (z := (.slice none 0 0)) (by kernel_rfl) (by kernel_rfl) rfl (by decide) rfl rfl (by intro fs h; cases h)
/-- struct { Path []int; Over []int; Asks []api.Ask; Near int } -/
abbrev ti76 : TI := { desc := .struct #[⟨ "Path", 31, 0, false, "", "", 0⟩, ⟨ "Over", 31, 1, false, "", "", 24⟩, ⟨ "Asks", 75, 2, false, "", "", 48⟩, ⟨ "Near", 3, 3, false, "", "", 72⟩], size := 4, bytes := 80, zero := [.slice none 0 0, .slice none 0 0, .slice none 0 0, .int .i64 0], agg := true, pl := [(0, 1), (1, 1), (2, 1), (3, 1)] }
set_option maxRecDepth 100000 in
theorem ok76 : TIok Try.prog 76 ti76 := tiok (z := (.agg ([.slice none 0 0, .slice none 0 0, .slice none 0 0, .int .i64 0] : List Value).toArray)) (by kernel_rfl) (by kernel_rfl) rfl (by decide) rfl rfl (by intro fs h; injection h with h; subst h; intro w; kernel_rfl)
/-- leverframe/api.Way -/
abbrev ti77 : TI := { desc := .struct #[⟨ "Path", 31, 0, false, "", "", 0⟩, ⟨ "Over", 31, 1, false, "", "", 24⟩, ⟨ "Asks", 75, 2, false, "", "", 48⟩, ⟨ "Near", 3, 3, false, "", "", 72⟩], size := 4, bytes := 80, zero := [.slice none 0 0, .slice none 0 0, .slice none 0 0, .int .i64 0], agg := true, pl := [(0, 1), (1, 1), (2, 1), (3, 1)] }
set_option maxRecDepth 100000 in
theorem ok77 : TIok Try.prog 77 ti77 := tiok (z := (.agg ([.slice none 0 0, .slice none 0 0, .slice none 0 0, .int .i64 0] : List Value).toArray)) (by kernel_rfl) (by kernel_rfl) rfl (by decide) rfl rfl (by intro fs h; injection h with h; subst h; intro w; kernel_rfl)
/-- struct { Point int; Lie int; At int } -/
abbrev ti82 : TI := { desc := .struct #[⟨ "Point", 3, 0, false, "", "", 0⟩, ⟨ "Lie", 3, 1, false, "", "", 8⟩, ⟨ "At", 3, 2, false, "", "", 16⟩], size := 3, bytes := 24, zero := [.int .i64 0, .int .i64 0, .int .i64 0], agg := true, pl := [(0, 1), (1, 1), (2, 1)] }
set_option maxRecDepth 100000 in
theorem ok82 : TIok Try.prog 82 ti82 := tiok (z := (.agg ([.int .i64 0, .int .i64 0, .int .i64 0] : List Value).toArray)) (by kernel_rfl) (by kernel_rfl) rfl (by decide) rfl rfl (by intro fs h; injection h with h; subst h; intro w; kernel_rfl)
/-- leverframe/api.Ask -/
abbrev ti83 : TI := { desc := .struct #[⟨ "Point", 3, 0, false, "", "", 0⟩, ⟨ "Lie", 3, 1, false, "", "", 8⟩, ⟨ "At", 3, 2, false, "", "", 16⟩], size := 3, bytes := 24, zero := [.int .i64 0, .int .i64 0, .int .i64 0], agg := true, pl := [(0, 1), (1, 1), (2, 1)] }
set_option maxRecDepth 100000 in
theorem ok83 : TIok Try.prog 83 ti83 := tiok (z := (.agg ([.int .i64 0, .int .i64 0, .int .i64 0] : List Value).toArray)) (by kernel_rfl) (by kernel_rfl) rfl (by decide) rfl rfl (by intro fs h; injection h with h; subst h; intro w; kernel_rfl)
/-- struct { Point int; Lie int } -/
abbrev ti84 : TI := { desc := .struct #[⟨ "Point", 3, 0, false, "", "", 0⟩, ⟨ "Lie", 3, 1, false, "", "", 8⟩], size := 2, bytes := 16, zero := [.int .i64 0, .int .i64 0], agg := true, pl := [(0, 1), (1, 1)] }
set_option maxRecDepth 100000 in
theorem ok84 : TIok Try.prog 84 ti84 := tiok (z := (.agg ([.int .i64 0, .int .i64 0] : List Value).toArray)) (by kernel_rfl) (by kernel_rfl) rfl (by decide) rfl rfl (by intro fs h; injection h with h; subst h; intro w; kernel_rfl)
/-- leverframe/api.Flank -/
abbrev ti85 : TI := { desc := .struct #[⟨ "Point", 3, 0, false, "", "", 0⟩, ⟨ "Lie", 3, 1, false, "", "", 8⟩], size := 2, bytes := 16, zero := [.int .i64 0, .int .i64 0], agg := true, pl := [(0, 1), (1, 1)] }
set_option maxRecDepth 100000 in
theorem ok85 : TIok Try.prog 85 ti85 := tiok (z := (.agg ([.int .i64 0, .int .i64 0] : List Value).toArray)) (by kernel_rfl) (by kernel_rfl) rfl (by decide) rfl rfl (by intro fs h; injection h with h; subst h; intro w; kernel_rfl)
/-- func([]api.Signal) []api.Signal -/
abbrev ti100 : TI := { desc := .func #[24] #[24] false, size := 1, bytes := 8, zero := [.nilFunc], agg := false }
set_option maxRecDepth 100000 in
theorem ok100 : TIok Try.prog 100 ti100 := tiok (z := (.nilFunc)) (by kernel_rfl) (by kernel_rfl) rfl (by decide) rfl rfl (by intro fs h; cases h)
/-- func(api.Section, api.Section) bool -/
abbrev ti106 : TI := { desc := .func #[37, 37] #[4] false, size := 1, bytes := 8, zero := [.nilFunc], agg := false }
set_option maxRecDepth 100000 in
theorem ok106 : TIok Try.prog 106 ti106 := tiok (z := (.nilFunc)) (by kernel_rfl) (by kernel_rfl) rfl (by decide) rfl rfl (by intro fs h; cases h)
/-- [100]int -/
abbrev ti115 : TI := { desc := .array 100 3, size := 100, bytes := 800, zero := List.replicate 100 (.int .i64 0), agg := true }
set_option maxRecDepth 100000 in
theorem ok115 : TIok Try.prog 115 ti115 := tiok (z := (.agg (List.replicate 100 (.int .i64 0) : List Value).toArray)) (by kernel_rfl) (by kernel_rfl) rfl (by decide) rfl rfl (by intro fs h; cases h)
/-- func(api.Section) bool -/
abbrev ti139 : TI := { desc := .func #[37] #[4] false, size := 1, bytes := 8, zero := [.nilFunc], agg := false }
set_option maxRecDepth 100000 in
theorem ok139 : TIok Try.prog 139 ti139 := tiok (z := (.nilFunc)) (by kernel_rfl) (by kernel_rfl) rfl (by decide) rfl rfl (by intro fs h; cases h)
/-- [3]int -/
abbrev ti140 : TI := { desc := .array 3 3, size := 3, bytes := 24, zero := [.int .i64 0, .int .i64 0, .int .i64 0], agg := true }
set_option maxRecDepth 100000 in
theorem ok140 : TIok Try.prog 140 ti140 := tiok (z := (.agg ([.int .i64 0, .int .i64 0, .int .i64 0] : List Value).toArray)) (by kernel_rfl) (by kernel_rfl) rfl (by decide) rfl rfl (by intro fs h; cases h)
/-- [3][3]int -/
abbrev ti141 : TI := { desc := .array 3 140, size := 9, bytes := 72, zero := List.replicate 9 (.int .i64 0), agg := true }
set_option maxRecDepth 100000 in
theorem ok141 : TIok Try.prog 141 ti141 := tiok (z := (.agg (List.replicate 9 (.int .i64 0) : List Value).toArray)) (by kernel_rfl) (by kernel_rfl) rfl (by decide) rfl rfl (by intro fs h; cases h)
/-- leverframe/track.lies -/
abbrev ti142 : TI := { desc := .array 3 140, size := 9, bytes := 72, zero := List.replicate 9 (.int .i64 0), agg := true }
set_option maxRecDepth 100000 in
theorem ok142 : TIok Try.prog 142 ti142 := tiok (z := (.agg (List.replicate 9 (.int .i64 0) : List Value).toArray)) (by kernel_rfl) (by kernel_rfl) rfl (by decide) rfl rfl (by intro fs h; cases h)
/-- [100]bool -/
abbrev ti147 : TI := { desc := .array 100 4, size := 100, bytes := 100, zero := List.replicate 100 (.bool false), agg := true }
set_option maxRecDepth 100000 in
theorem ok147 : TIok Try.prog 147 ti147 := tiok (z := (.agg (List.replicate 100 (.bool false) : List Value).toArray)) (by kernel_rfl) (by kernel_rfl) rfl (by decide) rfl rfl (by intro fs h; cases h)
/-- func(api.Point) bool -/
abbrev ti151 : TI := { desc := .func #[44] #[4] false, size := 1, bytes := 8, zero := [.nilFunc], agg := false }
set_option maxRecDepth 100000 in
theorem ok151 : TIok Try.prog 151 ti151 := tiok (z := (.nilFunc)) (by kernel_rfl) (by kernel_rfl) rfl (by decide) rfl rfl (by intro fs h; cases h)
/-- [3]bool -/
abbrev ti153 : TI := { desc := .array 3 4, size := 3, bytes := 3, zero := [.bool false, .bool false, .bool false], agg := true }
set_option maxRecDepth 100000 in
theorem ok153 : TIok Try.prog 153 ti153 := tiok (z := (.agg ([.bool false, .bool false, .bool false] : List Value).toArray)) (by kernel_rfl) (by kernel_rfl) rfl (by decide) rfl rfl (by intro fs h; cases h)
/-- [100][3]bool -/
abbrev ti154 : TI := { desc := .array 100 153, size := 300, bytes := 300, zero := List.replicate 300 (.bool false), agg := true }
set_option maxRecDepth 100000 in
theorem ok154 : TIok Try.prog 154 ti154 := tiok (z := (.agg (List.replicate 300 (.bool false) : List Value).toArray)) (by kernel_rfl) (by kernel_rfl) rfl (by decide) rfl rfl (by intro fs h; cases h)
/-- [][]int -/
abbrev ti159 : TI := { desc := .slice 31, size := 1, bytes := 24, zero := [.slice none 0 0], agg := false }
set_option maxRecDepth 100000 in
theorem ok159 : TIok Try.prog 159 ti159 := tiok (z := (.slice none 0 0)) (by kernel_rfl) (by kernel_rfl) rfl (by decide) rfl rfl (by intro fs h; cases h)
/-- *way.walk -/
abbrev ti168 : TI := { desc := .pointer 170, size := 1, bytes := 8, zero := [.pointer none], agg := false }
set_option maxRecDepth 100000 in
theorem ok168 : TIok Try.prog 168 ti168 := tiok (z := (.pointer none)) (by kernel_rfl) (by kernel_rfl) rfl (by decide) rfl rfl (by intro fs h; cases h)
/-- struct { plan api.Plan; in api.Join; asks []api.Ask; outs []api.Join; lost bool } -/
abbrev ti169 : TI := { desc := .struct #[⟨ "plan", 27, 0, false, "", "leverframe/way", 0⟩, ⟨ "in", 39, 6, false, "", "leverframe/way", 112⟩, ⟨ "asks", 75, 8, false, "", "leverframe/way", 128⟩, ⟨ "outs", 35, 9, false, "", "leverframe/way", 152⟩, ⟨ "lost", 4, 10, false, "", "leverframe/way", 176⟩], size := 11, bytes := 184, zero := [.int .i64 0, .int .i64 0, .slice none 0 0, .slice none 0 0, .slice none 0 0, .slice none 0 0, .int .i64 0, .int .i64 0, .slice none 0 0, .slice none 0 0, .bool false], agg := true, pl := [(0, 6), (6, 2), (8, 1), (9, 1), (10, 1)] }
set_option maxRecDepth 100000 in
theorem ok169 : TIok Try.prog 169 ti169 := tiok (z := (.agg ([.int .i64 0, .int .i64 0, .slice none 0 0, .slice none 0 0, .slice none 0 0, .slice none 0 0, .int .i64 0, .int .i64 0, .slice none 0 0, .slice none 0 0, .bool false] : List Value).toArray)) (by kernel_rfl) (by kernel_rfl) rfl (by decide) rfl rfl (by intro fs h; injection h with h; subst h; intro w; kernel_rfl)
/-- leverframe/way.walk -/
abbrev ti170 : TI := { desc := .struct #[⟨ "plan", 27, 0, false, "", "leverframe/way", 0⟩, ⟨ "in", 39, 6, false, "", "leverframe/way", 112⟩, ⟨ "asks", 75, 8, false, "", "leverframe/way", 128⟩, ⟨ "outs", 35, 9, false, "", "leverframe/way", 152⟩, ⟨ "lost", 4, 10, false, "", "leverframe/way", 176⟩], size := 11, bytes := 184, zero := [.int .i64 0, .int .i64 0, .slice none 0 0, .slice none 0 0, .slice none 0 0, .slice none 0 0, .int .i64 0, .int .i64 0, .slice none 0 0, .slice none 0 0, .bool false], agg := true, pl := [(0, 6), (6, 2), (8, 1), (9, 1), (10, 1)] }
set_option maxRecDepth 100000 in
theorem ok170 : TIok Try.prog 170 ti170 := tiok (z := (.agg ([.int .i64 0, .int .i64 0, .slice none 0 0, .slice none 0 0, .slice none 0 0, .slice none 0 0, .int .i64 0, .int .i64 0, .slice none 0 0, .slice none 0 0, .bool false] : List Value).toArray)) (by kernel_rfl) (by kernel_rfl) rfl (by decide) rfl rfl (by intro fs h; injection h with h; subst h; intro w; kernel_rfl)
/-- func(int, api.Join) bool -/
abbrev ti173 : TI := { desc := .func #[3, 39] #[4] false, size := 1, bytes := 8, zero := [.nilFunc], agg := false }
set_option maxRecDepth 100000 in
theorem ok173 : TIok Try.prog 173 ti173 := tiok (z := (.nilFunc)) (by kernel_rfl) (by kernel_rfl) rfl (by decide) rfl rfl (by intro fs h; cases h)
/-- func(api.Section, int) int -/
abbrev ti181 : TI := { desc := .func #[37, 3] #[3] false, size := 1, bytes := 8, zero := [.nilFunc], agg := false }
set_option maxRecDepth 100000 in
theorem ok181 : TIok Try.prog 181 ti181 := tiok (z := (.nilFunc)) (by kernel_rfl) (by kernel_rfl) rfl (by decide) rfl rfl (by intro fs h; cases h)
/-- func(api.Signal) bool -/
abbrev ti186 : TI := { desc := .func #[48] #[4] false, size := 1, bytes := 8, zero := [.nilFunc], agg := false }
set_option maxRecDepth 100000 in
theorem ok186 : TIok Try.prog 186 ti186 := tiok (z := (.nilFunc)) (by kernel_rfl) (by kernel_rfl) rfl (by decide) rfl rfl (by intro fs h; cases h)
/-- func(api.Route) bool -/
abbrev ti188 : TI := { desc := .func #[34] #[4] false, size := 1, bytes := 8, zero := [.nilFunc], agg := false }
set_option maxRecDepth 100000 in
theorem ok188 : TIok Try.prog 188 ti188 := tiok (z := (.nilFunc)) (by kernel_rfl) (by kernel_rfl) rfl (by decide) rfl rfl (by intro fs h; cases h)
/-- uint -/
abbrev ti192 : TI := { desc := .int .u64, size := 1, bytes := 8, zero := [.int .u64 0], agg := false }
set_option maxRecDepth 100000 in
theorem ok192 : TIok Try.prog 192 ti192 := tiok (z := (.int .u64 0)) (by kernel_rfl) (by kernel_rfl) rfl (by decide) rfl rfl (by intro fs h; cases h)
def tab : TypeId → Option TI := fun t =>
  match t with
  | 1 => some ti1
  | 2 => some ti2
  | 3 => some ti3
  | 4 => some ti4
  | 5 => some ti5
  | 9 => some ti9
  | 20 => some ti20
  | 22 => some ti22
  | 23 => some ti23
  | 24 => some ti24
  | 25 => some ti25
  | 26 => some ti26
  | 27 => some ti27
  | 31 => some ti31
  | 32 => some ti32
  | 33 => some ti33
  | 34 => some ti34
  | 35 => some ti35
  | 36 => some ti36
  | 37 => some ti37
  | 38 => some ti38
  | 39 => some ti39
  | 41 => some ti41
  | 43 => some ti43
  | 44 => some ti44
  | 47 => some ti47
  | 48 => some ti48
  | 66 => some ti66
  | 68 => some ti68
  | 69 => some ti69
  | 75 => some ti75
  | 76 => some ti76
  | 77 => some ti77
  | 82 => some ti82
  | 83 => some ti83
  | 84 => some ti84
  | 85 => some ti85
  | 100 => some ti100
  | 106 => some ti106
  | 115 => some ti115
  | 139 => some ti139
  | 140 => some ti140
  | 141 => some ti141
  | 142 => some ti142
  | 147 => some ti147
  | 151 => some ti151
  | 153 => some ti153
  | 154 => some ti154
  | 159 => some ti159
  | 168 => some ti168
  | 169 => some ti169
  | 170 => some ti170
  | 173 => some ti173
  | 181 => some ti181
  | 186 => some ti186
  | 188 => some ti188
  | 192 => some ti192
  | _ => none
theorem tab1 : tab 1 = some ti1 := rfl
theorem tab2 : tab 2 = some ti2 := rfl
theorem tab3 : tab 3 = some ti3 := rfl
theorem tab4 : tab 4 = some ti4 := rfl
theorem tab5 : tab 5 = some ti5 := rfl
theorem tab9 : tab 9 = some ti9 := rfl
theorem tab20 : tab 20 = some ti20 := rfl
theorem tab22 : tab 22 = some ti22 := rfl
theorem tab23 : tab 23 = some ti23 := rfl
theorem tab24 : tab 24 = some ti24 := rfl
theorem tab25 : tab 25 = some ti25 := rfl
theorem tab26 : tab 26 = some ti26 := rfl
theorem tab27 : tab 27 = some ti27 := rfl
theorem tab31 : tab 31 = some ti31 := rfl
theorem tab32 : tab 32 = some ti32 := rfl
theorem tab33 : tab 33 = some ti33 := rfl
theorem tab34 : tab 34 = some ti34 := rfl
theorem tab35 : tab 35 = some ti35 := rfl
theorem tab36 : tab 36 = some ti36 := rfl
theorem tab37 : tab 37 = some ti37 := rfl
theorem tab38 : tab 38 = some ti38 := rfl
theorem tab39 : tab 39 = some ti39 := rfl
theorem tab41 : tab 41 = some ti41 := rfl
theorem tab43 : tab 43 = some ti43 := rfl
theorem tab44 : tab 44 = some ti44 := rfl
theorem tab47 : tab 47 = some ti47 := rfl
theorem tab48 : tab 48 = some ti48 := rfl
theorem tab66 : tab 66 = some ti66 := rfl
theorem tab68 : tab 68 = some ti68 := rfl
theorem tab69 : tab 69 = some ti69 := rfl
theorem tab75 : tab 75 = some ti75 := rfl
theorem tab76 : tab 76 = some ti76 := rfl
theorem tab77 : tab 77 = some ti77 := rfl
theorem tab82 : tab 82 = some ti82 := rfl
theorem tab83 : tab 83 = some ti83 := rfl
theorem tab84 : tab 84 = some ti84 := rfl
theorem tab85 : tab 85 = some ti85 := rfl
theorem tab100 : tab 100 = some ti100 := rfl
theorem tab106 : tab 106 = some ti106 := rfl
theorem tab115 : tab 115 = some ti115 := rfl
theorem tab139 : tab 139 = some ti139 := rfl
theorem tab140 : tab 140 = some ti140 := rfl
theorem tab141 : tab 141 = some ti141 := rfl
theorem tab142 : tab 142 = some ti142 := rfl
theorem tab147 : tab 147 = some ti147 := rfl
theorem tab151 : tab 151 = some ti151 := rfl
theorem tab153 : tab 153 = some ti153 := rfl
theorem tab154 : tab 154 = some ti154 := rfl
theorem tab159 : tab 159 = some ti159 := rfl
theorem tab168 : tab 168 = some ti168 := rfl
theorem tab169 : tab 169 = some ti169 := rfl
theorem tab170 : tab 170 = some ti170 := rfl
theorem tab173 : tab 173 = some ti173 := rfl
theorem tab181 : tab 181 = some ti181 := rfl
theorem tab186 : tab 186 = some ti186 := rfl
theorem tab188 : tab 188 = some ti188 := rfl
theorem tab192 : tab 192 = some ti192 := rfl
theorem tab_ok : TabOk Try.prog tab := by
  intro t ti h
  unfold tab at h
  split at h
  · cases h; exact ok1
  · cases h; exact ok2
  · cases h; exact ok3
  · cases h; exact ok4
  · cases h; exact ok5
  · cases h; exact ok9
  · cases h; exact ok20
  · cases h; exact ok22
  · cases h; exact ok23
  · cases h; exact ok24
  · cases h; exact ok25
  · cases h; exact ok26
  · cases h; exact ok27
  · cases h; exact ok31
  · cases h; exact ok32
  · cases h; exact ok33
  · cases h; exact ok34
  · cases h; exact ok35
  · cases h; exact ok36
  · cases h; exact ok37
  · cases h; exact ok38
  · cases h; exact ok39
  · cases h; exact ok41
  · cases h; exact ok43
  · cases h; exact ok44
  · cases h; exact ok47
  · cases h; exact ok48
  · cases h; exact ok66
  · cases h; exact ok68
  · cases h; exact ok69
  · cases h; exact ok75
  · cases h; exact ok76
  · cases h; exact ok77
  · cases h; exact ok82
  · cases h; exact ok83
  · cases h; exact ok84
  · cases h; exact ok85
  · cases h; exact ok100
  · cases h; exact ok106
  · cases h; exact ok115
  · cases h; exact ok139
  · cases h; exact ok140
  · cases h; exact ok141
  · cases h; exact ok142
  · cases h; exact ok147
  · cases h; exact ok151
  · cases h; exact ok153
  · cases h; exact ok154
  · cases h; exact ok159
  · cases h; exact ok168
  · cases h; exact ok169
  · cases h; exact ok170
  · cases h; exact ok173
  · cases h; exact ok181
  · cases h; exact ok186
  · cases h; exact ok188
  · cases h; exact ok192
  · cases h
theorem follows : Try.prog.follows .mixedOrders = true := by kernel_rfl
theorem hb0 (f : Nat) (h2 : 2 < f) (hf : f < 140) : hasBody Try.prog f = True := hasBody_of (n := 140) (by kernel_rfl) f h2 hf
theorem hbT : hasBody Try.prog 3 ∧ hasBody Try.prog 4 ∧ hasBody Try.prog 5 ∧ hasBody Try.prog 6 ∧ hasBody Try.prog 7 ∧ hasBody Try.prog 8 ∧ hasBody Try.prog 9 ∧ hasBody Try.prog 10 ∧ hasBody Try.prog 11 ∧ hasBody Try.prog 12 ∧ hasBody Try.prog 13 ∧ hasBody Try.prog 14 ∧ hasBody Try.prog 15 ∧ hasBody Try.prog 16 ∧ hasBody Try.prog 17 ∧ hasBody Try.prog 18 ∧ hasBody Try.prog 19 ∧ hasBody Try.prog 20 ∧ hasBody Try.prog 21 ∧ hasBody Try.prog 22 ∧ hasBody Try.prog 23 ∧ hasBody Try.prog 24 ∧ hasBody Try.prog 25 ∧ hasBody Try.prog 26 ∧ hasBody Try.prog 27 ∧ hasBody Try.prog 28 ∧ hasBody Try.prog 29 ∧ hasBody Try.prog 30 ∧ hasBody Try.prog 31 ∧ hasBody Try.prog 32 ∧ hasBody Try.prog 33 ∧ hasBody Try.prog 34 ∧ hasBody Try.prog 35 ∧ hasBody Try.prog 36 ∧ hasBody Try.prog 37 ∧ hasBody Try.prog 38 ∧ hasBody Try.prog 39 ∧ hasBody Try.prog 40 ∧ hasBody Try.prog 41 ∧ hasBody Try.prog 42 ∧ hasBody Try.prog 43 ∧ hasBody Try.prog 44 ∧ hasBody Try.prog 45 ∧ hasBody Try.prog 46 ∧ hasBody Try.prog 47 ∧ hasBody Try.prog 48 ∧ hasBody Try.prog 49 ∧ hasBody Try.prog 50 ∧ hasBody Try.prog 51 ∧ hasBody Try.prog 52 ∧ hasBody Try.prog 53 ∧ hasBody Try.prog 54 ∧ hasBody Try.prog 55 ∧ hasBody Try.prog 56 ∧ hasBody Try.prog 57 ∧ hasBody Try.prog 58 ∧ hasBody Try.prog 59 ∧ hasBody Try.prog 60 ∧ hasBody Try.prog 61 ∧ hasBody Try.prog 62 ∧ hasBody Try.prog 63 ∧ hasBody Try.prog 64 ∧ hasBody Try.prog 65 ∧ hasBody Try.prog 66 ∧ hasBody Try.prog 67 ∧ hasBody Try.prog 68 ∧ hasBody Try.prog 69 ∧ hasBody Try.prog 70 ∧ hasBody Try.prog 71 ∧ hasBody Try.prog 72 ∧ hasBody Try.prog 73 ∧ hasBody Try.prog 74 ∧ hasBody Try.prog 75 ∧ hasBody Try.prog 76 ∧ hasBody Try.prog 77 ∧ hasBody Try.prog 78 ∧ hasBody Try.prog 79 ∧ hasBody Try.prog 80 ∧ hasBody Try.prog 81 ∧ hasBody Try.prog 82 ∧ hasBody Try.prog 83 ∧ hasBody Try.prog 84 ∧ hasBody Try.prog 85 ∧ hasBody Try.prog 86 ∧ hasBody Try.prog 87 ∧ hasBody Try.prog 88 ∧ hasBody Try.prog 89 ∧ hasBody Try.prog 90 ∧ hasBody Try.prog 91 ∧ hasBody Try.prog 92 ∧ hasBody Try.prog 93 ∧ hasBody Try.prog 94 ∧ hasBody Try.prog 95 ∧ hasBody Try.prog 96 ∧ hasBody Try.prog 97 ∧ hasBody Try.prog 98 ∧ hasBody Try.prog 99 ∧ hasBody Try.prog 100 ∧ hasBody Try.prog 101 ∧ hasBody Try.prog 102 ∧ hasBody Try.prog 103 ∧ hasBody Try.prog 104 ∧ hasBody Try.prog 105 ∧ hasBody Try.prog 106 ∧ hasBody Try.prog 107 ∧ hasBody Try.prog 108 ∧ hasBody Try.prog 109 ∧ hasBody Try.prog 110 ∧ hasBody Try.prog 111 ∧ hasBody Try.prog 112 ∧ hasBody Try.prog 113 ∧ hasBody Try.prog 114 ∧ hasBody Try.prog 115 ∧ hasBody Try.prog 116 ∧ hasBody Try.prog 117 ∧ hasBody Try.prog 118 ∧ hasBody Try.prog 119 ∧ hasBody Try.prog 120 ∧ hasBody Try.prog 121 ∧ hasBody Try.prog 122 ∧ hasBody Try.prog 123 ∧ hasBody Try.prog 124 ∧ hasBody Try.prog 125 ∧ hasBody Try.prog 126 ∧ hasBody Try.prog 127 ∧ hasBody Try.prog 128 ∧ hasBody Try.prog 129 ∧ hasBody Try.prog 130 ∧ hasBody Try.prog 131 ∧ hasBody Try.prog 132 ∧ hasBody Try.prog 133 ∧ hasBody Try.prog 134 ∧ hasBody Try.prog 135 ∧ hasBody Try.prog 136 ∧ hasBody Try.prog 137 ∧ hasBody Try.prog 138 ∧ hasBody Try.prog 139 :=
  ⟨of_eq_true (hb0 3 (by decide) (by decide)), of_eq_true (hb0 4 (by decide) (by decide)), of_eq_true (hb0 5 (by decide) (by decide)), of_eq_true (hb0 6 (by decide) (by decide)), of_eq_true (hb0 7 (by decide) (by decide)), of_eq_true (hb0 8 (by decide) (by decide)), of_eq_true (hb0 9 (by decide) (by decide)), of_eq_true (hb0 10 (by decide) (by decide)), of_eq_true (hb0 11 (by decide) (by decide)), of_eq_true (hb0 12 (by decide) (by decide)), of_eq_true (hb0 13 (by decide) (by decide)), of_eq_true (hb0 14 (by decide) (by decide)), of_eq_true (hb0 15 (by decide) (by decide)), of_eq_true (hb0 16 (by decide) (by decide)), of_eq_true (hb0 17 (by decide) (by decide)), of_eq_true (hb0 18 (by decide) (by decide)), of_eq_true (hb0 19 (by decide) (by decide)), of_eq_true (hb0 20 (by decide) (by decide)), of_eq_true (hb0 21 (by decide) (by decide)), of_eq_true (hb0 22 (by decide) (by decide)), of_eq_true (hb0 23 (by decide) (by decide)), of_eq_true (hb0 24 (by decide) (by decide)), of_eq_true (hb0 25 (by decide) (by decide)), of_eq_true (hb0 26 (by decide) (by decide)), of_eq_true (hb0 27 (by decide) (by decide)), of_eq_true (hb0 28 (by decide) (by decide)), of_eq_true (hb0 29 (by decide) (by decide)), of_eq_true (hb0 30 (by decide) (by decide)), of_eq_true (hb0 31 (by decide) (by decide)), of_eq_true (hb0 32 (by decide) (by decide)), of_eq_true (hb0 33 (by decide) (by decide)), of_eq_true (hb0 34 (by decide) (by decide)), of_eq_true (hb0 35 (by decide) (by decide)), of_eq_true (hb0 36 (by decide) (by decide)), of_eq_true (hb0 37 (by decide) (by decide)), of_eq_true (hb0 38 (by decide) (by decide)), of_eq_true (hb0 39 (by decide) (by decide)), of_eq_true (hb0 40 (by decide) (by decide)), of_eq_true (hb0 41 (by decide) (by decide)), of_eq_true (hb0 42 (by decide) (by decide)), of_eq_true (hb0 43 (by decide) (by decide)), of_eq_true (hb0 44 (by decide) (by decide)), of_eq_true (hb0 45 (by decide) (by decide)), of_eq_true (hb0 46 (by decide) (by decide)), of_eq_true (hb0 47 (by decide) (by decide)), of_eq_true (hb0 48 (by decide) (by decide)), of_eq_true (hb0 49 (by decide) (by decide)), of_eq_true (hb0 50 (by decide) (by decide)), of_eq_true (hb0 51 (by decide) (by decide)), of_eq_true (hb0 52 (by decide) (by decide)), of_eq_true (hb0 53 (by decide) (by decide)), of_eq_true (hb0 54 (by decide) (by decide)), of_eq_true (hb0 55 (by decide) (by decide)), of_eq_true (hb0 56 (by decide) (by decide)), of_eq_true (hb0 57 (by decide) (by decide)), of_eq_true (hb0 58 (by decide) (by decide)), of_eq_true (hb0 59 (by decide) (by decide)), of_eq_true (hb0 60 (by decide) (by decide)), of_eq_true (hb0 61 (by decide) (by decide)), of_eq_true (hb0 62 (by decide) (by decide)), of_eq_true (hb0 63 (by decide) (by decide)), of_eq_true (hb0 64 (by decide) (by decide)), of_eq_true (hb0 65 (by decide) (by decide)), of_eq_true (hb0 66 (by decide) (by decide)), of_eq_true (hb0 67 (by decide) (by decide)), of_eq_true (hb0 68 (by decide) (by decide)), of_eq_true (hb0 69 (by decide) (by decide)), of_eq_true (hb0 70 (by decide) (by decide)), of_eq_true (hb0 71 (by decide) (by decide)), of_eq_true (hb0 72 (by decide) (by decide)), of_eq_true (hb0 73 (by decide) (by decide)), of_eq_true (hb0 74 (by decide) (by decide)), of_eq_true (hb0 75 (by decide) (by decide)), of_eq_true (hb0 76 (by decide) (by decide)), of_eq_true (hb0 77 (by decide) (by decide)), of_eq_true (hb0 78 (by decide) (by decide)), of_eq_true (hb0 79 (by decide) (by decide)), of_eq_true (hb0 80 (by decide) (by decide)), of_eq_true (hb0 81 (by decide) (by decide)), of_eq_true (hb0 82 (by decide) (by decide)), of_eq_true (hb0 83 (by decide) (by decide)), of_eq_true (hb0 84 (by decide) (by decide)), of_eq_true (hb0 85 (by decide) (by decide)), of_eq_true (hb0 86 (by decide) (by decide)), of_eq_true (hb0 87 (by decide) (by decide)), of_eq_true (hb0 88 (by decide) (by decide)), of_eq_true (hb0 89 (by decide) (by decide)), of_eq_true (hb0 90 (by decide) (by decide)), of_eq_true (hb0 91 (by decide) (by decide)), of_eq_true (hb0 92 (by decide) (by decide)), of_eq_true (hb0 93 (by decide) (by decide)), of_eq_true (hb0 94 (by decide) (by decide)), of_eq_true (hb0 95 (by decide) (by decide)), of_eq_true (hb0 96 (by decide) (by decide)), of_eq_true (hb0 97 (by decide) (by decide)), of_eq_true (hb0 98 (by decide) (by decide)), of_eq_true (hb0 99 (by decide) (by decide)), of_eq_true (hb0 100 (by decide) (by decide)), of_eq_true (hb0 101 (by decide) (by decide)), of_eq_true (hb0 102 (by decide) (by decide)), of_eq_true (hb0 103 (by decide) (by decide)), of_eq_true (hb0 104 (by decide) (by decide)), of_eq_true (hb0 105 (by decide) (by decide)), of_eq_true (hb0 106 (by decide) (by decide)), of_eq_true (hb0 107 (by decide) (by decide)), of_eq_true (hb0 108 (by decide) (by decide)), of_eq_true (hb0 109 (by decide) (by decide)), of_eq_true (hb0 110 (by decide) (by decide)), of_eq_true (hb0 111 (by decide) (by decide)), of_eq_true (hb0 112 (by decide) (by decide)), of_eq_true (hb0 113 (by decide) (by decide)), of_eq_true (hb0 114 (by decide) (by decide)), of_eq_true (hb0 115 (by decide) (by decide)), of_eq_true (hb0 116 (by decide) (by decide)), of_eq_true (hb0 117 (by decide) (by decide)), of_eq_true (hb0 118 (by decide) (by decide)), of_eq_true (hb0 119 (by decide) (by decide)), of_eq_true (hb0 120 (by decide) (by decide)), of_eq_true (hb0 121 (by decide) (by decide)), of_eq_true (hb0 122 (by decide) (by decide)), of_eq_true (hb0 123 (by decide) (by decide)), of_eq_true (hb0 124 (by decide) (by decide)), of_eq_true (hb0 125 (by decide) (by decide)), of_eq_true (hb0 126 (by decide) (by decide)), of_eq_true (hb0 127 (by decide) (by decide)), of_eq_true (hb0 128 (by decide) (by decide)), of_eq_true (hb0 129 (by decide) (by decide)), of_eq_true (hb0 130 (by decide) (by decide)), of_eq_true (hb0 131 (by decide) (by decide)), of_eq_true (hb0 132 (by decide) (by decide)), of_eq_true (hb0 133 (by decide) (by decide)), of_eq_true (hb0 134 (by decide) (by decide)), of_eq_true (hb0 135 (by decide) (by decide)), of_eq_true (hb0 136 (by decide) (by decide)), of_eq_true (hb0 137 (by decide) (by decide)), of_eq_true (hb0 138 (by decide) (by decide)), of_eq_true (hb0 139 (by decide) (by decide))⟩
end Go.Proofs.Ytdkiciofkifpdaa.Tab
