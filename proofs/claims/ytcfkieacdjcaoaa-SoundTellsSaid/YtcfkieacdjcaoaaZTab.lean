/-
  The table of the types of this seat, for the value-semantics layer. Written by a program (mktab.py).
-/
import Derived.Test.YtcfkieacdjcaoaaZVsBits
import Derived.Test.YtcfkieacdjcaoaaRows
import Derived.KernelRfl
namespace Go.Proofs.Ytcfkieacdjcaoaa.Tab
open Go Go.VS
theorem tiok {P : Program} {t : TypeId} {ti : TI} {z : Value} (hu : P.underlying t = some ti.desc) (hi : (P.info? t).map (fun i => (i.size, i.bytes, i.zero)) = some (ti.size, ti.bytes, some z))
    (hz : z.cells.toList = ti.zero) (hl : ti.zero.all leafB = true) (hn : ti.zero.length = ti.size) (ha : ti.agg = isAggD ti.desc)
    (hp : ∀ fs, ti.desc = .struct fs → ∀ w, (fs.mapM fun f => (do pure (f.offset, ← sizeOf f.type) : Sem (Nat × Nat))).run P w = .ok ti.pl.toArray w) : TIok P t ti := by
  refine ⟨hu, ?_, hl, hn, ha, hp⟩
  cases h : P.info? t with
  | none => rw [h] at hi; cases hi
  | some i =>
    rw [h] at hi
    simp only [Option.map_some, Option.some.injEq, Prod.mk.injEq] at hi
    exact ⟨i, z, rfl, hi.1, hi.2.1, hi.2.2, hz⟩
abbrev ti1 : TI := { desc := .func #[] #[] false, size := 1, bytes := 8, zero := [.nilFunc], agg := false }
set_option maxRecDepth 100000 in
theorem ok1 : TIok Try.prog 1 ti1 := tiok (z := (.nilFunc)) (by kernel_rfl) (by kernel_rfl) rfl (by decide) rfl rfl (by intro fs h; cases h)
abbrev ti2 : TI := { desc := .int .i64, size := 1, bytes := 8, zero := [.int .i64 0], agg := false }
set_option maxRecDepth 100000 in
theorem ok2 : TIok Try.prog 2 ti2 := tiok (z := (.int .i64 0)) (by kernel_rfl) (by kernel_rfl) rfl (by decide) rfl rfl (by intro fs h; cases h)
abbrev ti3 : TI := { desc := .int .i64, size := 1, bytes := 8, zero := [.int .i64 0], agg := false }
set_option maxRecDepth 100000 in
theorem ok3 : TIok Try.prog 3 ti3 := tiok (z := (.int .i64 0)) (by kernel_rfl) (by kernel_rfl) rfl (by decide) rfl rfl (by intro fs h; cases h)
abbrev ti4 : TI := { desc := .bool, size := 1, bytes := 1, zero := [.bool false], agg := false }
set_option maxRecDepth 100000 in
theorem ok4 : TIok Try.prog 4 ti4 := tiok (z := (.bool false)) (by kernel_rfl) (by kernel_rfl) rfl (by decide) rfl rfl (by intro fs h; cases h)
abbrev ti5 : TI := { desc := .int .u8, size := 1, bytes := 1, zero := [.int .u8 0], agg := false }
set_option maxRecDepth 100000 in
theorem ok5 : TIok Try.prog 5 ti5 := tiok (z := (.int .u8 0)) (by kernel_rfl) (by kernel_rfl) rfl (by decide) rfl rfl (by intro fs h; cases h)
abbrev ti9 : TI := { desc := .string, size := 1, bytes := 16, zero := [.string ByteArray.empty], agg := false }
set_option maxRecDepth 100000 in
theorem ok9 : TIok Try.prog 9 ti9 := tiok (z := (.string ByteArray.empty)) (by kernel_rfl) (by kernel_rfl) rfl (by decide) rfl rfl (by intro fs h; cases h)
abbrev ti20 : TI := { desc := .interface #[], size := 1, bytes := 16, zero := [.nilIface], agg := false }
set_option maxRecDepth 100000 in
theorem ok20 : TIok Try.prog 20 ti20 := tiok (z := (.nilIface)) (by kernel_rfl) (by kernel_rfl) rfl (by decide) rfl rfl (by intro fs h; cases h)
abbrev ti22 : TI := { desc := .slice 73, size := 1, bytes := 24, zero := [.slice none 0 0], agg := false }
set_option maxRecDepth 100000 in
theorem ok22 : TIok Try.prog 22 ti22 := tiok (z := (.slice none 0 0)) (by kernel_rfl) (by kernel_rfl) rfl (by decide) rfl rfl (by intro fs h; cases h)
abbrev ti23 : TI := { desc := .slice 80, size := 1, bytes := 24, zero := [.slice none 0 0], agg := false }
set_option maxRecDepth 100000 in
theorem ok23 : TIok Try.prog 23 ti23 := tiok (z := (.slice none 0 0)) (by kernel_rfl) (by kernel_rfl) rfl (by decide) rfl rfl (by intro fs h; cases h)
abbrev ti24 : TI := { desc := .slice 36, size := 1, bytes := 24, zero := [.slice none 0 0], agg := false }
set_option maxRecDepth 100000 in
theorem ok24 : TIok Try.prog 24 ti24 := tiok (z := (.slice none 0 0)) (by kernel_rfl) (by kernel_rfl) rfl (by decide) rfl rfl (by intro fs h; cases h)
abbrev ti25 : TI := { desc := .slice 34, size := 1, bytes := 24, zero := [.slice none 0 0], agg := false }
set_option maxRecDepth 100000 in
theorem ok25 : TIok Try.prog 25 ti25 := tiok (z := (.slice none 0 0)) (by kernel_rfl) (by kernel_rfl) rfl (by decide) rfl rfl (by intro fs h; cases h)
abbrev ti26 : TI := { desc := .struct #[⟨ "Version", 3, 0, false, "", "", 0⟩, ⟨ "Parent", 3, 1, false, "", "", 8⟩, ⟨ "Sections", 22, 2, false, "", "", 16⟩, ⟨ "Points", 23, 3, false, "", "", 40⟩, ⟨ "Signals", 24, 4, false, "", "", 64⟩, ⟨ "Routes", 25, 5, false, "", "", 88⟩], size := 6, bytes := 112, zero := [.int .i64 0, .int .i64 0, .slice none 0 0, .slice none 0 0, .slice none 0 0, .slice none 0 0], agg := true, pl := [(0, 1), (1, 1), (2, 1), (3, 1), (4, 1), (5, 1)] }
set_option maxRecDepth 100000 in
theorem ok26 : TIok Try.prog 26 ti26 := tiok (z := (.agg ([.int .i64 0, .int .i64 0, .slice none 0 0, .slice none 0 0, .slice none 0 0, .slice none 0 0] : List Value).toArray)) (by kernel_rfl) (by kernel_rfl) rfl (by decide) rfl rfl (by intro fs h; injection h with h; subst h; intro w; kernel_rfl)
abbrev ti27 : TI := { desc := .struct #[⟨ "Version", 3, 0, false, "", "", 0⟩, ⟨ "Parent", 3, 1, false, "", "", 8⟩, ⟨ "Sections", 22, 2, false, "", "", 16⟩, ⟨ "Points", 23, 3, false, "", "", 40⟩, ⟨ "Signals", 24, 4, false, "", "", 64⟩, ⟨ "Routes", 25, 5, false, "", "", 88⟩], size := 6, bytes := 112, zero := [.int .i64 0, .int .i64 0, .slice none 0 0, .slice none 0 0, .slice none 0 0, .slice none 0 0], agg := true, pl := [(0, 1), (1, 1), (2, 1), (3, 1), (4, 1), (5, 1)] }
set_option maxRecDepth 100000 in
theorem ok27 : TIok Try.prog 27 ti27 := tiok (z := (.agg ([.int .i64 0, .int .i64 0, .slice none 0 0, .slice none 0 0, .slice none 0 0, .slice none 0 0] : List Value).toArray)) (by kernel_rfl) (by kernel_rfl) rfl (by decide) rfl rfl (by intro fs h; injection h with h; subst h; intro w; kernel_rfl)
abbrev ti29 : TI := { desc := .struct #[⟨ "Point", 3, 0, false, "", "", 0⟩, ⟨ "Lie", 3, 1, false, "", "", 8⟩], size := 2, bytes := 16, zero := [.int .i64 0, .int .i64 0], agg := true, pl := [(0, 1), (1, 1)] }
set_option maxRecDepth 100000 in
theorem ok29 : TIok Try.prog 29 ti29 := tiok (z := (.agg ([.int .i64 0, .int .i64 0] : List Value).toArray)) (by kernel_rfl) (by kernel_rfl) rfl (by decide) rfl rfl (by intro fs h; injection h with h; subst h; intro w; kernel_rfl)
abbrev ti30 : TI := { desc := .struct #[⟨ "Point", 3, 0, false, "", "", 0⟩, ⟨ "Lie", 3, 1, false, "", "", 8⟩], size := 2, bytes := 16, zero := [.int .i64 0, .int .i64 0], agg := true, pl := [(0, 1), (1, 1)] }
set_option maxRecDepth 100000 in
theorem ok30 : TIok Try.prog 30 ti30 := tiok (z := (.agg ([.int .i64 0, .int .i64 0] : List Value).toArray)) (by kernel_rfl) (by kernel_rfl) rfl (by decide) rfl rfl (by intro fs h; injection h with h; subst h; intro w; kernel_rfl)
abbrev ti31 : TI := { desc := .slice 30, size := 1, bytes := 24, zero := [.slice none 0 0], agg := false }
set_option maxRecDepth 100000 in
theorem ok31 : TIok Try.prog 31 ti31 := tiok (z := (.slice none 0 0)) (by kernel_rfl) (by kernel_rfl) rfl (by decide) rfl rfl (by intro fs h; cases h)
abbrev ti32 : TI := { desc := .slice 3, size := 1, bytes := 24, zero := [.slice none 0 0], agg := false }
set_option maxRecDepth 100000 in
theorem ok32 : TIok Try.prog 32 ti32 := tiok (z := (.slice none 0 0)) (by kernel_rfl) (by kernel_rfl) rfl (by decide) rfl rfl (by intro fs h; cases h)
abbrev ti33 : TI := { desc := .struct #[⟨ "Id", 3, 0, false, "", "", 0⟩, ⟨ "Entry", 3, 1, false, "", "", 8⟩, ⟨ "Exit", 3, 2, false, "", "", 16⟩, ⟨ "Path", 32, 3, false, "", "", 24⟩, ⟨ "Over", 32, 4, false, "", "", 48⟩, ⟨ "Flanks", 31, 5, false, "", "", 72⟩, ⟨ "Timer", 3, 6, false, "", "", 96⟩], size := 7, bytes := 104, zero := [.int .i64 0, .int .i64 0, .int .i64 0, .slice none 0 0, .slice none 0 0, .slice none 0 0, .int .i64 0], agg := true, pl := [(0, 1), (1, 1), (2, 1), (3, 1), (4, 1), (5, 1), (6, 1)] }
set_option maxRecDepth 100000 in
theorem ok33 : TIok Try.prog 33 ti33 := tiok (z := (.agg ([.int .i64 0, .int .i64 0, .int .i64 0, .slice none 0 0, .slice none 0 0, .slice none 0 0, .int .i64 0] : List Value).toArray)) (by kernel_rfl) (by kernel_rfl) rfl (by decide) rfl rfl (by intro fs h; injection h with h; subst h; intro w; kernel_rfl)
abbrev ti34 : TI := { desc := .struct #[⟨ "Id", 3, 0, false, "", "", 0⟩, ⟨ "Entry", 3, 1, false, "", "", 8⟩, ⟨ "Exit", 3, 2, false, "", "", 16⟩, ⟨ "Path", 32, 3, false, "", "", 24⟩, ⟨ "Over", 32, 4, false, "", "", 48⟩, ⟨ "Flanks", 31, 5, false, "", "", 72⟩, ⟨ "Timer", 3, 6, false, "", "", 96⟩], size := 7, bytes := 104, zero := [.int .i64 0, .int .i64 0, .int .i64 0, .slice none 0 0, .slice none 0 0, .slice none 0 0, .int .i64 0], agg := true, pl := [(0, 1), (1, 1), (2, 1), (3, 1), (4, 1), (5, 1), (6, 1)] }
set_option maxRecDepth 100000 in
theorem ok34 : TIok Try.prog 34 ti34 := tiok (z := (.agg ([.int .i64 0, .int .i64 0, .int .i64 0, .slice none 0 0, .slice none 0 0, .slice none 0 0, .int .i64 0] : List Value).toArray)) (by kernel_rfl) (by kernel_rfl) rfl (by decide) rfl rfl (by intro fs h; injection h with h; subst h; intro w; kernel_rfl)
abbrev ti35 : TI := { desc := .struct #[⟨ "Id", 3, 0, false, "", "", 0⟩, ⟨ "Section", 3, 1, false, "", "", 8⟩, ⟨ "End", 3, 2, false, "", "", 16⟩], size := 3, bytes := 24, zero := [.int .i64 0, .int .i64 0, .int .i64 0], agg := true, pl := [(0, 1), (1, 1), (2, 1)] }
set_option maxRecDepth 100000 in
theorem ok35 : TIok Try.prog 35 ti35 := tiok (z := (.agg ([.int .i64 0, .int .i64 0, .int .i64 0] : List Value).toArray)) (by kernel_rfl) (by kernel_rfl) rfl (by decide) rfl rfl (by intro fs h; injection h with h; subst h; intro w; kernel_rfl)
abbrev ti36 : TI := { desc := .struct #[⟨ "Id", 3, 0, false, "", "", 0⟩, ⟨ "Section", 3, 1, false, "", "", 8⟩, ⟨ "End", 3, 2, false, "", "", 16⟩], size := 3, bytes := 24, zero := [.int .i64 0, .int .i64 0, .int .i64 0], agg := true, pl := [(0, 1), (1, 1), (2, 1)] }
set_option maxRecDepth 100000 in
theorem ok36 : TIok Try.prog 36 ti36 := tiok (z := (.agg ([.int .i64 0, .int .i64 0, .int .i64 0] : List Value).toArray)) (by kernel_rfl) (by kernel_rfl) rfl (by decide) rfl rfl (by intro fs h; injection h with h; subst h; intro w; kernel_rfl)
abbrev ti38 : TI := { desc := .int .i64, size := 1, bytes := 8, zero := [.int .i64 0], agg := false }
set_option maxRecDepth 100000 in
theorem ok38 : TIok Try.prog 38 ti38 := tiok (z := (.int .i64 0)) (by kernel_rfl) (by kernel_rfl) rfl (by decide) rfl rfl (by intro fs h; cases h)
abbrev ti53 : TI := { desc := .slice 56, size := 1, bytes := 24, zero := [.slice none 0 0], agg := false }
set_option maxRecDepth 100000 in
theorem ok53 : TIok Try.prog 53 ti53 := tiok (z := (.slice none 0 0)) (by kernel_rfl) (by kernel_rfl) rfl (by decide) rfl rfl (by intro fs h; cases h)
abbrev ti56 : TI := { desc := .array 2 3, size := 2, bytes := 16, zero := [.int .i64 0, .int .i64 0], agg := true }
set_option maxRecDepth 100000 in
theorem ok56 : TIok Try.prog 56 ti56 := tiok (z := (.agg ([.int .i64 0, .int .i64 0] : List Value).toArray)) (by kernel_rfl) (by kernel_rfl) rfl (by decide) rfl rfl (by intro fs h; cases h)
abbrev ti57 : TI := { desc := .slice 63, size := 1, bytes := 24, zero := [.slice none 0 0], agg := false }
set_option maxRecDepth 100000 in
theorem ok57 : TIok Try.prog 57 ti57 := tiok (z := (.slice none 0 0)) (by kernel_rfl) (by kernel_rfl) rfl (by decide) rfl rfl (by intro fs h; cases h)
abbrev ti58 : TI := { desc := .struct #[⟨ "Path", 32, 0, false, "", "", 0⟩, ⟨ "Over", 32, 1, false, "", "", 24⟩, ⟨ "Asks", 57, 2, false, "", "", 48⟩, ⟨ "Near", 3, 3, false, "", "", 72⟩], size := 4, bytes := 80, zero := [.slice none 0 0, .slice none 0 0, .slice none 0 0, .int .i64 0], agg := true, pl := [(0, 1), (1, 1), (2, 1), (3, 1)] }
set_option maxRecDepth 100000 in
theorem ok58 : TIok Try.prog 58 ti58 := tiok (z := (.agg ([.slice none 0 0, .slice none 0 0, .slice none 0 0, .int .i64 0] : List Value).toArray)) (by kernel_rfl) (by kernel_rfl) rfl (by decide) rfl rfl (by intro fs h; injection h with h; subst h; intro w; kernel_rfl)
abbrev ti59 : TI := { desc := .struct #[⟨ "Path", 32, 0, false, "", "", 0⟩, ⟨ "Over", 32, 1, false, "", "", 24⟩, ⟨ "Asks", 57, 2, false, "", "", 48⟩, ⟨ "Near", 3, 3, false, "", "", 72⟩], size := 4, bytes := 80, zero := [.slice none 0 0, .slice none 0 0, .slice none 0 0, .int .i64 0], agg := true, pl := [(0, 1), (1, 1), (2, 1), (3, 1)] }
set_option maxRecDepth 100000 in
theorem ok59 : TIok Try.prog 59 ti59 := tiok (z := (.agg ([.slice none 0 0, .slice none 0 0, .slice none 0 0, .int .i64 0] : List Value).toArray)) (by kernel_rfl) (by kernel_rfl) rfl (by decide) rfl rfl (by intro fs h; injection h with h; subst h; intro w; kernel_rfl)
abbrev ti62 : TI := { desc := .struct #[⟨ "Point", 3, 0, false, "", "", 0⟩, ⟨ "Lie", 3, 1, false, "", "", 8⟩, ⟨ "At", 3, 2, false, "", "", 16⟩], size := 3, bytes := 24, zero := [.int .i64 0, .int .i64 0, .int .i64 0], agg := true, pl := [(0, 1), (1, 1), (2, 1)] }
set_option maxRecDepth 100000 in
theorem ok62 : TIok Try.prog 62 ti62 := tiok (z := (.agg ([.int .i64 0, .int .i64 0, .int .i64 0] : List Value).toArray)) (by kernel_rfl) (by kernel_rfl) rfl (by decide) rfl rfl (by intro fs h; injection h with h; subst h; intro w; kernel_rfl)
abbrev ti63 : TI := { desc := .struct #[⟨ "Point", 3, 0, false, "", "", 0⟩, ⟨ "Lie", 3, 1, false, "", "", 8⟩, ⟨ "At", 3, 2, false, "", "", 16⟩], size := 3, bytes := 24, zero := [.int .i64 0, .int .i64 0, .int .i64 0], agg := true, pl := [(0, 1), (1, 1), (2, 1)] }
set_option maxRecDepth 100000 in
theorem ok63 : TIok Try.prog 63 ti63 := tiok (z := (.agg ([.int .i64 0, .int .i64 0, .int .i64 0] : List Value).toArray)) (by kernel_rfl) (by kernel_rfl) rfl (by decide) rfl rfl (by intro fs h; injection h with h; subst h; intro w; kernel_rfl)
abbrev ti67 : TI := { desc := .struct #[⟨ "To", 3, 0, false, "", "", 0⟩, ⟨ "End", 3, 1, false, "", "", 8⟩], size := 2, bytes := 16, zero := [.int .i64 0, .int .i64 0], agg := true, pl := [(0, 1), (1, 1)] }
set_option maxRecDepth 100000 in
theorem ok67 : TIok Try.prog 67 ti67 := tiok (z := (.agg ([.int .i64 0, .int .i64 0] : List Value).toArray)) (by kernel_rfl) (by kernel_rfl) rfl (by decide) rfl rfl (by intro fs h; injection h with h; subst h; intro w; kernel_rfl)
abbrev ti68 : TI := { desc := .struct #[⟨ "To", 3, 0, false, "", "", 0⟩, ⟨ "End", 3, 1, false, "", "", 8⟩], size := 2, bytes := 16, zero := [.int .i64 0, .int .i64 0], agg := true, pl := [(0, 1), (1, 1)] }
set_option maxRecDepth 100000 in
theorem ok68 : TIok Try.prog 68 ti68 := tiok (z := (.agg ([.int .i64 0, .int .i64 0] : List Value).toArray)) (by kernel_rfl) (by kernel_rfl) rfl (by decide) rfl rfl (by intro fs h; injection h with h; subst h; intro w; kernel_rfl)
abbrev ti71 : TI := { desc := .slice 68, size := 1, bytes := 24, zero := [.slice none 0 0], agg := false }
set_option maxRecDepth 100000 in
theorem ok71 : TIok Try.prog 71 ti71 := tiok (z := (.slice none 0 0)) (by kernel_rfl) (by kernel_rfl) rfl (by decide) rfl rfl (by intro fs h; cases h)
abbrev ti72 : TI := { desc := .struct #[⟨ "Id", 3, 0, false, "", "", 0⟩, ⟨ "Point", 3, 1, false, "", "", 8⟩, ⟨ "Ends", 71, 2, false, "", "", 16⟩], size := 3, bytes := 40, zero := [.int .i64 0, .int .i64 0, .slice none 0 0], agg := true, pl := [(0, 1), (1, 1), (2, 1)] }
set_option maxRecDepth 100000 in
theorem ok72 : TIok Try.prog 72 ti72 := tiok (z := (.agg ([.int .i64 0, .int .i64 0, .slice none 0 0] : List Value).toArray)) (by kernel_rfl) (by kernel_rfl) rfl (by decide) rfl rfl (by intro fs h; injection h with h; subst h; intro w; kernel_rfl)
abbrev ti73 : TI := { desc := .struct #[⟨ "Id", 3, 0, false, "", "", 0⟩, ⟨ "Point", 3, 1, false, "", "", 8⟩, ⟨ "Ends", 71, 2, false, "", "", 16⟩], size := 3, bytes := 40, zero := [.int .i64 0, .int .i64 0, .slice none 0 0], agg := true, pl := [(0, 1), (1, 1), (2, 1)] }
set_option maxRecDepth 100000 in
theorem ok73 : TIok Try.prog 73 ti73 := tiok (z := (.agg ([.int .i64 0, .int .i64 0, .slice none 0 0] : List Value).toArray)) (by kernel_rfl) (by kernel_rfl) rfl (by decide) rfl rfl (by intro fs h; injection h with h; subst h; intro w; kernel_rfl)
abbrev ti79 : TI := { desc := .struct #[⟨ "Id", 3, 0, false, "", "", 0⟩, ⟨ "Section", 3, 1, false, "", "", 8⟩], size := 2, bytes := 16, zero := [.int .i64 0, .int .i64 0], agg := true, pl := [(0, 1), (1, 1)] }
set_option maxRecDepth 100000 in
theorem ok79 : TIok Try.prog 79 ti79 := tiok (z := (.agg ([.int .i64 0, .int .i64 0] : List Value).toArray)) (by kernel_rfl) (by kernel_rfl) rfl (by decide) rfl rfl (by intro fs h; injection h with h; subst h; intro w; kernel_rfl)
abbrev ti80 : TI := { desc := .struct #[⟨ "Id", 3, 0, false, "", "", 0⟩, ⟨ "Section", 3, 1, false, "", "", 8⟩], size := 2, bytes := 16, zero := [.int .i64 0, .int .i64 0], agg := true, pl := [(0, 1), (1, 1)] }
set_option maxRecDepth 100000 in
theorem ok80 : TIok Try.prog 80 ti80 := tiok (z := (.agg ([.int .i64 0, .int .i64 0] : List Value).toArray)) (by kernel_rfl) (by kernel_rfl) rfl (by decide) rfl rfl (by intro fs h; injection h with h; subst h; intro w; kernel_rfl)
abbrev ti81 : TI := { desc := .slice 59, size := 1, bytes := 24, zero := [.slice none 0 0], agg := false }
set_option maxRecDepth 100000 in
theorem ok81 : TIok Try.prog 81 ti81 := tiok (z := (.slice none 0 0)) (by kernel_rfl) (by kernel_rfl) rfl (by decide) rfl rfl (by intro fs h; cases h)
abbrev ti82 : TI := { desc := .slice 71, size := 1, bytes := 24, zero := [.slice none 0 0], agg := false }
set_option maxRecDepth 100000 in
theorem ok82 : TIok Try.prog 82 ti82 := tiok (z := (.slice none 0 0)) (by kernel_rfl) (by kernel_rfl) rfl (by decide) rfl rfl (by intro fs h; cases h)
abbrev ti97 : TI := { desc := .array 100 3, size := 100, bytes := 800, zero := List.replicate 100 (.int .i64 0), agg := true }
set_option maxRecDepth 100000 in
theorem ok97 : TIok Try.prog 97 ti97 := tiok (z := (.agg (List.replicate 100 (.int .i64 0) : List Value).toArray)) (by kernel_rfl) (by kernel_rfl) rfl (by decide) rfl rfl (by intro fs h; cases h)
abbrev ti100 : TI := { desc := .func #[25, 3] #[4] false, size := 1, bytes := 8, zero := [.nilFunc], agg := false }
set_option maxRecDepth 100000 in
theorem ok100 : TIok Try.prog 100 ti100 := tiok (z := (.nilFunc)) (by kernel_rfl) (by kernel_rfl) rfl (by decide) rfl rfl (by intro fs h; cases h)
abbrev ti110 : TI := { desc := .func #[73] #[4] false, size := 1, bytes := 8, zero := [.nilFunc], agg := false }
set_option maxRecDepth 100000 in
theorem ok110 : TIok Try.prog 110 ti110 := tiok (z := (.nilFunc)) (by kernel_rfl) (by kernel_rfl) rfl (by decide) rfl rfl (by intro fs h; cases h)
abbrev ti111 : TI := { desc := .array 3 3, size := 3, bytes := 24, zero := [.int .i64 0, .int .i64 0, .int .i64 0], agg := true }
set_option maxRecDepth 100000 in
theorem ok111 : TIok Try.prog 111 ti111 := tiok (z := (.agg ([.int .i64 0, .int .i64 0, .int .i64 0] : List Value).toArray)) (by kernel_rfl) (by kernel_rfl) rfl (by decide) rfl rfl (by intro fs h; cases h)
abbrev ti112 : TI := { desc := .array 3 111, size := 9, bytes := 72, zero := List.replicate 9 (.int .i64 0), agg := true }
set_option maxRecDepth 100000 in
theorem ok112 : TIok Try.prog 112 ti112 := tiok (z := (.agg (List.replicate 9 (.int .i64 0) : List Value).toArray)) (by kernel_rfl) (by kernel_rfl) rfl (by decide) rfl rfl (by intro fs h; cases h)
abbrev ti113 : TI := { desc := .array 3 111, size := 9, bytes := 72, zero := List.replicate 9 (.int .i64 0), agg := true }
set_option maxRecDepth 100000 in
theorem ok113 : TIok Try.prog 113 ti113 := tiok (z := (.agg (List.replicate 9 (.int .i64 0) : List Value).toArray)) (by kernel_rfl) (by kernel_rfl) rfl (by decide) rfl rfl (by intro fs h; cases h)
abbrev ti116 : TI := { desc := .array 100 4, size := 100, bytes := 100, zero := List.replicate 100 (.bool false), agg := true }
set_option maxRecDepth 100000 in
theorem ok116 : TIok Try.prog 116 ti116 := tiok (z := (.agg (List.replicate 100 (.bool false) : List Value).toArray)) (by kernel_rfl) (by kernel_rfl) rfl (by decide) rfl rfl (by intro fs h; cases h)
abbrev ti123 : TI := { desc := .func #[3] #[4] false, size := 1, bytes := 8, zero := [.nilFunc], agg := false }
set_option maxRecDepth 100000 in
theorem ok123 : TIok Try.prog 123 ti123 := tiok (z := (.nilFunc)) (by kernel_rfl) (by kernel_rfl) rfl (by decide) rfl rfl (by intro fs h; cases h)
abbrev ti126 : TI := { desc := .func #[80] #[4] false, size := 1, bytes := 8, zero := [.nilFunc], agg := false }
set_option maxRecDepth 100000 in
theorem ok126 : TIok Try.prog 126 ti126 := tiok (z := (.nilFunc)) (by kernel_rfl) (by kernel_rfl) rfl (by decide) rfl rfl (by intro fs h; cases h)
abbrev ti128 : TI := { desc := .array 3 4, size := 3, bytes := 3, zero := [.bool false, .bool false, .bool false], agg := true }
set_option maxRecDepth 100000 in
theorem ok128 : TIok Try.prog 128 ti128 := tiok (z := (.agg ([.bool false, .bool false, .bool false] : List Value).toArray)) (by kernel_rfl) (by kernel_rfl) rfl (by decide) rfl rfl (by intro fs h; cases h)
abbrev ti129 : TI := { desc := .array 100 128, size := 300, bytes := 300, zero := List.replicate 300 (.bool false), agg := true }
set_option maxRecDepth 100000 in
theorem ok129 : TIok Try.prog 129 ti129 := tiok (z := (.agg (List.replicate 300 (.bool false) : List Value).toArray)) (by kernel_rfl) (by kernel_rfl) rfl (by decide) rfl rfl (by intro fs h; cases h)
abbrev ti134 : TI := { desc := .slice 32, size := 1, bytes := 24, zero := [.slice none 0 0], agg := false }
set_option maxRecDepth 100000 in
theorem ok134 : TIok Try.prog 134 ti134 := tiok (z := (.slice none 0 0)) (by kernel_rfl) (by kernel_rfl) rfl (by decide) rfl rfl (by intro fs h; cases h)
abbrev ti143 : TI := { desc := .func #[3, 3] #[4] false, size := 1, bytes := 8, zero := [.nilFunc], agg := false }
set_option maxRecDepth 100000 in
theorem ok143 : TIok Try.prog 143 ti143 := tiok (z := (.nilFunc)) (by kernel_rfl) (by kernel_rfl) rfl (by decide) rfl rfl (by intro fs h; cases h)
abbrev ti145 : TI := { desc := .func #[63, 63] #[4] false, size := 1, bytes := 8, zero := [.nilFunc], agg := false }
set_option maxRecDepth 100000 in
theorem ok145 : TIok Try.prog 145 ti145 := tiok (z := (.nilFunc)) (by kernel_rfl) (by kernel_rfl) rfl (by decide) rfl rfl (by intro fs h; cases h)
abbrev ti147 : TI := { desc := .pointer 149, size := 1, bytes := 8, zero := [.pointer none], agg := false }
set_option maxRecDepth 100000 in
theorem ok147 : TIok Try.prog 147 ti147 := tiok (z := (.pointer none)) (by kernel_rfl) (by kernel_rfl) rfl (by decide) rfl rfl (by intro fs h; cases h)
abbrev ti148 : TI := { desc := .struct #[⟨ "plan", 27, 0, false, "", "leverframe/way", 0⟩, ⟨ "in", 68, 6, false, "", "leverframe/way", 112⟩, ⟨ "asks", 57, 8, false, "", "leverframe/way", 128⟩, ⟨ "outs", 71, 9, false, "", "leverframe/way", 152⟩, ⟨ "lost", 4, 10, false, "", "leverframe/way", 176⟩], size := 11, bytes := 184, zero := [.int .i64 0, .int .i64 0, .slice none 0 0, .slice none 0 0, .slice none 0 0, .slice none 0 0, .int .i64 0, .int .i64 0, .slice none 0 0, .slice none 0 0, .bool false], agg := true, pl := [(0, 6), (6, 2), (8, 1), (9, 1), (10, 1)] }
set_option maxRecDepth 100000 in
theorem ok148 : TIok Try.prog 148 ti148 := tiok (z := (.agg ([.int .i64 0, .int .i64 0, .slice none 0 0, .slice none 0 0, .slice none 0 0, .slice none 0 0, .int .i64 0, .int .i64 0, .slice none 0 0, .slice none 0 0, .bool false] : List Value).toArray)) (by kernel_rfl) (by kernel_rfl) rfl (by decide) rfl rfl (by intro fs h; injection h with h; subst h; intro w; kernel_rfl)
abbrev ti149 : TI := { desc := .struct #[⟨ "plan", 27, 0, false, "", "leverframe/way", 0⟩, ⟨ "in", 68, 6, false, "", "leverframe/way", 112⟩, ⟨ "asks", 57, 8, false, "", "leverframe/way", 128⟩, ⟨ "outs", 71, 9, false, "", "leverframe/way", 152⟩, ⟨ "lost", 4, 10, false, "", "leverframe/way", 176⟩], size := 11, bytes := 184, zero := [.int .i64 0, .int .i64 0, .slice none 0 0, .slice none 0 0, .slice none 0 0, .slice none 0 0, .int .i64 0, .int .i64 0, .slice none 0 0, .slice none 0 0, .bool false], agg := true, pl := [(0, 6), (6, 2), (8, 1), (9, 1), (10, 1)] }
set_option maxRecDepth 100000 in
theorem ok149 : TIok Try.prog 149 ti149 := tiok (z := (.agg ([.int .i64 0, .int .i64 0, .slice none 0 0, .slice none 0 0, .slice none 0 0, .slice none 0 0, .int .i64 0, .int .i64 0, .slice none 0 0, .slice none 0 0, .bool false] : List Value).toArray)) (by kernel_rfl) (by kernel_rfl) rfl (by decide) rfl rfl (by intro fs h; injection h with h; subst h; intro w; kernel_rfl)
abbrev ti152 : TI := { desc := .func #[3, 68] #[4] false, size := 1, bytes := 8, zero := [.nilFunc], agg := false }
set_option maxRecDepth 100000 in
theorem ok152 : TIok Try.prog 152 ti152 := tiok (z := (.nilFunc)) (by kernel_rfl) (by kernel_rfl) rfl (by decide) rfl rfl (by intro fs h; cases h)
abbrev ti157 : TI := { desc := .func #[73, 3] #[3] false, size := 1, bytes := 8, zero := [.nilFunc], agg := false }
set_option maxRecDepth 100000 in
theorem ok157 : TIok Try.prog 157 ti157 := tiok (z := (.nilFunc)) (by kernel_rfl) (by kernel_rfl) rfl (by decide) rfl rfl (by intro fs h; cases h)
abbrev ti169 : TI := { desc := .func #[36] #[4] false, size := 1, bytes := 8, zero := [.nilFunc], agg := false }
set_option maxRecDepth 100000 in
theorem ok169 : TIok Try.prog 169 ti169 := tiok (z := (.nilFunc)) (by kernel_rfl) (by kernel_rfl) rfl (by decide) rfl rfl (by intro fs h; cases h)
abbrev ti171 : TI := { desc := .func #[34] #[4] false, size := 1, bytes := 8, zero := [.nilFunc], agg := false }
set_option maxRecDepth 100000 in
theorem ok171 : TIok Try.prog 171 ti171 := tiok (z := (.nilFunc)) (by kernel_rfl) (by kernel_rfl) rfl (by decide) rfl rfl (by intro fs h; cases h)
abbrev ti174 : TI := { desc := .func #[63] #[4] false, size := 1, bytes := 8, zero := [.nilFunc], agg := false }
set_option maxRecDepth 100000 in
theorem ok174 : TIok Try.prog 174 ti174 := tiok (z := (.nilFunc)) (by kernel_rfl) (by kernel_rfl) rfl (by decide) rfl rfl (by intro fs h; cases h)
abbrev ti177 : TI := { desc := .int .u64, size := 1, bytes := 8, zero := [.int .u64 0], agg := false }
set_option maxRecDepth 100000 in
theorem ok177 : TIok Try.prog 177 ti177 := tiok (z := (.int .u64 0)) (by kernel_rfl) (by kernel_rfl) rfl (by decide) rfl rfl (by intro fs h; cases h)
def tab : TypeId → Option TI := fun t =>
  match t with
  | 1 => some ti1
  | 2 => some ti2
  | 3 => some ti3
  | 4 => some ti4
  | 5 => some ti5
  | 9 => some ti9
  | 20 => some ti20
  | 22 => some ti22
  | 23 => some ti23
  | 24 => some ti24
  | 25 => some ti25
  | 26 => some ti26
  | 27 => some ti27
  | 29 => some ti29
  | 30 => some ti30
  | 31 => some ti31
  | 32 => some ti32
  | 33 => some ti33
  | 34 => some ti34
  | 35 => some ti35
  | 36 => some ti36
  | 38 => some ti38
  | 53 => some ti53
  | 56 => some ti56
  | 57 => some ti57
  | 58 => some ti58
  | 59 => some ti59
  | 62 => some ti62
  | 63 => some ti63
  | 67 => some ti67
  | 68 => some ti68
  | 71 => some ti71
  | 72 => some ti72
  | 73 => some ti73
  | 79 => some ti79
  | 80 => some ti80
  | 81 => some ti81
  | 82 => some ti82
  | 97 => some ti97
  | 100 => some ti100
  | 110 => some ti110
  | 111 => some ti111
  | 112 => some ti112
  | 113 => some ti113
  | 116 => some ti116
  | 123 => some ti123
  | 126 => some ti126
  | 128 => some ti128
  | 129 => some ti129
  | 134 => some ti134
  | 143 => some ti143
  | 145 => some ti145
  | 147 => some ti147
  | 148 => some ti148
  | 149 => some ti149
  | 152 => some ti152
  | 157 => some ti157
  | 169 => some ti169
  | 171 => some ti171
  | 174 => some ti174
  | 177 => some ti177
  | _ => none
theorem tab_ok : TabOk Try.prog tab := by
  intro t ti h
  unfold tab at h
  split at h
  · cases h; exact ok1
  · cases h; exact ok2
  · cases h; exact ok3
  · cases h; exact ok4
  · cases h; exact ok5
  · cases h; exact ok9
  · cases h; exact ok20
  · cases h; exact ok22
  · cases h; exact ok23
  · cases h; exact ok24
  · cases h; exact ok25
  · cases h; exact ok26
  · cases h; exact ok27
  · cases h; exact ok29
  · cases h; exact ok30
  · cases h; exact ok31
  · cases h; exact ok32
  · cases h; exact ok33
  · cases h; exact ok34
  · cases h; exact ok35
  · cases h; exact ok36
  · cases h; exact ok38
  · cases h; exact ok53
  · cases h; exact ok56
  · cases h; exact ok57
  · cases h; exact ok58
  · cases h; exact ok59
  · cases h; exact ok62
  · cases h; exact ok63
  · cases h; exact ok67
  · cases h; exact ok68
  · cases h; exact ok71
  · cases h; exact ok72
  · cases h; exact ok73
  · cases h; exact ok79
  · cases h; exact ok80
  · cases h; exact ok81
  · cases h; exact ok82
  · cases h; exact ok97
  · cases h; exact ok100
  · cases h; exact ok110
  · cases h; exact ok111
  · cases h; exact ok112
  · cases h; exact ok113
  · cases h; exact ok116
  · cases h; exact ok123
  · cases h; exact ok126
  · cases h; exact ok128
  · cases h; exact ok129
  · cases h; exact ok134
  · cases h; exact ok143
  · cases h; exact ok145
  · cases h; exact ok147
  · cases h; exact ok148
  · cases h; exact ok149
  · cases h; exact ok152
  · cases h; exact ok157
  · cases h; exact ok169
  · cases h; exact ok171
  · cases h; exact ok174
  · cases h; exact ok177
  · cases h
theorem follows : Try.prog.follows .mixedOrders = true := by kernel_rfl
theorem hb0 (f : Nat) (h2 : 2 < f) (hf : f < 129) : hasBody Try.prog f = True := hasBody_of (n := 129) (by kernel_rfl) f h2 hf
theorem hbT : hasBody Try.prog 3 ∧ hasBody Try.prog 4 ∧ hasBody Try.prog 5 ∧ hasBody Try.prog 6 ∧ hasBody Try.prog 7 ∧ hasBody Try.prog 8 ∧ hasBody Try.prog 9 ∧ hasBody Try.prog 10 ∧ hasBody Try.prog 11 ∧ hasBody Try.prog 12 ∧ hasBody Try.prog 13 ∧ hasBody Try.prog 14 ∧ hasBody Try.prog 15 ∧ hasBody Try.prog 16 ∧ hasBody Try.prog 17 ∧ hasBody Try.prog 18 ∧ hasBody Try.prog 19 ∧ hasBody Try.prog 20 ∧ hasBody Try.prog 21 ∧ hasBody Try.prog 22 ∧ hasBody Try.prog 23 ∧ hasBody Try.prog 24 ∧ hasBody Try.prog 25 ∧ hasBody Try.prog 26 ∧ hasBody Try.prog 27 ∧ hasBody Try.prog 28 ∧ hasBody Try.prog 29 ∧ hasBody Try.prog 30 ∧ hasBody Try.prog 31 ∧ hasBody Try.prog 32 ∧ hasBody Try.prog 33 ∧ hasBody Try.prog 34 ∧ hasBody Try.prog 35 ∧ hasBody Try.prog 36 ∧ hasBody Try.prog 37 ∧ hasBody Try.prog 38 ∧ hasBody Try.prog 39 ∧ hasBody Try.prog 40 ∧ hasBody Try.prog 41 ∧ hasBody Try.prog 42 ∧ hasBody Try.prog 43 ∧ hasBody Try.prog 44 ∧ hasBody Try.prog 45 ∧ hasBody Try.prog 46 ∧ hasBody Try.prog 47 ∧ hasBody Try.prog 48 ∧ hasBody Try.prog 49 ∧ hasBody Try.prog 50 ∧ hasBody Try.prog 51 ∧ hasBody Try.prog 52 ∧ hasBody Try.prog 53 ∧ hasBody Try.prog 54 ∧ hasBody Try.prog 55 ∧ hasBody Try.prog 56 ∧ hasBody Try.prog 57 ∧ hasBody Try.prog 58 ∧ hasBody Try.prog 59 ∧ hasBody Try.prog 60 ∧ hasBody Try.prog 61 ∧ hasBody Try.prog 62 ∧ hasBody Try.prog 63 ∧ hasBody Try.prog 64 ∧ hasBody Try.prog 65 ∧ hasBody Try.prog 66 ∧ hasBody Try.prog 67 ∧ hasBody Try.prog 68 ∧ hasBody Try.prog 69 ∧ hasBody Try.prog 70 ∧ hasBody Try.prog 71 ∧ hasBody Try.prog 72 ∧ hasBody Try.prog 73 ∧ hasBody Try.prog 74 ∧ hasBody Try.prog 75 ∧ hasBody Try.prog 76 ∧ hasBody Try.prog 77 ∧ hasBody Try.prog 78 ∧ hasBody Try.prog 79 ∧ hasBody Try.prog 80 ∧ hasBody Try.prog 81 ∧ hasBody Try.prog 82 ∧ hasBody Try.prog 83 ∧ hasBody Try.prog 84 ∧ hasBody Try.prog 85 ∧ hasBody Try.prog 86 ∧ hasBody Try.prog 87 ∧ hasBody Try.prog 88 ∧ hasBody Try.prog 89 ∧ hasBody Try.prog 90 ∧ hasBody Try.prog 91 ∧ hasBody Try.prog 92 ∧ hasBody Try.prog 93 ∧ hasBody Try.prog 94 ∧ hasBody Try.prog 95 ∧ hasBody Try.prog 96 ∧ hasBody Try.prog 97 ∧ hasBody Try.prog 98 ∧ hasBody Try.prog 99 ∧ hasBody Try.prog 100 ∧ hasBody Try.prog 101 ∧ hasBody Try.prog 102 ∧ hasBody Try.prog 103 ∧ hasBody Try.prog 104 ∧ hasBody Try.prog 105 ∧ hasBody Try.prog 106 ∧ hasBody Try.prog 107 ∧ hasBody Try.prog 108 ∧ hasBody Try.prog 109 ∧ hasBody Try.prog 110 ∧ hasBody Try.prog 111 ∧ hasBody Try.prog 112 ∧ hasBody Try.prog 113 ∧ hasBody Try.prog 114 ∧ hasBody Try.prog 115 ∧ hasBody Try.prog 116 ∧ hasBody Try.prog 117 ∧ hasBody Try.prog 118 ∧ hasBody Try.prog 119 ∧ hasBody Try.prog 120 ∧ hasBody Try.prog 121 ∧ hasBody Try.prog 122 ∧ hasBody Try.prog 123 ∧ hasBody Try.prog 124 ∧ hasBody Try.prog 125 ∧ hasBody Try.prog 126 ∧ hasBody Try.prog 127 ∧ hasBody Try.prog 128 :=
  ⟨of_eq_true (hb0 3 (by decide) (by decide)), of_eq_true (hb0 4 (by decide) (by decide)), of_eq_true (hb0 5 (by decide) (by decide)), of_eq_true (hb0 6 (by decide) (by decide)), of_eq_true (hb0 7 (by decide) (by decide)), of_eq_true (hb0 8 (by decide) (by decide)), of_eq_true (hb0 9 (by decide) (by decide)), of_eq_true (hb0 10 (by decide) (by decide)), of_eq_true (hb0 11 (by decide) (by decide)), of_eq_true (hb0 12 (by decide) (by decide)), of_eq_true (hb0 13 (by decide) (by decide)), of_eq_true (hb0 14 (by decide) (by decide)), of_eq_true (hb0 15 (by decide) (by decide)), of_eq_true (hb0 16 (by decide) (by decide)), of_eq_true (hb0 17 (by decide) (by decide)), of_eq_true (hb0 18 (by decide) (by decide)), of_eq_true (hb0 19 (by decide) (by decide)), of_eq_true (hb0 20 (by decide) (by decide)), of_eq_true (hb0 21 (by decide) (by decide)), of_eq_true (hb0 22 (by decide) (by decide)), of_eq_true (hb0 23 (by decide) (by decide)), of_eq_true (hb0 24 (by decide) (by decide)), of_eq_true (hb0 25 (by decide) (by decide)), of_eq_true (hb0 26 (by decide) (by decide)), of_eq_true (hb0 27 (by decide) (by decide)), of_eq_true (hb0 28 (by decide) (by decide)), of_eq_true (hb0 29 (by decide) (by decide)), of_eq_true (hb0 30 (by decide) (by decide)), of_eq_true (hb0 31 (by decide) (by decide)), of_eq_true (hb0 32 (by decide) (by decide)), of_eq_true (hb0 33 (by decide) (by decide)), of_eq_true (hb0 34 (by decide) (by decide)), of_eq_true (hb0 35 (by decide) (by decide)), of_eq_true (hb0 36 (by decide) (by decide)), of_eq_true (hb0 37 (by decide) (by decide)), of_eq_true (hb0 38 (by decide) (by decide)), of_eq_true (hb0 39 (by decide) (by decide)), of_eq_true (hb0 40 (by decide) (by decide)), of_eq_true (hb0 41 (by decide) (by decide)), of_eq_true (hb0 42 (by decide) (by decide)), of_eq_true (hb0 43 (by decide) (by decide)), of_eq_true (hb0 44 (by decide) (by decide)), of_eq_true (hb0 45 (by decide) (by decide)), of_eq_true (hb0 46 (by decide) (by decide)), of_eq_true (hb0 47 (by decide) (by decide)), of_eq_true (hb0 48 (by decide) (by decide)), of_eq_true (hb0 49 (by decide) (by decide)), of_eq_true (hb0 50 (by decide) (by decide)), of_eq_true (hb0 51 (by decide) (by decide)), of_eq_true (hb0 52 (by decide) (by decide)), of_eq_true (hb0 53 (by decide) (by decide)), of_eq_true (hb0 54 (by decide) (by decide)), of_eq_true (hb0 55 (by decide) (by decide)), of_eq_true (hb0 56 (by decide) (by decide)), of_eq_true (hb0 57 (by decide) (by decide)), of_eq_true (hb0 58 (by decide) (by decide)), of_eq_true (hb0 59 (by decide) (by decide)), of_eq_true (hb0 60 (by decide) (by decide)), of_eq_true (hb0 61 (by decide) (by decide)), of_eq_true (hb0 62 (by decide) (by decide)), of_eq_true (hb0 63 (by decide) (by decide)), of_eq_true (hb0 64 (by decide) (by decide)), of_eq_true (hb0 65 (by decide) (by decide)), of_eq_true (hb0 66 (by decide) (by decide)), of_eq_true (hb0 67 (by decide) (by decide)), of_eq_true (hb0 68 (by decide) (by decide)), of_eq_true (hb0 69 (by decide) (by decide)), of_eq_true (hb0 70 (by decide) (by decide)), of_eq_true (hb0 71 (by decide) (by decide)), of_eq_true (hb0 72 (by decide) (by decide)), of_eq_true (hb0 73 (by decide) (by decide)), of_eq_true (hb0 74 (by decide) (by decide)), of_eq_true (hb0 75 (by decide) (by decide)), of_eq_true (hb0 76 (by decide) (by decide)), of_eq_true (hb0 77 (by decide) (by decide)), of_eq_true (hb0 78 (by decide) (by decide)), of_eq_true (hb0 79 (by decide) (by decide)), of_eq_true (hb0 80 (by decide) (by decide)), of_eq_true (hb0 81 (by decide) (by decide)), of_eq_true (hb0 82 (by decide) (by decide)), of_eq_true (hb0 83 (by decide) (by decide)), of_eq_true (hb0 84 (by decide) (by decide)), of_eq_true (hb0 85 (by decide) (by decide)), of_eq_true (hb0 86 (by decide) (by decide)), of_eq_true (hb0 87 (by decide) (by decide)), of_eq_true (hb0 88 (by decide) (by decide)), of_eq_true (hb0 89 (by decide) (by decide)), of_eq_true (hb0 90 (by decide) (by decide)), of_eq_true (hb0 91 (by decide) (by decide)), of_eq_true (hb0 92 (by decide) (by decide)), of_eq_true (hb0 93 (by decide) (by decide)), of_eq_true (hb0 94 (by decide) (by decide)), of_eq_true (hb0 95 (by decide) (by decide)), of_eq_true (hb0 96 (by decide) (by decide)), of_eq_true (hb0 97 (by decide) (by decide)), of_eq_true (hb0 98 (by decide) (by decide)), of_eq_true (hb0 99 (by decide) (by decide)), of_eq_true (hb0 100 (by decide) (by decide)), of_eq_true (hb0 101 (by decide) (by decide)), of_eq_true (hb0 102 (by decide) (by decide)), of_eq_true (hb0 103 (by decide) (by decide)), of_eq_true (hb0 104 (by decide) (by decide)), of_eq_true (hb0 105 (by decide) (by decide)), of_eq_true (hb0 106 (by decide) (by decide)), of_eq_true (hb0 107 (by decide) (by decide)), of_eq_true (hb0 108 (by decide) (by decide)), of_eq_true (hb0 109 (by decide) (by decide)), of_eq_true (hb0 110 (by decide) (by decide)), of_eq_true (hb0 111 (by decide) (by decide)), of_eq_true (hb0 112 (by decide) (by decide)), of_eq_true (hb0 113 (by decide) (by decide)), of_eq_true (hb0 114 (by decide) (by decide)), of_eq_true (hb0 115 (by decide) (by decide)), of_eq_true (hb0 116 (by decide) (by decide)), of_eq_true (hb0 117 (by decide) (by decide)), of_eq_true (hb0 118 (by decide) (by decide)), of_eq_true (hb0 119 (by decide) (by decide)), of_eq_true (hb0 120 (by decide) (by decide)), of_eq_true (hb0 121 (by decide) (by decide)), of_eq_true (hb0 122 (by decide) (by decide)), of_eq_true (hb0 123 (by decide) (by decide)), of_eq_true (hb0 124 (by decide) (by decide)), of_eq_true (hb0 125 (by decide) (by decide)), of_eq_true (hb0 126 (by decide) (by decide)), of_eq_true (hb0 127 (by decide) (by decide)), of_eq_true (hb0 128 (by decide) (by decide))⟩
end Go.Proofs.Ytcfkieacdjcaoaa.Tab
