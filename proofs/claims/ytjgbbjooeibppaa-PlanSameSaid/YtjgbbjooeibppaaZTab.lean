/-
 The table of the types of this seat, for the value-semantics layer. Written by a program (mktab.py).
-/
import Derived.Test.YtjgbbjooeibppaaZVsBits
import Derived.Test.YtjgbbjooeibppaaRows
import Derived.KernelRfl
namespace Go.Proofs.Ytjgbbjooeibppaa.Tab
open Go Go.VS
theorem Zd {P : Program} {t : TypeId} {ti : TI} {z : Value} (hu : P.underlying t = some ti.desc) (hi : (P.info? t).map (fun i => (i.size, i.bytes, i.zero)) = some (ti.size, ti.bytes, some z))
  (hz : z.cells.toList = ti.zero) (hl : ti.zero.all X0m = true) (hn : ti.zero.length = ti.size) (ha : ti.agg = X24 ti.desc)
  (hp : ∀ fs, ti.desc = .struct fs → ∀ w, (fs.mapM fun f => (do pure (f.offset, ← sizeOf f.type) : Sem (Nat × Nat))).run P w = .ok ti.pl.toArray w) : TIok P t ti := by
 refine ⟨hu, ?_, hl, hn, ha, hp⟩
 cases h : P.info? t with
 | none => rw [h] at hi; cases hi
 | some i =>
  rw [h] at hi
  simp only [Option.map_some, Option.some.injEq, Prod.mk.injEq] at hi
  exact ⟨i, z, rfl, hi.1, hi.2.1, hi.2.2, hz⟩
abbrev ti1 : TI := { desc := .func #[] #[] false, size := 1, bytes := 8, zero := [.nilFunc], agg := false }
set_option maxRecDepth 100000 in
theorem ok1 : TIok Try.prog 1 ti1 := Zd (z := (.nilFunc)) (by kernel_rfl) (by kernel_rfl) rfl (by decide) rfl rfl (by intro fs h; cases h)
abbrev ti2 : TI := { desc := .int .i64, size := 1, bytes := 8, zero := [.int .i64 0], agg := false }
set_option maxRecDepth 100000 in
theorem ok2 : TIok Try.prog 2 ti2 := Zd (z := (.int .i64 0)) (by kernel_rfl) (by kernel_rfl) rfl (by decide) rfl rfl (by intro fs h; cases h)
abbrev ti3 : TI := { desc := .int .i64, size := 1, bytes := 8, zero := [.int .i64 0], agg := false }
set_option maxRecDepth 100000 in
theorem ok3 : TIok Try.prog 3 ti3 := Zd (z := (.int .i64 0)) (by kernel_rfl) (by kernel_rfl) rfl (by decide) rfl rfl (by intro fs h; cases h)
abbrev ti4 : TI := { desc := .bool, size := 1, bytes := 1, zero := [.bool false], agg := false }
set_option maxRecDepth 100000 in
theorem ok4 : TIok Try.prog 4 ti4 := Zd (z := (.bool false)) (by kernel_rfl) (by kernel_rfl) rfl (by decide) rfl rfl (by intro fs h; cases h)
abbrev ti5 : TI := { desc := .int .u8, size := 1, bytes := 1, zero := [.int .u8 0], agg := false }
set_option maxRecDepth 100000 in
theorem ok5 : TIok Try.prog 5 ti5 := Zd (z := (.int .u8 0)) (by kernel_rfl) (by kernel_rfl) rfl (by decide) rfl rfl (by intro fs h; cases h)
abbrev ti9 : TI := { desc := .string, size := 1, bytes := 16, zero := [.string ByteArray.empty], agg := false }
set_option maxRecDepth 100000 in
theorem ok9 : TIok Try.prog 9 ti9 := Zd (z := (.string ByteArray.empty)) (by kernel_rfl) (by kernel_rfl) rfl (by decide) rfl rfl (by intro fs h; cases h)
abbrev ti20 : TI := { desc := .interface #[], size := 1, bytes := 16, zero := [.nilIface], agg := false }
set_option maxRecDepth 100000 in
theorem ok20 : TIok Try.prog 20 ti20 := Zd (z := (.nilIface)) (by kernel_rfl) (by kernel_rfl) rfl (by decide) rfl rfl (by intro fs h; cases h)
abbrev ti22 : TI := { desc := .slice 37, size := 1, bytes := 24, zero := [.slice none 0 0], agg := false }
set_option maxRecDepth 100000 in
theorem ok22 : TIok Try.prog 22 ti22 := Zd (z := (.slice none 0 0)) (by kernel_rfl) (by kernel_rfl) rfl (by decide) rfl rfl (by intro fs h; cases h)
abbrev ti23 : TI := { desc := .slice 81, size := 1, bytes := 24, zero := [.slice none 0 0], agg := false }
set_option maxRecDepth 100000 in
theorem ok23 : TIok Try.prog 23 ti23 := Zd (z := (.slice none 0 0)) (by kernel_rfl) (by kernel_rfl) rfl (by decide) rfl rfl (by intro fs h; cases h)
abbrev ti24 : TI := { desc := .slice 84, size := 1, bytes := 24, zero := [.slice none 0 0], agg := false }
set_option maxRecDepth 100000 in
theorem ok24 : TIok Try.prog 24 ti24 := Zd (z := (.slice none 0 0)) (by kernel_rfl) (by kernel_rfl) rfl (by decide) rfl rfl (by intro fs h; cases h)
abbrev ti25 : TI := { desc := .slice 34, size := 1, bytes := 24, zero := [.slice none 0 0], agg := false }
set_option maxRecDepth 100000 in
theorem ok25 : TIok Try.prog 25 ti25 := Zd (z := (.slice none 0 0)) (by kernel_rfl) (by kernel_rfl) rfl (by decide) rfl rfl (by intro fs h; cases h)
abbrev ti26 : TI := { desc := .struct #[⟨ "Version", 3, 0, false, "", "", 0⟩, ⟨ "Parent", 3, 1, false, "", "", 8⟩, ⟨ "Sections", 22, 2, false, "", "", 16⟩, ⟨ "Points", 23, 3, false, "", "", 40⟩, ⟨ "Signals", 24, 4, false, "", "", 64⟩, ⟨ "Routes", 25, 5, false, "", "", 88⟩], size := 6, bytes := 112, zero := [.int .i64 0, .int .i64 0, .slice none 0 0, .slice none 0 0, .slice none 0 0, .slice none 0 0], agg := true, pl := [(0, 1), (1, 1), (2, 1), (3, 1), (4, 1), (5, 1)] }
set_option maxRecDepth 100000 in
theorem ok26 : TIok Try.prog 26 ti26 := Zd (z := (.agg ([.int .i64 0, .int .i64 0, .slice none 0 0, .slice none 0 0, .slice none 0 0, .slice none 0 0] : List Value).toArray)) (by kernel_rfl) (by kernel_rfl) rfl (by decide) rfl rfl (by intro fs h; injection h with h; subst h; intro w; kernel_rfl)
abbrev ti27 : TI := { desc := .struct #[⟨ "Version", 3, 0, false, "", "", 0⟩, ⟨ "Parent", 3, 1, false, "", "", 8⟩, ⟨ "Sections", 22, 2, false, "", "", 16⟩, ⟨ "Points", 23, 3, false, "", "", 40⟩, ⟨ "Signals", 24, 4, false, "", "", 64⟩, ⟨ "Routes", 25, 5, false, "", "", 88⟩], size := 6, bytes := 112, zero := [.int .i64 0, .int .i64 0, .slice none 0 0, .slice none 0 0, .slice none 0 0, .slice none 0 0], agg := true, pl := [(0, 1), (1, 1), (2, 1), (3, 1), (4, 1), (5, 1)] }
set_option maxRecDepth 100000 in
theorem ok27 : TIok Try.prog 27 ti27 := Zd (z := (.agg ([.int .i64 0, .int .i64 0, .slice none 0 0, .slice none 0 0, .slice none 0 0, .slice none 0 0] : List Value).toArray)) (by kernel_rfl) (by kernel_rfl) rfl (by decide) rfl rfl (by intro fs h; injection h with h; subst h; intro w; kernel_rfl)
abbrev ti31 : TI := { desc := .slice 3, size := 1, bytes := 24, zero := [.slice none 0 0], agg := false }
set_option maxRecDepth 100000 in
theorem ok31 : TIok Try.prog 31 ti31 := Zd (z := (.slice none 0 0)) (by kernel_rfl) (by kernel_rfl) rfl (by decide) rfl rfl (by intro fs h; cases h)
abbrev ti32 : TI := { desc := .slice 96, size := 1, bytes := 24, zero := [.slice none 0 0], agg := false }
set_option maxRecDepth 100000 in
theorem ok32 : TIok Try.prog 32 ti32 := Zd (z := (.slice none 0 0)) (by kernel_rfl) (by kernel_rfl) rfl (by decide) rfl rfl (by intro fs h; cases h)
abbrev ti33 : TI := { desc := .struct #[⟨ "Id", 3, 0, false, "", "", 0⟩, ⟨ "Entry", 3, 1, false, "", "", 8⟩, ⟨ "Exit", 3, 2, false, "", "", 16⟩, ⟨ "Path", 31, 3, false, "", "", 24⟩, ⟨ "Over", 31, 4, false, "", "", 48⟩, ⟨ "Flanks", 32, 5, false, "", "", 72⟩, ⟨ "Timer", 3, 6, false, "", "", 96⟩], size := 7, bytes := 104, zero := [.int .i64 0, .int .i64 0, .int .i64 0, .slice none 0 0, .slice none 0 0, .slice none 0 0, .int .i64 0], agg := true, pl := [(0, 1), (1, 1), (2, 1), (3, 1), (4, 1), (5, 1), (6, 1)] }
set_option maxRecDepth 100000 in
theorem ok33 : TIok Try.prog 33 ti33 := Zd (z := (.agg ([.int .i64 0, .int .i64 0, .int .i64 0, .slice none 0 0, .slice none 0 0, .slice none 0 0, .int .i64 0] : List Value).toArray)) (by kernel_rfl) (by kernel_rfl) rfl (by decide) rfl rfl (by intro fs h; injection h with h; subst h; intro w; kernel_rfl)
abbrev ti34 : TI := { desc := .struct #[⟨ "Id", 3, 0, false, "", "", 0⟩, ⟨ "Entry", 3, 1, false, "", "", 8⟩, ⟨ "Exit", 3, 2, false, "", "", 16⟩, ⟨ "Path", 31, 3, false, "", "", 24⟩, ⟨ "Over", 31, 4, false, "", "", 48⟩, ⟨ "Flanks", 32, 5, false, "", "", 72⟩, ⟨ "Timer", 3, 6, false, "", "", 96⟩], size := 7, bytes := 104, zero := [.int .i64 0, .int .i64 0, .int .i64 0, .slice none 0 0, .slice none 0 0, .slice none 0 0, .int .i64 0], agg := true, pl := [(0, 1), (1, 1), (2, 1), (3, 1), (4, 1), (5, 1), (6, 1)] }
set_option maxRecDepth 100000 in
theorem ok34 : TIok Try.prog 34 ti34 := Zd (z := (.agg ([.int .i64 0, .int .i64 0, .int .i64 0, .slice none 0 0, .slice none 0 0, .slice none 0 0, .int .i64 0] : List Value).toArray)) (by kernel_rfl) (by kernel_rfl) rfl (by decide) rfl rfl (by intro fs h; injection h with h; subst h; intro w; kernel_rfl)
abbrev ti35 : TI := { desc := .slice 39, size := 1, bytes := 24, zero := [.slice none 0 0], agg := false }
set_option maxRecDepth 100000 in
theorem ok35 : TIok Try.prog 35 ti35 := Zd (z := (.slice none 0 0)) (by kernel_rfl) (by kernel_rfl) rfl (by decide) rfl rfl (by intro fs h; cases h)
abbrev ti36 : TI := { desc := .struct #[⟨ "Id", 3, 0, false, "", "", 0⟩, ⟨ "Point", 3, 1, false, "", "", 8⟩, ⟨ "Ends", 35, 2, false, "", "", 16⟩], size := 3, bytes := 40, zero := [.int .i64 0, .int .i64 0, .slice none 0 0], agg := true, pl := [(0, 1), (1, 1), (2, 1)] }
set_option maxRecDepth 100000 in
theorem ok36 : TIok Try.prog 36 ti36 := Zd (z := (.agg ([.int .i64 0, .int .i64 0, .slice none 0 0] : List Value).toArray)) (by kernel_rfl) (by kernel_rfl) rfl (by decide) rfl rfl (by intro fs h; injection h with h; subst h; intro w; kernel_rfl)
abbrev ti37 : TI := { desc := .struct #[⟨ "Id", 3, 0, false, "", "", 0⟩, ⟨ "Point", 3, 1, false, "", "", 8⟩, ⟨ "Ends", 35, 2, false, "", "", 16⟩], size := 3, bytes := 40, zero := [.int .i64 0, .int .i64 0, .slice none 0 0], agg := true, pl := [(0, 1), (1, 1), (2, 1)] }
set_option maxRecDepth 100000 in
theorem ok37 : TIok Try.prog 37 ti37 := Zd (z := (.agg ([.int .i64 0, .int .i64 0, .slice none 0 0] : List Value).toArray)) (by kernel_rfl) (by kernel_rfl) rfl (by decide) rfl rfl (by intro fs h; injection h with h; subst h; intro w; kernel_rfl)
abbrev ti38 : TI := { desc := .struct #[⟨ "To", 3, 0, false, "", "", 0⟩, ⟨ "End", 3, 1, false, "", "", 8⟩], size := 2, bytes := 16, zero := [.int .i64 0, .int .i64 0], agg := true, pl := [(0, 1), (1, 1)] }
set_option maxRecDepth 100000 in
theorem ok38 : TIok Try.prog 38 ti38 := Zd (z := (.agg ([.int .i64 0, .int .i64 0] : List Value).toArray)) (by kernel_rfl) (by kernel_rfl) rfl (by decide) rfl rfl (by intro fs h; injection h with h; subst h; intro w; kernel_rfl)
abbrev ti39 : TI := { desc := .struct #[⟨ "To", 3, 0, false, "", "", 0⟩, ⟨ "End", 3, 1, false, "", "", 8⟩], size := 2, bytes := 16, zero := [.int .i64 0, .int .i64 0], agg := true, pl := [(0, 1), (1, 1)] }
set_option maxRecDepth 100000 in
theorem ok39 : TIok Try.prog 39 ti39 := Zd (z := (.agg ([.int .i64 0, .int .i64 0] : List Value).toArray)) (by kernel_rfl) (by kernel_rfl) rfl (by decide) rfl rfl (by intro fs h; injection h with h; subst h; intro w; kernel_rfl)
abbrev ti40 : TI := { desc := .slice 44, size := 1, bytes := 24, zero := [.slice none 0 0], agg := false }
set_option maxRecDepth 100000 in
theorem ok40 : TIok Try.prog 40 ti40 := Zd (z := (.slice none 0 0)) (by kernel_rfl) (by kernel_rfl) rfl (by decide) rfl rfl (by intro fs h; cases h)
abbrev ti41 : TI := { desc := .slice 76, size := 1, bytes := 24, zero := [.slice none 0 0], agg := false }
set_option maxRecDepth 100000 in
theorem ok41 : TIok Try.prog 41 ti41 := Zd (z := (.slice none 0 0)) (by kernel_rfl) (by kernel_rfl) rfl (by decide) rfl rfl (by intro fs h; cases h)
abbrev ti42 : TI := { desc := .struct #[⟨ "Sectors", 40, 0, false, "", "", 0⟩, ⟨ "Waits", 41, 1, false, "", "", 24⟩], size := 2, bytes := 48, zero := [.slice none 0 0, .slice none 0 0], agg := true, pl := [(0, 1), (1, 1)] }
set_option maxRecDepth 100000 in
theorem ok42 : TIok Try.prog 42 ti42 := Zd (z := (.agg ([.slice none 0 0, .slice none 0 0] : List Value).toArray)) (by kernel_rfl) (by kernel_rfl) rfl (by decide) rfl rfl (by intro fs h; injection h with h; subst h; intro w; kernel_rfl)
abbrev ti43 : TI := { desc := .struct #[⟨ "Sectors", 40, 0, false, "", "", 0⟩, ⟨ "Waits", 41, 1, false, "", "", 24⟩], size := 2, bytes := 48, zero := [.slice none 0 0, .slice none 0 0], agg := true, pl := [(0, 1), (1, 1)] }
set_option maxRecDepth 100000 in
theorem ok43 : TIok Try.prog 43 ti43 := Zd (z := (.agg ([.slice none 0 0, .slice none 0 0] : List Value).toArray)) (by kernel_rfl) (by kernel_rfl) rfl (by decide) rfl rfl (by intro fs h; injection h with h; subst h; intro w; kernel_rfl)
abbrev ti44 : TI := { desc := .slice 5, size := 1, bytes := 24, zero := [.slice none 0 0], agg := false }
set_option maxRecDepth 100000 in
theorem ok44 : TIok Try.prog 44 ti44 := Zd (z := (.slice none 0 0)) (by kernel_rfl) (by kernel_rfl) rfl (by decide) rfl rfl (by intro fs h; cases h)
abbrev ti49 : TI := { desc := .int .i64, size := 1, bytes := 8, zero := [.int .i64 0], agg := false }
set_option maxRecDepth 100000 in
theorem ok49 : TIok Try.prog 49 ti49 := Zd (z := (.int .i64 0)) (by kernel_rfl) (by kernel_rfl) rfl (by decide) rfl rfl (by intro fs h; cases h)
abbrev ti58 : TI := { desc := .int .u32, size := 1, bytes := 4, zero := [.int .u32 0], agg := false }
set_option maxRecDepth 100000 in
theorem ok58 : TIok Try.prog 58 ti58 := Zd (z := (.int .u32 0)) (by kernel_rfl) (by kernel_rfl) rfl (by decide) rfl rfl (by intro fs h; cases h)
abbrev ti59 : TI := { desc := .struct #[⟨ "Gen", 58, 0, false, "", "", 0⟩, ⟨ "Text", 44, 1, false, "", "", 8⟩], size := 2, bytes := 32, zero := [.int .u32 0, .slice none 0 0], agg := true, pl := [(0, 1), (1, 1)] }
set_option maxRecDepth 100000 in
theorem ok59 : TIok Try.prog 59 ti59 := Zd (z := (.agg ([.int .u32 0, .slice none 0 0] : List Value).toArray)) (by kernel_rfl) (by kernel_rfl) rfl (by decide) rfl rfl (by intro fs h; injection h with h; subst h; intro w; kernel_rfl)
abbrev ti60 : TI := { desc := .struct #[⟨ "Gen", 58, 0, false, "", "", 0⟩, ⟨ "Text", 44, 1, false, "", "", 8⟩], size := 2, bytes := 32, zero := [.int .u32 0, .slice none 0 0], agg := true, pl := [(0, 1), (1, 1)] }
set_option maxRecDepth 100000 in
theorem ok60 : TIok Try.prog 60 ti60 := Zd (z := (.agg ([.int .u32 0, .slice none 0 0] : List Value).toArray)) (by kernel_rfl) (by kernel_rfl) rfl (by decide) rfl rfl (by intro fs h; injection h with h; subst h; intro w; kernel_rfl)
abbrev ti64 : TI := { desc := .slice 60, size := 1, bytes := 24, zero := [.slice none 0 0], agg := false }
set_option maxRecDepth 100000 in
theorem ok64 : TIok Try.prog 64 ti64 := Zd (z := (.slice none 0 0)) (by kernel_rfl) (by kernel_rfl) rfl (by decide) rfl rfl (by intro fs h; cases h)
abbrev ti75 : TI := { desc := .struct #[⟨ "At", 3, 0, false, "", "", 0⟩, ⟨ "Data", 44, 1, false, "", "", 8⟩], size := 2, bytes := 32, zero := [.int .i64 0, .slice none 0 0], agg := true, pl := [(0, 1), (1, 1)] }
set_option maxRecDepth 100000 in
theorem ok75 : TIok Try.prog 75 ti75 := Zd (z := (.agg ([.int .i64 0, .slice none 0 0] : List Value).toArray)) (by kernel_rfl) (by kernel_rfl) rfl (by decide) rfl rfl (by intro fs h; injection h with h; subst h; intro w; kernel_rfl)
abbrev ti76 : TI := { desc := .struct #[⟨ "At", 3, 0, false, "", "", 0⟩, ⟨ "Data", 44, 1, false, "", "", 8⟩], size := 2, bytes := 32, zero := [.int .i64 0, .slice none 0 0], agg := true, pl := [(0, 1), (1, 1)] }
set_option maxRecDepth 100000 in
theorem ok76 : TIok Try.prog 76 ti76 := Zd (z := (.agg ([.int .i64 0, .slice none 0 0] : List Value).toArray)) (by kernel_rfl) (by kernel_rfl) rfl (by decide) rfl rfl (by intro fs h; injection h with h; subst h; intro w; kernel_rfl)
abbrev ti80 : TI := { desc := .struct #[⟨ "Id", 3, 0, false, "", "", 0⟩, ⟨ "Section", 3, 1, false, "", "", 8⟩], size := 2, bytes := 16, zero := [.int .i64 0, .int .i64 0], agg := true, pl := [(0, 1), (1, 1)] }
set_option maxRecDepth 100000 in
theorem ok80 : TIok Try.prog 80 ti80 := Zd (z := (.agg ([.int .i64 0, .int .i64 0] : List Value).toArray)) (by kernel_rfl) (by kernel_rfl) rfl (by decide) rfl rfl (by intro fs h; injection h with h; subst h; intro w; kernel_rfl)
abbrev ti81 : TI := { desc := .struct #[⟨ "Id", 3, 0, false, "", "", 0⟩, ⟨ "Section", 3, 1, false, "", "", 8⟩], size := 2, bytes := 16, zero := [.int .i64 0, .int .i64 0], agg := true, pl := [(0, 1), (1, 1)] }
set_option maxRecDepth 100000 in
theorem ok81 : TIok Try.prog 81 ti81 := Zd (z := (.agg ([.int .i64 0, .int .i64 0] : List Value).toArray)) (by kernel_rfl) (by kernel_rfl) rfl (by decide) rfl rfl (by intro fs h; injection h with h; subst h; intro w; kernel_rfl)
abbrev ti83 : TI := { desc := .struct #[⟨ "Id", 3, 0, false, "", "", 0⟩, ⟨ "Section", 3, 1, false, "", "", 8⟩, ⟨ "End", 3, 2, false, "", "", 16⟩], size := 3, bytes := 24, zero := [.int .i64 0, .int .i64 0, .int .i64 0], agg := true, pl := [(0, 1), (1, 1), (2, 1)] }
set_option maxRecDepth 100000 in
theorem ok83 : TIok Try.prog 83 ti83 := Zd (z := (.agg ([.int .i64 0, .int .i64 0, .int .i64 0] : List Value).toArray)) (by kernel_rfl) (by kernel_rfl) rfl (by decide) rfl rfl (by intro fs h; injection h with h; subst h; intro w; kernel_rfl)
abbrev ti84 : TI := { desc := .struct #[⟨ "Id", 3, 0, false, "", "", 0⟩, ⟨ "Section", 3, 1, false, "", "", 8⟩, ⟨ "End", 3, 2, false, "", "", 16⟩], size := 3, bytes := 24, zero := [.int .i64 0, .int .i64 0, .int .i64 0], agg := true, pl := [(0, 1), (1, 1), (2, 1)] }
set_option maxRecDepth 100000 in
theorem ok84 : TIok Try.prog 84 ti84 := Zd (z := (.agg ([.int .i64 0, .int .i64 0, .int .i64 0] : List Value).toArray)) (by kernel_rfl) (by kernel_rfl) rfl (by decide) rfl rfl (by intro fs h; injection h with h; subst h; intro w; kernel_rfl)
abbrev ti91 : TI := { desc := .func #[37, 37] #[4] false, size := 1, bytes := 8, zero := [.nilFunc], agg := false }
set_option maxRecDepth 100000 in
theorem ok91 : TIok Try.prog 91 ti91 := Zd (z := (.nilFunc)) (by kernel_rfl) (by kernel_rfl) rfl (by decide) rfl rfl (by intro fs h; cases h)
abbrev ti95 : TI := { desc := .struct #[⟨ "Point", 3, 0, false, "", "", 0⟩, ⟨ "Lie", 3, 1, false, "", "", 8⟩], size := 2, bytes := 16, zero := [.int .i64 0, .int .i64 0], agg := true, pl := [(0, 1), (1, 1)] }
set_option maxRecDepth 100000 in
theorem ok95 : TIok Try.prog 95 ti95 := Zd (z := (.agg ([.int .i64 0, .int .i64 0] : List Value).toArray)) (by kernel_rfl) (by kernel_rfl) rfl (by decide) rfl rfl (by intro fs h; injection h with h; subst h; intro w; kernel_rfl)
abbrev ti96 : TI := { desc := .struct #[⟨ "Point", 3, 0, false, "", "", 0⟩, ⟨ "Lie", 3, 1, false, "", "", 8⟩], size := 2, bytes := 16, zero := [.int .i64 0, .int .i64 0], agg := true, pl := [(0, 1), (1, 1)] }
set_option maxRecDepth 100000 in
theorem ok96 : TIok Try.prog 96 ti96 := Zd (z := (.agg ([.int .i64 0, .int .i64 0] : List Value).toArray)) (by kernel_rfl) (by kernel_rfl) rfl (by decide) rfl rfl (by intro fs h; injection h with h; subst h; intro w; kernel_rfl)
abbrev ti97 : TI := { desc := .func #[34, 34] #[4] false, size := 1, bytes := 8, zero := [.nilFunc], agg := false }
set_option maxRecDepth 100000 in
theorem ok97 : TIok Try.prog 97 ti97 := Zd (z := (.nilFunc)) (by kernel_rfl) (by kernel_rfl) rfl (by decide) rfl rfl (by intro fs h; cases h)
abbrev ti102 : TI := { desc := .func #[44, 44] #[4] false, size := 1, bytes := 8, zero := [.nilFunc], agg := false }
set_option maxRecDepth 100000 in
theorem ok102 : TIok Try.prog 102 ti102 := Zd (z := (.nilFunc)) (by kernel_rfl) (by kernel_rfl) rfl (by decide) rfl rfl (by intro fs h; cases h)
abbrev ti103 : TI := { desc := .func #[76, 76] #[4] false, size := 1, bytes := 8, zero := [.nilFunc], agg := false }
set_option maxRecDepth 100000 in
theorem ok103 : TIok Try.prog 103 ti103 := Zd (z := (.nilFunc)) (by kernel_rfl) (by kernel_rfl) rfl (by decide) rfl rfl (by intro fs h; cases h)
abbrev ti108 : TI := { desc := .func #[44] #[44] false, size := 1, bytes := 8, zero := [.nilFunc], agg := false }
set_option maxRecDepth 100000 in
theorem ok108 : TIok Try.prog 108 ti108 := Zd (z := (.nilFunc)) (by kernel_rfl) (by kernel_rfl) rfl (by decide) rfl rfl (by intro fs h; cases h)
abbrev ti110 : TI := { desc := .func #[76] #[76] false, size := 1, bytes := 8, zero := [.nilFunc], agg := false }
set_option maxRecDepth 100000 in
theorem ok110 : TIok Try.prog 110 ti110 := Zd (z := (.nilFunc)) (by kernel_rfl) (by kernel_rfl) rfl (by decide) rfl rfl (by intro fs h; cases h)
abbrev ti115 : TI := { desc := .func #[3] #[3] false, size := 1, bytes := 8, zero := [.nilFunc], agg := false }
set_option maxRecDepth 100000 in
theorem ok115 : TIok Try.prog 115 ti115 := Zd (z := (.nilFunc)) (by kernel_rfl) (by kernel_rfl) rfl (by decide) rfl rfl (by intro fs h; cases h)
abbrev ti117 : TI := { desc := .func #[3] #[4] false, size := 1, bytes := 8, zero := [.nilFunc], agg := false }
set_option maxRecDepth 100000 in
theorem ok117 : TIok Try.prog 117 ti117 := Zd (z := (.nilFunc)) (by kernel_rfl) (by kernel_rfl) rfl (by decide) rfl rfl (by intro fs h; cases h)
abbrev ti123 : TI := { desc := .int .u64, size := 1, bytes := 8, zero := [.int .u64 0], agg := false }
set_option maxRecDepth 100000 in
theorem ok123 : TIok Try.prog 123 ti123 := Zd (z := (.int .u64 0)) (by kernel_rfl) (by kernel_rfl) rfl (by decide) rfl rfl (by intro fs h; cases h)
abbrev ti125 : TI := { desc := .slice 58, size := 1, bytes := 24, zero := [.slice none 0 0], agg := false }
set_option maxRecDepth 100000 in
theorem ok125 : TIok Try.prog 125 ti125 := Zd (z := (.slice none 0 0)) (by kernel_rfl) (by kernel_rfl) rfl (by decide) rfl rfl (by intro fs h; cases h)
abbrev ti128 : TI := { desc := .func #[32] #[32] false, size := 1, bytes := 8, zero := [.nilFunc], agg := false }
set_option maxRecDepth 100000 in
theorem ok128 : TIok Try.prog 128 ti128 := Zd (z := (.nilFunc)) (by kernel_rfl) (by kernel_rfl) rfl (by decide) rfl rfl (by intro fs h; cases h)
abbrev ti130 : TI := { desc := .func #[76] #[3] false, size := 1, bytes := 8, zero := [.nilFunc], agg := false }
set_option maxRecDepth 100000 in
theorem ok130 : TIok Try.prog 130 ti130 := Zd (z := (.nilFunc)) (by kernel_rfl) (by kernel_rfl) rfl (by decide) rfl rfl (by intro fs h; cases h)
abbrev ti131 : TI := { desc := .func #[76] #[44] false, size := 1, bytes := 8, zero := [.nilFunc], agg := false }
set_option maxRecDepth 100000 in
theorem ok131 : TIok Try.prog 131 ti131 := Zd (z := (.nilFunc)) (by kernel_rfl) (by kernel_rfl) rfl (by decide) rfl rfl (by intro fs h; cases h)
abbrev ti135 : TI := { desc := .func #[44] #[4] false, size := 1, bytes := 8, zero := [.nilFunc], agg := false }
set_option maxRecDepth 100000 in
theorem ok135 : TIok Try.prog 135 ti135 := Zd (z := (.nilFunc)) (by kernel_rfl) (by kernel_rfl) rfl (by decide) rfl rfl (by intro fs h; cases h)
abbrev ti137 : TI := { desc := .func #[157] #[] false, size := 1, bytes := 8, zero := [.nilFunc], agg := false }
set_option maxRecDepth 100000 in
theorem ok137 : TIok Try.prog 137 ti137 := Zd (z := (.nilFunc)) (by kernel_rfl) (by kernel_rfl) rfl (by decide) rfl rfl (by intro fs h; cases h)
abbrev ti138 : TI := { desc := .func #[157] #[] false, size := 1, bytes := 8, zero := [.nilFunc], agg := false }
set_option maxRecDepth 100000 in
theorem ok138 : TIok Try.prog 138 ti138 := Zd (z := (.nilFunc)) (by kernel_rfl) (by kernel_rfl) rfl (by decide) rfl rfl (by intro fs h; cases h)
abbrev ti144 : TI := { desc := .func #[135] #[] false, size := 1, bytes := 8, zero := [.nilFunc], agg := false }
set_option maxRecDepth 100000 in
theorem ok144 : TIok Try.prog 144 ti144 := Zd (z := (.nilFunc)) (by kernel_rfl) (by kernel_rfl) rfl (by decide) rfl rfl (by intro fs h; cases h)
abbrev ti145 : TI := { desc := .func #[135] #[] false, size := 1, bytes := 8, zero := [.nilFunc], agg := false }
set_option maxRecDepth 100000 in
theorem ok145 : TIok Try.prog 145 ti145 := Zd (z := (.nilFunc)) (by kernel_rfl) (by kernel_rfl) rfl (by decide) rfl rfl (by intro fs h; cases h)
abbrev ti147 : TI := { desc := .array 128 5, size := 128, bytes := 128, zero := List.replicate 128 (.int .u8 0), agg := true }
set_option maxRecDepth 100000 in
theorem ok147 : TIok Try.prog 147 ti147 := Zd (z := (.agg (List.replicate 128 (.int .u8 0) : List Value).toArray)) (by kernel_rfl) (by kernel_rfl) rfl (by decide) rfl rfl (by intro fs h; cases h)
abbrev ti153 : TI := { desc := .int .u64, size := 1, bytes := 8, zero := [.int .u64 0], agg := false }
set_option maxRecDepth 100000 in
theorem ok153 : TIok Try.prog 153 ti153 := Zd (z := (.int .u64 0)) (by kernel_rfl) (by kernel_rfl) rfl (by decide) rfl rfl (by intro fs h; cases h)
abbrev ti154 : TI := { desc := .slice 40, size := 1, bytes := 24, zero := [.slice none 0 0], agg := false }
set_option maxRecDepth 100000 in
theorem ok154 : TIok Try.prog 154 ti154 := Zd (z := (.slice none 0 0)) (by kernel_rfl) (by kernel_rfl) rfl (by decide) rfl rfl (by intro fs h; cases h)
abbrev ti157 : TI := { desc := .func #[3, 44] #[4] false, size := 1, bytes := 8, zero := [.nilFunc], agg := false }
set_option maxRecDepth 100000 in
theorem ok157 : TIok Try.prog 157 ti157 := Zd (z := (.nilFunc)) (by kernel_rfl) (by kernel_rfl) rfl (by decide) rfl rfl (by intro fs h; cases h)
abbrev ti158 : TI := { desc := .func #[] #[5] false, size := 1, bytes := 8, zero := [.nilFunc], agg := false }
set_option maxRecDepth 100000 in
theorem ok158 : TIok Try.prog 158 ti158 := Zd (z := (.nilFunc)) (by kernel_rfl) (by kernel_rfl) rfl (by decide) rfl rfl (by intro fs h; cases h)
abbrev ti162 : TI := { desc := .array 256 58, size := 256, bytes := 1024, zero := List.replicate 256 (.int .u32 0), agg := true }
set_option maxRecDepth 100000 in
theorem ok162 : TIok Try.prog 162 ti162 := Zd (z := (.agg (List.replicate 256 (.int .u32 0) : List Value).toArray)) (by kernel_rfl) (by kernel_rfl) rfl (by decide) rfl rfl (by intro fs h; cases h)
abbrev ti165 : TI := { desc := .func #[58] #[58] false, size := 1, bytes := 8, zero := [.nilFunc], agg := false }
set_option maxRecDepth 100000 in
theorem ok165 : TIok Try.prog 165 ti165 := Zd (z := (.nilFunc)) (by kernel_rfl) (by kernel_rfl) rfl (by decide) rfl rfl (by intro fs h; cases h)
def tab : TypeId → Option TI := fun t =>
 match t with
 | 1 => some ti1
 | 2 => some ti2
 | 3 => some ti3
 | 4 => some ti4
 | 5 => some ti5
 | 9 => some ti9
 | 20 => some ti20
 | 22 => some ti22
 | 23 => some ti23
 | 24 => some ti24
 | 25 => some ti25
 | 26 => some ti26
 | 27 => some ti27
 | 31 => some ti31
 | 32 => some ti32
 | 33 => some ti33
 | 34 => some ti34
 | 35 => some ti35
 | 36 => some ti36
 | 37 => some ti37
 | 38 => some ti38
 | 39 => some ti39
 | 40 => some ti40
 | 41 => some ti41
 | 42 => some ti42
 | 43 => some ti43
 | 44 => some ti44
 | 49 => some ti49
 | 58 => some ti58
 | 59 => some ti59
 | 60 => some ti60
 | 64 => some ti64
 | 75 => some ti75
 | 76 => some ti76
 | 80 => some ti80
 | 81 => some ti81
 | 83 => some ti83
 | 84 => some ti84
 | 91 => some ti91
 | 95 => some ti95
 | 96 => some ti96
 | 97 => some ti97
 | 102 => some ti102
 | 103 => some ti103
 | 108 => some ti108
 | 110 => some ti110
 | 115 => some ti115
 | 117 => some ti117
 | 123 => some ti123
 | 125 => some ti125
 | 128 => some ti128
 | 130 => some ti130
 | 131 => some ti131
 | 135 => some ti135
 | 137 => some ti137
 | 138 => some ti138
 | 144 => some ti144
 | 145 => some ti145
 | 147 => some ti147
 | 153 => some ti153
 | 154 => some ti154
 | 157 => some ti157
 | 158 => some ti158
 | 162 => some ti162
 | 165 => some ti165
 | _ => none
theorem Xj : Qw Try.prog tab := by
 intro t ti h
 unfold tab at h
 split at h
 ·cases h; exact ok1
 ·cases h; exact ok2
 ·cases h; exact ok3
 ·cases h; exact ok4
 ·cases h; exact ok5
 ·cases h; exact ok9
 ·cases h; exact ok20
 ·cases h; exact ok22
 ·cases h; exact ok23
 ·cases h; exact ok24
 ·cases h; exact ok25
 ·cases h; exact ok26
 ·cases h; exact ok27
 ·cases h; exact ok31
 ·cases h; exact ok32
 ·cases h; exact ok33
 ·cases h; exact ok34
 ·cases h; exact ok35
 ·cases h; exact ok36
 ·cases h; exact ok37
 ·cases h; exact ok38
 ·cases h; exact ok39
 ·cases h; exact ok40
 ·cases h; exact ok41
 ·cases h; exact ok42
 ·cases h; exact ok43
 ·cases h; exact ok44
 ·cases h; exact ok49
 ·cases h; exact ok58
 ·cases h; exact ok59
 ·cases h; exact ok60
 ·cases h; exact ok64
 ·cases h; exact ok75
 ·cases h; exact ok76
 ·cases h; exact ok80
 ·cases h; exact ok81
 ·cases h; exact ok83
 ·cases h; exact ok84
 ·cases h; exact ok91
 ·cases h; exact ok95
 ·cases h; exact ok96
 ·cases h; exact ok97
 ·cases h; exact ok102
 ·cases h; exact ok103
 ·cases h; exact ok108
 ·cases h; exact ok110
 ·cases h; exact ok115
 ·cases h; exact ok117
 ·cases h; exact ok123
 ·cases h; exact ok125
 ·cases h; exact ok128
 ·cases h; exact ok130
 ·cases h; exact ok131
 ·cases h; exact ok135
 ·cases h; exact ok137
 ·cases h; exact ok138
 ·cases h; exact ok144
 ·cases h; exact ok145
 ·cases h; exact ok147
 ·cases h; exact ok153
 ·cases h; exact ok154
 ·cases h; exact ok157
 ·cases h; exact ok158
 ·cases h; exact ok162
 ·cases h; exact ok165
 ·cases h
theorem follows : Try.prog.follows .mixedOrders = true := by kernel_rfl
theorem hb0 (f : Nat) (h2 : 2 < f) (hf : f < 117) : Xd Try.prog f = True := Fs (n := 117) (by kernel_rfl) f h2 hf
theorem hbT : Xd Try.prog 3 ∧ Xd Try.prog 4 ∧ Xd Try.prog 5 ∧ Xd Try.prog 6 ∧ Xd Try.prog 7 ∧ Xd Try.prog 8 ∧ Xd Try.prog 9 ∧ Xd Try.prog 10 ∧ Xd Try.prog 11 ∧ Xd Try.prog 12 ∧ Xd Try.prog 13 ∧ Xd Try.prog 14 ∧ Xd Try.prog 15 ∧ Xd Try.prog 16 ∧ Xd Try.prog 17 ∧ Xd Try.prog 18 ∧ Xd Try.prog 19 ∧ Xd Try.prog 20 ∧ Xd Try.prog 21 ∧ Xd Try.prog 22 ∧ Xd Try.prog 23 ∧ Xd Try.prog 24 ∧ Xd Try.prog 25 ∧ Xd Try.prog 26 ∧ Xd Try.prog 27 ∧ Xd Try.prog 28 ∧ Xd Try.prog 29 ∧ Xd Try.prog 30 ∧ Xd Try.prog 31 ∧ Xd Try.prog 32 ∧ Xd Try.prog 33 ∧ Xd Try.prog 34 ∧ Xd Try.prog 35 ∧ Xd Try.prog 36 ∧ Xd Try.prog 37 ∧ Xd Try.prog 38 ∧ Xd Try.prog 39 ∧ Xd Try.prog 40 ∧ Xd Try.prog 41 ∧ Xd Try.prog 42 ∧ Xd Try.prog 43 ∧ Xd Try.prog 44 ∧ Xd Try.prog 45 ∧ Xd Try.prog 46 ∧ Xd Try.prog 47 ∧ Xd Try.prog 48 ∧ Xd Try.prog 49 ∧ Xd Try.prog 50 ∧ Xd Try.prog 51 ∧ Xd Try.prog 52 ∧ Xd Try.prog 53 ∧ Xd Try.prog 54 ∧ Xd Try.prog 55 ∧ Xd Try.prog 56 ∧ Xd Try.prog 57 ∧ Xd Try.prog 58 ∧ Xd Try.prog 59 ∧ Xd Try.prog 60 ∧ Xd Try.prog 61 ∧ Xd Try.prog 62 ∧ Xd Try.prog 63 ∧ Xd Try.prog 64 ∧ Xd Try.prog 65 ∧ Xd Try.prog 66 ∧ Xd Try.prog 67 ∧ Xd Try.prog 68 ∧ Xd Try.prog 69 ∧ Xd Try.prog 70 ∧ Xd Try.prog 71 ∧ Xd Try.prog 72 ∧ Xd Try.prog 73 ∧ Xd Try.prog 74 ∧ Xd Try.prog 75 ∧ Xd Try.prog 76 ∧ Xd Try.prog 77 ∧ Xd Try.prog 78 ∧ Xd Try.prog 79 ∧ Xd Try.prog 80 ∧ Xd Try.prog 81 ∧ Xd Try.prog 82 ∧ Xd Try.prog 83 ∧ Xd Try.prog 84 ∧ Xd Try.prog 85 ∧ Xd Try.prog 86 ∧ Xd Try.prog 87 ∧ Xd Try.prog 88 ∧ Xd Try.prog 89 ∧ Xd Try.prog 90 ∧ Xd Try.prog 91 ∧ Xd Try.prog 92 ∧ Xd Try.prog 93 ∧ Xd Try.prog 94 ∧ Xd Try.prog 95 ∧ Xd Try.prog 96 ∧ Xd Try.prog 97 ∧ Xd Try.prog 98 ∧ Xd Try.prog 99 ∧ Xd Try.prog 100 ∧ Xd Try.prog 101 ∧ Xd Try.prog 102 ∧ Xd Try.prog 103 ∧ Xd Try.prog 104 ∧ Xd Try.prog 105 ∧ Xd Try.prog 106 ∧ Xd Try.prog 107 ∧ Xd Try.prog 108 ∧ Xd Try.prog 109 ∧ Xd Try.prog 110 ∧ Xd Try.prog 111 ∧ Xd Try.prog 112 ∧ Xd Try.prog 113 ∧ Xd Try.prog 114 ∧ Xd Try.prog 115 ∧ Xd Try.prog 116 :=
 ⟨of_eq_true (hb0 3 (by decide) (by decide)), of_eq_true (hb0 4 (by decide) (by decide)), of_eq_true (hb0 5 (by decide) (by decide)), of_eq_true (hb0 6 (by decide) (by decide)), of_eq_true (hb0 7 (by decide) (by decide)), of_eq_true (hb0 8 (by decide) (by decide)), of_eq_true (hb0 9 (by decide) (by decide)), of_eq_true (hb0 10 (by decide) (by decide)), of_eq_true (hb0 11 (by decide) (by decide)), of_eq_true (hb0 12 (by decide) (by decide)), of_eq_true (hb0 13 (by decide) (by decide)), of_eq_true (hb0 14 (by decide) (by decide)), of_eq_true (hb0 15 (by decide) (by decide)), of_eq_true (hb0 16 (by decide) (by decide)), of_eq_true (hb0 17 (by decide) (by decide)), of_eq_true (hb0 18 (by decide) (by decide)), of_eq_true (hb0 19 (by decide) (by decide)), of_eq_true (hb0 20 (by decide) (by decide)), of_eq_true (hb0 21 (by decide) (by decide)), of_eq_true (hb0 22 (by decide) (by decide)), of_eq_true (hb0 23 (by decide) (by decide)), of_eq_true (hb0 24 (by decide) (by decide)), of_eq_true (hb0 25 (by decide) (by decide)), of_eq_true (hb0 26 (by decide) (by decide)), of_eq_true (hb0 27 (by decide) (by decide)), of_eq_true (hb0 28 (by decide) (by decide)), of_eq_true (hb0 29 (by decide) (by decide)), of_eq_true (hb0 30 (by decide) (by decide)), of_eq_true (hb0 31 (by decide) (by decide)), of_eq_true (hb0 32 (by decide) (by decide)), of_eq_true (hb0 33 (by decide) (by decide)), of_eq_true (hb0 34 (by decide) (by decide)), of_eq_true (hb0 35 (by decide) (by decide)), of_eq_true (hb0 36 (by decide) (by decide)), of_eq_true (hb0 37 (by decide) (by decide)), of_eq_true (hb0 38 (by decide) (by decide)), of_eq_true (hb0 39 (by decide) (by decide)), of_eq_true (hb0 40 (by decide) (by decide)), of_eq_true (hb0 41 (by decide) (by decide)), of_eq_true (hb0 42 (by decide) (by decide)), of_eq_true (hb0 43 (by decide) (by decide)), of_eq_true (hb0 44 (by decide) (by decide)), of_eq_true (hb0 45 (by decide) (by decide)), of_eq_true (hb0 46 (by decide) (by decide)), of_eq_true (hb0 47 (by decide) (by decide)), of_eq_true (hb0 48 (by decide) (by decide)), of_eq_true (hb0 49 (by decide) (by decide)), of_eq_true (hb0 50 (by decide) (by decide)), of_eq_true (hb0 51 (by decide) (by decide)), of_eq_true (hb0 52 (by decide) (by decide)), of_eq_true (hb0 53 (by decide) (by decide)), of_eq_true (hb0 54 (by decide) (by decide)), of_eq_true (hb0 55 (by decide) (by decide)), of_eq_true (hb0 56 (by decide) (by decide)), of_eq_true (hb0 57 (by decide) (by decide)), of_eq_true (hb0 58 (by decide) (by decide)), of_eq_true (hb0 59 (by decide) (by decide)), of_eq_true (hb0 60 (by decide) (by decide)), of_eq_true (hb0 61 (by decide) (by decide)), of_eq_true (hb0 62 (by decide) (by decide)), of_eq_true (hb0 63 (by decide) (by decide)), of_eq_true (hb0 64 (by decide) (by decide)), of_eq_true (hb0 65 (by decide) (by decide)), of_eq_true (hb0 66 (by decide) (by decide)), of_eq_true (hb0 67 (by decide) (by decide)), of_eq_true (hb0 68 (by decide) (by decide)), of_eq_true (hb0 69 (by decide) (by decide)), of_eq_true (hb0 70 (by decide) (by decide)), of_eq_true (hb0 71 (by decide) (by decide)), of_eq_true (hb0 72 (by decide) (by decide)), of_eq_true (hb0 73 (by decide) (by decide)), of_eq_true (hb0 74 (by decide) (by decide)), of_eq_true (hb0 75 (by decide) (by decide)), of_eq_true (hb0 76 (by decide) (by decide)), of_eq_true (hb0 77 (by decide) (by decide)), of_eq_true (hb0 78 (by decide) (by decide)), of_eq_true (hb0 79 (by decide) (by decide)), of_eq_true (hb0 80 (by decide) (by decide)), of_eq_true (hb0 81 (by decide) (by decide)), of_eq_true (hb0 82 (by decide) (by decide)), of_eq_true (hb0 83 (by decide) (by decide)), of_eq_true (hb0 84 (by decide) (by decide)), of_eq_true (hb0 85 (by decide) (by decide)), of_eq_true (hb0 86 (by decide) (by decide)), of_eq_true (hb0 87 (by decide) (by decide)), of_eq_true (hb0 88 (by decide) (by decide)), of_eq_true (hb0 89 (by decide) (by decide)), of_eq_true (hb0 90 (by decide) (by decide)), of_eq_true (hb0 91 (by decide) (by decide)), of_eq_true (hb0 92 (by decide) (by decide)), of_eq_true (hb0 93 (by decide) (by decide)), of_eq_true (hb0 94 (by decide) (by decide)), of_eq_true (hb0 95 (by decide) (by decide)), of_eq_true (hb0 96 (by decide) (by decide)), of_eq_true (hb0 97 (by decide) (by decide)), of_eq_true (hb0 98 (by decide) (by decide)), of_eq_true (hb0 99 (by decide) (by decide)), of_eq_true (hb0 100 (by decide) (by decide)), of_eq_true (hb0 101 (by decide) (by decide)), of_eq_true (hb0 102 (by decide) (by decide)), of_eq_true (hb0 103 (by decide) (by decide)), of_eq_true (hb0 104 (by decide) (by decide)), of_eq_true (hb0 105 (by decide) (by decide)), of_eq_true (hb0 106 (by decide) (by decide)), of_eq_true (hb0 107 (by decide) (by decide)), of_eq_true (hb0 108 (by decide) (by decide)), of_eq_true (hb0 109 (by decide) (by decide)), of_eq_true (hb0 110 (by decide) (by decide)), of_eq_true (hb0 111 (by decide) (by decide)), of_eq_true (hb0 112 (by decide) (by decide)), of_eq_true (hb0 113 (by decide) (by decide)), of_eq_true (hb0 114 (by decide) (by decide)), of_eq_true (hb0 115 (by decide) (by decide)), of_eq_true (hb0 116 (by decide) (by decide))⟩
end Go.Proofs.Ytjgbbjooeibppaa.Tab
